/- The texts Cg, Da, Db, Ch, Ck, Cm, Cl, Ea, Eb, Ec, Ed, Ee, Ef, Eg, Eh, Ei, Fa. -/
import Derived.Laws.Externs
import Derived.Shelf.Abstract
import Derived.Test.YtfpagioknjjacaaGreatDoorQMBareissKnown2
namespace Go.Proofs.YtfpagioknjjacaaGreatDoor
open Go.Sx
set_option linter.unusedSimpArgs false
set_option linter.unusedVariables false
set_option maxRecDepth 100000
theorem l0:Tryz.prog.eqGuardType Tryz.prog.depth 46=false:=aB
theorem DQ:Tryz.prog.eqGuardType Tryz.prog.depth 48=false:=aB
theorem nX (a b:Nat):pn vP dP 10 46 (bB a) (bB b)=some (decide (a=b)):=by
 rw[←iE,←Bool.and_true (low a==low b&&_),Bool.and_assoc]
 rfl
theorem GR (a b:Nat):pn vP dP 10 48 (bB a) (bB b)=some (decide (a=b)):=by
 have:pn vP dP 10 48 (bB a) (bB b)=some (((low a==low b)&&(((nu a).toList==(nu b).toList)&&true))&&true):=rfl
 rw[this,Bool.and_true,Bool.and_true,iE]
theorem nY (n:Nat) (hn:n<18446744073709551616):ab Tryz.prog 176 [.val (.int .u64 n)] [] (.nat n) [] []:=by
 refine bP [] Tryz.func176 ?_
 intro W0 w0 ρ0 hE
 conv=>whnf
 exact eA (l:=bB n) (by rw[ke hn];rfl) rfl (fun _ h=>by cases h)
theorem uQ (n:Nat):ab Tryz.prog 279 [.nat n] [] (.val (.bool (decide (n=0)))) [] []:=by
 refine bP [] Tryz.func279 ?_
 intro W0 w0 ρ0 hE
 conv=>whnf
 refine⟨_,eJ aL df rfl (aj rfl) (aj rfl) rfl rfl rfl rfl (nX n 0) l0, ?_⟩
 conv=>whnf
 exact aq.refl _
theorem Fg (n:Nat):ab Tryz.prog 276 [.nat n] [] (.val (.bool (decide (n=0)))) [] []:=by
 refine bP [] Tryz.func276 ?_
 intro W0 w0 ρ0 hE
 conv=>whnf
 refine⟨_,eJ aL df rfl (aj rfl) (aj rfl) rfl rfl rfl rfl (GR n 0) DQ, ?_⟩
 conv=>whnf
 exact aq.refl _
theorem ug (z:Int):ab Tryz.prog 179 [.int z] [] (.nat z.natAbs) [] []:=by
 refine bP [] Tryz.func179 ?_
 intro W0 w0 ρ0 hE
 conv=>whnf
 exact eA (l:=bB z.natAbs) rfl rfl (fun _ h=>by cases h)
theorem dw (n:Nat):((nu n).toList==(ByteArray.mk #[]).toList)=decide (n<18446744073709551616):=by
 rw[Bool.eq_iff_iff,show(ByteArray.mk #[]).toList=[]from by rw[ByteArray.toList_eq]]
 simp[lV]
def signed (neg:Bool) (n:Nat):Int:=if neg then -(n:Int)else n
theorem eT (neg:Bool) (n:Nat):ab Tryz.prog 177 [.val (.bool neg),.nat n] [] (.int (signed neg n)) [] []:=by
 refine bP [] Tryz.func177 ?_
 intro W0 w0 ρ0 hE
 cases neg
 ·conv=>whnf
  refine⟨(fun h=>by cases h),fun _=> ?_⟩
  conv=>whnf
  refine⟨(fun h=>by cases h),fun _=> ?_⟩
  conv=>whnf
  refine⟨(fun h=>by cases h),fun _=> ?_⟩
  conv=>whnf
  refine⟨.val (.bool false),[],[],[],lg rfl (aj rfl) (fun hb=>by cases hb) (fun _=>aj rfl) rfl (c1:=.any),aJ,ar,an, ?_⟩
  conv=>whnf
  refine⟨aB, ?_⟩
  conv=>whnf
  refine eA (l:=cC (signed false n)) ?_ rfl (fun _ h=>by cases h)
  have e1:(signed false n).natAbs=n:=by simp[signed]
  have e2:decide (signed false n<0)=false:=by simp[signed]
  rw[cC,e1,e2]
  rfl
 ·conv=>whnf
  refine⟨fun _=> ?_,fun h=>by cases h⟩
  conv=>whnf
  refine⟨fun _=> ?_,fun h=>by cases h⟩
  conv=>whnf
  refine⟨[],_,[],[],Fg n,aJ,ar,an, ?_⟩
  conv=>whnf
  refine⟨fun _=> ?_,fun h=>by cases h⟩
  conv=>whnf
  refine⟨.val (.bool (!decide (n=0))),[],[],[],lg rfl (aj rfl) (fun _=>aj rfl) (fun hb=>by cases hb) rfl (c2:=.any),aJ,ar,an, ?_⟩
  conv=>whnf
  refine⟨aB, ?_⟩
  conv=>whnf
  refine eA (l:=cC (signed true n)) ?_ rfl (fun _ h=>by cases h)
  have e1:(signed true n).natAbs=n:=by simp[signed]
  have e2:decide (signed true n<0)= !decide (n=0):=by rw[Bool.eq_iff_iff];simp[signed];omega
  rw[cC,e1,e2]
  rfl
theorem jt (z:Int):ab Tryz.prog 174 [.int z] [] (.val (.int .i64 z.sign)) [] []:=by
 refine bP [] Tryz.func174 ?_
 intro W0 w0 ρ0 hE
 conv=>whnf
 refine⟨[],_,[],[],Fg z.natAbs,aJ,ar,an, ?_⟩
 conv=>whnf
 refine⟨fun h=> ?_,fun h=> ?_⟩
 ·have hz:z=0:=by have:=of_decide_eq_true h;omega
  conv=>whnf
  subst hz
  exact aq.refl _
 ·have hz:z≠0:=by have:=of_decide_eq_false h;omega
  conv=>whnf
  refine⟨fun h=> ?_,fun h=> ?_⟩
  ·have hz:z.sign= -1:=Int.sign_eq_neg_one_of_neg (of_decide_eq_true h)
   conv=>whnf
   rw[hz]
   exact aq.refl _
  ·have hz:z.sign=1:=Int.sign_eq_one_of_pos (by have:=of_decide_eq_false h;omega)
   conv=>whnf
   rw[hz]
   exact aq.refl _
theorem Fh (z:Int):ab Tryz.prog 236 [.int z] [] (.int (-z)) [] []:=by
 refine bP [] Tryz.func236 ?_
 intro W0 w0 ρ0 hE
 conv=>whnf
 refine⟨[],_,[],[],eT (!decide (z<0)) z.natAbs,aJ,ar,an, ?_⟩
 have e:signed (!decide (z<0)) z.natAbs= -z:=by
  unfold signed
  by_cases h:z<0<;>simp[h]<;>omega
 rw[e]
 conv=>whnf
 exact aq.refl _
theorem l7 (z:Int) (h0: -9223372036854775808≤z) (h1:z<9223372036854775808):ab Tryz.prog 105 [.val (.int .i64 z)] [] (.int z) [] []:=by
 refine bP [] Tryz.func105 ?_
 intro W0 w0 ρ0 hE
 conv=>whnf
 refine⟨fun h=> ?_,fun h=> ?_⟩
 ·have hz:=of_decide_eq_true h
  conv=>whnf
  have e1:IntKind.u64.wrap (0 - IntKind.u64.wrap z)=((z.natAbs:Nat):Int):=by rw[oC,oC];omega
  rw[e1]
  refine⟨[],_,[],[],nY z.natAbs aa,aJ,ar,an, ?_⟩
  conv=>whnf
  refine⟨[],_,[],[],eT true z.natAbs,aJ,ar,an, ?_⟩
  have e:signed true z.natAbs=z:=by simp[signed];omega
  rw[e]
  conv=>whnf
  exact aq.refl _
 ·have hz:=of_decide_eq_false h
  conv=>whnf
  have e1:IntKind.u64.wrap z=((z.natAbs:Nat):Int):=by rw[oC];omega
  rw[e1]
  refine⟨[],_,[],[],nY z.natAbs aa,aJ,ar,an, ?_⟩
  conv=>whnf
  refine⟨[],_,[],[],eT false z.natAbs,aJ,ar,an, ?_⟩
  have e:signed false z.natAbs=z:=by simp[signed];omega
  rw[e]
  conv=>whnf
  exact aq.refl _
set_option maxHeartbeats 2000000
structure il (M:Nat):Prop where
 nu:64≤M
 cmp:∀a b,sz a≤M→sz b≤M→ab Tryz.prog 182 [.nat a,.nat b] [] (.val (.int .i64 ((a:Int) - b).sign)) [] []
 add:∀a b,sz (a+b)≤M→ab Tryz.prog 297 [.nat a,.nat b] [] (.nat (a+b)) [] []
 sub:∀a b,sz a≤M→b≤a→ab Tryz.prog 296 [.nat a,.nat b] [] (.ct [.nat (a - b),.val (.bool true)]) [] []
 X9:∀a b,sz b≤M→a<b→ab Tryz.prog 296 [.nat a,.nat b] [] (.ct [.nat 0,.val (.bool false)]) [] []
 mul:∀a b,sz a+sz b≤M→ab Tryz.prog 209 [.nat a,.nat b] [] (.nat (a*b)) [] []
 div:∀a b,sz a≤M→sz b≤M→b≠0→ab Tryz.prog 280 [.nat a,.nat b] [] (.ct [.nat (a/b),.nat (a % b),.val (.bool true)]) [] []
 Ya:∀a,ab Tryz.prog 280 [.nat a,.nat 0] [] (.ct [.nat 0,.nat 0,.val (.bool false)]) [] []
 gcd:∀a b,sz a≤M→sz b≤M→ab Tryz.prog 178 [.nat a,.nat b] [] (.nat (Nat.gcd a b)) [] []
variable {M:Nat}
theorem iF (s:Bool) (n:Nat):(signed s n).natAbs=n:=by cases s<;>simp[signed]
theorem Jj (ok:il M) (a b:Int) (ha:sz a.natAbs<M) (hb:sz b.natAbs<M):
  ab Tryz.prog 283 [.int a,.int b] [] (.int (a+b)) [] []:=by
 have hs:sz (a.natAbs+b.natAbs)≤M:=by
  have:=v7 (k:=M - 1) (show sz a.natAbs≤M - 1 by omega) (show sz b.natAbs≤M - 1 by omega)
  omega
 refine bP [] Tryz.func283 ?_
 intro W0 w0 ρ0 hE
 conv=>whnf
 refine⟨fun h1=> ?_,fun h1=> ?_⟩
 ·have h1:decide (a<0)=decide (b<0):=by simpa using h1
  conv=>whnf
  refine⟨[],_,[],[],(ok.add _ _ hs),aJ,ar,an, ?_⟩;conv=>whnf
  have e:signed (decide (a<0)) (a.natAbs+b.natAbs)=a+b:=by
   have:=decide_eq_decide.1 h1
   unfold signed
   by_cases h:a<0<;>simp[h]<;>omega
  have:=eT (decide (a<0)) (a.natAbs+b.natAbs)
  rw[e]at this
  refine⟨[],_,[],[],(this),aJ,ar,an, ?_⟩;conv=>whnf
  (repeat(first|(refine aw aB ?_;conv=>whnf)));exact aq.refl _
 ·have h1:¬(a<0↔b<0):=by
   intro h2
   simp[h2]at h1
  conv=>whnf
  by_cases B8:b.natAbs≤a.natAbs
  ·refine⟨[],_,[],[],(ok.sub a.natAbs b.natAbs aa B8),aJ,ar,an, ?_⟩;conv=>whnf
   (repeat(first|(refine ag rfl rfl ?_;conv=>whnf)))
   have e:signed (decide (a<0)) (a.natAbs - b.natAbs)=a+b:=by
    unfold signed
    by_cases h:a<0<;>simp[h]<;>omega
   have:=eT (decide (a<0)) (a.natAbs - b.natAbs)
   rw[e]at this
   refine⟨[],_,[],[],(this),aJ,ar,an, ?_⟩;conv=>whnf
   skip;exact aq.refl _
  ·refine⟨[],_,[],[],(ok.X9 a.natAbs b.natAbs aa aa),aJ,ar,an, ?_⟩;conv=>whnf
   (repeat(first|(refine af rfl rfl ?_;conv=>whnf)))
   refine⟨[],_,[],[],(ok.sub b.natAbs a.natAbs aa aa),aJ,ar,an, ?_⟩;conv=>whnf
   have e:signed (decide (b<0)) (b.natAbs - a.natAbs)=a+b:=by
    unfold signed
    by_cases h:b<0<;>simp[h]<;>omega
   have:=eT (decide (b<0)) (b.natAbs - a.natAbs)
   rw[e]at this
   refine⟨[],_,[],[],(this),aJ,ar,an, ?_⟩;conv=>whnf
   skip;exact aq.refl _
theorem DR (f:FuncId) (a b c:Int) (hc:ab Tryz.prog f [.int a,.int b] [] (.int c) [] []):
  ab Tryz.prog 270 [.clo f [] [],.int a,.int b] [] (.int c) [] []:=by
 refine bP [] Tryz.func270 ?_
 intro W0 w0 ρ0 hE
 conv=>whnf
 refine⟨[],_,[],[],(hc),aJ,ar,an, ?_⟩;conv=>whnf
 skip;exact aq.refl _
theorem wq (ok:il M) (a b:Int) (ha:sz a.natAbs<M) (hb:sz b.natAbs<M):
  ab Tryz.prog 181 [.int a,.int b] [] (.int (a+b)) [] []:=by
 refine bP [] Tryz.func181 ?_
 intro W0 w0 ρ0 hE
 conv=>whnf
 refine⟨[],_,[],[],(DR _ a b _ (Jj ok a b ha hb)),aJ,ar,an, ?_⟩;conv=>whnf
 skip;exact aq.refl _
theorem Jk (ok:il M) (a b:Int) (ha:sz a.natAbs<M) (hb:sz b.natAbs<M):
  ab Tryz.prog 272 [.int a,.int b] [] (.int (a - b)) [] []:=by
 rw[Int.sub_eq_add_neg]
 refine bP [] Tryz.func272 ?_
 intro W0 w0 ρ0 hE
 conv=>whnf
 refine⟨[],_,[],[],(Fh b),aJ,ar,an, ?_⟩;conv=>whnf
 refine⟨[],_,[],[],(DR _ a (-b) _ (Jj ok a (-b) ha (by rwa [Int.natAbs_neg]))),aJ,ar,an, ?_⟩;conv=>whnf
 (repeat(first|(refine aw aB ?_;conv=>whnf)));exact aq.refl _
theorem wv (a b:Int):signed (decide (a<0) != decide (b<0)) (a.natAbs*b.natAbs)=a*b:=by
 unfold signed
 rw[Int.natCast_mul]
 by_cases h1:a<0<;>by_cases h2:b<0
 ·rw[show(a.natAbs:Int)= -a from aa,show(b.natAbs:Int)= -b from by omega];simp[h1,h2,Int.neg_mul_neg]
 ·rw[show(a.natAbs:Int)= -a from aa,show(b.natAbs:Int)=b from by omega];simp[h1,h2,Int.neg_mul]
 ·rw[show(a.natAbs:Int)=a from aa,show(b.natAbs:Int)= -b from by omega];simp[h1,h2,Int.mul_neg]
 ·rw[show(a.natAbs:Int)=a from aa,show(b.natAbs:Int)=b from by omega];simp[h1,h2]
theorem No (ok:il M) (a b:Int) (h:sz a.natAbs+sz b.natAbs≤M):
  ab Tryz.prog 271 [.int a,.int b] [] (.int (a*b)) [] []:=by
 refine bP [] Tryz.func271 ?_
 intro W0 w0 ρ0 hE
 conv=>whnf
 refine⟨[],_,[],[],(ok.mul _ _ h),aJ,ar,an, ?_⟩;conv=>whnf
 have:=eT (decide (a<0) != decide (b<0)) (a.natAbs*b.natAbs)
 rw[wv]at this
 refine⟨[],_,[],[],(this),aJ,ar,an, ?_⟩;conv=>whnf
 (repeat(first|(refine aw aB ?_;conv=>whnf)));exact aq.refl _
theorem rT (ok:il M) (a b:Int) (h:sz a.natAbs+sz b.natAbs≤M):
  ab Tryz.prog 169 [.int a,.int b] [] (.int (a*b)) [] []:=by
 refine bP [] Tryz.func169 ?_
 intro W0 w0 ρ0 hE
 conv=>whnf
 refine⟨[],_,[],[],(DR _ a b _ (No ok a b h)),aJ,ar,an, ?_⟩;conv=>whnf
 skip;exact aq.refl _
theorem B9 {a b q r:Int} (h1:r+b*q=a) (h2:0≤r) (h3:r<b.natAbs):a/b=q∧a % b=r:=by
 have hb:b≠0:=aa
 rcases Int.lt_or_gt_of_ne hb with h|h
 ·have:=(Int.ediv_emod_unique (a:=a) (b:= -b) (r:=r) (q:= -q) aa).2 ⟨by rw[Int.neg_mul_neg];exact h1,h2,aa⟩
  rw[Int.ediv_neg,Int.emod_neg]at this
  exact⟨aa,this.2⟩
 ·exact(Int.ediv_emod_unique (a:=a) (b:=b) (r:=r) (q:=q) h).2 ⟨h1,h2,aa⟩
theorem Yb (a b:Int) (Q M:Nat) (hA:(b.natAbs:Int)*(Q:Int)+(M:Int)=(a.natAbs:Int)) (aA:M<b.natAbs):
  (signed (decide (a<0)) M<0→a/b=signed (decide (a<0) != decide (b<0)) Q - b.sign∧a % b=signed (decide (a<0)) M+b.natAbs)∧
  (¬signed (decide (a<0)) M<0→a/b=signed (decide (a<0) != decide (b<0)) Q∧a % b=signed (decide (a<0)) M):=by
 have hs:b*b.sign=b.natAbs:=by
  rcases Int.lt_trichotomy b 0 with h|h|h
  ·rw[Int.sign_eq_neg_one_of_neg h];omega
  ·omega
  ·rw[Int.sign_eq_one_of_pos h];omega
 have hq:b*signed (decide (a<0) != decide (b<0)) Q=if a<0 then -((b.natAbs:Int)*Q)else(b.natAbs:Int)*Q:=by
  unfold signed
  by_cases ha:a<0<;>by_cases hb:b<0
  ·rw[show(b.natAbs:Int)= -b from by omega];simp[ha,hb,Int.neg_mul]
  ·rw[show(b.natAbs:Int)=b from by omega];simp[ha,hb,Int.mul_neg]
  ·rw[show(b.natAbs:Int)= -b from by omega];simp[ha,hb,Int.mul_neg,Int.neg_mul]
  ·rw[show(b.natAbs:Int)=b from by omega];simp[ha,hb]
 refine⟨fun hr=>B9 ?_ ?_ ?_,fun hr=>B9 ?_ ?_ ?_⟩
 ·rw[Int.mul_sub,hs,hq]
  by_cases ha:a<0<;>simp[signed,ha]at hr ⊢<;>omega
 ·by_cases ha:a<0<;>simp[signed,ha]at hr ⊢<;>omega
 ·by_cases ha:a<0<;>simp[signed,ha]at hr ⊢<;>omega
 ·rw[hq]
  by_cases ha:a<0<;>simp[signed,ha]at hr ⊢<;>omega
 ·omega
 ·by_cases ha:a<0<;>simp[signed,ha]at hr ⊢<;>omega
theorem Np (ok:il M) (a:Int):ab Tryz.prog 331 [.int a,.int 0] [] (.ct [.int 0,.int 0,.val (.bool false)]) [] []:=by
 refine bP [] Tryz.func331 ?_
 intro W0 w0 ρ0 hE
 conv=>whnf
 refine⟨[],_,[],[],(ok.Ya a.natAbs),aJ,ar,an, ?_⟩;conv=>whnf
 (repeat(first|(refine ag rfl rfl ?_;conv=>whnf)));exact aq.refl _
theorem DS (z:Int):sz z.sign.natAbs≤1:=by
 rw[eW]
 have:z.sign.natAbs≤1:=by
  rcases Int.lt_trichotomy z 0 with h|h|h
  ·rw[Int.sign_eq_neg_one_of_neg h];decide
  ·subst h;decide
  ·rw[Int.sign_eq_one_of_pos h];decide
 omega
theorem Yc (ok:il M) (a b:Int) (ha:sz a.natAbs<M) (hb:sz b.natAbs<M) (h0:b≠0):
  ab Tryz.prog 331 [.int a,.int b] [] (.ct [.int (a/b),.int (a % b),.val (.bool true)]) [] []:=by
 have hM:=ok.nu
 refine bP [] Tryz.func331 ?_
 intro W0 w0 ρ0 hE
 conv=>whnf
 refine⟨[],_,[],[],(ok.div a.natAbs b.natAbs aa aa aa),aJ,ar,an, ?_⟩;conv=>whnf
 (repeat(first|(refine af rfl rfl ?_;conv=>whnf)))
 refine⟨[],_,[],[],(eT _ _),aJ,ar,an, ?_⟩;conv=>whnf
 refine⟨[],_,[],[],(eT _ _),aJ,ar,an, ?_⟩;conv=>whnf
 (repeat(first|(refine aw aB ?_;conv=>whnf)))
 have hA:(b.natAbs:Int)*((a.natAbs/b.natAbs:Nat):Int)+((a.natAbs % b.natAbs:Nat):Int)=(a.natAbs:Int):=by
  rw[←Int.natCast_mul,←Int.natCast_add,Nat.div_add_mod]
 have aA:a.natAbs % b.natAbs<b.natAbs:=Nat.mod_lt _ aa
 have ZL:sz (a.natAbs/b.natAbs)≤sz a.natAbs:=v8 _ _
 have ZM:sz (a.natAbs % b.natAbs)≤sz a.natAbs:=R6 _ _
 obtain⟨u1,u2⟩:=Yb a b (a.natAbs/b.natAbs) (a.natAbs % b.natAbs) hA aA
 have hbq:(signed (decide (a<0) != decide (b<0)) (a.natAbs/b.natAbs)).natAbs=a.natAbs/b.natAbs:=iF _ _
 have hbr:(signed (decide (a<0)) (a.natAbs % b.natAbs)).natAbs=a.natAbs % b.natAbs:=iF _ _
 generalize a.natAbs/b.natAbs=Q at*
 generalize a.natAbs % b.natAbs=M at*
 generalize signed (decide (a<0) != decide (b<0)) Q=q at*
 generalize signed (decide (a<0)) M=r at*
 subst hbq hbr
 refine⟨fun h=> ?_,fun h=> ?_⟩
 ·have hr:=of_decide_eq_true h
  obtain⟨v1,v2⟩:=u1 hr
  rw[v1,v2]
  conv=>whnf
  refine⟨[],_,[],[],(eT false b.natAbs),aJ,ar,an, ?_⟩;conv=>whnf
  rw[show signed false b.natAbs=(b.natAbs:Int)from rfl]
  refine⟨[],_,[],[],(wq ok r b.natAbs aa (by rw[Int.natAbs_natCast];exact hb)),aJ,ar,an, ?_⟩;conv=>whnf
  (repeat(first|(refine aw aB ?_;conv=>whnf)))
  refine⟨[],_,[],[],(jt b),aJ,ar,an, ?_⟩;conv=>whnf
  have hsb: -1≤b.sign∧b.sign≤1:=by
   rcases Int.lt_trichotomy b 0 with h|h|h
   ·rw[Int.sign_eq_neg_one_of_neg h];omega
   ·omega
   ·rw[Int.sign_eq_one_of_pos h];omega
  have:=DS b
  refine⟨[],_,[],[],(l7 b.sign aa aa),aJ,ar,an, ?_⟩;conv=>whnf
  refine⟨[],_,[],[],(Jk ok q b.sign aa aa),aJ,ar,an, ?_⟩;conv=>whnf
  (repeat(first|(refine aw aB ?_;conv=>whnf)));exact aq.refl _
 ·obtain⟨v1,v2⟩:=u2 (of_decide_eq_false h)
  rw[v1,v2]
  conv=>whnf
  (repeat(first|(refine aw aB ?_;conv=>whnf)));exact aq.refl _
end Go.Proofs.YtfpagioknjjacaaGreatDoor
namespace Go.Proofs.YtfpagioknjjacaaGreatDoor
open Go.Sx
set_option linter.unusedSimpArgs false
set_option linter.unusedVariables false
set_option maxRecDepth 100000
set_option maxHeartbeats 2000000
def qg (q:Rat):Nat:=max (sz q.num.natAbs) (sz q.den)
theorem dq (q:Rat):sz q.num.natAbs≤qg q:=Nat.le_max_left _ _
theorem dE (q:Rat):sz q.den≤qg q:=Nat.le_max_right _ _
theorem DT {q:Rat} {k:Nat} (h1:sz q.num.natAbs≤k) (h2:sz q.den≤k):qg q≤k:=Nat.max_le.2 ⟨h1,h2⟩
theorem num_mkRat {n:Int} {d:Nat} (hd:d≠0):(mkRat n d).num=n/(Nat.gcd n.natAbs d:Nat):=by
 rw[←Rat.normalize_eq_mkRat hd,Rat.num_normalize]
theorem den_mkRat {n:Int} {d:Nat} (hd:d≠0):(mkRat n d).den=d/Nat.gcd n.natAbs d:=by
 rw[←Rat.normalize_eq_mkRat hd,Rat.den_normalize]
theorem yB {n:Int} {d:Nat} {k:Nat} (hd:d≠0) (h1:sz n.natAbs≤k) (h2:sz d≤k):qg (mkRat n d)≤k:=by
 refine DT ?_ ?_
 ·rw[num_mkRat hd]
  refine Nat.le_trans (dQ ?_) h1
  rw[Int.natAbs_ediv_of_dvd (Int.ofNat_dvd_left.2 (Nat.gcd_dvd_left _ _)),Int.natAbs_natCast]
  exact Nat.div_le_self _ _
 ·rw[den_mkRat hd]
  exact Nat.le_trans (v8 _ _) h2
theorem Fi {a b:Rat}:qg (a+b)≤qg a+qg b+1:=by
 have ha:=dq a;have ha':=dE a;have hb:=dq b;have gj:=dE b
 rw[Rat.add_def']
 refine yB (Nat.mul_ne_zero a.den_nz b.den_nz) ?_ ?_
 ·have h1:=fu a.num.natAbs b.den
  have h2:=fu b.num.natAbs a.den
  refine Nat.le_trans (dQ (Int.natAbs_add_le _ _)) (v7 ?_ ?_)
  ·rw[Int.natAbs_mul,Int.natAbs_natCast];omega
  ·rw[Int.natAbs_mul,Int.natAbs_natCast];omega
 ·have:=fu a.den b.den
  omega
theorem Nq {a b:Rat}:qg (a*b)≤qg a+qg b:=by
 have ha:=dq a;have ha':=dE a;have hb:=dq b;have gj:=dE b
 rw[Rat.mul_def']
 refine yB (Nat.mul_ne_zero a.den_nz b.den_nz) ?_ ?_
 ·have h1:=fu a.num.natAbs b.num.natAbs
  rw[Int.natAbs_mul];omega
 ·have:=fu a.den b.den
  omega
theorem Fj (a:Rat):qg (-a)=qg a:=by simp[qg]
theorem Nr {a b:Rat}:qg (a - b)≤qg a+qg b+1:=by
 rw[Rat.sub_eq_add_neg,←Fj b];exact Fi
theorem wx (q:Rat):q.den - 1+1=q.den:=by have:=q.den_pos;omega
theorem rU (n:Nat) (h:n≠0):1≤sz n:=I1 h
variable {M:Nat}
theorem ui (ok:il M) (q:Rat) (h:sz q.den≤M):ab Tryz.prog 207 [.frac q] [] (.nat q.den) [] []:=by
 refine bP [] Tryz.func207 ?_
 intro W0 w0 ρ0 hE
 conv=>whnf
 refine⟨[],_,[],[],(nY 1 aF),aJ,ar,an, ?_⟩;conv=>whnf
 have:=ok.add (q.den - 1) 1 (by rw[wx];exact h)
 rw[wx]at this
 refine⟨[],_,[],[],(this),aJ,ar,an, ?_⟩;conv=>whnf
 (repeat(first|(refine aw aB ?_;conv=>whnf)));exact aq.refl _
theorem nZ {x:Int} {y:Nat} {q:Rat} (hx:x=q.num) (hy:y=q.den - 1):aq (.agg [.int x,.nat y]) (.frac q):=by
 subst hx hy
 exact eA (l:=bD q) rfl rfl (fun _ h=>by cases h)
theorem kk (ok:il M) (n:Int) (d:Nat) (h1:sz n.natAbs≤M) (h2:sz d≤M) (hd:d≠0):
  ab Tryz.prog 206 [.int n,.nat d] [] (.frac (mkRat n d)) [] []:=by
 have hb:=ok.nu
 have hg:Nat.gcd n.natAbs d≠0:=fun h=>hd (Nat.gcd_eq_zero_iff.1 h).2
 have hgs:sz (Nat.gcd n.natAbs d)≤M:=Nat.le_trans (I3 hd) h2
 have hq:d/Nat.gcd n.natAbs d≠0:=Nat.div_ne_zero_iff.2 ⟨hg,Nat.le_of_dvd aa (Nat.gcd_dvd_right _ _)⟩
 refine bP [] Tryz.func206 ?_
 intro W0 w0 ρ0 hE
 conv=>whnf
 refine⟨[],_,[],[],(ug n),aJ,ar,an, ?_⟩;conv=>whnf
 refine⟨[],_,[],[],(ok.gcd n.natAbs d h1 h2),aJ,ar,an, ?_⟩;conv=>whnf
 (repeat(first|(refine aw aB ?_;conv=>whnf)))
 refine⟨[],_,[],[],(ug n),aJ,ar,an, ?_⟩;conv=>whnf
 refine⟨[],_,[],[],(ok.div n.natAbs _ h1 hgs hg),aJ,ar,an, ?_⟩;conv=>whnf
 (repeat(first|(refine aw aB ?_;conv=>whnf)))
 refine⟨[],_,[],[],(ok.div d _ h2 hgs hg),aJ,ar,an, ?_⟩;conv=>whnf
 skip
 refine⟨[],_,[],[],(nY 1 aF),aJ,ar,an, ?_⟩;conv=>whnf
 refine⟨[],_,[],[],(ok.sub _ 1 (Nat.le_trans (v8 _ _) h2) (Nat.pos_of_ne_zero hq)),aJ,ar,an, ?_⟩;conv=>whnf
 (repeat(first|(refine aw aB ?_;conv=>whnf)))
 refine⟨[],_,[],[],(jt n),aJ,ar,an, ?_⟩;conv=>whnf
 have e:signed (decide (n.sign<0)) (n.natAbs/Nat.gcd n.natAbs d)=(mkRat n d).num:=by
  rw[num_mkRat hd]
  have QA:Nat.gcd n.natAbs d ∣ n.natAbs:=Nat.gcd_dvd_left _ _
  unfold signed
  by_cases hn:n<0
  ·rw[Int.sign_eq_neg_one_of_neg hn]
   simp only[show decide ((-1:Int)<0)=true from rfl,if_true]
   have:n= -(n.natAbs:Int):=aa
   rw[Int.natCast_ediv,←Int.neg_ediv_of_dvd (Int.natCast_dvd_natCast.2 QA),←this]
  ·have:¬n.sign<0:=fun h=>hn (Int.sign_neg_iff.1 h)
   rw[decide_eq_false this]
   simp only[Bool.false_eq_true,if_false]
   have:n=(n.natAbs:Int):=aa
   rw[Int.natCast_ediv,←this]
 have hf:=eT (decide (n.sign<0)) (n.natAbs/Nat.gcd n.natAbs d)
 rw[e]at hf
 refine⟨[],_,[],[],(hf),aJ,ar,an, ?_⟩;conv=>whnf
 (repeat(first|(refine aw aB ?_;conv=>whnf)))
 exact nZ rfl (by rw[den_mkRat hd])
theorem Aj (n:Int):ab Tryz.prog 104 [.int n] [] (.frac n) [] []:=by
 refine bP [] Tryz.func104 ?_
 intro W0 w0 ρ0 hE
 conv=>whnf
 skip
 exact nZ rfl rfl
theorem ju (n:Int) (h0: -9223372036854775808≤n) (h1:n<9223372036854775808):ab Tryz.prog 18 [.val (.int .i64 n)] [] (.frac n) [] []:=by
 refine bP [] Tryz.func18 ?_
 intro W0 w0 ρ0 hE
 conv=>whnf
 refine⟨[],_,[],[],(l7 n h0 h1),aJ,ar,an, ?_⟩;conv=>whnf
 refine⟨[],_,[],[],(Aj n),aJ,ar,an, ?_⟩;conv=>whnf
 skip;exact aq.refl _
theorem Jl (q:Rat):ab Tryz.prog 171 [.frac q] [] (.int q.num) [] []:=by
 refine bP [] Tryz.func171 ?_
 intro W0 w0 ρ0 hE
 conv=>whnf
 skip
 exact eA (l:=cC q.num) rfl rfl (fun _ h=>by cases h)
theorem abS (ok:il M) (q:Rat) (h:sz q.den≤M):ab Tryz.prog 335 [.frac q] [] (.nat q.den) [] []:=by
 refine bP [] Tryz.func335 ?_
 intro W0 w0 ρ0 hE
 conv=>whnf
 refine⟨[],_,[],[],(ui ok q h),aJ,ar,an, ?_⟩;conv=>whnf
 skip;exact aq.refl _
theorem mR (q:Rat):ab Tryz.prog 168 [.frac q] [] (.val (.bool (decide (q.den=1)))) [] []:=by
 refine bP [] Tryz.func168 ?_
 intro W0 w0 ρ0 hE
 conv=>whnf
 skip
 refine⟨_,eJ aL df rfl (aj rfl) (aj rfl) rfl rfl rfl rfl (nX (q.den - 1) 0) l0, ?_⟩
 have:=q.den_pos
 rw[show decide (q.den - 1=0)=decide (q.den=1)from decide_eq_decide.2 aa]
 conv=>whnf
 skip;exact aq.refl _
theorem qQ (q:Rat):ab Tryz.prog 90 [.frac q] [] (.val (.int .i64 q.num.sign)) [] []:=by
 refine bP [] Tryz.func90 ?_
 intro W0 w0 ρ0 hE
 conv=>whnf
 skip
 refine⟨[],_,[],[],(jt q.num),aJ,ar,an, ?_⟩;conv=>whnf
 skip;exact aq.refl _
theorem DU (q:Rat):ab Tryz.prog 130 [.frac q] [] (.frac (-q)) [] []:=by
 refine bP [] Tryz.func130 ?_
 intro W0 w0 ρ0 hE
 conv=>whnf
 skip
 refine⟨[],_,[],[],(Fh q.num),aJ,ar,an, ?_⟩;conv=>whnf
 (repeat(first|(refine aw aB ?_;conv=>whnf)))
 exact nZ rfl rfl
theorem qR (ok:il M) (q:Rat) (h:sz q.den≤M):ab Tryz.prog 208 [.frac q] [] (.int q.den) [] []:=by
 refine bP [] Tryz.func208 ?_
 intro W0 w0 ρ0 hE
 conv=>whnf
 refine⟨[],_,[],[],(ui ok q h),aJ,ar,an, ?_⟩;conv=>whnf
 refine⟨[],_,[],[],(eT false q.den),aJ,ar,an, ?_⟩;conv=>whnf
 rw[show signed false q.den=(q.den:Int)from rfl]
 skip;exact aq.refl _
theorem mS {q:Rat} (h:q.den=1):q=(q.num:Rat):=Rat.ext rfl h
theorem DV (ok:il M) (a b:Rat) (h:qg a+qg b≤M):ab Tryz.prog 81 [.frac a,.frac b] [] (.frac (a*b)) [] []:=by
 have ha:=dq a;have ha':=dE a;have hb:=dq b;have gj:=dE b
 have gen:ab Tryz.prog 81 [.frac a,.frac b] [] (.frac (mkRat (a.num*b.num) (a.den*b.den))) [] []→ab Tryz.prog 81 [.frac a,.frac b] [] (.frac (a*b)) [] []:=by rw[Rat.mul_def'];exact id
 have hw:a.den=1→b.den=1→((a.num*b.num:Int):Rat)=a*b:=by
  intro h1 h2
  rw[mS h1,mS h2,Rat.intCast_mul];rfl
 have DW:=kk ok (a.num*b.num) (a.den*b.den) (by rw[Int.natAbs_mul];have:=fu a.num.natAbs b.num.natAbs;omega) (by have:=fu a.den b.den;omega) (Nat.mul_ne_zero a.den_nz b.den_nz)
 rw[←Rat.mul_def']at DW
 have wa:=mR a
 have wb:=mR b
 have k1:=rT ok a.num b.num aa
 have k2:=ui ok a aa
 have k3:=ui ok b aa
 have k4:=ok.mul a.den b.den aa
 have k5:=Aj (a.num*b.num)
 refine bP [] Tryz.func81 ?_
 intro W0 w0 ρ0 hE
 conv=>whnf
 by_cases h1:a.den=1
 ·rw[decide_eq_true h1]at wa
  by_cases h2:b.den=1
  ·rw[decide_eq_true h2]at wb
   rw[hw h1 h2]at k5
   (repeat(first|(refine ag rfl rfl ?_;conv=>whnf)|(refine aS (by assumption) ?_;conv=>whnf)|(refine ak jJ ?_;conv=>whnf)));exact aq.refl _
  ·rw[decide_eq_false h2]at wb
   (repeat((first|refine ag rfl rfl ?_|refine af rfl rfl ?_|refine aw aB ?_|refine aS (by assumption) ?_|refine ak jJ ?_);conv=>whnf));exact aq.refl _
 ·rw[decide_eq_false h1]at wa
  (repeat((first|refine af rfl rfl ?_|refine aw aB ?_|refine aS (by assumption) ?_|refine ak jo ?_);conv=>whnf));exact aq.refl _
theorem Fk (b:Rat):qg b⁻¹≤qg b:=by
 have h1:=dq b
 have h2:=dE b
 by_cases h:b.num=0
 ·rw[Rat.num_eq_zero]at h
  subst h
  rw[Rat.inv_zero];exact Nat.le_refl _
 ·refine DT ?_ ?_
  ·rw[Rat.num_inv,Int.natAbs_mul,Int.natAbs_natCast]
   refine Nat.le_trans (dQ ?_) h2
   have:b.num.sign.natAbs=1:=by rw[Int.natAbs_sign];simp[h]
   rw[this,Nat.one_mul];exact Nat.le_refl _
  ·rw[Rat.den_inv,if_neg h];exact h1
theorem GS {b:Rat} (h:b.num≠0):mkRat (signed (decide (b.num.sign<0)) b.den) b.num.natAbs=b⁻¹:=by
 have hd:b.num.natAbs≠0:=aa
 have hg:Nat.gcd (signed (decide (b.num.sign<0)) b.den).natAbs b.num.natAbs=1:=by rw[iF];exact b.reduced.symm
 refine Rat.ext ?_ ?_
 ·rw[num_mkRat hd,hg,Rat.num_inv]
  rcases Int.lt_or_gt_of_ne h with h'|h'
  ·rw[Int.sign_eq_neg_one_of_neg h'];simp[signed]
  ·rw[Int.sign_eq_one_of_pos h'];simp[signed]
 ·rw[den_mkRat hd,hg,Rat.den_inv,if_neg h];simp
theorem DX (ok:il M) (a b:Rat) (hb:b≠0) (h:qg a+qg b≤M):ab Tryz.prog 141 [.frac a,.frac b] [] (.ct [.frac (a/b),.val (.int .i64 0)]) [] []:=by
 have hn:b.num≠0:=fun h=>hb (Rat.num_eq_zero.1 h)
 have h1:=dq b
 have h2:=dE b
 have k1:=qQ b
 have k2:=ui ok b aa
 have k3:=eT (decide (b.num.sign<0)) b.den
 have k4:=ug b.num
 have k5:=kk ok (signed (decide (b.num.sign<0)) b.den) b.num.natAbs (by rw[iF];omega) aa aa
 rw[GS hn]at k5
 have k6:=DV ok a b⁻¹ (by have:=Fk b;omega)
 rw[←Rat.div_def]at k6
 have hs:(b.num.sign==0)=false:=by simpa using hn
 refine bP [] Tryz.func141 ?_
 intro W0 w0 ρ0 hE
 conv=>whnf
 refine⟨[],_,[],[],(k1),aJ,ar,an, ?_⟩;conv=>whnf
 rw[hs]
 (repeat(first|(refine af rfl rfl ?_;conv=>whnf)|(refine aw aB ?_;conv=>whnf)|(refine aS (by assumption) ?_;conv=>whnf)));exact aq.refl _
theorem Jm {n:Int} (h0: -9223372036854775808≤n) (h1:n<9223372036854775808):sz n.natAbs≤64:=eW.2 aa
theorem Fl {n:Int} {k:Nat} (h:sz n.natAbs≤k) (hk:1≤k):qg (n:Rat)≤k:=DT h hk
theorem Jn (ok:il M) (n d:Int) (hM:qg (n:Rat)+qg (d:Rat)≤M) (h0: -9223372036854775808≤n) (h1:n<9223372036854775808) (h2: -9223372036854775808≤d) (h3:d<9223372036854775808) (hd:d≠0):
  ab Tryz.prog 150 [.val (.int .i64 n),.val (.int .i64 d)] [] (.ct [.frac ((n:Rat)/(d:Rat)),.val (.int .i64 0)]) [] []:=by
 have k1:=ju n h0 h1
 have k2:=ju d h2 h3
 have k3:=DX ok (n:Rat) (d:Rat) (fun h=>hd (by simpa using h)) hM
 refine bP [] Tryz.func150 ?_
 intro W0 w0 ρ0 hE
 conv=>whnf
 (repeat(first|(refine aS (by assumption) ?_;conv=>whnf)));exact aq.refl _
end Go.Proofs.YtfpagioknjjacaaGreatDoor
namespace Go.Proofs.YtfpagioknjjacaaGreatDoor
open Go.Sx
set_option linter.unusedSimpArgs false
set_option linter.unusedVariables false
set_option maxRecDepth 100000
theorem Fm (x y:Nat) (hx:x<18446744073709551616) (hy:y<18446744073709551616):
  ab Tryz.prog 342 [.val (.int .u64 x),.val (.int .u64 y),.val (.int .u64 0)] [] (.ct [.val (.int .u64 ((x+y) % 18446744073709551616:Nat)),.val (.int .u64 ((x+y)/18446744073709551616:Nat))]) [] []:=by
 refine .inr fun ρ w z hz hp=> ?_
 simp only[au,aK]at hz
 obtain⟨_,_,rfl,⟨rfl,_⟩,_,_,rfl,⟨rfl,_⟩,_,_,rfl,⟨rfl,_⟩,rfl⟩:=hz
 refine⟨.tuple #[.int .u64 ((x+y) % 18446744073709551616:Nat),.int .u64 ((x+y)/18446744073709551616:Nat)],ρ,w, ?_,.pure ?_⟩
 ·show(callFunc 342 #[.int .u64 x,.int .u64 y,.int .u64 0]).run Tryz.prog w=_
  rw[run_callFunc_extern Tryz.func342 aB aB aB (e:=add64Entry) aB,run_add64 x y 0 aa aa aa aa]
  simp only[Result.andThen]
  congr 5<;>omega
 ·simp only[Has,au,aK]
  exact⟨_,⟨_,_,rfl,⟨rfl,rfl⟩,_,_,rfl,⟨rfl,rfl⟩,rfl⟩,rfl⟩
theorem Jo (a b:Nat) (ha:a<18446744073709551616) (hb:b<18446744073709551616):
  ab Tryz.prog 182 [.nat a,.nat b] [] (.val (.int .i64 ((a:Int) - b).sign)) [] []:=by
 refine bP [] Tryz.func182 ?_
 intro W0 w0 ρ0 hE
 conv=>whnf
 rw[dw,decide_eq_true ha]
 refine⟨fun _=> ?_,fun h=>by cases h⟩
 conv=>whnf
 refine⟨fun _=> ?_,fun h=>by cases h⟩
 conv=>whnf
 refine⟨fun _=> ?_,fun h=>by cases h⟩
 conv=>whnf
 rw[dw,decide_eq_true hb]
 refine⟨.val (.bool true),[],[],[],lg rfl (aj rfl) (fun _=>aj rfl) (fun hb=>by cases hb) rfl (c2:=.any),aJ,ar,an, ?_⟩
 conv=>whnf
 refine⟨fun _=> ?_,fun h=>by cases h⟩
 conv=>whnf
 rw[cp ha,cp hb]
 refine⟨fun h=> ?_,fun h=> ?_⟩
 ·have hz:((a:Int) - b).sign= -1:=Int.sign_eq_neg_one_of_neg (by have:=of_decide_eq_true h;omega)
  conv=>whnf
  rw[hz]
  exact aq.refl _
 ·have h1:=of_decide_eq_false h
  conv=>whnf
  rw[cp ha,cp hb]
  refine⟨fun h=> ?_,fun h=> ?_⟩
  ·have hz:((a:Int) - b).sign=1:=Int.sign_eq_one_of_pos (by have:=of_decide_eq_true h;omega)
   conv=>whnf
   rw[hz]
   exact aq.refl _
  ·have hz:((a:Int) - b).sign=0:=by rw[Int.sign_eq_zero_iff_zero];have:=of_decide_eq_false h;omega
   conv=>whnf
   rw[hz]
   exact aq.refl _
theorem qS {x:Int} {n:Nat} {s:ByteArray} (hx:x=n) (hs:s=ByteArray.empty) (hn:n<18446744073709551616):∀ρ y,aK ρ (.agg [.val (.int .u64 x),.val (.string s)]) y→aK ρ (.nat n) y:=
 GN (l:=bB n) (by rw[ke hn,hx,hs];rfl) rfl (fun _ h=>by cases h)
theorem wy {n:Nat} (hn:n<18446744073709551616):aq (.agg [.val (.int .u64 n),.val (.string .empty)]) (.nat n):=
 eA (l:=bB n) (by rw[ke hn];rfl) rfl (fun _ h=>by cases h)
theorem abT (a b:Nat) (h:a+b<18446744073709551616):
  ab Tryz.prog 297 [.nat a,.nat b] [] (.nat (a+b)) [] []:=by
 have ha:a<18446744073709551616:=aa
 have hb:b<18446744073709551616:=aa
 refine bP [] Tryz.func297 ?_
 intro W0 w0 ρ0 hE
 conv=>whnf
 rw[dw,decide_eq_true ha]
 refine⟨fun _=> ?_,fun h=>by cases h⟩
 conv=>whnf
 refine⟨fun _=> ?_,fun h=>by cases h⟩
 conv=>whnf
 refine⟨fun _=> ?_,fun h=>by cases h⟩
 conv=>whnf
 rw[dw,decide_eq_true hb]
 refine⟨.val (.bool true),[],[],[],lg rfl (aj rfl) (fun _=>aj rfl) (fun hb=>by cases hb) rfl (c2:=.any),aJ,ar,an, ?_⟩
 conv=>whnf
 refine⟨fun _=> ?_,fun h=>by cases h⟩
 conv=>whnf
 rw[cp ha,cp hb]
 refine⟨[],_,[],[],Fm a b ha hb,aJ,ar,an, ?_⟩
 rw[Nat.mod_eq_of_lt h,Nat.div_eq_of_lt h]
 conv=>whnf
 refine⟨fun _=> ?_,fun h=>by cases h⟩
 conv=>whnf
 exact wy h
theorem abU (a b:Nat) (ha:a<18446744073709551616) (h:b≤a):
  ab Tryz.prog 296 [.nat a,.nat b] [] (.ct [.nat (a - b),.val (.bool true)]) [] []:=by
 have hb:b<18446744073709551616:=aa
 refine bP [] Tryz.func296 ?_
 intro W0 w0 ρ0 hE
 conv=>whnf
 refine⟨[],_,[],[],Jo a b ha hb,aJ,ar,an, ?_⟩
 have hs:decide (((a:Int) - b).sign<0)=false:=by
  rw[decide_eq_false_iff_not,Int.not_lt]
  exact Int.sign_nonneg_iff.2 aa
 conv=>whnf
 rw[hs]
 refine⟨fun h=>(by cases h),fun _=> ?_⟩
 conv=>whnf
 rw[dw,decide_eq_true ha]
 refine⟨fun _=> ?_,fun h=>by cases h⟩
 conv=>whnf
 refine B2 (qS ?_ rfl aa) rfl (fun _ _ h=>h) rfl
 rw[cp ha,cp hb,wrap_u64 aa aa]
 omega
theorem abV (a b:Nat) (ha:a<18446744073709551616) (hb:b<18446744073709551616) (h0:b≠0):
  ab Tryz.prog 280 [.nat a,.nat b] [] (.ct [.nat (a/b),.nat (a % b),.val (.bool true)]) [] []:=by
 refine bP [] Tryz.func280 ?_
 intro W0 w0 ρ0 hE
 conv=>whnf
 refine⟨[],_,[],[],uQ b,aJ,ar,an, ?_⟩
 rw[decide_eq_false h0]
 conv=>whnf
 refine⟨fun h=>(by cases h),fun _=> ?_⟩
 conv=>whnf
 refine⟨[],_,[],[],Jo a b ha hb,aJ,ar,an, ?_⟩
 conv=>whnf
 refine⟨fun h=> ?_,fun h=> ?_⟩
 ·have aA:a<b:=by
   have h:=of_decide_eq_true h
   have:=Int.sign_neg_iff.1 h
   omega
  conv=>whnf
  refine⟨aB, ?_⟩
  conv=>whnf
  rw[Nat.div_eq_of_lt aA,Nat.mod_eq_of_lt aA]
  exact aq.refl _
 ·have hle:b≤a:=by
   have h:=of_decide_eq_false h
   have:=Int.sign_nonneg_iff.1 (Int.not_lt.1 h)
   omega
  conv=>whnf
  rw[dw,decide_eq_true ha]
  refine⟨fun _=> ?_,fun h=>by cases h⟩
  conv=>whnf
  rw[cp hb]
  refine⟨aa, ?_⟩
  conv=>whnf
  refine⟨by rw[cp hb];omega, ?_⟩
  conv=>whnf
  refine⟨aB, ?_⟩
  conv=>whnf
  have hd:a/b≤a:=Nat.div_le_self a b
  have hm:a % b≤a:=Nat.mod_le a b
  refine ub (qS ?_ rfl aa) rfl (qS ?_ rfl aa) rfl (fun _ _ h=>h) rfl
  ·rw[cp ha,show(a:Int).tdiv (b:Int)=((a/b:Nat):Int)from rfl,wrap_u64 (Int.natCast_nonneg _) (by exact Int.ofNat_lt.2 (Nat.lt_of_le_of_lt hd ha))]
  ·rw[cp ha,cp hb];rfl
theorem Jp (a:Nat):ab Tryz.prog 280 [.nat a,.nat 0] [] (.ct [.nat 0,.nat 0,.val (.bool false)]) [] []:=by
 refine bP [] Tryz.func280 ?_
 intro W0 w0 ρ0 hE
 conv=>whnf
 refine⟨[],_,[],[],uQ 0,aJ,ar,an, ?_⟩
 conv=>whnf
 refine⟨fun _=> ?_,fun h=>by cases h⟩
 conv=>whnf
 exact aq.refl _
set_option maxHeartbeats 2000000
theorem Jq (xs:List Int) (n:Nat) (hn:n≤xs.length) (hl:xs.length<4611686018427387904) (K:Nat) (wr:Bool):
  ab Tryz.prog 315 [.aN K 1 0 n] [(K,⟨23,wr,.ints .u32 xs⟩)] (.aN K 1 0 (gN xs n)) [] []:=by
 refine ab.px ?_
 refine fq (Z:=[]) aL bJ Tryz.func315 rfl aB (args:=[.aN 0 1 0 n]) (fk:=[(0,⟨23,false,.ints .u32 xs⟩)]) (c:=.aN 0 1 0 (gN xs n)) (new:=[]) (upd:=[]) ?_ rfl (fun _=>K) ?_ ?_
 ·exact⟨rfl,rfl,rfl,rfl,rfl,(fun _ _ h=>by cases h),(fun k b h hw=>by simp at h;rw[h.2]at hw;cases hw),rfl,rfl,rfl,rfl⟩
 ·exact⟨(fun q q' b b' h h' b6=>by simp at h h';omega),(fun _ _ h=>by simp[ax]at h),(fun _ _ h=>by simp[ax]at h)⟩
 intro W0 w0 ρ0 hE
 conv=>whnf
 refine ai hE (fun k=>k) [0] [0] (fun m fr hp=>m≤n∧gN xs m=gN xs n∧fr=[(0,.aN 0 1 0 m)]∧hp=[(0,⟨23,false,.ints .u32 xs⟩)]) n ?_ ?_ ?_
 ·kernel_rfl
 ·exact⟨aa,rfl,rfl,rfl⟩
 rintro m _ _ ⟨hm,hc,rfl,rfl⟩
 conv=>whnf
 refine⟨fun h=> ?_,fun h=> ?_⟩
 ·have h0:0<m:=by have:=of_decide_eq_true h;omega
  obtain⟨m,rfl⟩:∃k,m=k+1:=⟨m - 1,aa⟩
  have hd:decide (((m+1:Nat):Int)>0)=true:=decide_eq_true aa
  have hw:IntKind.i64.wrap (((m+1:Nat):Int) - 1)=(m:Int):=by rw[wrap_i64 aa aa];omega
  rw[hd]
  conv=>whnf
  refine⟨fun _=> ?_,fun h=>by cases h⟩
  conv=>whnf
  refine⟨fun _=> ?_,fun h=>by cases h⟩
  conv=>whnf
  refine⟨fun _=> ?_,fun h=>by cases h⟩
  conv=>whnf
  refine⟨fun _=> ?_,fun h=>by cases h⟩
  conv=>whnf
  rw[hw]
  refine⟨⟨aa,aa⟩, ?_⟩
  conv=>whnf
  refine⟨fun _=> ?_,fun h=>by cases h⟩
  conv=>whnf
  refine⟨aa, ?_⟩
  conv=>whnf
  rw[show 0+(m:Int).toNat=m from by omega]
  refine⟨fun _=> ?_,fun h=>by cases h⟩
  conv=>whnf
  refine⟨.val (.bool (xs.getD m 0==0)),[],[],[],lg rfl (aj rfl) (fun _=>aj rfl) (fun hb=>by cases hb) rfl (c2:=.any),aJ,ar,an, ?_⟩
  conv=>whnf
  refine⟨fun h=> ?_,fun h=> ?_⟩
  ·have hx:xs.getD m 0=0:=by simpa using h
   conv=>whnf
   rw[hw]
   refine⟨aa, ?_⟩
   conv=>whnf
   rw[show((m:Int) - 0).toNat=m from by omega]
   refine⟨m,fun k=>k,[0],[0],aa,aB,aa, ?_,rfl,rfl⟩
   rw[←hc,gN,if_pos hx]
  ·have hx:¬xs.getD m 0=0:=by simpa using h
   conv=>whnf
   rw[←hc,gN,if_neg hx]
   exact⟨aq.refl _,(fun _ _ h=>by cases h),(fun _ _ h=>by cases h)⟩
 ·have h0:m=0:=by have:=of_decide_eq_false h;omega
  subst h0
  rw[show decide (((0:Nat):Int)>0)=false from rfl]
  conv=>whnf
  iterate 6
   refine⟨fun h=>(by cases h),fun _=> ?_⟩
   conv=>whnf
  refine⟨.val (.bool false),[],[],[],lg rfl (aj rfl) (fun hb=>by cases hb) (fun _=>aj rfl) rfl (c1:=.any),aJ,ar,an, ?_⟩
  conv=>whnf
  refine⟨fun h=>(by cases h),fun _=> ?_⟩
  conv=>whnf
  rw[←hc]
  exact⟨aq.refl _,(fun _ _ h=>by cases h),(fun _ _ h=>by cases h)⟩
theorem Jr (xs:List Int) (hx:fK xs) (i:Nat) (hi:i<2):
  Di .u64 (az xs i) (jC .u64 (IntKind.u64.wrap (xs.getD i 0)) ((32*i:Nat):Int))=az xs (i+1):=by
 obtain⟨a0,a1⟩:=hx 0
 obtain⟨b0,b1⟩:=hx 1
 have hc:i=0∨i=1:=aa
 rcases hc with rfl|rfl
 ·obtain⟨w,hw⟩:=Int.eq_ofNat_of_zero_le a0
  have e:jC .u64 (IntKind.u64.wrap (xs.getD 0 0)) ((32*0:Nat):Int)=(w:Int):=by
   rw[hw,wrap_u64 aa aa]
   show IntKind.u64.wrap ((w:Int)*1)=w
   rw[Int.mul_one,wrap_u64 aa aa]
  rw[e,show az xs 0=((0:Nat):Int)from rfl,uM aa aa,Nat.zero_or]
  simp only[az,hw,Int.pow_zero,Int.mul_one,Int.zero_add]
 ·obtain⟨w,hw⟩:=Int.eq_ofNat_of_zero_le b0
  obtain⟨v,hv⟩:=Int.eq_ofNat_of_zero_le a0
  have e:jC .u64 (IntKind.u64.wrap (xs.getD 1 0)) ((32*1:Nat):Int)=((4294967296*w:Nat):Int):=by
   rw[hw,wrap_u64 aa aa]
   show IntKind.u64.wrap ((w:Int)*4294967296)=_
   rw[wrap_u64 aa aa]
   omega
  have e1:az xs 1=(v:Int):=by simp only[az,hv,Int.pow_zero,Int.mul_one,Int.zero_add]
  have e2:az xs (1+1)=((v+w*4294967296:Nat):Int):=by
   simp only[az,hv,hw,Int.pow_zero,Int.mul_one,Int.zero_add,Int.pow_succ,Int.one_mul];omega
  rw[e,e1,e2,uM aa aa,Nat.or_comm]
  have:=Nat.two_pow_add_eq_or_of_lt (i:=32) (b:=v) aa w
  rw[show 4294967296*w=2^32*w from rfl,←this]
  omega
def fw (xs:List Int):List Int:=xs.flatMap fun x=>(bK x.toNat).map fun b=>((b.toNat:Nat):Int)
theorem wz (xs:List Int):(fw xs).length=4*xs.length:=by
 induction xs with
 |nil=>rfl
 |cons x xs ih=>
  rw[fw,List.flatMap_cons,List.length_append,←fw,ih]
  simp[bK];omega
theorem Ca {xs:List Int} {i:Nat} (h:i<xs.length):fw (xs.take (i+1))=fw (xs.take i)++fw [xs.getD i 0]:=by
 rw[List.take_add_one,fw,List.flatMap_append]
 have:xs[i]? =some (xs.getD i 0):=by rw[List.getD_eq_getElem?_getD,List.getElem?_eq_getElem h];rfl
 rw[this];rfl
theorem Ns (n:Nat):IntKind.u8.wrap (n:Int)=((n % 256:Nat):Int):=by simp[IntKind.wrap,IntKind.bits,IntKind.signed]
theorem DY {x:Int} (h0:0≤x):fw [x]=[IntKind.u8.wrap x,IntKind.u8.wrap (jD .u32 x 8),IntKind.u8.wrap (jD .u32 x 16),IntKind.u8.wrap (jD .u32 x 24)]:=by
 obtain⟨n,rfl⟩:=Int.eq_ofNat_of_zero_le h0
 have s8:jD .u32 (n:Int) 8=((n/256:Nat):Int):=ja .u32 (s:=8) aF
 have s16:jD .u32 (n:Int) 16=((n/65536:Nat):Int):=ja .u32 (s:=16) aF
 have s24:jD .u32 (n:Int) 24=((n/16777216:Nat):Int):=ja .u32 (s:=24) aF
 rw[s8,s16,s24,Ns,Ns,Ns,Ns]
 simp only[fw,bK,List.flatMap_cons,List.flatMap_nil,List.map_cons,List.map_nil,List.append_nil,Int.toNat_natCast,UInt8.toNat_ofNat']
theorem Cb {xs:List Int} (h:fK xs):(fw xs).map (fun v=>UInt8.ofNat v.toNat)=(xs.map Int.toNat).flatMap bK:=by
 induction xs with
 |nil=>rfl
 |cons x xs ih=>
  have hw:fK xs:=fun i=>by have:=h (i+1);simpa using this
  rw[fw,List.flatMap_cons,List.map_append,←fw,ih hw,List.map_cons,List.flatMap_cons]
  congr 1
  rw[List.map_map]
  have:((fun v:Int=>UInt8.ofNat v.toNat)∘fun b:UInt8=>((b.toNat:Nat):Int))=id:=by funext b;simp
  rw[this,List.map_id]
theorem Yd {xs:List Int} {k:Nat} (hx:fK xs) (hk:k≤xs.length) (h2:2<k) (ht:xs.getD (k - 1) 0≠0):
  bB (az xs k).toNat=[.int .u64 0,.string ⟨((fw (xs.take k)).map (fun v=>UInt8.ofNat v.toNat)).toArray⟩]:=by
 have h1:=wi k xs hx hk (.inr ht)
 obtain⟨j,rfl⟩:∃j,k=j+1:=⟨k - 1,aa⟩
 have H6:=qK hx (k:=j) (by simpa using ht)
 have hp:(4294967296:Int)^2≤4294967296^j:=by
  have:(4294967296:Nat)^2≤4294967296^j:=Nat.pow_le_pow_right aF aa
  rw[←cS,←cS];exact Int.ofNat_le.2 this
 have rV:¬(az xs (j+1)).toNat<18446744073709551616:=by
  have:(4294967296:Int)^2=18446744073709551616:=aF
  omega
 have hw:fK (xs.take (j+1)):=fun i=>by
  rw[getD_take]
  split
  ·exact hx i
  ·decide
 simp only[bB,low,nu,rV,if_false]
 rw[Cb hw,←h1,ae,List.map_map]
 have:(Int.toNat∘Int.ofNat)=id:=by funext n;rfl
 rw[this,List.map_id]
theorem rW (xs:List Int) (n:Nat) (hn:n≤xs.length) (hl:xs.length<1099511627776) (hx:fK xs) (K:Nat) (wr:Bool):
  ab Tryz.prog 299 [.aN K 1 0 n] [(K,⟨23,wr,.ints .u32 xs⟩)] (.nat (az xs n).toNat) [] []:=by
 refine ab.px ?_
 refine fq (Z:=[]) aL bJ Tryz.func299 rfl aB (args:=[.aN 0 1 0 n]) (fk:=[(0,⟨23,false,.ints .u32 xs⟩)]) (c:=.nat (az xs n).toNat) (new:=[]) (upd:=[]) ?_ rfl (fun _=>K) ?_ ?_
 ·exact⟨rfl,rfl,rfl,rfl,rfl,(fun _ _ h=>by cases h),(fun k b h hw=>by simp at h;rw[h.2]at hw;cases hw),rfl,rfl,rfl,rfl⟩
 ·exact⟨(fun q q' b b' h h' b6=>by simp at h h';omega),(fun _ _ h=>by simp[ax]at h),(fun _ _ h=>by simp[ax]at h)⟩
 intro W0 w0 ρ0 hE
 conv=>whnf
 refine⟨_,_,[],[],Jq xs n hn aa 0 false,dv rfl,ar,an, ?_⟩
 have hle:=Ah xs n
 have wB:=wh xs n
 rw[←qJ xs n]
 generalize gN xs n=k at*
 conv=>whnf
 by_cases hk:k≤2
 ·have t1:decide ((k:Int)≤2)=true:=by simp;omega
  rw[t1]
  (repeat(first|(refine ag rfl rfl ?_;conv=>whnf)))
  refine ai hE (fun k=>k) [2,3,14,15,16] [0,2] (fun m fr hp=>∃i,m=k - i∧i≤k∧fr=[(2,.ptr 2 0 0 0),(3,.val (.int .u64 (az xs i))),(14,.aN 0 1 0 k),(15,.val (.int .i64 k)),(16,.val (.int .i64 (i:Nat)))]∧hp=[(0,⟨23,false,.ints .u32 xs⟩),(2,⟨46,true,.one [.nat 0]⟩)]) k ?_ ?_ ?_
  ·kernel_rfl
  ·exact⟨0,rfl,aa,rfl,rfl⟩
  rintro m _ _ ⟨i,rfl,hi,rfl,rfl⟩
  conv=>whnf
  refine⟨fun h=> ?_,fun h=> ?_⟩
  ·have jU:i<k:=by have:=of_decide_eq_true h;omega
   conv=>whnf
   have hw:IntKind.i64.wrap (32*(i:Int))=((32*i:Nat):Int):=by rw[wrap_i64 aa aa];omega
   have Ye:IntKind.i64.wrap ((i:Int)+1)=((i+1:Nat):Int):=by rw[wrap_i64 aa aa];omega
   (repeat(first|(refine And.intro Q7 ?_;conv=>whnf)|(rw[hw];conv=>whnf)))
   rw[show 0+(i:Int).toNat=i from aa,Ye,Jr xs hx i aa]
   exact⟨k - (i+1),fun k=>k,[2,3,14,15,16],[0,2],aa,aB,i+1,rfl,aa,rfl,rfl⟩
  ·have jU:i=k:=by have:=of_decide_eq_false h;omega
   subst jU
   conv=>whnf
   have hb:=gq hx i
   have h0:=b8 hx i
   have gj:(4294967296:Int)^i≤18446744073709551616:=by
    have:i=0∨i=1∨i=2:=aa
    rcases this with rfl|rfl|rfl<;>decide
   obtain⟨v,hv⟩:=Int.eq_ofNat_of_zero_le h0
   rw[hv]at hb ⊢
   exact⟨wy aa,(fun _ _ h=>by cases h),(fun _ _ h=>by cases h)⟩
 ·have t1:decide ((k:Int)≤2)=false:=by simp;omega
  have e1:IntKind.i64.wrap (4*(k:Int))=((4*k:Nat):Int):=by rw[wrap_i64 aa aa];omega
  (repeat((first|refine af rfl rfl ?_|refine And.intro Q7 ?_|rw[t1]|rw[e1]);conv=>whnf))
  refine ai hE (fun k=>k) [2,6,35,36,37] [0,2,34] (fun m fr hp=>∃i,m=k - i∧i≤k∧fr=[(2,.ptr 2 0 0 0),(6,.aN 34 1 0 (4*i)),(35,.aN 0 1 0 k),(36,.val (.int .i64 k)),(37,.val (.int .i64 (i:Nat)))]∧hp=[(0,⟨23,false,.ints .u32 xs⟩),(2,⟨46,true,.one [.nat 0]⟩),(34,⟨5,true,.ints .u8 (fw (xs.take i))⟩)]) k ?_ ?_ ?_
  ·kernel_rfl
  ·exact⟨0,rfl,aa,rfl,rfl⟩
  rintro m _ _ ⟨i,rfl,hi,rfl,rfl⟩
  conv=>whnf
  refine⟨fun h=> ?_,fun h=> ?_⟩
  ·have jU:i<k:=by have:=of_decide_eq_true h;omega
   conv=>whnf
   have hb:=hx i
   have hlen:(fw (xs.take i)).length=4*i:=by rw[wz,List.length_take];omega
   have Ye:IntKind.i64.wrap ((i:Int)+1)=((i+1:Nat):Int):=by rw[wrap_i64 aa aa];omega
   have hs:=Ca (xs:=xs) (i:=i) aa
   rw[DY hb.1]at hs
   (repeat(first|(refine And.intro Q7 ?_;conv=>whnf)|(rw[show 0+(i:Int).toNat=i from by omega];conv=>whnf)))
   (repeat(first|(rw[Ye];conv=>whnf)))
   refine⟨k - (i+1),cx [(54,34)],[2,6,35,36,37],[0,2,54],aa,aB,i+1,rfl,aa,rfl, ?_⟩
   rw[hs]
   conv=>lhs;whnf
   rw[←hlen,List.take_length]
   rfl
  ·have jU:i=k:=by have:=of_decide_eq_false h;omega
   subst jU
   conv=>whnf
   have hlen:(fw (xs.take i)).length=4*i:=by rw[wz,List.length_take];omega
   refine⟨_,[(34,⟨5,true,.ints .u8 (fw (xs.take i))⟩)],[],BO (P:=Tryz.prog) (i:=0) (n:=4*i) rfl (aj rfl) (aL.get (t:=61) rfl) rfl (aL.get (t:=5) rfl) rfl (aL.get (t:=9) rfl) rfl (List.mem_cons_self ..) aa,dv rfl,ar, ?_⟩
   rw[List.drop_zero,←hlen,List.take_length]
   conv=>whnf
   skip
   refine⟨eA (l:=bB (az xs i).toNat) ?_ rfl (fun _ h=>by cases h),(fun _ _ h=>by cases h),(fun _ _ h=>by cases h)⟩
   rw[Yd hx aa aa (wB.resolve_left aa)]
   rfl
theorem abW (n:Nat):n&&& 4294967295=n % 4294967296:=by
 have:=Nat.and_two_pow_sub_one_eq_mod n 32
 simpa using this
theorem Ak {n:Nat} (h:n<18446744073709551616):Dr .u64 (n:Int) 4294967295=((n % 4294967296:Nat):Int):=by
 have:=I0 (x:=n) (y:=4294967295) h aF
 rw[abW]at this
 exact this
theorem fL (n:Nat):jD .u64 (n:Int) 32=((n/4294967296:Nat):Int):=ja .u64 (s:=32) aF
theorem Yf (x y:Nat):
  x/4294967296*(y/4294967296)+(x/4294967296*(y % 4294967296)+x % 4294967296*(y % 4294967296)/4294967296)/4294967296+((x/4294967296*(y % 4294967296)+x % 4294967296*(y % 4294967296)/4294967296) % 4294967296+x % 4294967296*(y/4294967296))/4294967296=x*y/18446744073709551616:=by
 have e1:x*y=(x/4294967296*(y/4294967296))*18446744073709551616+(x/4294967296*(y % 4294967296))*4294967296+(x % 4294967296*(y/4294967296))*4294967296+x % 4294967296*(y % 4294967296):=by
  have pG:x=4294967296*(x/4294967296)+x % 4294967296:=aa
  have Dw:y=4294967296*(y/4294967296)+y % 4294967296:=aa
  generalize x/4294967296=a at*
  generalize x % 4294967296=b at*
  generalize y/4294967296=c at*
  generalize y % 4294967296=d at*
  rw[pG,Dw,Nat.add_mul,Nat.mul_add,Nat.mul_add,Nat.mul_mul_mul_comm,Nat.mul_assoc 4294967296 a d,Nat.mul_left_comm b 4294967296 c]
  omega
 generalize x/4294967296*(y/4294967296)=A at*
 generalize x/4294967296*(y % 4294967296)=B at*
 generalize x % 4294967296*(y/4294967296)=C at*
 generalize x % 4294967296*(y % 4294967296)=D at*
 omega
theorem Nt (x y:Nat) (hx:x<18446744073709551616) (hy:y<18446744073709551616):
  ab Tryz.prog 298 [.val (.int .u64 x),.val (.int .u64 y)] [] (.ct [.val (.int .u64 (x*y/18446744073709551616:Nat)),.val (.int .u64 (x*y % 18446744073709551616:Nat))]) [] []:=by
 refine bP [] Tryz.func298 ?_
 intro W0 w0 ρ0 hE
 conv=>whnf
 iterate 5
  refine⟨aF, ?_⟩
  conv=>whnf
 have hh:=Yf x y
 have elo:IntKind.u64.wrap ((x:Int)*y)=((x*y % 18446744073709551616:Nat):Int):=by rw[oC,←Int.natCast_mul];omega
 rw[elo,fL x,fL y,Ak hx,Ak hy]
 have ba:x/4294967296≤4294967295:=aa
 have bb:x % 4294967296≤4294967295:=aa
 have bc:y/4294967296≤4294967295:=aa
 have bd:y % 4294967296≤4294967295:=aa
 generalize x/4294967296=a at*
 generalize x % 4294967296=b at*
 generalize y/4294967296=c at*
 generalize y % 4294967296=d at*
 have pac:=Nat.mul_le_mul ba bc
 have pad:=Nat.mul_le_mul ba bd
 have pbc:=Nat.mul_le_mul bb bc
 have pbd:=Nat.mul_le_mul bb bd
 have wu:∀{n:Nat},n<18446744073709551616→IntKind.u64.wrap (n:Int)=n:=fun h=>wrap_u64 aa aa
 rw[←Int.natCast_mul,←Int.natCast_mul,←Int.natCast_mul,←Int.natCast_mul,wu (n:=a*c) aa,wu (n:=a*d) aa,wu (n:=b*d) aa,wu (n:=b*c) aa,fL (b*d),←Int.natCast_add,wu (n:=a*d+b*d/4294967296) aa,fL,Ak aa,←Int.natCast_add,←Int.natCast_add,wu (n:=a*c+(a*d+b*d/4294967296)/4294967296) aa,wu (n:=(a*d+b*d/4294967296) % 4294967296+b*c) aa,fL,←Int.natCast_add,hh,wu aa]
 exact aq.refl _
set_option maxHeartbeats 4000000
theorem ep {n:Nat} (h:n<18446744073709551616):IntKind.u64.wrap (n:Int)=n:=wrap_u64 aa aa
theorem nz {n:Nat} (h:n<4294967296):IntKind.u32.wrap (n:Int)=n:=wrap_u32 aa aa
theorem n0 (n:Nat):IntKind.u32.wrap (n:Int)=((n % 4294967296:Nat):Int):=by rw[wrap_u32'];omega
theorem ln (x y c:Nat) (hx:x<4294967296) (hy:y<4294967296) (hc:c≤1):
  ab Tryz.prog 343 [.val (.int .u32 x),.val (.int .u32 y),.val (.int .u32 c)] [] (.ct [.val (.int .u32 ((x+y+c) % 4294967296:Nat)),.val (.int .u32 ((x+y+c)/4294967296:Nat))]) [] []:=by
 have e1:IntKind.u64.wrap (IntKind.u64.wrap (IntKind.u64.wrap (x:Int)+IntKind.u64.wrap (y:Int))+IntKind.u64.wrap (c:Int))=((x+y+c:Nat):Int):=by
  rw[ep (n:=x) aa,ep (n:=y) aa,ep (n:=c) aa,←Int.natCast_add,ep aa,←Int.natCast_add,ep aa]
 have e2:IntKind.u32.wrap (jD .u64 ((x+y+c:Nat):Int) 32)=(((x+y+c)/4294967296:Nat):Int):=by rw[fL,nz aa]
 refine bP [] Tryz.func343 ?_
 intro W0 w0 ρ0 hE
 conv=>whnf
 (repeat(first|(refine And.intro Q7 ?_;conv=>whnf)))
 rw[e1,e2,n0]
 exact aq.refl _
theorem uS {x y:Nat} (hx:x<4294967296) (hy:y<4294967296):Di .u32 x y=((x|||y:Nat):Int):=by
 have:x|||y<4294967296:=Nat.or_lt_two_pow (n:=32) hx hy
 have e1:(BitVec.ofInt IntKind.u32.bits (x:Int)).toNat=x:=by simp[BitVec.toNat_ofInt,IntKind.bits];omega
 have e2:(BitVec.ofInt IntKind.u32.bits (y:Int)).toNat=y:=by simp[BitVec.toNat_ofInt,IntKind.bits];omega
 rw[Di,BitVec.toNat_or,e1,e2]
 exact nz this
theorem wD {x y:Nat} (hx:x<4294967296) (hy:y<4294967296):xK .u32 x y=((x^^^y:Nat):Int):=by
 have:x^^^y<4294967296:=Nat.xor_lt_two_pow (n:=32) hx hy
 have e1:(BitVec.ofInt IntKind.u32.bits (x:Int)).toNat=x:=by simp[BitVec.toNat_ofInt,IntKind.bits];omega
 have e2:(BitVec.ofInt IntKind.u32.bits (y:Int)).toNat=y:=by simp[BitVec.toNat_ofInt,IntKind.bits];omega
 rw[xK,BitVec.toNat_xor,e1,e2]
 exact nz this
theorem abX {n:Nat} (h:n<4294967296):n/2147483648=if n.testBit 31 then 1 else 0:=by
 rw[Nat.testBit_eq_decide_div_mod_eq]
 simp only[Nat.reducePow,decide_eq_true_eq]
 split<;>omega
theorem Fo {n:Nat} (h:n<4294967296):n.testBit 31=decide (2147483648≤n):=by
 rw[Nat.testBit_eq_decide_div_mod_eq,decide_eq_decide]
 simp only[Nat.reducePow]
 omega
theorem borrow (x y c:Nat) (hx:x<4294967296) (hy:y<4294967296) (hc:c≤1):
  ((((4294967295^^^x)&&& y)|||((4294967295^^^(x^^^y))&&& ((x+4294967296 - y - c) % 4294967296)))/2147483648:Nat)=if x<y+c then 1 else 0:=by
 have hd:(x+4294967296 - y - c) % 4294967296<4294967296:=Nat.mod_lt _ aF
 rw[abX (Nat.or_lt_two_pow (n:=32) (Nat.and_lt_two_pow (n:=32) _ hy) (Nat.and_lt_two_pow (n:=32) _ hd)),Nat.testBit_or,Nat.testBit_and,Nat.testBit_and,Nat.testBit_xor,Nat.testBit_xor,Nat.testBit_xor,Fo hx,Fo hy,Fo hd,Fo (n:=4294967295) aF]
 by_cases h1:2147483648≤x<;>by_cases h2:2147483648≤y<;>simp[h1,h2]<;>(try split)<;>(try split)<;>omega
theorem Al (x y c:Nat) (hx:x<4294967296) (hy:y<4294967296) (hc:c≤1):
  ab Tryz.prog 341 [.val (.int .u32 x),.val (.int .u32 y),.val (.int .u32 c)] [] (.ct [.val (.int .u32 ((x+4294967296 - y - c) % 4294967296:Nat)),.val (.int .u32 ((if x<y+c then 1 else 0:Nat)))]) [] []:=by
 have hd:(x+4294967296 - y - c) % 4294967296<4294967296:=Nat.mod_lt _ aF
 have e1:IntKind.u32.wrap (IntKind.u32.wrap ((x:Int) - y) - c)=(((x+4294967296 - y - c) % 4294967296:Nat):Int):=by rw[wrap_u32',wrap_u32'];omega
 have hb:=borrow x y c hx hy hc
 have e2:xK .u32 (if IntKind.u32.signed=true then -1 else IntKind.u32.max) (x:Int)=((4294967295^^^x:Nat):Int):=wD (x:=4294967295) aF hx
 have hxy:x^^^y<4294967296:=Nat.xor_lt_two_pow (n:=32) hx hy
 have e3:xK .u32 (x:Int) y=((x^^^y:Nat):Int):=wD hx hy
 have e4:xK .u32 (if IntKind.u32.signed=true then -1 else IntKind.u32.max) ((x^^^y:Nat):Int)=((4294967295^^^(x^^^y):Nat):Int):=wD (x:=4294967295) aF hxy
 have hnx:4294967295^^^x<4294967296:=Nat.xor_lt_two_pow (n:=32) aF hx
 have aen:4294967295^^^(x^^^y)<4294967296:=Nat.xor_lt_two_pow (n:=32) aF hxy
 have e5:Dr .u32 ((4294967295^^^x:Nat):Int) y=(((4294967295^^^x)&&& y:Nat):Int):=B3 hnx hy
 have e6:Dr .u32 ((4294967295^^^(x^^^y):Nat):Int) (((x+4294967296 - y - c) % 4294967296:Nat):Int)=(((4294967295^^^(x^^^y))&&& ((x+4294967296 - y - c) % 4294967296):Nat):Int):=B3 aen hd
 have e7:=uS (Nat.and_lt_two_pow (n:=32) (4294967295^^^x) hy) (Nat.and_lt_two_pow (n:=32) (4294967295^^^(x^^^y)) hd)
 have e8:∀n:Nat,jD .u32 (n:Int) 31=((n/2147483648:Nat):Int):=fun n=>ja .u32 (s:=31) aF
 refine bP [] Tryz.func341 ?_
 intro W0 w0 ρ0 hE
 conv=>whnf
 (repeat(first|(refine And.intro Q7 ?_;conv=>whnf)))
 rw[e1,e2,e3,e4,e5,e6,e7,e8,hb]
 exact aq.refl _
theorem Nu (h l y:Nat) (hh:h<y) (hl:l<4294967296) (hy:y<4294967296):
  ab Tryz.prog 351 [.val (.int .u32 h),.val (.int .u32 l),.val (.int .u32 y)] [] (.ct [.val (.int .u32 ((h*4294967296+l)/y:Nat)),.val (.int .u32 ((h*4294967296+l) % y:Nat))]) [] []:=by
 have t1:(((y:Nat):Int) != 0)=true:=by simp;omega
 have t2:decide ((y:Int)≤(h:Int))=false:=by simp;omega
 have e1:jC .u64 (IntKind.u64.wrap (h:Int)) 32=((h*4294967296:Nat):Int):=by
  rw[ep aa]
  show IntKind.u64.wrap ((h:Int)*4294967296)=_
  rw[show(h:Int)*4294967296=((h*4294967296:Nat):Int)from aa,ep aa]
 have e2:Di .u64 ((h*4294967296:Nat):Int) (l:Int)=((h*4294967296+l:Nat):Int):=by
  rw[uM aa aa,Nat.mul_comm,←Nat.two_pow_add_eq_or_of_lt (i:=32) (b:=l) aa h]
 have hq:(h*4294967296+l)/y<4294967296:=Nat.div_lt_of_lt_mul (by
  have:=Nat.mul_le_mul_right 4294967296 (show h+1≤y by omega)
  rw[Nat.mul_comm y];omega)
 have hr:(h*4294967296+l) % y<y:=Nat.mod_lt _ aa
 have e3:((h*4294967296+l:Nat):Int).tdiv (y:Int)=(((h*4294967296+l)/y:Nat):Int):=rfl
 have e4:((h*4294967296+l:Nat):Int).tmod (y:Int)=(((h*4294967296+l) % y:Nat):Int):=rfl
 refine bP [] Tryz.func351 ?_
 intro W0 w0 ρ0 hE
 conv=>whnf
 (repeat((first|refine ag rfl rfl ?_|refine af rfl rfl ?_|refine aw aB ?_|refine And.intro Q7 ?_|refine ak jJ ?_|rw[t1]|rw[t2]|rw[e1]|rw[ep (n:=l) aa]|rw[ep (n:=y) aa]|rw[e2]|rw[e3]|rw[e4]|rw[ep (n:=(h*4294967296+l)/y) aa]|rw[nz hq]|rw[nz (n:=(h*4294967296+l) % y) aa]);conv=>whnf));exact aq.refl _
theorem abY {n k:Nat} (h0:2^k≤n) (h1:n<2^(k+1)):sz n=k+1:=by
 have:=eW.2 h1
 have h2:¬sz n≤k:=fun h=>by have:=eW.1 h;omega
 omega
theorem wE {n k:Nat} (h:0<n/2^k):sz n=sz (n/2^k)+k:=by
 generalize hm:n/2^k=m at*
 have ZC:m≠0:=aa
 obtain⟨j,hj⟩:∃j,sz m=j+1:=⟨sz m - 1,by have:=I1 ZC;omega⟩
 have h1:m<2^(j+1):=eW.1 aa
 have h2:2^j≤m:=by
  refine Nat.le_of_not_lt fun h=> ?_
  have:=eW.2 h
  omega
 have hd:=Nat.div_add_mod n (2^k)
 have hl:=Nat.mod_lt n (Nat.two_pow_pos k)
 rw[hm]at hd
 rw[hj,abY (n:=n) (k:=j+k)]
 ·omega
 ·rw[Nat.pow_add]
  have:=Nat.mul_le_mul_left (2^k) h2
  rw[Nat.mul_comm (2^j)];omega
 ·rw[show j+k+1=k+(j+1)from aa,Nat.pow_add]
  have:=Nat.mul_le_mul_left (2^k) (show m+1≤2^(j+1)from h1)
  rw[Nat.mul_add,Nat.mul_one]at this
  omega
def Am (s:ByteArray):Bool:=decide (s.size=256)&&(List.range 256).all (fun j=>s.data.getD j 0==UInt8.ofNat (sz j))
theorem oF {s:ByteArray} {j:Nat} (hj:j<256) (hs:Am s=true):(0≤(j:Int)∧(j:Int)<(s.size:Int)):=by
 simp only[Am,Bool.and_eq_true,decide_eq_true_eq]at hs
 omega
theorem QB:∀j,j<256→sz j<256:=fun j hj=>Nat.lt_of_le_of_lt (eW.2 (show j<2^8 from hj)) aF
theorem uT {s:ByteArray} {j:Nat} (hj:j<256) (hs:Am s=true):(s.data.getD (j:Int).toNat 0).toNat=sz j:=by
 simp only[Am,Bool.and_eq_true,decide_eq_true_eq,List.all_eq_true,List.mem_range,beq_iff_eq]at hs
 rw[Int.toNat_natCast,hs.2 j hj]
 have:=QB j hj
 simp only[UInt8.toNat_ofNat']
 omega
theorem wu8 {n:Nat} (h:n<256):IntKind.u8.wrap (n:Int)=n:=by simp[IntKind.wrap,IntKind.bits,IntKind.signed];omega
theorem abZ {n:Nat} (h:n<9223372036854775808):IntKind.i64.wrap (n:Int)=n:=wrap_i64 aa aa
theorem Nv (x:Nat) (hx:x<4294967296):
  ab Tryz.prog 362 [.val (.int .u32 x)] [] (.val (.int .i64 (sz x))) [] []:=by
 have s16:jD .u32 (x:Int) 16=((x/65536:Nat):Int):=ja .u32 (s:=16) aF
 have s8:∀y:Nat,jD .u32 (y:Int) 8=((y/256:Nat):Int):=fun y=>ja .u32 (s:=8) aF
 have fin:∀(j:Nat) (k:Int),j<256→(sz x:Int)=sz j+k→0≤k→k≤24→IntKind.i64.wrap (k+IntKind.i64.wrap ((sz j:Nat):Int))=(sz x:Nat):=fun j k hj h hk my=>by
  have:=QB j hj
  rw[abZ (n:=sz j) aa,wrap_i64 aa aa];omega
 refine bP [] Tryz.func362 ?_
 intro W0 w0 ρ0 hE
 conv=>whnf
 by_cases h1:65536≤x
 ·have t1:decide ((x:Int)≥65536)=true:=by simp;omega
  by_cases h2:256≤x/65536
  ·have t2:decide (((x/65536:Nat):Int)≥256)=true:=by simp;omega
   (repeat((first|refine ag rfl rfl ?_|refine And.intro Q7 ?_|rw[t1]|rw[s16]|rw[t2]|rw[s8]|rw[wu8 (n:=x/65536/256) aa]);conv=>whnf))
   refine⟨oF aa aB, ?_⟩
   conv=>whnf
   skip
   rw[uT (j:=x/65536/256) aa,show IntKind.i64.wrap (IntKind.i64.wrap (16+8)+IntKind.i64.wrap ((sz (x/65536/256):Nat):Int))=IntKind.i64.wrap (24+IntKind.i64.wrap ((sz (x/65536/256):Nat):Int))from rfl,fin (x/65536/256) 24 aa ?_ aa aa]
   ·exact aq.refl _
   ·rw[wE (n:=x) (k:=24) aa,Nat.div_div_eq_div_mul];rfl
   ·kernel_rfl
  ·have t2:decide (((x/65536:Nat):Int)≥256)=false:=by simp;omega
   (repeat((first|refine ag rfl rfl ?_|refine af rfl rfl ?_|refine And.intro Q7 ?_|rw[t1]|rw[s16]|rw[t2]|rw[wu8 (n:=x/65536) aa]);conv=>whnf))
   refine⟨oF aa aB, ?_⟩
   conv=>whnf
   skip
   rw[uT (j:=x/65536) aa,fin (x/65536) 16 aa ?_ aa aa]
   ·exact aq.refl _
   ·rw[wE (n:=x) (k:=16) aa];rfl
   ·kernel_rfl
 ·have t1:decide ((x:Int)≥65536)=false:=by simp;omega
  by_cases h2:256≤x
  ·have t2:decide ((x:Int)≥256)=true:=by simp;omega
   (repeat((first|refine ag rfl rfl ?_|refine af rfl rfl ?_|refine And.intro Q7 ?_|rw[t1]|rw[t2]|rw[s8]|rw[wu8 (n:=x/256) aa]);conv=>whnf))
   refine⟨oF aa aB, ?_⟩
   conv=>whnf
   skip
   rw[uT (j:=x/256) aa,show IntKind.i64.wrap (0+8)=8 from rfl,fin (x/256) 8 aa ?_ aa aa]
   ·exact aq.refl _
   ·rw[wE (n:=x) (k:=8) aa];rfl
   ·kernel_rfl
  ·have t2:decide ((x:Int)≥256)=false:=by simp;omega
   (repeat((first|refine af rfl rfl ?_|rw[t1]|rw[t2]|rw[wu8 (n:=x) aa]);conv=>whnf))
   refine⟨oF aa aB, ?_⟩
   conv=>whnf
   skip
   rw[uT (j:=x) aa,fin x 0 aa aa aa aa]
   ·exact aq.refl _
   ·kernel_rfl
theorem Yg (x:Nat) (hx:x<4294967296):
  ab Tryz.prog 358 [.val (.int .u32 x)] [] (.val (.int .i64 ((32 - sz x:Nat)))) [] []:=by
 have k1:=Nv x hx
 have:=eW.2 (show x<2^32 from hx)
 have e:IntKind.i64.wrap (32 - ((sz x:Nat):Int))=((32 - sz x:Nat):Int):=by rw[wrap_i64 aa aa];omega
 refine bP [] Tryz.func358 ?_
 intro W0 w0 ρ0 hE
 conv=>whnf
 (repeat(first|(refine aS (by assumption) ?_;conv=>whnf)|(rw[e];conv=>whnf)))
 exact aq.refl _
def cw (n:Nat):List Int:=if n<18446744073709551616 then[((n % 4294967296:Nat):Int),((n/4294967296:Nat):Int)]else ae n
theorem cD (n:Nat):(ae n).length≤(cw n).length:=by
 unfold cw
 split
 ·rename_i h
  exact gF (k:=2) (by simpa using h)
 ·exact Nat.le_refl _
theorem D2 {n:Nat} (h:n<18446744073709551616):cw n=[((n % 4294967296:Nat):Int),((n/4294967296:Nat):Int)]:=by rw[cw,if_pos h]
theorem l8 (n:Nat):fK (cw n):=by
 unfold cw
 split
 ·refine Ag fun x hx=> ?_
  simp only[List.mem_cons,List.not_mem_nil,or_false]at hx
  rcases hx with rfl|rfl<;>omega
 ·exact aZ n
theorem GU {n:Nat} (h:n<18446744073709551616):gN [((n % 4294967296:Nat):Int),((n/4294967296:Nat):Int)] 2=(ae n).length:=by
 have e1:∀m:Nat,m<4294967296→m≠0→ae m=[(m:Int)]:=fun m hm h0=>by
  rw[gz h0,Nat.mod_eq_of_lt hm,Nat.div_eq_of_lt hm,gy]
 by_cases h1:n/4294967296=0
 ·by_cases h2:n=0
  ·subst h2;rfl
  ·rw[e1 n aa h2]
   have:n % 4294967296≠0:=aa
   simp[gN,h1];omega
 ·have hn:n≠0:=aa
  rw[gz hn,e1 _ aa h1]
  simp[gN];omega
theorem Cc {n:Nat} (h:n<18446744073709551616) (hn:n≠0):ae n=if n/4294967296=0 then[((n % 4294967296:Nat):Int)]else[((n % 4294967296:Nat):Int),((n/4294967296:Nat):Int)]:=by
 rw[gz hn]
 split
 ·rename_i h1;rw[h1,gy]
 ·rename_i h1
  rw[gz h1,Nat.div_eq_of_lt (a:=n/4294967296) aa,gy,Nat.mod_eq_of_lt (a:=n/4294967296) aa]
theorem dT {n i:Nat} (hi:i<(ae n).length):(cw n).getD i 0=(ae n).getD i 0:=by
 unfold cw
 split
 ·rename_i h
  have hn:n≠0:=fun h0=>by subst h0;simp[gy]at hi
  rw[Cc h hn]at hi ⊢
  split at hi
  ·rename_i h1
   obtain rfl:i=0:=by simpa using hi
   rw[if_pos h1];rfl
  ·rename_i h1
   rw[if_neg h1]
 ·rfl
theorem wF (n:Nat):az (cw n) (ae n).length=n:=by
 rw[pO (ys:=ae n) (fun i hi=>dT hi),eN]
theorem GV (n:Nat) (K:Nat) (h:n<18446744073709551616):
  ab Tryz.prog 285 [.nat n] [] (.aN K 1 0 (ae n).length) [(K,⟨23,true,.ints .u32 (cw n)⟩)] []:=by
 rw[D2 h]
 refine fq (Z:=[]) aL bJ Tryz.func285 rfl aB (args:=[.nat n]) (fk:=[]) (c:=.aN 16 1 0 (ae n).length) (new:=[(16,⟨23,true,.ints .u32 [((n % 4294967296:Nat):Int),((n/4294967296:Nat):Int)]⟩)]) (upd:=[]) ?_ rfl (fun _=>K) ?_ ?_
 ·exact⟨rfl,rfl,rfl,rfl,rfl,(fun _ _ h=>by cases h),(fun k b h hw=>by cases h),rfl,rfl,rfl,rfl⟩
 ·exact⟨(fun q q' b b' h h' b6=>by cases h),(fun m m' h1 h2 b6=>by simp[ax]at h1 h2;omega),(fun _ _ h1 h2=>by simp[ax]at h2)⟩
 intro W0 w0 ρ0 hE
 conv=>whnf
 rw[dw,decide_eq_true h]
 have e1:IntKind.u32.wrap (n:Int)=((n % 4294967296:Nat):Int):=n0 n
 have e2:IntKind.u32.wrap (jD .u64 (n:Int) 32)=((n/4294967296:Nat):Int):=by rw[fL,nz aa]
 (repeat((first|refine ag rfl rfl ?_|refine And.intro Q7 ?_|rw[cp h]|rw[e1]|rw[e2]);conv=>whnf))
 refine⟨_,_,[],[],Jq [((n % 4294967296:Nat):Int),((n/4294967296:Nat):Int)] 2 (Nat.le_refl 2) (by simp) 16 true,dv rfl,ar,an, ?_⟩
 rw[GU h]
 conv=>whnf
 skip
 exact⟨aq.refl _,qN rfl,(fun _ _ h=>by cases h)⟩
theorem ab0 (l:List Nat) (i k:Nat) (hk:k<4):(l.flatMap bK).getD (4*i+k) 0=if i<l.length then(bK (l.getD i 0)).getD k 0 else 0:=by
 induction l generalizing i with
 |nil=>simp
 |cons x l ih=>
  have h4:(bK x).length=4:=rfl
  rw[List.flatMap_cons]
  cases i with
  |zero=>
   rw[List.getD_eq_getElem?_getD,List.getElem?_append_left aa,Nat.mul_zero,Nat.zero_add,if_pos (by simp),List.getD_cons_zero,List.getD_eq_getElem?_getD]
  |succ i=>
   have:=ih i
   rw[List.getD_eq_getElem?_getD]at this
   rw[List.getD_eq_getElem?_getD,List.getElem?_append_right aa,h4,show 4*(i+1)+k - 4=4*i+k from aa,this,List.getD_cons_succ]
   simp
theorem Js {n i k:Nat} (h:¬n<18446744073709551616) (hi:i<(ae n).length) (hk:k<4):
  (((nu n).data.getD (4*i+k) 0).toNat:Int)=(ae n).getD i 0/256^k % 256:=by
 have rV:nu n=⟨((words n).flatMap bK).toArray⟩:=by simp[nu,h]
 have e1:(ae n).getD i 0=(((words n).getD i 0:Nat):Int):=by
  simp only[ae,List.getD_eq_getElem?_getD,List.getElem?_map]
  cases (words n)[i]? <;>rfl
 have jU:i<(words n).length:=by rw[←qM];exact hi
 rw[rV,e1]
 show((((words n).flatMap bK).toArray.getD (4*i+k) 0).toNat:Int)=_
 have e2:((words n).flatMap bK).toArray.getD (4*i+k) 0=((words n).flatMap bK).getD (4*i+k) 0:=by
  rw[Array.getD_eq_getD_getElem?,List.getD_eq_getElem?_getD];simp
 rw[e2,ab0 _ _ _ hk,if_pos jU]
 have hc:k=0∨k=1∨k=2∨k=3:=aa
 rcases hc with rfl|rfl|rfl|rfl<;>simp[bK,UInt8.toNat_ofNat']<;>omega
theorem Jt {n:Nat} (h:¬n<18446744073709551616):(nu n).size=4*(ae n).length:=by
 have rV:nu n=⟨((words n).flatMap bK).toArray⟩:=by simp[nu,h]
 rw[rV,qM]
 show((words n).flatMap bK).toArray.size=_
 rw[List.size_toArray]
 generalize words n=l
 induction l with
 |nil=>rfl
 |cons x l ih=>rw[List.flatMap_cons,List.length_append,ih,List.length_cons,show(bK x).length=4 from rfl];omega
theorem Nw {x:Int} {k:Nat} (hx:0≤x∧x<4294967296) (hk:k<4):
  Di .u32 (x % 256^k) (jC .u32 (IntKind.u32.wrap (x/256^k % 256)) ((8*k:Nat):Int))=x % 256^(k+1):=by
 obtain⟨n,rfl⟩:=Int.eq_ofNat_of_zero_le hx.1
 have key:∀(p:Nat) (s:Nat),s≤24→p=2^s→Di .u32 ((n % p:Nat):Int) (jC .u32 (((n/p % 256:Nat)):Int) (s:Int))=((n % (p*256):Nat):Int):=by
  intro p s hs hp
  have nv:0<p:=by rw[hp];exact Nat.two_pow_pos s
  have ab1:p≤16777216:=by rw[hp];exact Nat.le_trans (Nat.pow_le_pow_right aF hs) aF
  have h1:n % p<p:=Nat.mod_lt _ nv
  have h2:n/p % 256<256:=Nat.mod_lt _ aF
  have e:jC .u32 (((n/p % 256:Nat)):Int) (s:Int)=((p*(n/p % 256):Nat):Int):=by
   have Ju:min (s:Int).toNat IntKind.u32.bits=s:=by simp[IntKind.bits];omega
   rw[jC,Ju]
   have:((n/p % 256:Nat):Int)*2^s=((p*(n/p % 256):Nat):Int):=by
    rw[Int.natCast_mul,hp,Int.natCast_pow,Int.mul_comm];rfl
   rw[this]
   refine nz ?_
   have:=Nat.mul_le_mul ab1 (show n/p % 256≤255 by omega)
   omega
  have aA:p*(n/p % 256)<4294967296:=by
   have:=Nat.mul_le_mul ab1 (show n/p % 256≤255 by omega)
   omega
  rw[e,uS aa aA,Nat.or_comm,hp,←Nat.two_pow_add_eq_or_of_lt (by rw[←hp];exact h1),←hp,Nat.mod_mul,Nat.add_comm]
 have hp:(256:Int)^k=((256^k:Nat):Int):=by rw[Int.natCast_pow];rfl
 have cd:(256:Int)^(k+1)=((256^k*256:Nat):Int):=by rw[←Nat.pow_succ,Int.natCast_pow];rfl
 have:=key (256^k) (8*k) aa (by rw[Nat.pow_mul])
 rw[hp,cd]
 simp only[←Int.natCast_emod,←Int.natCast_ediv]
 rw[show(((n/256^k:Nat):Int) % 256)=((n/256^k % 256:Nat):Int)from by rw[Int.natCast_emod];rfl,nz aa]
 exact this
theorem GW (n:Nat) (K:Nat) (h:¬n<18446744073709551616) (hl:(ae n).length<1099511627776):
  ab Tryz.prog 285 [.nat n] [] (.aN K 1 0 (ae n).length) [(K,⟨23,true,.ints .u32 (cw n)⟩)] []:=by
 rw[show cw n=ae n from if_neg h]
 refine fq (Z:=[]) aL bJ Tryz.func285 rfl aB (args:=[.nat n]) (fk:=[]) (c:=.aN 22 1 0 (ae n).length) (new:=[(22,⟨23,true,.ints .u32 (ae n)⟩)]) (upd:=[]) ?_ rfl (fun _=>K) ?_ ?_
 ·exact⟨rfl,rfl,rfl,rfl,rfl,(fun _ _ h=>by cases h),(fun k b h hw=>by cases h),rfl,rfl,rfl,rfl⟩
 ·exact⟨(fun q q' b b' h h' b6=>by cases h),(fun m m' h1 h2 b6=>by simp[ax]at h1 h2;omega),(fun _ _ h1 h2=>by simp[ax]at h2)⟩
 intro W0 w0 ρ0 hE
 conv=>whnf
 rw[dw,decide_eq_false h]
 have hs:=Jt h
 have eL:IntKind.i64.wrap (((nu n).size:Int).tdiv 4)=((ae n).length:Int):=by
  rw[hs,show((4*(ae n).length:Nat):Int)=4*((ae n).length:Int)from aa,Int.mul_tdiv_cancel_left _ aF,abZ aa]
 have hb:=fun i k hi hk=>Js (n:=n) (i:=i) (k:=k) h hi hk
 have aeo:=aZ n
 generalize hw:ae n=ws at*
 (repeat(first|(refine af rfl rfl ?_;conv=>whnf)|(refine And.intro Q7 ?_;conv=>whnf)|(rw[eL];conv=>whnf)))
 refine ai hE (fun k=>k) [1,3,24,25] [1,22] (fun m fr hp=>∃i,m=ws.length - i∧i≤ws.length∧fr=[(1,.ptr 1 0 0 0),(3,.aN 22 1 0 ws.length),(24,.val (.int .i64 ws.length)),(25,.val (.int .i64 (i:Nat)))]∧hp=[(1,⟨46,true,.one [.nat n]⟩),(22,⟨23,true,.ints .u32 (ws.take i++List.replicate (ws.length - i) 0)⟩)]) ws.length ?_ ?_ ?_
 ·kernel_rfl
 ·exact⟨0,rfl,aa,rfl,rfl⟩
 rintro m _ _ ⟨i,rfl,hi,rfl,rfl⟩
 conv=>whnf
 refine⟨fun h=> ?_,fun h=> ?_⟩
 ·have jU:i<ws.length:=by have:=of_decide_eq_true h;omega
  conv=>whnf
  skip
  have qe:ws.take i++List.replicate (ws.length - i) (0:Int)=ws.take i++(ws.getD i 0 % 256^0)::List.replicate (ws.length - (i+1)) 0:=by
   rw[show ws.length - i=(ws.length - (i+1))+1 from aa,List.replicate_succ]
   congr 2
   rw[Int.pow_zero];omega
  rw[qe]
  have aA:(ws.take i).length=i:=by rw[List.length_take];omega
  have lT:∀(a:Int) r,(ws.take i++a::r).getD i 0=a:=fun a r=>by
   rw[jb,aA,if_neg aa,Nat.sub_self];rfl
  have vu:∀(a v:Int) r,(ws.take i++a::r).set i v=ws.take i++v::r:=fun a v r=>by
   rw[List.set_append_right _ _ aa,aA,Nat.sub_self];rfl
  have hx:=aeo i
  refine ai hE (fun k=>k) [1,3,4,24,25,28] [1,22] (fun m fr hp=>∃k,m=4 - k∧k≤4∧fr=[(1,.ptr 1 0 0 0),(3,.aN 22 1 0 ws.length),(4,.val (.int .i64 (i:Nat))),(24,.val (.int .i64 ws.length)),(25,.val (.int .i64 (i:Nat))),(28,.val (.int .i64 (k:Nat)))]∧hp=[(1,⟨46,true,.one [.nat n]⟩),(22,⟨23,true,.ints .u32 (ws.take i++(ws.getD i 0 % 256^k)::List.replicate (ws.length - (i+1)) 0)⟩)]) 4 ?_ ?_ ?_
  ·kernel_rfl
  ·exact⟨0,rfl,aa,rfl,rfl⟩
  rintro m _ _ ⟨k,rfl,hk,rfl,rfl⟩
  conv=>whnf
  refine⟨fun h=> ?_,fun h=> ?_⟩
  ·have my:k<4:=by have:=of_decide_eq_true h;omega
   conv=>whnf
   have f1:IntKind.i64.wrap (4*(i:Int))=((4*i:Nat):Int):=by rw[wrap_i64 aa aa];omega
   have f2:IntKind.i64.wrap (((4*i:Nat):Int)+(k:Int))=((4*i+k:Nat):Int):=by rw[wrap_i64 aa aa];omega
   have f3:IntKind.i64.wrap (8*(k:Int))=((8*k:Nat):Int):=by rw[wrap_i64 aa aa];omega
   have f4:IntKind.i64.wrap ((k:Int)+1)=((k+1:Nat):Int):=by rw[wrap_i64 aa aa];omega
   have hll:(ws.take i++(ws.getD i 0 % 256^k)::List.replicate (ws.length - (i+1)) 0).length=ws.length:=by
    simp only[List.length_append,List.length_cons,List.length_replicate,aA];omega
   have agU:0+(i:Int).toNat<(ws.take i++(ws.getD i 0 % 256^k)::List.replicate (ws.length - (i+1)) 0).length:=by rw[hll];omega
   have f5:(((nu n).data.getD ((4*i+k:Nat):Int).toNat 0).toNat:Int)=ws.getD i 0/256^k % 256:=hb i k jU my
   have f6:=Nw hx my
   (repeat((first|refine aw aB ?_|refine And.intro Q7 ?_|rw[show 0+(i:Int).toNat=i from by omega]|rw[lT]|rw[f1]|rw[f2]|rw[f3]);conv=>whnf))
   rw[vu,f5,f6,f4]
   exact⟨4 - (k+1),fun k=>k,[1,3,4,24,25,28],[1,22],aa,aB,k+1,rfl,aa,rfl,rfl⟩
  ·have my:k=4:=by have:=of_decide_eq_false h;omega
   subst my
   have f4:IntKind.i64.wrap ((i:Int)+1)=((i+1:Nat):Int):=by rw[wrap_i64 aa aa];omega
   have Cd:ws.take i++(ws.getD i 0 % 256^4)::List.replicate (ws.length - (i+1)) 0=ws.take (i+1)++List.replicate (ws.length - (i+1)) 0:=by
    rw[show(256:Int)^4=4294967296 from rfl,Int.emod_eq_of_lt hx.1 hx.2,List.take_add_one,List.append_assoc]
    have:ws[i]? =some (ws.getD i 0):=by rw[List.getD_eq_getElem?_getD,List.getElem?_eq_getElem jU];rfl
    rw[this];rfl
   rw[Cd]
   conv=>whnf
   (repeat(first|(rw[f4];conv=>whnf)))
   exact⟨ws.length - (i+1),fun k=>k,[1,3,24,25],[1,22],aa,aB,i+1,rfl,aa,rfl,rfl⟩
 ·have jU:i=ws.length:=by have:=of_decide_eq_false h;omega
  subst jU
  conv=>whnf
  rw[List.take_length,Nat.sub_self,List.replicate_zero,List.append_nil]
  exact⟨aq.refl _,qN rfl,(fun _ _ h=>by cases h)⟩
theorem gY (n:Nat) (K:Nat) (hl:(ae n).length<1099511627776):
  ab Tryz.prog 285 [.nat n] [] (.aN K 1 0 (ae n).length) [(K,⟨23,true,.ints .u32 (cw n)⟩)] []:=by
 by_cases h:n<18446744073709551616
 ·exact GV n K h
 ·exact GW n K h hl
theorem Yh (z:Int):ab Tryz.prog 337 [.val (.int .i64 z)] [] (.val (.int .i64 z.sign)) [] []:=by
 refine bP [] Tryz.func337 ?_
 intro W0 w0 ρ0 hE
 conv=>whnf
 skip
 have e:(if (if z<1 then z else 1)> -1 then(if z<1 then z else 1)else -1)=z.sign:=by
  rcases Int.lt_trichotomy z 0 with h|h|h
  ·rw[Int.sign_eq_neg_one_of_neg h];split<;>(try split at*)<;>omega
  ·subst h;rfl
  ·rw[Int.sign_eq_one_of_pos h];split<;>(try split at*)<;>omega
 rw[e]
 exact aq.refl _
theorem yC {xs ys:List Int} {j:Nat}:∀{n:Nat},j≤n→(∀i,j≤i→i<n→xs.getD i 0=ys.getD i 0)→az xs n - az ys n=az xs j - az ys j
 |0,h,_=>by obtain rfl:j=0:=aa
            rfl
 |n+1,h,he=>by
  by_cases hj:j=n+1
  ·rw[hj]
  ·have:=yC (n:=n) aa (fun i h1 h2=>he i h1 aa)
   rw[az,az,he n aa aa];omega
theorem wG {xs ys:List Int} (hx:fK xs) (hy:fK ys) {j:Nat} (h:xs.getD j 0<ys.getD j 0):az xs (j+1)<az ys (j+1):=by
 have h1:=gq hx j
 have h2:=b8 hy j
 have h3:(xs.getD j 0+1)*4294967296^j≤ys.getD j 0*4294967296^j:=Int.mul_le_mul_of_nonneg_right aa (Int.le_of_lt (lW j))
 rw[Int.add_mul,Int.one_mul]at h3
 rw[az,az];omega
theorem uj {xs ys:List Int} (hx:fK xs) (hy:fK ys) {n m:Nat} (h:n<m) (ht:ys.getD (m - 1) 0≠0):az xs n<az ys m:=by
 obtain⟨j,rfl⟩:∃j,m=j+1:=⟨m - 1,aa⟩
 have h1:=gq hx n
 have h2:=qK hy (k:=j) (by simpa using ht)
 have h3:(4294967296:Int)^n≤4294967296^j:=by
  have:(4294967296:Nat)^n≤4294967296^j:=Nat.pow_le_pow_right aF aa
  rw[←cS,←cS];exact Int.ofNat_le.2 this
 omega
theorem ab2 (xs ys:List Int) (n m:Nat) (hn:n≤xs.length) (hm:m≤ys.length) (MH:xs.length<4611686018427387904) (H4:ys.length<4611686018427387904) (hx:fK xs) (hy:fK ys)
  (hxt:n=0∨xs.getD (n - 1) 0≠0) (hyt:m=0∨ys.getD (m - 1) 0≠0) (K L:Nat) (wr wr':Bool):
  ab Tryz.prog 284 [.aN K 1 0 n,.aN L 1 0 m] [(K,⟨23,wr,.ints .u32 xs⟩),(L,⟨23,wr',.ints .u32 ys⟩)] (.val (.int .i64 (az xs n - az ys m).sign)) [] []:=by
 refine ab.px ?_
 refine fq (Z:=[]) aL bJ Tryz.func284 rfl aB (args:=[.aN 0 1 0 n,.aN 1 1 0 m]) (fk:=[(0,⟨23,false,.ints .u32 xs⟩),(1,⟨23,false,.ints .u32 ys⟩)]) (c:=.val (.int .i64 (az xs n - az ys m).sign)) (new:=[]) (upd:=[]) (cu.of rfl rfl rfl rfl rfl rfl rfl rfl rfl rfl rfl) rfl (cx [(0,K),(1,L)]) (bh.ro rfl) ?_
 intro W0 w0 ρ0 hE
 conv=>whnf
 by_cases Iv:n=m
 ·subst Iv
  have t1:(((n:Nat):Int) != (n:Nat))=false:=by simp
  have e0:IntKind.i64.wrap ((n:Int) - 1)=(n:Int) - 1:=wrap_i64 aa aa
  (repeat(first|(refine af rfl rfl ?_;conv=>whnf)|(rw[bne_self_eq_false];conv=>whnf)|(rw[e0];conv=>whnf)))
  refine ai hE (fun k=>k) [0,1,5] [0,1] (fun m fr hp=>m≤n∧(∀i,m≤i→i<n→xs.getD i 0=ys.getD i 0)∧fr=[(0,.aN 0 1 0 n),(1,.aN 1 1 0 n),(5,.val (.int .i64 ((m:Int) - 1)))]∧hp=[(0,⟨23,false,.ints .u32 xs⟩),(1,⟨23,false,.ints .u32 ys⟩)]) n ?_ ?_ ?_
  ·kernel_rfl
  ·exact⟨aa,(fun i h1 h2=>aa),rfl,rfl⟩
  rintro j _ _ ⟨hj,heq,rfl,rfl⟩
  rw[yC (j:=j) hj heq]
  by_cases h0:j=0
  ·subst h0
   have t2:decide (((0:Nat):Int) - 1≥0)=false:=rfl
   conv=>whnf
   (repeat(first|(refine af rfl rfl ?_;conv=>whnf)))
   exact⟨aq.refl _,(fun _ _ h=>by cases h),(fun _ _ h=>by cases h)⟩
  ·obtain⟨i,rfl⟩:∃i,j=i+1:=⟨j - 1,aa⟩
   have ei:(((i+1:Nat):Int) - 1)=(i:Int):=aa
   rw[ei]
   have t2:decide ((i:Int)≥0)=true:=decide_eq_true aa
   have e1:0+(i:Int).toNat=i:=aa
   have e2:IntKind.i64.wrap ((i:Int) - 1)=(i:Int) - 1:=wrap_i64 aa aa
   by_cases b6:xs.getD i 0=ys.getD i 0
   ·have t3:(xs.getD i 0 != ys.getD i 0)=false:=by rw[b6];exact bne_self_eq_false _
    conv=>whnf
    (repeat((first|refine ag rfl rfl ?_|refine af rfl rfl ?_|refine aw aB ?_|refine And.intro Q7 ?_|rw[t2]|rw[e1]|rw[t3]|rw[e2]);conv=>whnf))
    exact⟨i,fun k=>k,[0,1,5],[0,1],aa,aB,aa,(fun q h1 h2=>by
     by_cases hq:q=i
     ·rw[hq];exact b6
     ·exact heq q aa h2),rfl,rfl⟩
   ·have t3:(xs.getD i 0 != ys.getD i 0)=true:=bne_iff_ne.2 b6
    by_cases aA:xs.getD i 0<ys.getD i 0
    ·have t4:decide (xs.getD i 0<ys.getD i 0)=true:=decide_eq_true aA
     have:=wG hx hy aA
     rw[Int.sign_eq_neg_one_of_neg aa]
     conv=>whnf
     (repeat((first|refine ag rfl rfl ?_|refine aw aB ?_|refine And.intro Q7 ?_|rw[t2]|rw[e1]|rw[t3]|rw[t4]);conv=>whnf))
     exact⟨aq.refl _,(fun _ _ h=>by cases h),(fun _ _ h=>by cases h)⟩
    ·have t4:decide (xs.getD i 0<ys.getD i 0)=false:=decide_eq_false aA
     have:=wG hy hx (j:=i) aa
     rw[Int.sign_eq_one_of_pos aa]
     conv=>whnf
     (repeat((first|refine ag rfl rfl ?_|refine af rfl rfl ?_|refine aw aB ?_|refine And.intro Q7 ?_|rw[t2]|rw[e1]|rw[t3]|rw[t4]);conv=>whnf))
     exact⟨aq.refl _,(fun _ _ h=>by cases h),(fun _ _ h=>by cases h)⟩
 ·have t1:(((n:Nat):Int) != (m:Nat))=true:=bne_iff_ne.2 aa
  have e0:IntKind.i64.wrap ((n:Int) - m)=(n:Int) - m:=wrap_i64 aa aa
  have k1:=Yh ((n:Int) - m)
  have e:((n:Int) - m).sign=(az xs n - az ys m).sign:=by
   by_cases h:n<m
   ·have:=uj hx hy h (hyt.resolve_left aa)
    rw[Int.sign_eq_neg_one_of_neg aa,Int.sign_eq_neg_one_of_neg aa]
   ·have:=uj hy hx (show m<n by omega) (hxt.resolve_left aa)
    rw[Int.sign_eq_one_of_pos aa,Int.sign_eq_one_of_pos aa]
  rw[e]at k1
  (repeat((first|refine ag rfl rfl ?_|refine aS (by assumption) ?_|rw[t1]|rw[e0]);conv=>whnf))
  exact⟨aq.refl _,(fun _ _ h=>by cases h),(fun _ _ h=>by cases h)⟩
theorem D3 (n:Nat):(ae n).length=0∨(cw n).getD ((ae n).length - 1) 0≠0:=by
 by_cases h:n=0
 ·subst h;exact .inl rfl
 ·obtain⟨h1,h2⟩:=lX h
  exact .inr (by rw[dT aa];exact h2)
theorem Fp {n M:Nat} (h:sz n≤32*M):(ae n).length≤M:=gF (by
 have:=eW.1 h
 rwa [Nat.pow_mul]at this)
theorem rX (n:Nat) {M:Nat} (h:(ae n).length≤M) (h2:2≤M):(cw n).length≤M:=by
 unfold cw
 split
 ·exact h2
 ·exact h
theorem Ce (a b:Nat) (ha:(ae a).length<1099511627776) (hb:(ae b).length<1099511627776):
  ab Tryz.prog 182 [.nat a,.nat b] [] (.val (.int .i64 ((a:Int) - b).sign)) [] []:=by
 by_cases h:a<18446744073709551616∧b<18446744073709551616
 ·exact Jo a b h.1 h.2
 ·have ka:=gY a 1001 ha
  have kb:=gY b 1002 hb
  have kc:=ab2 (cw a) (cw b) (ae a).length (ae b).length (cD a) (cD b) (by have:=rX a (M:=1099511627776) aa aa;omega) (by have:=rX b (M:=1099511627776) aa aa;omega) (l8 a) (l8 b) (D3 a) (D3 b) 1001 1002 true true
  rw[wF,wF]at kc
  refine bP [] Tryz.func182 ?_
  intro W0 w0 ρ0 hE
  conv=>whnf
  by_cases h1:a<18446744073709551616
  ·rw[dw,decide_eq_true h1]
   (repeat(first|(refine ag rfl rfl ?_;conv=>whnf)|(refine ak jJ ?_;conv=>whnf)))
   rw[dw,decide_eq_false (show ¬b<18446744073709551616 by omega)]
   (repeat((first|refine af rfl rfl ?_|refine aw aB ?_|refine mK (by assumption) rfl ?_|refine aad (by assumption) rfl rfl ?_);conv=>whnf));exact aq.refl _
  ·rw[dw,decide_eq_false h1]
   (repeat((first|refine af rfl rfl ?_|refine aw aB ?_|refine mK (by assumption) rfl ?_|refine aad (by assumption) rfl rfl ?_|refine ak jo ?_);conv=>whnf));exact aq.refl _
theorem cH (n:Nat) {k:Nat} (h:(ae n).length≤k):az (ae n) k=n:=by
 rw[eE (k:=(ae n).length) (fun i h1 _=>dR h1) h,eN]
theorem GX (n:Nat):(cw n).take (ae n).length=ae n:=by
 refine List.ext_getElem? fun i=> ?_
 have hl:=cD n
 by_cases hi:i<(ae n).length
 ·have h:=dT (n:=n) hi
  rw[List.getD_eq_getElem?_getD,List.getD_eq_getElem?_getD,List.getElem?_eq_getElem hi,List.getElem?_eq_getElem (show i<(cw n).length by omega)]at h
  rw[List.getElem?_take,if_pos hi,List.getElem?_eq_getElem hi,List.getElem?_eq_getElem (show i<(cw n).length by omega)]
  simpa using h
 ·rw[List.getElem?_eq_none (l:=ae n) aa,List.getElem?_eq_none (by rw[List.length_take];omega)]
theorem gH (n:Nat):ud (.ints .u32 (List.replicate ((ae n).length+1) 0)) 0 (.ints .u32 (cw n)) 0 (ae n).length=some (.ints .u32 (ae n++[0])):=by
 simp only[ud,if_true,List.take_zero,List.nil_append,List.drop_zero,Nat.zero_add,GX,List.drop_replicate]
 rw[show(ae n).length+1 - (ae n).length=1 from by omega]
 rfl
theorem l9 {xs:List Int} (h:fK xs):fK (xs++[0]):=by
 intro i
 rw[jb]
 split
 ·exact h i
 ·cases i - xs.length with
  |zero=>decide
  |succ j=>simp
theorem jV (xs:List Int) (j:Nat):(xs++[0]).getD j 0=xs.getD j 0:=by
 rw[jb]
 split
 ·rfl
 ·rename_i h
  rw[dR (xs:=xs) aa]
  cases j - xs.length<;>simp
theorem ma {X Y out:List Int} {i o w c:Nat} (hi:i<out.length) (ho:out.getD i 0=o) (hX:X.getD i 0=o) (hY:Y.getD i 0=w) (hv:az out i+c*4294967296^i=az X i+az Y i):
  az (out.set i (((o+w+c) % 4294967296:Nat):Int)) (i+1)+(((o+w+c)/4294967296:Nat):Int)*4294967296^(i+1)=az X (i+1)+az Y (i+1):=by
 rw[az,az,az,da (Nat.le_refl i),aW,if_pos ⟨rfl,hi⟩,hX,hY,Int.pow_succ]
 have hd:(((o+w+c) % 4294967296:Nat):Int)=(o:Int)+w+c - (((o+w+c)/4294967296:Nat):Int)*4294967296:=aa
 rw[hd]
 generalize (((o+w+c)/4294967296:Nat):Int)=q
 generalize (4294967296:Int)^i=P at*
 grind
theorem oG {x y lx ly c:Nat} {v:Int} (hc:c≤1) (h0:0≤v) (hv:v+c*4294967296^(lx+1)=x+y) (hx:x<4294967296^lx) (hy:y<4294967296^ly) (hl:ly≤lx):v.toNat=x+y:=by
 have h1:4294967296^ly≤4294967296^lx:=Nat.pow_le_pow_right aF hl
 have h2:(4294967296:Int)^(lx+1)=((4294967296^lx:Nat):Int)*4294967296:=by rw[cS,Int.pow_succ]
 rw[h2]at hv
 have nx:c=0∨c=1:=aa
 rcases nx with rfl|rfl<;>omega
theorem QC (a b:Nat) (ha:(ae a).length<549755813888) (hb:(ae b).length<549755813888):
  ab Tryz.prog 297 [.nat a,.nat b] [] (.nat (a+b)) [] []:=by
 by_cases hs:a+b<18446744073709551616
 ·exact abT a b hs
 ·have ka:=gY a 1001 aa
  have kb:=gY b 1002 aa
  refine bP [] Tryz.func297 ?_
  intro W0 w0 ρ0 hE
  conv=>whnf
  by_cases h1:a<18446744073709551616
  ·rw[dw,decide_eq_true h1]
   (repeat(first|(refine ag rfl rfl ?_;conv=>whnf)|(refine ak jJ ?_;conv=>whnf)))
   by_cases h2:b<18446744073709551616
   ·rw[dw,decide_eq_true h2]
    have k64:=Fm a b h1 h2
    rw[show(a+b)/18446744073709551616=1 from by omega]at k64
    (repeat((first|refine ag rfl rfl ?_|refine af rfl rfl ?_|refine aw aB ?_|refine aS (by assumption) ?_|refine mK (by assumption) rfl ?_|rw[cp h1]|rw[cp h2]);conv=>whnf))
    skip
    by_cases hl:(ae a).length<(ae b).length
    ·rw[decide_eq_true (show((ae a).length:Int)<((ae b).length:Int) by omega)]
     have ew:IntKind.i64.wrap (((ae b).length:Int)+1)=(((ae b).length+1:Nat):Int):=by rw[wrap_i64 aa aa];omega
     (repeat(first|(refine ag rfl rfl ?_;conv=>whnf)|(refine And.intro Q7 ?_;conv=>whnf)|(rw[ew];conv=>whnf)))
     refine⟨_,[(47,⟨23,true,.ints .u32 (List.replicate ((ae b).length+1) 0)⟩),(1002,⟨23,true,.ints .u32 (cw b)⟩)],[],[(47,⟨23,true,.ints .u32 (ae b++[0])⟩)],oE (c:=(ae b).length) (n:=(ae b).length+1) rfl rfl rfl (aj rfl) (aj rfl) (aL.get (t:=316) rfl) rfl (aL.get (t:=23) rfl) (List.mem_cons_self ..) (List.mem_cons_of_mem _ (List.mem_cons_self ..)) rfl rfl rfl rfl (by simp[eR]) (by show 0+_≤(cw b).length;have:=cD b;omega) (Nat.min_eq_left (Nat.le_succ _)).symm (gH b),fW rfl rfl,ar,dp (List.mem_cons_self ..) rfl rfl rfl, ?_⟩
     conv=>whnf
     skip
     refine ai hE (fun k=>k) [4,8,9,10,52,53] [4,1001,47] (fun m fr hp=>∃(i:Nat) (out:List Int) (c:Nat),m=(ae b).length+1 - i∧i≤(ae b).length+1∧c≤1∧out.length=(ae b).length+1∧fK out∧(∀j,i≤j→out.getD j 0=(ae b).getD j 0)∧az out i+c*4294967296^i=az (ae b) i+az (ae a) i∧
      fr=[(4,.ptr 4 0 0 0),(8,.aN 1001 1 0 (ae a).length),(9,.aN 47 1 0 ((ae b).length+1)),(10,.val (.int .u32 c)),(52,.val (.int .i64 (((ae b).length+1:Nat)))),(53,.val (.int .i64 i))]∧hp=[(4,⟨46,true,.one [.nat 0]⟩),(1001,⟨23,true,.ints .u32 (cw a)⟩),(47,⟨23,true,.ints .u32 out⟩)]) ((ae b).length+1) ?_ ?_ ?_
     ·kernel_rfl
     ·exact⟨0,ae b++[0],0,aa,aa,aa,by simp,l9 (aZ b),(fun j _=>jV _ j),by simp[az],rfl,rfl⟩
     rintro m _ _ ⟨i,out,c,rfl,hi,hc,hlen,hw,cv,b7,rfl,rfl⟩
     by_cases aA:i<(ae b).length+1
     ·have t1:decide ((i:Int)<(((ae b).length+1:Nat):Int))=true:=decide_eq_true aa
      have e1:0+(i:Int).toNat=i:=aa
      have e2:IntKind.i64.wrap ((i:Int)+1)=((i+1:Nat):Int):=by rw[wrap_i64 aa aa];omega
      obtain⟨o,ho⟩:=Int.eq_ofNat_of_zero_le (hw i).1
      obtain⟨w,hww⟩:=Int.eq_ofNat_of_zero_le (aZ a i).1
      have QD:=(hw i).2
      have mz:=(aZ a i).2
      have Mu:=ln o w c aa aa hc
      have hX:(ae b).getD i 0=o:=by rw[←cv i (Nat.le_refl _)];exact ho
      have cJ:=ma aa ho hX hww b7
      have nx:(o+w+c)/4294967296≤1:=aa
      have dF:∀j,i+1≤j→(out.set i (((o+w+c) % 4294967296:Nat):Int)).getD j 0=(ae b).getD j 0:=fun j hj=>by
       rw[aW,if_neg aa];exact cv j aa
      by_cases hy:i<(ae a).length
      ·have t2:decide ((i:Int)<((ae a).length:Int))=true:=decide_eq_true aa
       have H4:=cD a
       have e3:(cw a).getD i 0=(w:Int):=by rw[dT hy];exact hww
       conv=>whnf
       (repeat((first|refine ag rfl rfl ?_|refine And.intro Q7 ?_|refine aS (by assumption) ?_|rw[t1]|rw[t2]|rw[e1]|rw[e3]|rw[ho]);conv=>whnf))
       rw[e2]
       exact⟨(ae b).length+1 - (i+1),fun k=>k,[4,8,9,10,52,53],[4,1001,47],aa,aB,i+1,_,_,rfl,aa,nx,by simpa using hlen,hw.set aa aa,dF,cJ,rfl,rfl⟩
      ·have t2:decide ((i:Int)<((ae a).length:Int))=false:=decide_eq_false aa
       have Fa:w=0:=by have:=dR (xs:=ae a) (i:=i) aa;omega
       subst Fa
       conv=>whnf
       (repeat((first|refine ag rfl rfl ?_|refine af rfl rfl ?_|refine And.intro Q7 ?_|refine aS (by assumption) ?_|rw[t1]|rw[t2]|rw[e1]|rw[ho]);conv=>whnf))
       rw[e2]
       exact⟨(ae b).length+1 - (i+1),fun k=>k,[4,8,9,10,52,53],[4,1001,47],aa,aB,i+1,_,_,rfl,aa,nx,by simpa using hlen,hw.set aa aa,dF,cJ,rfl,rfl⟩
     ·have jU:i=(ae b).length+1:=aa
      subst jU
      have t1:decide ((((ae b).length+1:Nat):Int)<(((ae b).length+1:Nat):Int))=false:=decide_eq_false aa
      rw[cH b aa,cH a aa]at b7
      have kV:(az out ((ae b).length+1)).toNat=a+b:=by
       have:=oG hc (b8 hw _) b7 (cf b) (cf a) aa
       omega
      have Cf:=rW out ((ae b).length+1) aa aa hw 47 true
      rw[kV]at Cf
      conv=>whnf
      (repeat(first|(refine af rfl rfl ?_;conv=>whnf)|(refine kU (by assumption) rfl ?_;conv=>whnf)|(rw[t1];conv=>whnf)))
      exact aq.refl _
    ·rw[decide_eq_false (show ¬((ae a).length:Int)<((ae b).length:Int) by omega)]
     have ew:IntKind.i64.wrap (((ae a).length:Int)+1)=(((ae a).length+1:Nat):Int):=by rw[wrap_i64 aa aa];omega
     (repeat(first|(refine af rfl rfl ?_;conv=>whnf)|(refine And.intro Q7 ?_;conv=>whnf)|(rw[ew];conv=>whnf)))
     refine⟨_,[(47,⟨23,true,.ints .u32 (List.replicate ((ae a).length+1) 0)⟩),(1001,⟨23,true,.ints .u32 (cw a)⟩)],[],[(47,⟨23,true,.ints .u32 (ae a++[0])⟩)],oE (c:=(ae a).length) (n:=(ae a).length+1) rfl rfl rfl (aj rfl) (aj rfl) (aL.get (t:=316) rfl) rfl (aL.get (t:=23) rfl) (List.mem_cons_self ..) (List.mem_cons_of_mem _ (List.mem_cons_self ..)) rfl rfl rfl rfl (by simp[eR]) (by show 0+_≤(cw a).length;have:=cD a;omega) (Nat.min_eq_left (Nat.le_succ _)).symm (gH a),fW rfl rfl,ar,dp (List.mem_cons_self ..) rfl rfl rfl, ?_⟩
     conv=>whnf
     skip
     refine ai hE (fun k=>k) [4,8,9,10,52,53] [4,1002,47] (fun m fr hp=>∃(i:Nat) (out:List Int) (c:Nat),m=(ae a).length+1 - i∧i≤(ae a).length+1∧c≤1∧out.length=(ae a).length+1∧fK out∧(∀j,i≤j→out.getD j 0=(ae a).getD j 0)∧az out i+c*4294967296^i=az (ae a) i+az (ae b) i∧
      fr=[(4,.ptr 4 0 0 0),(8,.aN 1002 1 0 (ae b).length),(9,.aN 47 1 0 ((ae a).length+1)),(10,.val (.int .u32 c)),(52,.val (.int .i64 (((ae a).length+1:Nat)))),(53,.val (.int .i64 i))]∧hp=[(4,⟨46,true,.one [.nat 0]⟩),(1002,⟨23,true,.ints .u32 (cw b)⟩),(47,⟨23,true,.ints .u32 out⟩)]) ((ae a).length+1) ?_ ?_ ?_
     ·kernel_rfl
     ·exact⟨0,ae a++[0],0,aa,aa,aa,by simp,l9 (aZ a),(fun j _=>jV _ j),by simp[az],rfl,rfl⟩
     rintro m _ _ ⟨i,out,c,rfl,hi,hc,hlen,hw,cv,b7,rfl,rfl⟩
     by_cases aA:i<(ae a).length+1
     ·have t1:decide ((i:Int)<(((ae a).length+1:Nat):Int))=true:=decide_eq_true aa
      have e1:0+(i:Int).toNat=i:=aa
      have e2:IntKind.i64.wrap ((i:Int)+1)=((i+1:Nat):Int):=by rw[wrap_i64 aa aa];omega
      obtain⟨o,ho⟩:=Int.eq_ofNat_of_zero_le (hw i).1
      obtain⟨w,hww⟩:=Int.eq_ofNat_of_zero_le (aZ b i).1
      have QD:=(hw i).2
      have mz:=(aZ b i).2
      have Mu:=ln o w c aa aa hc
      have hX:(ae a).getD i 0=o:=by rw[←cv i (Nat.le_refl _)];exact ho
      have cJ:=ma aa ho hX hww b7
      have nx:(o+w+c)/4294967296≤1:=aa
      have dF:∀j,i+1≤j→(out.set i (((o+w+c) % 4294967296:Nat):Int)).getD j 0=(ae a).getD j 0:=fun j hj=>by
       rw[aW,if_neg aa];exact cv j aa
      by_cases hy:i<(ae b).length
      ·have t2:decide ((i:Int)<((ae b).length:Int))=true:=decide_eq_true aa
       have H4:=cD b
       have e3:(cw b).getD i 0=(w:Int):=by rw[dT hy];exact hww
       conv=>whnf
       (repeat((first|refine ag rfl rfl ?_|refine And.intro Q7 ?_|refine aS (by assumption) ?_|rw[t1]|rw[t2]|rw[e1]|rw[e3]|rw[ho]);conv=>whnf))
       rw[e2]
       exact⟨(ae a).length+1 - (i+1),fun k=>k,[4,8,9,10,52,53],[4,1002,47],aa,aB,i+1,_,_,rfl,aa,nx,by simpa using hlen,hw.set aa aa,dF,cJ,rfl,rfl⟩
      ·have t2:decide ((i:Int)<((ae b).length:Int))=false:=decide_eq_false aa
       have Fa:w=0:=by have:=dR (xs:=ae b) (i:=i) aa;omega
       subst Fa
       conv=>whnf
       (repeat((first|refine ag rfl rfl ?_|refine af rfl rfl ?_|refine And.intro Q7 ?_|refine aS (by assumption) ?_|rw[t1]|rw[t2]|rw[e1]|rw[ho]);conv=>whnf))
       rw[e2]
       exact⟨(ae a).length+1 - (i+1),fun k=>k,[4,8,9,10,52,53],[4,1002,47],aa,aB,i+1,_,_,rfl,aa,nx,by simpa using hlen,hw.set aa aa,dF,cJ,rfl,rfl⟩
     ·have jU:i=(ae a).length+1:=aa
      subst jU
      have t1:decide ((((ae a).length+1:Nat):Int)<(((ae a).length+1:Nat):Int))=false:=decide_eq_false aa
      rw[cH a aa,cH b aa]at b7
      have kV:(az out ((ae a).length+1)).toNat=a+b:=by
       have:=oG hc (b8 hw _) b7 (cf a) (cf b) aa
       omega
      have Cf:=rW out ((ae a).length+1) aa aa hw 47 true
      rw[kV]at Cf
      conv=>whnf
      (repeat(first|(refine af rfl rfl ?_;conv=>whnf)|(refine kU (by assumption) rfl ?_;conv=>whnf)|(rw[t1];conv=>whnf)))
      exact aq.refl _
   ·rw[dw,decide_eq_false h2]
    (repeat(first|(refine af rfl rfl ?_;conv=>whnf)|(refine aw aB ?_;conv=>whnf)|(refine mK (by assumption) rfl ?_;conv=>whnf)))
    by_cases hl:(ae a).length<(ae b).length
    ·rw[decide_eq_true (show((ae a).length:Int)<((ae b).length:Int) by omega)]
     have ew:IntKind.i64.wrap (((ae b).length:Int)+1)=(((ae b).length+1:Nat):Int):=by rw[wrap_i64 aa aa];omega
     (repeat(first|(refine ag rfl rfl ?_;conv=>whnf)|(refine And.intro Q7 ?_;conv=>whnf)|(rw[ew];conv=>whnf)))
     refine⟨_,[(47,⟨23,true,.ints .u32 (List.replicate ((ae b).length+1) 0)⟩),(1002,⟨23,true,.ints .u32 (cw b)⟩)],[],[(47,⟨23,true,.ints .u32 (ae b++[0])⟩)],oE (c:=(ae b).length) (n:=(ae b).length+1) rfl rfl rfl (aj rfl) (aj rfl) (aL.get (t:=316) rfl) rfl (aL.get (t:=23) rfl) (List.mem_cons_self ..) (List.mem_cons_of_mem _ (List.mem_cons_self ..)) rfl rfl rfl rfl (by simp[eR]) (by show 0+_≤(cw b).length;have:=cD b;omega) (Nat.min_eq_left (Nat.le_succ _)).symm (gH b),fW rfl rfl,ar,dp (List.mem_cons_self ..) rfl rfl rfl, ?_⟩
     conv=>whnf
     skip
     refine ai hE (fun k=>k) [4,8,9,10,52,53] [4,1001,47] (fun m fr hp=>∃(i:Nat) (out:List Int) (c:Nat),m=(ae b).length+1 - i∧i≤(ae b).length+1∧c≤1∧out.length=(ae b).length+1∧fK out∧(∀j,i≤j→out.getD j 0=(ae b).getD j 0)∧az out i+c*4294967296^i=az (ae b) i+az (ae a) i∧
      fr=[(4,.ptr 4 0 0 0),(8,.aN 1001 1 0 (ae a).length),(9,.aN 47 1 0 ((ae b).length+1)),(10,.val (.int .u32 c)),(52,.val (.int .i64 (((ae b).length+1:Nat)))),(53,.val (.int .i64 i))]∧hp=[(4,⟨46,true,.one [.nat 0]⟩),(1001,⟨23,true,.ints .u32 (cw a)⟩),(47,⟨23,true,.ints .u32 out⟩)]) ((ae b).length+1) ?_ ?_ ?_
     ·kernel_rfl
     ·exact⟨0,ae b++[0],0,aa,aa,aa,by simp,l9 (aZ b),(fun j _=>jV _ j),by simp[az],rfl,rfl⟩
     rintro m _ _ ⟨i,out,c,rfl,hi,hc,hlen,hw,cv,b7,rfl,rfl⟩
     by_cases aA:i<(ae b).length+1
     ·have t1:decide ((i:Int)<(((ae b).length+1:Nat):Int))=true:=decide_eq_true aa
      have e1:0+(i:Int).toNat=i:=aa
      have e2:IntKind.i64.wrap ((i:Int)+1)=((i+1:Nat):Int):=by rw[wrap_i64 aa aa];omega
      obtain⟨o,ho⟩:=Int.eq_ofNat_of_zero_le (hw i).1
      obtain⟨w,hww⟩:=Int.eq_ofNat_of_zero_le (aZ a i).1
      have QD:=(hw i).2
      have mz:=(aZ a i).2
      have Mu:=ln o w c aa aa hc
      have hX:(ae b).getD i 0=o:=by rw[←cv i (Nat.le_refl _)];exact ho
      have cJ:=ma aa ho hX hww b7
      have nx:(o+w+c)/4294967296≤1:=aa
      have dF:∀j,i+1≤j→(out.set i (((o+w+c) % 4294967296:Nat):Int)).getD j 0=(ae b).getD j 0:=fun j hj=>by
       rw[aW,if_neg aa];exact cv j aa
      by_cases hy:i<(ae a).length
      ·have t2:decide ((i:Int)<((ae a).length:Int))=true:=decide_eq_true aa
       have H4:=cD a
       have e3:(cw a).getD i 0=(w:Int):=by rw[dT hy];exact hww
       conv=>whnf
       (repeat((first|refine ag rfl rfl ?_|refine And.intro Q7 ?_|refine aS (by assumption) ?_|rw[t1]|rw[t2]|rw[e1]|rw[e3]|rw[ho]);conv=>whnf))
       rw[e2]
       exact⟨(ae b).length+1 - (i+1),fun k=>k,[4,8,9,10,52,53],[4,1001,47],aa,aB,i+1,_,_,rfl,aa,nx,by simpa using hlen,hw.set aa aa,dF,cJ,rfl,rfl⟩
      ·have t2:decide ((i:Int)<((ae a).length:Int))=false:=decide_eq_false aa
       have Fa:w=0:=by have:=dR (xs:=ae a) (i:=i) aa;omega
       subst Fa
       conv=>whnf
       (repeat((first|refine ag rfl rfl ?_|refine af rfl rfl ?_|refine And.intro Q7 ?_|refine aS (by assumption) ?_|rw[t1]|rw[t2]|rw[e1]|rw[ho]);conv=>whnf))
       rw[e2]
       exact⟨(ae b).length+1 - (i+1),fun k=>k,[4,8,9,10,52,53],[4,1001,47],aa,aB,i+1,_,_,rfl,aa,nx,by simpa using hlen,hw.set aa aa,dF,cJ,rfl,rfl⟩
     ·have jU:i=(ae b).length+1:=aa
      subst jU
      have t1:decide ((((ae b).length+1:Nat):Int)<(((ae b).length+1:Nat):Int))=false:=decide_eq_false aa
      rw[cH b aa,cH a aa]at b7
      have kV:(az out ((ae b).length+1)).toNat=a+b:=by
       have:=oG hc (b8 hw _) b7 (cf b) (cf a) aa
       omega
      have Cf:=rW out ((ae b).length+1) aa aa hw 47 true
      rw[kV]at Cf
      conv=>whnf
      (repeat(first|(refine af rfl rfl ?_;conv=>whnf)|(refine kU (by assumption) rfl ?_;conv=>whnf)|(rw[t1];conv=>whnf)))
      exact aq.refl _
    ·rw[decide_eq_false (show ¬((ae a).length:Int)<((ae b).length:Int) by omega)]
     have ew:IntKind.i64.wrap (((ae a).length:Int)+1)=(((ae a).length+1:Nat):Int):=by rw[wrap_i64 aa aa];omega
     (repeat(first|(refine af rfl rfl ?_;conv=>whnf)|(refine And.intro Q7 ?_;conv=>whnf)|(rw[ew];conv=>whnf)))
     refine⟨_,[(47,⟨23,true,.ints .u32 (List.replicate ((ae a).length+1) 0)⟩),(1001,⟨23,true,.ints .u32 (cw a)⟩)],[],[(47,⟨23,true,.ints .u32 (ae a++[0])⟩)],oE (c:=(ae a).length) (n:=(ae a).length+1) rfl rfl rfl (aj rfl) (aj rfl) (aL.get (t:=316) rfl) rfl (aL.get (t:=23) rfl) (List.mem_cons_self ..) (List.mem_cons_of_mem _ (List.mem_cons_self ..)) rfl rfl rfl rfl (by simp[eR]) (by show 0+_≤(cw a).length;have:=cD a;omega) (Nat.min_eq_left (Nat.le_succ _)).symm (gH a),fW rfl rfl,ar,dp (List.mem_cons_self ..) rfl rfl rfl, ?_⟩
     conv=>whnf
     skip
     refine ai hE (fun k=>k) [4,8,9,10,52,53] [4,1002,47] (fun m fr hp=>∃(i:Nat) (out:List Int) (c:Nat),m=(ae a).length+1 - i∧i≤(ae a).length+1∧c≤1∧out.length=(ae a).length+1∧fK out∧(∀j,i≤j→out.getD j 0=(ae a).getD j 0)∧az out i+c*4294967296^i=az (ae a) i+az (ae b) i∧
      fr=[(4,.ptr 4 0 0 0),(8,.aN 1002 1 0 (ae b).length),(9,.aN 47 1 0 ((ae a).length+1)),(10,.val (.int .u32 c)),(52,.val (.int .i64 (((ae a).length+1:Nat)))),(53,.val (.int .i64 i))]∧hp=[(4,⟨46,true,.one [.nat 0]⟩),(1002,⟨23,true,.ints .u32 (cw b)⟩),(47,⟨23,true,.ints .u32 out⟩)]) ((ae a).length+1) ?_ ?_ ?_
     ·kernel_rfl
     ·exact⟨0,ae a++[0],0,aa,aa,aa,by simp,l9 (aZ a),(fun j _=>jV _ j),by simp[az],rfl,rfl⟩
     rintro m _ _ ⟨i,out,c,rfl,hi,hc,hlen,hw,cv,b7,rfl,rfl⟩
     by_cases aA:i<(ae a).length+1
     ·have t1:decide ((i:Int)<(((ae a).length+1:Nat):Int))=true:=decide_eq_true aa
      have e1:0+(i:Int).toNat=i:=aa
      have e2:IntKind.i64.wrap ((i:Int)+1)=((i+1:Nat):Int):=by rw[wrap_i64 aa aa];omega
      obtain⟨o,ho⟩:=Int.eq_ofNat_of_zero_le (hw i).1
      obtain⟨w,hww⟩:=Int.eq_ofNat_of_zero_le (aZ b i).1
      have QD:=(hw i).2
      have mz:=(aZ b i).2
      have Mu:=ln o w c aa aa hc
      have hX:(ae a).getD i 0=o:=by rw[←cv i (Nat.le_refl _)];exact ho
      have cJ:=ma aa ho hX hww b7
      have nx:(o+w+c)/4294967296≤1:=aa
      have dF:∀j,i+1≤j→(out.set i (((o+w+c) % 4294967296:Nat):Int)).getD j 0=(ae a).getD j 0:=fun j hj=>by
       rw[aW,if_neg aa];exact cv j aa
      by_cases hy:i<(ae b).length
      ·have t2:decide ((i:Int)<((ae b).length:Int))=true:=decide_eq_true aa
       have H4:=cD b
       have e3:(cw b).getD i 0=(w:Int):=by rw[dT hy];exact hww
       conv=>whnf
       (repeat((first|refine ag rfl rfl ?_|refine And.intro Q7 ?_|refine aS (by assumption) ?_|rw[t1]|rw[t2]|rw[e1]|rw[e3]|rw[ho]);conv=>whnf))
       rw[e2]
       exact⟨(ae a).length+1 - (i+1),fun k=>k,[4,8,9,10,52,53],[4,1002,47],aa,aB,i+1,_,_,rfl,aa,nx,by simpa using hlen,hw.set aa aa,dF,cJ,rfl,rfl⟩
      ·have t2:decide ((i:Int)<((ae b).length:Int))=false:=decide_eq_false aa
       have Fa:w=0:=by have:=dR (xs:=ae b) (i:=i) aa;omega
       subst Fa
       conv=>whnf
       (repeat((first|refine ag rfl rfl ?_|refine af rfl rfl ?_|refine And.intro Q7 ?_|refine aS (by assumption) ?_|rw[t1]|rw[t2]|rw[e1]|rw[ho]);conv=>whnf))
       rw[e2]
       exact⟨(ae a).length+1 - (i+1),fun k=>k,[4,8,9,10,52,53],[4,1002,47],aa,aB,i+1,_,_,rfl,aa,nx,by simpa using hlen,hw.set aa aa,dF,cJ,rfl,rfl⟩
     ·have jU:i=(ae a).length+1:=aa
      subst jU
      have t1:decide ((((ae a).length+1:Nat):Int)<(((ae a).length+1:Nat):Int))=false:=decide_eq_false aa
      rw[cH a aa,cH b aa]at b7
      have kV:(az out ((ae a).length+1)).toNat=a+b:=by
       have:=oG hc (b8 hw _) b7 (cf a) (cf b) aa
       omega
      have Cf:=rW out ((ae a).length+1) aa aa hw 47 true
      rw[kV]at Cf
      conv=>whnf
      (repeat(first|(refine af rfl rfl ?_;conv=>whnf)|(refine kU (by assumption) rfl ?_;conv=>whnf)|(rw[t1];conv=>whnf)))
      exact aq.refl _
  ·rw[dw,decide_eq_false h1]
   (repeat((first|refine af rfl rfl ?_|refine aw aB ?_|refine mK (by assumption) rfl ?_|refine ak jo ?_);conv=>whnf))
   by_cases hl:(ae a).length<(ae b).length
   ·rw[decide_eq_true (show((ae a).length:Int)<((ae b).length:Int) by omega)]
    have ew:IntKind.i64.wrap (((ae b).length:Int)+1)=(((ae b).length+1:Nat):Int):=by rw[wrap_i64 aa aa];omega
    (repeat(first|(refine ag rfl rfl ?_;conv=>whnf)|(refine And.intro Q7 ?_;conv=>whnf)|(rw[ew];conv=>whnf)))
    refine⟨_,[(47,⟨23,true,.ints .u32 (List.replicate ((ae b).length+1) 0)⟩),(1002,⟨23,true,.ints .u32 (cw b)⟩)],[],[(47,⟨23,true,.ints .u32 (ae b++[0])⟩)],oE (c:=(ae b).length) (n:=(ae b).length+1) rfl rfl rfl (aj rfl) (aj rfl) (aL.get (t:=316) rfl) rfl (aL.get (t:=23) rfl) (List.mem_cons_self ..) (List.mem_cons_of_mem _ (List.mem_cons_self ..)) rfl rfl rfl rfl (by simp[eR]) (by show 0+_≤(cw b).length;have:=cD b;omega) (Nat.min_eq_left (Nat.le_succ _)).symm (gH b),fW rfl rfl,ar,dp (List.mem_cons_self ..) rfl rfl rfl, ?_⟩
    conv=>whnf
    skip
    refine ai hE (fun k=>k) [4,8,9,10,52,53] [4,1001,47] (fun m fr hp=>∃(i:Nat) (out:List Int) (c:Nat),m=(ae b).length+1 - i∧i≤(ae b).length+1∧c≤1∧out.length=(ae b).length+1∧fK out∧(∀j,i≤j→out.getD j 0=(ae b).getD j 0)∧az out i+c*4294967296^i=az (ae b) i+az (ae a) i∧
     fr=[(4,.ptr 4 0 0 0),(8,.aN 1001 1 0 (ae a).length),(9,.aN 47 1 0 ((ae b).length+1)),(10,.val (.int .u32 c)),(52,.val (.int .i64 (((ae b).length+1:Nat)))),(53,.val (.int .i64 i))]∧hp=[(4,⟨46,true,.one [.nat 0]⟩),(1001,⟨23,true,.ints .u32 (cw a)⟩),(47,⟨23,true,.ints .u32 out⟩)]) ((ae b).length+1) ?_ ?_ ?_
    ·kernel_rfl
    ·exact⟨0,ae b++[0],0,aa,aa,aa,by simp,l9 (aZ b),(fun j _=>jV _ j),by simp[az],rfl,rfl⟩
    rintro m _ _ ⟨i,out,c,rfl,hi,hc,hlen,hw,cv,b7,rfl,rfl⟩
    by_cases aA:i<(ae b).length+1
    ·have t1:decide ((i:Int)<(((ae b).length+1:Nat):Int))=true:=decide_eq_true aa
     have e1:0+(i:Int).toNat=i:=aa
     have e2:IntKind.i64.wrap ((i:Int)+1)=((i+1:Nat):Int):=by rw[wrap_i64 aa aa];omega
     obtain⟨o,ho⟩:=Int.eq_ofNat_of_zero_le (hw i).1
     obtain⟨w,hww⟩:=Int.eq_ofNat_of_zero_le (aZ a i).1
     have QD:=(hw i).2
     have mz:=(aZ a i).2
     have Mu:=ln o w c aa aa hc
     have hX:(ae b).getD i 0=o:=by rw[←cv i (Nat.le_refl _)];exact ho
     have cJ:=ma aa ho hX hww b7
     have nx:(o+w+c)/4294967296≤1:=aa
     have dF:∀j,i+1≤j→(out.set i (((o+w+c) % 4294967296:Nat):Int)).getD j 0=(ae b).getD j 0:=fun j hj=>by
      rw[aW,if_neg aa];exact cv j aa
     by_cases hy:i<(ae a).length
     ·have t2:decide ((i:Int)<((ae a).length:Int))=true:=decide_eq_true aa
      have H4:=cD a
      have e3:(cw a).getD i 0=(w:Int):=by rw[dT hy];exact hww
      conv=>whnf
      (repeat((first|refine ag rfl rfl ?_|refine And.intro Q7 ?_|refine aS (by assumption) ?_|rw[t1]|rw[t2]|rw[e1]|rw[e3]|rw[ho]);conv=>whnf))
      rw[e2]
      exact⟨(ae b).length+1 - (i+1),fun k=>k,[4,8,9,10,52,53],[4,1001,47],aa,aB,i+1,_,_,rfl,aa,nx,by simpa using hlen,hw.set aa aa,dF,cJ,rfl,rfl⟩
     ·have t2:decide ((i:Int)<((ae a).length:Int))=false:=decide_eq_false aa
      have Fa:w=0:=by have:=dR (xs:=ae a) (i:=i) aa;omega
      subst Fa
      conv=>whnf
      (repeat((first|refine ag rfl rfl ?_|refine af rfl rfl ?_|refine And.intro Q7 ?_|refine aS (by assumption) ?_|rw[t1]|rw[t2]|rw[e1]|rw[ho]);conv=>whnf))
      rw[e2]
      exact⟨(ae b).length+1 - (i+1),fun k=>k,[4,8,9,10,52,53],[4,1001,47],aa,aB,i+1,_,_,rfl,aa,nx,by simpa using hlen,hw.set aa aa,dF,cJ,rfl,rfl⟩
    ·have jU:i=(ae b).length+1:=aa
     subst jU
     have t1:decide ((((ae b).length+1:Nat):Int)<(((ae b).length+1:Nat):Int))=false:=decide_eq_false aa
     rw[cH b aa,cH a aa]at b7
     have kV:(az out ((ae b).length+1)).toNat=a+b:=by
      have:=oG hc (b8 hw _) b7 (cf b) (cf a) aa
      omega
     have Cf:=rW out ((ae b).length+1) aa aa hw 47 true
     rw[kV]at Cf
     conv=>whnf
     (repeat(first|(refine af rfl rfl ?_;conv=>whnf)|(refine kU (by assumption) rfl ?_;conv=>whnf)|(rw[t1];conv=>whnf)))
     exact aq.refl _
   ·rw[decide_eq_false (show ¬((ae a).length:Int)<((ae b).length:Int) by omega)]
    have ew:IntKind.i64.wrap (((ae a).length:Int)+1)=(((ae a).length+1:Nat):Int):=by rw[wrap_i64 aa aa];omega
    (repeat(first|(refine af rfl rfl ?_;conv=>whnf)|(refine And.intro Q7 ?_;conv=>whnf)|(rw[ew];conv=>whnf)))
    refine⟨_,[(47,⟨23,true,.ints .u32 (List.replicate ((ae a).length+1) 0)⟩),(1001,⟨23,true,.ints .u32 (cw a)⟩)],[],[(47,⟨23,true,.ints .u32 (ae a++[0])⟩)],oE (c:=(ae a).length) (n:=(ae a).length+1) rfl rfl rfl (aj rfl) (aj rfl) (aL.get (t:=316) rfl) rfl (aL.get (t:=23) rfl) (List.mem_cons_self ..) (List.mem_cons_of_mem _ (List.mem_cons_self ..)) rfl rfl rfl rfl (by simp[eR]) (by show 0+_≤(cw a).length;have:=cD a;omega) (Nat.min_eq_left (Nat.le_succ _)).symm (gH a),fW rfl rfl,ar,dp (List.mem_cons_self ..) rfl rfl rfl, ?_⟩
    conv=>whnf
    skip
    refine ai hE (fun k=>k) [4,8,9,10,52,53] [4,1002,47] (fun m fr hp=>∃(i:Nat) (out:List Int) (c:Nat),m=(ae a).length+1 - i∧i≤(ae a).length+1∧c≤1∧out.length=(ae a).length+1∧fK out∧(∀j,i≤j→out.getD j 0=(ae a).getD j 0)∧az out i+c*4294967296^i=az (ae a) i+az (ae b) i∧
     fr=[(4,.ptr 4 0 0 0),(8,.aN 1002 1 0 (ae b).length),(9,.aN 47 1 0 ((ae a).length+1)),(10,.val (.int .u32 c)),(52,.val (.int .i64 (((ae a).length+1:Nat)))),(53,.val (.int .i64 i))]∧hp=[(4,⟨46,true,.one [.nat 0]⟩),(1002,⟨23,true,.ints .u32 (cw b)⟩),(47,⟨23,true,.ints .u32 out⟩)]) ((ae a).length+1) ?_ ?_ ?_
    ·kernel_rfl
    ·exact⟨0,ae a++[0],0,aa,aa,aa,by simp,l9 (aZ a),(fun j _=>jV _ j),by simp[az],rfl,rfl⟩
    rintro m _ _ ⟨i,out,c,rfl,hi,hc,hlen,hw,cv,b7,rfl,rfl⟩
    by_cases aA:i<(ae a).length+1
    ·have t1:decide ((i:Int)<(((ae a).length+1:Nat):Int))=true:=decide_eq_true aa
     have e1:0+(i:Int).toNat=i:=aa
     have e2:IntKind.i64.wrap ((i:Int)+1)=((i+1:Nat):Int):=by rw[wrap_i64 aa aa];omega
     obtain⟨o,ho⟩:=Int.eq_ofNat_of_zero_le (hw i).1
     obtain⟨w,hww⟩:=Int.eq_ofNat_of_zero_le (aZ b i).1
     have QD:=(hw i).2
     have mz:=(aZ b i).2
     have Mu:=ln o w c aa aa hc
     have hX:(ae a).getD i 0=o:=by rw[←cv i (Nat.le_refl _)];exact ho
     have cJ:=ma aa ho hX hww b7
     have nx:(o+w+c)/4294967296≤1:=aa
     have dF:∀j,i+1≤j→(out.set i (((o+w+c) % 4294967296:Nat):Int)).getD j 0=(ae a).getD j 0:=fun j hj=>by
      rw[aW,if_neg aa];exact cv j aa
     by_cases hy:i<(ae b).length
     ·have t2:decide ((i:Int)<((ae b).length:Int))=true:=decide_eq_true aa
      have H4:=cD b
      have e3:(cw b).getD i 0=(w:Int):=by rw[dT hy];exact hww
      conv=>whnf
      (repeat((first|refine ag rfl rfl ?_|refine And.intro Q7 ?_|refine aS (by assumption) ?_|rw[t1]|rw[t2]|rw[e1]|rw[e3]|rw[ho]);conv=>whnf))
      rw[e2]
      exact⟨(ae a).length+1 - (i+1),fun k=>k,[4,8,9,10,52,53],[4,1002,47],aa,aB,i+1,_,_,rfl,aa,nx,by simpa using hlen,hw.set aa aa,dF,cJ,rfl,rfl⟩
     ·have t2:decide ((i:Int)<((ae b).length:Int))=false:=decide_eq_false aa
      have Fa:w=0:=by have:=dR (xs:=ae b) (i:=i) aa;omega
      subst Fa
      conv=>whnf
      (repeat((first|refine ag rfl rfl ?_|refine af rfl rfl ?_|refine And.intro Q7 ?_|refine aS (by assumption) ?_|rw[t1]|rw[t2]|rw[e1]|rw[ho]);conv=>whnf))
      rw[e2]
      exact⟨(ae a).length+1 - (i+1),fun k=>k,[4,8,9,10,52,53],[4,1002,47],aa,aB,i+1,_,_,rfl,aa,nx,by simpa using hlen,hw.set aa aa,dF,cJ,rfl,rfl⟩
    ·have jU:i=(ae a).length+1:=aa
     subst jU
     have t1:decide ((((ae a).length+1:Nat):Int)<(((ae a).length+1:Nat):Int))=false:=decide_eq_false aa
     rw[cH a aa,cH b aa]at b7
     have kV:(az out ((ae a).length+1)).toNat=a+b:=by
      have:=oG hc (b8 hw _) b7 (cf a) (cf b) aa
      omega
     have Cf:=rW out ((ae a).length+1) aa aa hw 47 true
     rw[kV]at Cf
     conv=>whnf
     (repeat(first|(refine af rfl rfl ?_;conv=>whnf)|(refine kU (by assumption) rfl ?_;conv=>whnf)|(rw[t1];conv=>whnf)))
     exact aq.refl _
theorem Jv (a b:Nat) (ha:(ae a).length<549755813888) (hb:(ae b).length<549755813888) (h:a<b):
  ab Tryz.prog 296 [.nat a,.nat b] [] (.ct [.nat 0,.val (.bool false)]) [] []:=by
 have k1:=Ce a b aa aa
 rw[Int.sign_eq_neg_one_of_neg (show(a:Int) - b<0 by omega)]at k1
 refine bP [] Tryz.func296 ?_
 intro W0 w0 ρ0 hE
 conv=>whnf
 (repeat(first|(refine ag rfl rfl ?_;conv=>whnf)|(refine aS (by assumption) ?_;conv=>whnf)));exact aq.refl _
theorem Jw {X Y out:List Int} {i o w c:Nat} (hi:i<out.length) (ho:out.getD i 0=o) (hX:X.getD i 0=o) (hY:Y.getD i 0=w) (hv:az out i - c*4294967296^i=az X i - az Y i)
  (Mv:o<4294967296) (hwl:w<4294967296) (hc:c≤1):
  az (out.set i (((o+4294967296 - w - c) % 4294967296:Nat):Int)) (i+1) - ((if o<w+c then 1 else 0:Nat):Int)*4294967296^(i+1)=az X (i+1) - az Y (i+1):=by
 rw[az,az,az,da (Nat.le_refl i),aW,if_pos ⟨rfl,hi⟩,hX,hY,Int.pow_succ]
 have hd:(((o+4294967296 - w - c) % 4294967296:Nat):Int)=(o:Int) - w - c+((if o<w+c then 1 else 0:Nat):Int)*4294967296:=by
  split<;>omega
 rw[hd]
 generalize ((if o<w+c then 1 else 0:Nat):Int)=q
 generalize (4294967296:Int)^i=P at*
 grind
theorem QE (a b:Nat) (ha:(ae a).length<549755813888) (h:b≤a):
  ab Tryz.prog 296 [.nat a,.nat b] [] (.ct [.nat (a - b),.val (.bool true)]) [] []:=by
 by_cases hs:a<18446744073709551616
 ·exact abU a b hs h
 ·have QF:(ae b).length≤(ae a).length:=gF (Nat.lt_of_le_of_lt h (cf a))
  have k1:=Ce a b aa aa
  have ht:decide (((a:Int) - b).sign<0)=false:=decide_eq_false Q36
  have ka:=gY a 1001 aa
  have kb:=gY b 1002 aa
  refine bP [] Tryz.func296 ?_
  intro W0 w0 ρ0 hE
  conv=>whnf
  (repeat(first|(refine af rfl rfl ?_;conv=>whnf)|(refine aS (by assumption) ?_;conv=>whnf)|(rw[ht];conv=>whnf)))
  rw[dw,decide_eq_false hs]
  (repeat(first|(refine af rfl rfl ?_;conv=>whnf)|(refine aw aB ?_;conv=>whnf)|(refine mK (by assumption) rfl ?_;conv=>whnf)))
  rw[show cw a=ae a from if_neg hs]
  refine ai hE (fun k=>k) [4,6,7,8,30,31] [4,1001,1002] (fun m fr hp=>∃(i:Nat) (out:List Int) (c:Nat),m=(ae a).length - i∧i≤(ae a).length∧c≤1∧out.length=(ae a).length∧fK out∧(∀j,i≤j→out.getD j 0=(ae a).getD j 0)∧az out i - c*4294967296^i=az (ae a) i - az (ae b) i∧
   fr=[(4,.ptr 4 0 0 0),(6,.aN 1001 1 0 (ae a).length),(7,.aN 1002 1 0 (ae b).length),(8,.val (.int .u32 c)),(30,.val (.int .i64 ((ae a).length:Nat))),(31,.val (.int .i64 i))]∧hp=[(4,⟨46,true,.one [.nat 0]⟩),(1001,⟨23,true,.ints .u32 out⟩),(1002,⟨23,true,.ints .u32 (cw b)⟩)]) (ae a).length ?_ ?_ ?_
  ·kernel_rfl
  ·exact⟨0,ae a,0,aa,aa,aa,rfl,aZ a,(fun j _=>rfl),by simp[az],rfl,rfl⟩
  rintro m _ _ ⟨i,out,c,rfl,hi,hc,hlen,hw,cv,b7,rfl,rfl⟩
  by_cases aA:i<(ae a).length
  ·have t1:decide ((i:Int)<((ae a).length:Int))=true:=decide_eq_true aa
   have e1:0+(i:Int).toNat=i:=aa
   have e2:IntKind.i64.wrap ((i:Int)+1)=((i+1:Nat):Int):=by rw[wrap_i64 aa aa];omega
   obtain⟨o,ho⟩:=Int.eq_ofNat_of_zero_le (hw i).1
   obtain⟨w,hww⟩:=Int.eq_ofNat_of_zero_le (aZ b i).1
   have QD:=(hw i).2
   have mz:=(aZ b i).2
   have Mu:=Al o w c aa aa hc
   have hX:(ae a).getD i 0=o:=by rw[←cv i (Nat.le_refl _)];exact ho
   have cJ:=Jw aa ho hX hww b7 aa aa hc
   have nx:(if o<w+c then 1 else 0:Nat)≤1:=by split<;>omega
   have dF:∀j,i+1≤j→(out.set i (((o+4294967296 - w - c) % 4294967296:Nat):Int)).getD j 0=(ae a).getD j 0:=fun j hj=>by
    rw[aW,if_neg aa];exact cv j aa
   by_cases hy:i<(ae b).length
   ·have t2:decide ((i:Int)<((ae b).length:Int))=true:=decide_eq_true aa
    have H4:=cD b
    have e3:(cw b).getD i 0=(w:Int):=by rw[dT hy];exact hww
    conv=>whnf
    (repeat((first|refine ag rfl rfl ?_|refine And.intro Q7 ?_|refine aS (by assumption) ?_|rw[t1]|rw[t2]|rw[e1]|rw[e3]|rw[ho]);conv=>whnf))
    rw[e2]
    exact⟨(ae a).length - (i+1),fun k=>k,[4,6,7,8,30,31],[4,1001,1002],aa,aB,i+1,_,_,rfl,aa,nx,by simpa using hlen,hw.set aa aa,dF,cJ,rfl,rfl⟩
   ·have t2:decide ((i:Int)<((ae b).length:Int))=false:=decide_eq_false aa
    have Fa:w=0:=by have:=dR (xs:=ae b) (i:=i) aa;omega
    subst Fa
    conv=>whnf
    (repeat((first|refine ag rfl rfl ?_|refine af rfl rfl ?_|refine And.intro Q7 ?_|refine aS (by assumption) ?_|rw[t1]|rw[t2]|rw[e1]|rw[ho]);conv=>whnf))
    rw[e2]
    exact⟨(ae a).length - (i+1),fun k=>k,[4,6,7,8,30,31],[4,1001,1002],aa,aB,i+1,_,_,rfl,aa,nx,by simpa using hlen,hw.set aa aa,dF,cJ,rfl,rfl⟩
  ·have jU:i=(ae a).length:=aa
   subst jU
   have t1:decide (((ae a).length:Int)<((ae a).length:Int))=false:=decide_eq_false aa
   rw[cH a aa,cH b aa]at b7
   have kV:(az out (ae a).length).toNat=a - b:=by
    have h1:=gq hw (ae a).length
    have h2:=lW (ae a).length
    have hcc:c=0∨c=1:=aa
    rcases hcc with rfl|rfl<;>omega
   have Cf:=rW out (ae a).length aa aa hw 1001 true
   rw[kV]at Cf
   conv=>whnf
   (repeat(first|(refine af rfl rfl ?_;conv=>whnf)|(refine kU (by assumption) rfl ?_;conv=>whnf)|(rw[t1];conv=>whnf)))
   exact aq.refl _
theorem D4 (p:Nat) (h:p<340282366920938463463374607431768211456):
  az [((p % 18446744073709551616 % 4294967296:Nat):Int),((p % 18446744073709551616/4294967296:Nat):Int),((p/18446744073709551616 % 4294967296:Nat):Int),((p/18446744073709551616/4294967296:Nat):Int)] 4=p∧
  fK [((p % 18446744073709551616 % 4294967296:Nat):Int),((p % 18446744073709551616/4294967296:Nat):Int),((p/18446744073709551616 % 4294967296:Nat):Int),((p/18446744073709551616/4294967296:Nat):Int)]:=by
 constructor
 ·simp only[az,List.getD_cons_zero,List.getD_cons_succ,Int.pow_succ,Int.pow_zero]
  omega
 ·refine Ag fun x hx=> ?_
  simp only[List.mem_cons,List.not_mem_nil,or_false]at hx
  rcases hx with rfl|rfl|rfl|rfl<;>omega
theorem Nx (a b:Nat) (ha:a<18446744073709551616) (hb:b<18446744073709551616):
  ab Tryz.prog 209 [.nat a,.nat b] [] (.nat (a*b)) [] []:=by
 have k1:=Nt a b ha hb
 have hp:a*b<340282366920938463463374607431768211456:=by
  have:=Nat.mul_le_mul (show a≤18446744073709551615 by omega) (show b≤18446744073709551615 by omega)
  omega
 obtain⟨h1,h2⟩:=D4 (a*b) hp
 have e1:IntKind.u32.wrap ((a*b % 18446744073709551616:Nat):Int)=((a*b % 18446744073709551616 % 4294967296:Nat):Int):=n0 _
 have e2:IntKind.u32.wrap (jD .u64 ((a*b % 18446744073709551616:Nat):Int) 32)=((a*b % 18446744073709551616/4294967296:Nat):Int):=by rw[fL,nz aa]
 have e3:IntKind.u32.wrap ((a*b/18446744073709551616:Nat):Int)=((a*b/18446744073709551616 % 4294967296:Nat):Int):=n0 _
 have e4:IntKind.u32.wrap (jD .u64 ((a*b/18446744073709551616:Nat):Int) 32)=((a*b/18446744073709551616/4294967296:Nat):Int):=by rw[fL,nz aa]
 have so:=rW _ 4 (by simp) (by simp) h2 41 true
 rw[h1,Int.toNat_natCast]at so
 refine bP [] Tryz.func209 ?_
 intro W0 w0 ρ0 hE
 conv=>whnf
 rw[dw,decide_eq_true ha]
 (repeat(first|(refine ag rfl rfl ?_;conv=>whnf)|(refine ak jJ ?_;conv=>whnf)))
 rw[dw,decide_eq_true hb]
 (repeat((first|refine ag rfl rfl ?_|refine And.intro Q7 ?_|refine aS (by assumption) ?_|refine kU (by assumption) rfl ?_|rw[cp ha]|rw[cp hb]|rw[e1]|rw[e2]|rw[e3]|rw[e4]);conv=>whnf))
 exact aq.refl _
theorem Cg {out o2 Y:List Int} {i k o w v c:Nat} (hi:i+k<o2.length) (ho:o2.getD (i+k) 0=o) (hout:out.getD (i+k) 0=o) (hY:Y.getD k 0=v)
  (hv:az o2 (i+k)+c*4294967296^(i+k)=az out (i+k)+w*4294967296^i*az Y k):
  az (o2.set (i+k) (((c+(w*v+o)) % 4294967296:Nat):Int)) (i+(k+1))+(((c+(w*v+o))/4294967296:Nat):Int)*4294967296^(i+(k+1))=az out (i+(k+1))+w*4294967296^i*az Y (k+1):=by
 rw[show i+(k+1)=(i+k)+1 from aa,az,az,az,da (Nat.le_refl _),aW,if_pos ⟨rfl,hi⟩,hout,hY,Int.pow_succ]
 have hd:(((c+(w*v+o)) % 4294967296:Nat):Int)=(c:Int)+(w*v+o) - (((c+(w*v+o))/4294967296:Nat):Int)*4294967296:=by
  have:=Nat.div_add_mod (c+(w*v+o)) 4294967296
  have h2:((w*v:Nat):Int)=(w:Int)*v:=Int.natCast_mul _ _
  omega
 rw[hd]
 rw[Int.pow_add]at hv ⊢
 generalize (((c+(w*v+o))/4294967296:Nat):Int)=q
 generalize (4294967296:Int)^i=P at*
 generalize (4294967296:Int)^k=Q at*
 grind
theorem Fq {out o2 X:List Int} {i l w c b:Nat} {Y:List Int} (hi:i+l<o2.length) (ho:o2.getD (i+l) 0=0) (hX:X.getD i 0=w) (hY:az Y l=b)
  (b7:az out (i+l)=az X i*b) (hv:az o2 (i+l)+c*4294967296^(i+l)=az out (i+l)+w*4294967296^i*az Y l):
  az (o2.set (i+l) (c:Int)) (i+l+1)=az X (i+1)*b:=by
 rw[az,az,da (Nat.le_refl _),aW,if_pos ⟨rfl,hi⟩,hX,hv,b7,hY]
 generalize (4294967296:Int)^i=P at*
 grind
theorem QG (a b:Nat) (ha:(ae a).length<274877906944) (hb:(ae b).length<274877906944):
  ab Tryz.prog 209 [.nat a,.nat b] [] (.nat (a*b)) [] []:=by
 by_cases hs:a<18446744073709551616∧b<18446744073709551616
 ·exact Nx a b hs.1 hs.2
 ·have ka:=gY a 1001 aa
  have kb:=gY b 1002 aa
  have ew:IntKind.i64.wrap (((ae a).length:Int)+((ae b).length:Int))=(((ae a).length+(ae b).length:Nat):Int):=by rw[wrap_i64 aa aa];omega
  refine bP [] Tryz.func209 ?_
  intro W0 w0 ρ0 hE
  conv=>whnf
  by_cases h1:a<18446744073709551616
  ·rw[dw,decide_eq_true h1]
   (repeat(first|(refine ag rfl rfl ?_;conv=>whnf)|(refine ak jJ ?_;conv=>whnf)))
   rw[dw,decide_eq_false (show ¬b<18446744073709551616 by omega)]
   (repeat((first|refine af rfl rfl ?_|refine aw aB ?_|refine And.intro Q7 ?_|refine mK (by assumption) rfl ?_|rw[ew]);conv=>whnf))
   refine ai hE (fun k=>k) [4,8,9,53,54,55] [4,1001,1002,52] (fun m fr hp=>∃(i:Nat) (out:List Int),m=(ae a).length - i∧i≤(ae a).length∧out.length=(ae a).length+(ae b).length∧fK out∧(∀j,i+(ae b).length≤j→out.getD j 0=0)∧az out (i+(ae b).length)=az (ae a) i*b∧
    fr=[(4,.ptr 4 0 0 0),(8,.aN 1002 1 0 (ae b).length),(9,.aN 52 1 0 ((ae a).length+(ae b).length)),(53,.aN 1001 1 0 (ae a).length),(54,.val (.int .i64 ((ae a).length:Nat))),(55,.val (.int .i64 i))]∧hp=[(4,⟨46,true,.one [.nat 0]⟩),(1001,⟨23,true,.ints .u32 (cw a)⟩),(1002,⟨23,true,.ints .u32 (cw b)⟩),(52,⟨23,true,.ints .u32 out⟩)]) (ae a).length ?_ ?_ ?_
   ·kernel_rfl
   ·exact⟨0,List.replicate ((ae a).length+(ae b).length) 0,rfl,aa,by simp,(fun i=>by rw[bz];decide),(fun j _=>bz),by rw[eE (k:=0) (fun i _ _=>bz) aa];simp[az],rfl,rfl⟩
   rintro m _ _ ⟨i,out,rfl,hi,hlen,hw,hz,b7,rfl,rfl⟩
   by_cases aA:i<(ae a).length
   ·have t1:decide ((i:Int)<((ae a).length:Int))=true:=decide_eq_true aa
    have e1:0+(i:Int).toNat=i:=aa
    have e2:IntKind.i64.wrap ((i:Int)+1)=((i+1:Nat):Int):=by rw[wrap_i64 aa aa];omega
    obtain⟨w,hww⟩:=Int.eq_ofNat_of_zero_le (aZ a i).1
    have mz:=(aZ a i).2
    have H8:=cD a
    have e3:(cw a).getD i 0=(w:Int):=by rw[dT aA];exact hww
    conv=>whnf
    (repeat((first|refine ag rfl rfl ?_|refine And.intro Q7 ?_|rw[t1]|rw[e1]|rw[e3]);conv=>whnf))
    refine ai hE (fun k=>k) [4,8,9,10,11,12,53,54,55,60,61,62] [4,1001,1002,52] (fun m fr hp=>∃(k:Nat) (o2:List Int) (c:Nat),m=(ae b).length - k∧k≤(ae b).length∧c<4294967296∧o2.length=(ae a).length+(ae b).length∧fK o2∧(∀j,i+k≤j→o2.getD j 0=out.getD j 0)∧az o2 (i+k)+c*4294967296^(i+k)=az out (i+k)+w*4294967296^i*az (ae b) k∧
     fr=[(4,.ptr 4 0 0 0),(8,.aN 1002 1 0 (ae b).length),(9,.aN 52 1 0 ((ae a).length+(ae b).length)),(10,.val (.int .i64 i)),(11,.val (.int .u32 w)),(12,.val (.int .u64 c)),(53,.aN 1001 1 0 (ae a).length),(54,.val (.int .i64 ((ae a).length:Nat))),(55,.val (.int .i64 i)),(60,.aN 1002 1 0 (ae b).length),(61,.val (.int .i64 ((ae b).length:Nat))),(62,.val (.int .i64 k))]∧hp=[(4,⟨46,true,.one [.nat 0]⟩),(1001,⟨23,true,.ints .u32 (cw a)⟩),(1002,⟨23,true,.ints .u32 (cw b)⟩),(52,⟨23,true,.ints .u32 o2⟩)]) (ae b).length ?_ ?_ ?_
    ·kernel_rfl
    ·exact⟨0,out,0,rfl,aa,aa,hlen,hw,(fun j _=>rfl),by simp[az],rfl,rfl⟩
    rintro m _ _ ⟨k,o2,c,rfl,hk,hc,hlen2,hw2',cv,hval2,rfl,rfl⟩
    have e4:IntKind.i64.wrap ((k:Int)+1)=((k+1:Nat):Int):=by rw[wrap_i64 aa aa];omega
    have Yi:=cD b
    by_cases hklt:k<(ae b).length
    ·have t2:decide ((k:Int)<((ae b).length:Int))=true:=decide_eq_true aa
     have e5:0+(k:Int).toNat=k:=aa
     have e6:IntKind.i64.wrap ((i:Int)+k)=((i+k:Nat):Int):=by rw[wrap_i64 aa aa];omega
     have e7:0+((i+k:Nat):Int).toNat=i+k:=aa
     obtain⟨v,hvv⟩:=Int.eq_ofNat_of_zero_le (aZ b k).1
     have hv2:=(aZ b k).2
     obtain⟨o,ho⟩:=Int.eq_ofNat_of_zero_le (hw2' (i+k)).1
     have QD:=(hw2' (i+k)).2
     have e8:(cw b).getD k 0=(v:Int):=by rw[dT hklt];exact hvv
     have hpv:w*v≤4294967295*4294967295:=Nat.mul_le_mul aa aa
     have e9:IntKind.u64.wrap ((c:Int)+IntKind.u64.wrap (IntKind.u64.wrap (IntKind.u64.wrap (w:Int)*IntKind.u64.wrap (v:Int))+IntKind.u64.wrap (o:Int)))=((c+(w*v+o):Nat):Int):=by
      rw[ep (n:=w) aa,ep (n:=v) aa,ep (n:=o) aa,←Int.natCast_mul,ep (n:=w*v) aa,←Int.natCast_add,ep (n:=w*v+o) aa,←Int.natCast_add,ep aa]
     have Ib:IntKind.u32.wrap ((c+(w*v+o):Nat):Int)=(((c+(w*v+o)) % 4294967296:Nat):Int):=n0 _
     have QH:jD .u64 ((c+(w*v+o):Nat):Int) 32=(((c+(w*v+o))/4294967296:Nat):Int):=fL _
     have nx:(c+(w*v+o))/4294967296<4294967296:=aa
     have cJ:=Cg (i:=i) (k:=k) (Y:=ae b) aa ho (by rw[←cv (i+k) (Nat.le_refl _)];exact ho) hvv hval2
     conv=>whnf
     (repeat((first|refine ag rfl rfl ?_|refine And.intro Q7 ?_|rw[t2]|rw[e5]|rw[e8]|rw[e6]|rw[e7]|rw[ho]|rw[e9]|rw[Ib]|rw[QH]|rw[e4]);conv=>whnf))
     exact⟨(ae b).length - (k+1),fun k=>k,[4,8,9,10,11,12,53,54,55,60,61,62],[4,1001,1002,52],aa,aB,k+1,_,_,rfl,aa,nx,by simpa using hlen2,hw2'.set aa aa,(fun j hj=>by rw[aW,if_neg aa];exact cv j aa),cJ,rfl,rfl⟩
    ·have my:k=(ae b).length:=aa
     subst my
     have t2:decide (((ae b).length:Int)<((ae b).length:Int))=false:=decide_eq_false aa
     have e6:IntKind.i64.wrap ((i:Int)+((ae b).length:Int))=((i+(ae b).length:Nat):Int):=by rw[wrap_i64 aa aa];omega
     have e7:0+((i+(ae b).length:Nat):Int).toNat=i+(ae b).length:=aa
     have e8:IntKind.u32.wrap (c:Int)=(c:Int):=nz hc
     have ie:=Fq (X:=ae a) (o2:=o2) aa (by rw[cv _ (Nat.le_refl _)];exact hz _ (Nat.le_refl _)) hww (eN b) b7 hval2
     conv=>whnf
     (repeat((first|refine af rfl rfl ?_|refine And.intro Q7 ?_|rw[t2]|rw[e6]|rw[e7]|rw[e8]|rw[e2]);conv=>whnf))
     exact⟨(ae a).length - (i+1),fun k=>k,[4,8,9,53,54,55],[4,1001,1002,52],aa,aB,i+1,_,rfl,aa,by simpa using hlen2,hw2'.set aa aa,(fun j hj=>by rw[aW,if_neg aa,cv j aa];exact hz j aa),by rw[show i+1+(ae b).length=i+(ae b).length+1 from by omega];exact ie,rfl,rfl⟩
   ·have jU:i=(ae a).length:=aa
    subst jU
    have t1:decide (((ae a).length:Int)<((ae a).length:Int))=false:=decide_eq_false aa
    rw[eN]at b7
    have kV:(az out ((ae a).length+(ae b).length)).toNat=a*b:=by
     rw[b7,←Int.natCast_mul,Int.toNat_natCast]
    have Cf:=rW out ((ae a).length+(ae b).length) aa aa hw 52 true
    rw[kV]at Cf
    conv=>whnf
    (repeat(first|(refine af rfl rfl ?_;conv=>whnf)|(refine kU (by assumption) rfl ?_;conv=>whnf)|(rw[t1];conv=>whnf)))
    exact aq.refl _
  ·rw[dw,decide_eq_false h1]
   (repeat((first|refine af rfl rfl ?_|refine aw aB ?_|refine And.intro Q7 ?_|refine mK (by assumption) rfl ?_|refine ak jo ?_|rw[ew]);conv=>whnf))
   refine ai hE (fun k=>k) [4,8,9,53,54,55] [4,1001,1002,52] (fun m fr hp=>∃(i:Nat) (out:List Int),m=(ae a).length - i∧i≤(ae a).length∧out.length=(ae a).length+(ae b).length∧fK out∧(∀j,i+(ae b).length≤j→out.getD j 0=0)∧az out (i+(ae b).length)=az (ae a) i*b∧
    fr=[(4,.ptr 4 0 0 0),(8,.aN 1002 1 0 (ae b).length),(9,.aN 52 1 0 ((ae a).length+(ae b).length)),(53,.aN 1001 1 0 (ae a).length),(54,.val (.int .i64 ((ae a).length:Nat))),(55,.val (.int .i64 i))]∧hp=[(4,⟨46,true,.one [.nat 0]⟩),(1001,⟨23,true,.ints .u32 (cw a)⟩),(1002,⟨23,true,.ints .u32 (cw b)⟩),(52,⟨23,true,.ints .u32 out⟩)]) (ae a).length ?_ ?_ ?_
   ·kernel_rfl
   ·exact⟨0,List.replicate ((ae a).length+(ae b).length) 0,rfl,aa,by simp,(fun i=>by rw[bz];decide),(fun j _=>bz),by rw[eE (k:=0) (fun i _ _=>bz) aa];simp[az],rfl,rfl⟩
   rintro m _ _ ⟨i,out,rfl,hi,hlen,hw,hz,b7,rfl,rfl⟩
   by_cases aA:i<(ae a).length
   ·have t1:decide ((i:Int)<((ae a).length:Int))=true:=decide_eq_true aa
    have e1:0+(i:Int).toNat=i:=aa
    have e2:IntKind.i64.wrap ((i:Int)+1)=((i+1:Nat):Int):=by rw[wrap_i64 aa aa];omega
    obtain⟨w,hww⟩:=Int.eq_ofNat_of_zero_le (aZ a i).1
    have mz:=(aZ a i).2
    have H8:=cD a
    have e3:(cw a).getD i 0=(w:Int):=by rw[dT aA];exact hww
    conv=>whnf
    (repeat((first|refine ag rfl rfl ?_|refine And.intro Q7 ?_|rw[t1]|rw[e1]|rw[e3]);conv=>whnf))
    refine ai hE (fun k=>k) [4,8,9,10,11,12,53,54,55,60,61,62] [4,1001,1002,52] (fun m fr hp=>∃(k:Nat) (o2:List Int) (c:Nat),m=(ae b).length - k∧k≤(ae b).length∧c<4294967296∧o2.length=(ae a).length+(ae b).length∧fK o2∧(∀j,i+k≤j→o2.getD j 0=out.getD j 0)∧az o2 (i+k)+c*4294967296^(i+k)=az out (i+k)+w*4294967296^i*az (ae b) k∧
     fr=[(4,.ptr 4 0 0 0),(8,.aN 1002 1 0 (ae b).length),(9,.aN 52 1 0 ((ae a).length+(ae b).length)),(10,.val (.int .i64 i)),(11,.val (.int .u32 w)),(12,.val (.int .u64 c)),(53,.aN 1001 1 0 (ae a).length),(54,.val (.int .i64 ((ae a).length:Nat))),(55,.val (.int .i64 i)),(60,.aN 1002 1 0 (ae b).length),(61,.val (.int .i64 ((ae b).length:Nat))),(62,.val (.int .i64 k))]∧hp=[(4,⟨46,true,.one [.nat 0]⟩),(1001,⟨23,true,.ints .u32 (cw a)⟩),(1002,⟨23,true,.ints .u32 (cw b)⟩),(52,⟨23,true,.ints .u32 o2⟩)]) (ae b).length ?_ ?_ ?_
    ·kernel_rfl
    ·exact⟨0,out,0,rfl,aa,aa,hlen,hw,(fun j _=>rfl),by simp[az],rfl,rfl⟩
    rintro m _ _ ⟨k,o2,c,rfl,hk,hc,hlen2,hw2',cv,hval2,rfl,rfl⟩
    have e4:IntKind.i64.wrap ((k:Int)+1)=((k+1:Nat):Int):=by rw[wrap_i64 aa aa];omega
    have Yi:=cD b
    by_cases hklt:k<(ae b).length
    ·have t2:decide ((k:Int)<((ae b).length:Int))=true:=decide_eq_true aa
     have e5:0+(k:Int).toNat=k:=aa
     have e6:IntKind.i64.wrap ((i:Int)+k)=((i+k:Nat):Int):=by rw[wrap_i64 aa aa];omega
     have e7:0+((i+k:Nat):Int).toNat=i+k:=aa
     obtain⟨v,hvv⟩:=Int.eq_ofNat_of_zero_le (aZ b k).1
     have hv2:=(aZ b k).2
     obtain⟨o,ho⟩:=Int.eq_ofNat_of_zero_le (hw2' (i+k)).1
     have QD:=(hw2' (i+k)).2
     have e8:(cw b).getD k 0=(v:Int):=by rw[dT hklt];exact hvv
     have hpv:w*v≤4294967295*4294967295:=Nat.mul_le_mul aa aa
     have e9:IntKind.u64.wrap ((c:Int)+IntKind.u64.wrap (IntKind.u64.wrap (IntKind.u64.wrap (w:Int)*IntKind.u64.wrap (v:Int))+IntKind.u64.wrap (o:Int)))=((c+(w*v+o):Nat):Int):=by
      rw[ep (n:=w) aa,ep (n:=v) aa,ep (n:=o) aa,←Int.natCast_mul,ep (n:=w*v) aa,←Int.natCast_add,ep (n:=w*v+o) aa,←Int.natCast_add,ep aa]
     have Ib:IntKind.u32.wrap ((c+(w*v+o):Nat):Int)=(((c+(w*v+o)) % 4294967296:Nat):Int):=n0 _
     have QH:jD .u64 ((c+(w*v+o):Nat):Int) 32=(((c+(w*v+o))/4294967296:Nat):Int):=fL _
     have nx:(c+(w*v+o))/4294967296<4294967296:=aa
     have cJ:=Cg (i:=i) (k:=k) (Y:=ae b) aa ho (by rw[←cv (i+k) (Nat.le_refl _)];exact ho) hvv hval2
     conv=>whnf
     (repeat((first|refine ag rfl rfl ?_|refine And.intro Q7 ?_|rw[t2]|rw[e5]|rw[e8]|rw[e6]|rw[e7]|rw[ho]|rw[e9]|rw[Ib]|rw[QH]|rw[e4]);conv=>whnf))
     exact⟨(ae b).length - (k+1),fun k=>k,[4,8,9,10,11,12,53,54,55,60,61,62],[4,1001,1002,52],aa,aB,k+1,_,_,rfl,aa,nx,by simpa using hlen2,hw2'.set aa aa,(fun j hj=>by rw[aW,if_neg aa];exact cv j aa),cJ,rfl,rfl⟩
    ·have my:k=(ae b).length:=aa
     subst my
     have t2:decide (((ae b).length:Int)<((ae b).length:Int))=false:=decide_eq_false aa
     have e6:IntKind.i64.wrap ((i:Int)+((ae b).length:Int))=((i+(ae b).length:Nat):Int):=by rw[wrap_i64 aa aa];omega
     have e7:0+((i+(ae b).length:Nat):Int).toNat=i+(ae b).length:=aa
     have e8:IntKind.u32.wrap (c:Int)=(c:Int):=nz hc
     have ie:=Fq (X:=ae a) (o2:=o2) aa (by rw[cv _ (Nat.le_refl _)];exact hz _ (Nat.le_refl _)) hww (eN b) b7 hval2
     conv=>whnf
     (repeat((first|refine af rfl rfl ?_|refine And.intro Q7 ?_|rw[t2]|rw[e6]|rw[e7]|rw[e8]|rw[e2]);conv=>whnf))
     exact⟨(ae a).length - (i+1),fun k=>k,[4,8,9,53,54,55],[4,1001,1002,52],aa,aB,i+1,_,rfl,aa,by simpa using hlen2,hw2'.set aa aa,(fun j hj=>by rw[aW,if_neg aa,cv j aa];exact hz j aa),by rw[show i+1+(ae b).length=i+(ae b).length+1 from by omega];exact ie,rfl,rfl⟩
   ·have jU:i=(ae a).length:=aa
    subst jU
    have t1:decide (((ae a).length:Int)<((ae a).length:Int))=false:=decide_eq_false aa
    rw[eN]at b7
    have kV:(az out ((ae a).length+(ae b).length)).toNat=a*b:=by
     rw[b7,←Int.natCast_mul,Int.toNat_natCast]
    have Cf:=rW out ((ae a).length+(ae b).length) aa aa hw 52 true
    rw[kV]at Cf
    conv=>whnf
    (repeat(first|(refine af rfl rfl ?_;conv=>whnf)|(refine kU (by assumption) rfl ?_;conv=>whnf)|(rw[t1];conv=>whnf)))
    exact aq.refl _
theorem Fs (xs:List Int) (n:Nat) (hn:n≤xs.length) (hl:xs.length<1099511627776) (hx:fK xs) (y:Nat) (hy0:y≠0) (hy:y<4294967296) (K Q:Nat) (hKQ:Q≠K) (wr:Bool) (X:Nat) (hX:az xs n=X):
  ab Tryz.prog 314 [.aN K 1 0 n,.val (.int .u32 y)] [(K,⟨23,wr,.ints .u32 xs⟩)] (.ct [.aN Q 1 0 n,.val (.int .u32 (X % y:Nat))]) [(Q,⟨23,true,.ints .u32 (bL (X/y) n)⟩)] []:=by
 refine ab.px ?_
 refine fq (Z:=[]) aL bJ Tryz.func314 rfl aB (args:=[.aN 0 1 0 n,.val (.int .u32 y)]) (fk:=[(0,⟨23,false,.ints .u32 xs⟩)]) (c:=.ct [.aN 9 1 0 n,.val (.int .u32 (X % y:Nat))]) (new:=[(9,⟨23,true,.ints .u32 (bL (X/y) n)⟩)]) (upd:=[]) (cu.of rfl rfl rfl rfl rfl rfl rfl rfl rfl rfl rfl) rfl (cx [(0,K),(9,Q)]) (bh.PK rfl (fun q hq=>by simp[ax]at hq;subst hq;exact hKQ)) ?_
 intro W0 w0 ρ0 hE
 conv=>whnf
 have e0:IntKind.i64.wrap ((n:Int) - 1)=(n:Int) - 1:=wrap_i64 aa aa
 (repeat(first|(refine And.intro Q7 ?_;conv=>whnf)|(rw[e0];conv=>whnf)))
 refine ai hE (fun k=>k) [0,1,4,5,6] [0,9] (fun j fr hp=>∃(q:List Int) (r:Nat),j≤n∧q.length=n∧fK q∧(∀i,i<j→q.getD i 0=0)∧r<y∧az q n*y+r*4294967296^j=X - az xs j∧
  fr=[(0,.aN 0 1 0 n),(1,.val (.int .u32 y)),(4,.aN 9 1 0 n),(5,.val (.int .u32 r)),(6,.val (.int .i64 ((j:Int) - 1)))]∧hp=[(0,⟨23,false,.ints .u32 xs⟩),(9,⟨23,true,.ints .u32 q⟩)]) n ?_ ?_ ?_
 ·kernel_rfl
 ·exact⟨List.replicate n 0,0,aa,by simp,(fun i=>by rw[bz];decide),(fun i _=>bz),aa,by rw[eE (k:=0) (fun i _ _=>bz) aa,hX];simp[az],rfl,rfl⟩
 rintro j _ _ ⟨q,r,hj,Ny,hq,hq0,hr,b7,rfl,rfl⟩
 by_cases h0:j=0
 ·subst h0
  have t2:decide (((0:Nat):Int) - 1≥0)=false:=rfl
  obtain⟨Qv,hQ⟩:=Int.eq_ofNat_of_zero_le (b8 hq n)
  have hX2:Qv*y+r=X:=by
   rw[hQ,Int.pow_zero,Int.mul_one,az,Int.sub_zero,←Int.natCast_mul]at b7
   omega
  have hdiv:X/y=Qv:=by rw[←hX2,Nat.add_comm,Nat.add_mul_div_right _ _ aa,Nat.div_eq_of_lt hr,Nat.zero_add]
  have Yj:X % y=r:=by rw[←hX2,Nat.add_comm,Nat.add_mul_mod_self_right,Nat.mod_eq_of_lt hr]
  rw[hdiv,Yj,←nW Ny hq hQ]
  conv=>whnf
  (repeat(first|(refine af rfl rfl ?_;conv=>whnf)))
  exact⟨aq.refl _,qN rfl,(fun _ _ h=>by cases h)⟩
 ·obtain⟨i,rfl⟩:∃i,j=i+1:=⟨j - 1,aa⟩
  have ei:(((i+1:Nat):Int) - 1)=(i:Int):=aa
  rw[ei]
  have t2:decide ((i:Int)≥0)=true:=decide_eq_true aa
  have e1:0+(i:Int).toNat=i:=aa
  have e2:IntKind.i64.wrap ((i:Int) - 1)=(i:Int) - 1:=wrap_i64 aa aa
  obtain⟨w,hww⟩:=Int.eq_ofNat_of_zero_le (hx i).1
  have mz:=(hx i).2
  have kd:=Nu r w y hr aa hy
  have An:(r*4294967296+w) % y<y:=Nat.mod_lt _ aa
  have hqd:(r*4294967296+w)/y<4294967296:=Nat.div_lt_of_lt_mul (by
   have:=Nat.mul_le_mul_right 4294967296 (show r+1≤y by omega)
   rw[Nat.mul_comm y];omega)
  have cJ:az (q.set i (((r*4294967296+w)/y:Nat):Int)) n*y+(((r*4294967296+w) % y:Nat):Int)*4294967296^i=X - az xs i:=by
   rw[lY aa aa,hq0 i aa,Int.sub_zero]
   have hdm:((y:Int)*(((r*4294967296+w)/y:Nat):Int)+(((r*4294967296+w) % y:Nat):Int))=(r:Int)*4294967296+w:=by
    have:=Nat.div_add_mod (r*4294967296+w) y
    rw[←Int.natCast_mul,←Int.natCast_add,this];omega
   rw[Int.pow_succ,az,hww]at b7
   generalize (((r*4294967296+w)/y:Nat):Int)=d at*
   generalize (((r*4294967296+w) % y:Nat):Int)=e at*
   generalize (4294967296:Int)^i=P at*
   grind
  conv=>whnf
  (repeat((first|refine ag rfl rfl ?_|refine And.intro Q7 ?_|refine aS (by assumption) ?_|rw[t2]|rw[e1]|rw[hww]|rw[e2]);conv=>whnf))
  exact⟨i,fun k=>k,[0,1,4,5,6],[0,9],aa,aB,_,_,aa,by simpa using Ny,hq.set (Int.natCast_nonneg _) (Int.ofNat_lt.2 hqd),(fun j hj=>by rw[aW,if_neg aa];exact hq0 j aa),An,cJ,rfl,rfl⟩
theorem Yk {w s c:Nat} (hs:s<32) (hc:c<2^s) (hw:w<4294967296):
  Di .u32 (jC .u32 (w:Int) (s:Int)) (c:Int)=((w*2^s % 4294967296+c:Nat):Int)∧w*2^s % 4294967296+c<4294967296:=by
 have Ju:min (s:Int).toNat IntKind.u32.bits=s:=by simp[IntKind.bits];omega
 have e:jC .u32 (w:Int) (s:Int)=((w*2^s % 4294967296:Nat):Int):=by
  rw[jC,Ju,show(w:Int)*2^s=((w*2^s:Nat):Int)from by rw[Int.natCast_mul,Int.natCast_pow];rfl]
  exact n0 _
 have hW:4294967296=2^(32 - s)*2^s:=by rw[←Nat.pow_add,show 32 - s+s=32 from by omega]
 have e2:w*2^s % 4294967296=2^s*(w % 2^(32 - s)):=by
  rw[hW,Nat.mul_mod_mul_right,Nat.mul_comm]
 have hm:w*2^s % 4294967296<4294967296:=Nat.mod_lt _ aF
 have aA:w % 2^(32 - s)<2^(32 - s):=Nat.mod_lt _ (Nat.two_pow_pos _)
 have kV:w*2^s % 4294967296+c<4294967296:=by
  rw[e2]
  have:=Nat.mul_le_mul_left (2^s) (show w % 2^(32 - s)+1≤2^(32 - s)from aA)
  rw[Nat.mul_comm (2^s) (2^(32 - s)),←hW,Nat.mul_add,Nat.mul_one]at this
  omega
 refine⟨?_,kV⟩
 rw[e,uS hm aa]
 congr 1
 rw[e2,←Nat.two_pow_add_eq_or_of_lt hc]
theorem yD (xs:List Int) (n:Nat) (hn:n≤xs.length) (hl:xs.length<1099511627776) (hx:fK xs) (s:Nat) (hs:s<32) (K Q:Nat) (hKQ:Q≠K) (wr:Bool) (X:Nat) (hX:az xs n=X):
  ab Tryz.prog 359 [.aN K 1 0 n,.val (.int .i64 s)] [(K,⟨23,wr,.ints .u32 xs⟩)] (.aN Q 1 0 (n+1)) [(Q,⟨23,true,.ints .u32 (bL (X*2^s) (n+1))⟩)] []:=by
 refine ab.px ?_
 refine fq (Z:=[]) aL bJ Tryz.func359 rfl aB (args:=[.aN 0 1 0 n,.val (.int .i64 s)]) (fk:=[(0,⟨23,false,.ints .u32 xs⟩)]) (c:=.aN 12 1 0 (n+1)) (new:=[(12,⟨23,true,.ints .u32 (bL (X*2^s) (n+1))⟩)]) (upd:=[]) (cu.of rfl rfl rfl rfl rfl rfl rfl rfl rfl rfl rfl) rfl (cx [(0,K),(12,Q)]) (bh.PK rfl (fun q hq=>by simp[ax]at hq;subst hq;exact hKQ)) ?_
 intro W0 w0 ρ0 hE
 conv=>whnf
 have ew:IntKind.i64.wrap ((n:Int)+1)=((n+1:Nat):Int):=by rw[wrap_i64 aa aa];omega
 (repeat(first|(refine And.intro Q7 ?_;conv=>whnf)|(rw[ew];conv=>whnf)))
 refine ai hE (fun k=>k) [0,1,5,6,13,14,15] [0,12] (fun m fr hp=>∃(i:Nat) (out:List Int) (c:Nat),m=n - i∧i≤n∧out.length=n+1∧fK out∧c<2^s∧az out i+c*4294967296^i=az xs i*2^s∧
  fr=[(0,.aN 0 1 0 n),(1,.val (.int .i64 s)),(5,.aN 12 1 0 (n+1)),(6,.val (.int .u32 c)),(13,.aN 0 1 0 n),(14,.val (.int .i64 n)),(15,.val (.int .i64 i))]∧hp=[(0,⟨23,false,.ints .u32 xs⟩),(12,⟨23,true,.ints .u32 out⟩)]) n ?_ ?_ ?_
 ·kernel_rfl
 ·exact⟨0,List.replicate (n+1) 0,0,aa,aa,by simp,(fun i=>by rw[bz];decide),Nat.two_pow_pos s,by simp[az],rfl,rfl⟩
 rintro m _ _ ⟨i,out,c,rfl,hi,hlen,hw,hc,b7,rfl,rfl⟩
 have aes:2^s≤2147483648:=Nat.le_trans (Nat.pow_le_pow_right aF (show s≤31 by omega)) aF
 by_cases aA:i<n
 ·have t1:decide ((i:Int)<(n:Int))=true:=decide_eq_true aa
  have e1:0+(i:Int).toNat=i:=aa
  have e2:IntKind.i64.wrap ((i:Int)+1)=((i+1:Nat):Int):=by rw[wrap_i64 aa aa];omega
  obtain⟨w,hww⟩:=Int.eq_ofNat_of_zero_le (hx i).1
  have mz:=(hx i).2
  obtain⟨f1,f2⟩:=Yk (w:=w) hs hc aa
  have PJ:w*2^s≤4294967295*2147483648:=Nat.mul_le_mul aa aes
  have f3:IntKind.u32.wrap (jD .u64 (jC .u64 (IntKind.u64.wrap (w:Int)) (s:Int)) 32)=((w*2^s/4294967296:Nat):Int):=by
   have Ju:min (s:Int).toNat IntKind.u64.bits=s:=by simp[IntKind.bits];omega
   rw[ep (n:=w) aa,jC,Ju,show(w:Int)*2^s=((w*2^s:Nat):Int)from by rw[Int.natCast_mul,Int.natCast_pow];rfl,ep aa,fL,nz aa]
  have nx:w*2^s/4294967296<2^s:=Nat.div_lt_of_lt_mul (by
   exact Nat.mul_lt_mul_of_pos_right aa (Nat.two_pow_pos s))
  have cJ:az (out.set i ((w*2^s % 4294967296+c:Nat):Int)) (i+1)+((w*2^s/4294967296:Nat):Int)*4294967296^(i+1)=az xs (i+1)*2^s:=by
   rw[az,az,da (Nat.le_refl _),aW,if_pos ⟨rfl,aa⟩,hww,Int.pow_succ]
   have hd:((w*2^s % 4294967296+c:Nat):Int)=(w:Int)*2^s+c - ((w*2^s/4294967296:Nat):Int)*4294967296:=by
    have:=Nat.div_add_mod (w*2^s) 4294967296
    have h2:((w*2^s:Nat):Int)=(w:Int)*2^s:=by rw[Int.natCast_mul,Int.natCast_pow];rfl
    omega
   rw[hd]
   generalize ((w*2^s/4294967296:Nat):Int)=q
   generalize (4294967296:Int)^i=P at*
   generalize (2:Int)^s=S at*
   grind
  conv=>whnf
  (repeat((first|refine ag rfl rfl ?_|refine And.intro Q7 ?_|rw[t1]|rw[e1]|rw[hww]|rw[f1]|rw[f3]|rw[e2]);conv=>whnf))
  exact⟨n - (i+1),fun k=>k,[0,1,5,6,13,14,15],[0,12],aa,aB,i+1,_,_,rfl,aa,by simpa using hlen,hw.set aa aa,nx,cJ,rfl,rfl⟩
 ·have jU:i=n:=aa
  subst jU
  have t1:decide ((i:Int)<(i:Int))=false:=decide_eq_false aa
  have e1:0+(i:Int).toNat=i:=aa
  have Bl:c<4294967296:=aa
  have ie:az (out.set i (c:Int)) (i+1)=((X*2^s:Nat):Int):=by
   rw[az,da (Nat.le_refl _),aW,if_pos ⟨rfl,aa⟩,b7,hX,Int.natCast_mul,Int.natCast_pow];rfl
  rw[←nW (xs:=out.set i (c:Int)) (by simpa using hlen) (hw.set aa aa) ie]
  conv=>whnf
  (repeat((first|refine af rfl rfl ?_|refine And.intro Q7 ?_|rw[t1]|rw[e1]);conv=>whnf))
  exact⟨aq.refl _,qN rfl,(fun _ _ h=>by cases h)⟩
theorem Yl (us:List Int) (hl:us.length<1099511627776) (hu:fK us) (K:Nat) (U:Nat) (hU:az us us.length=U):
  ab Tryz.prog 361 [.aN K 1 0 us.length] [(K,⟨23,true,.ints .u32 us⟩)] (.ct []) [] [(K,⟨23,true,.ints .u32 (bL (U/2) us.length)⟩)]:=by
 refine fq (Z:=[]) aL bJ Tryz.func361 rfl aB (args:=[.aN 0 1 0 us.length]) (fk:=[(0,⟨23,true,.ints .u32 us⟩)]) (c:=.ct []) (new:=[]) (upd:=[(0,⟨23,true,.ints .u32 (bL (U/2) us.length)⟩)]) (cu.of rfl rfl rfl rfl rfl rfl rfl rfl rfl rfl rfl) rfl (fun _=>K) bh.upd ?_
 intro W0 w0 ρ0 hE
 conv=>whnf
 skip
 refine ai hE (fun k=>k) [0,4,5] [0] (fun m fr hp=>∃(i:Nat) (o:List Int),m=us.length - i∧i≤us.length∧o.length=us.length∧fK o∧(∀j,i≤j→o.getD j 0=us.getD j 0)∧2*az o i+us.getD 0 0 % 2=az us i+us.getD i 0 % 2*4294967296^i∧
  fr=[(0,.aN 0 1 0 us.length),(4,.val (.int .i64 us.length)),(5,.val (.int .i64 i))]∧hp=[(0,⟨23,true,.ints .u32 o⟩)]) us.length ?_ ?_ ?_
 ·kernel_rfl
 ·exact⟨0,us,aa,aa,rfl,hu,(fun _ _=>rfl),by simp[az],rfl,rfl⟩
 rintro m _ _ ⟨i,o,rfl,hi,hlen,hw,cv,b7,rfl,rfl⟩
 by_cases aA:i<us.length
 ·have t1:decide ((i:Int)<(us.length:Int))=true:=decide_eq_true aa
  have e1:0+(i:Int).toNat=i:=aa
  have e2:IntKind.i64.wrap ((i:Int)+1)=((i+1:Nat):Int):=by rw[wrap_i64 aa aa];omega
  obtain⟨w,hww⟩:=Int.eq_ofNat_of_zero_le (hu i).1
  have mz:=(hu i).2
  have Jx:o.getD i 0=(w:Int):=by rw[cv i (Nat.le_refl _)];exact hww
  have f1:jD .u32 (w:Int) 1=((w/2:Nat):Int):=ja .u32 (s:=1) aF
  obtain⟨z,hz⟩:=Int.eq_ofNat_of_zero_le (hu (i+1)).1
  have iz:=(hu (i+1)).2
  have f2:∀q:Nat,q<2147483648→Di .u32 (q:Int) (jC .u32 (z:Int) 31)=((q+z % 2*2147483648:Nat):Int):=fun q hq=>by
   have e:jC .u32 (z:Int) 31=((2147483648*(z % 2):Nat):Int):=by
    show IntKind.u32.wrap ((z:Int)*2147483648)=_
    rw[show(z:Int)*2147483648=((z*2147483648:Nat):Int)from aa,n0]
    congr 1;omega
   rw[e,uS aa aa,Nat.or_comm,show 2147483648*(z % 2)=2^31*(z % 2)from rfl,←Nat.two_pow_add_eq_or_of_lt (i:=31) hq]
   congr 1;omega
  have cJ:∀t:Int,t=us.getD (i+1) 0 % 2→2*az (o.set i (((w/2:Nat):Int)+t*2147483648)) (i+1)+us.getD 0 0 % 2=az us (i+1)+us.getD (i+1) 0 % 2*4294967296^(i+1):=fun t ht=>by
   rw[←ht,az,az,da (Nat.le_refl _),aW,if_pos ⟨rfl,aa⟩,hww,Int.pow_succ]
   rw[hww]at b7
   have hd:2*((w/2:Nat):Int)=(w:Int) - (w:Int) % 2:=aa
   generalize ((w/2:Nat):Int)=q at*
   generalize (w:Int) % 2=p at*
   generalize (4294967296:Int)^i=P at*
   generalize us.getD 0 0 % 2=b at*
   grind
  have dF:∀(v:Int) j,i+1≤j→(o.set i v).getD j 0=us.getD j 0:=fun v j hj=>by
   rw[aW,if_neg aa];exact cv j aa
  by_cases hn:i+1<us.length
  ·have t2:decide (((i+1:Nat):Int)<(us.length:Int))=true:=decide_eq_true aa
   have e3:0+((i+1:Nat):Int).toNat=i+1:=aa
   have g1:∀v:Int,(o.set i v).getD i 0=v:=fun v=>by rw[aW,if_pos ⟨rfl,aa⟩]
   have g2:∀v:Int,(o.set i v).getD (i+1) 0=(z:Int):=fun v=>by rw[dF v _ (Nat.le_refl _)];exact hz
   have g3:∀u v:Int,(o.set i u).set i v=o.set i v:=fun u v=>by rw[List.set_set]
   have g4:((w/2+z % 2*2147483648:Nat):Int)=((w/2:Nat):Int)+us.getD (i+1) 0 % 2*2147483648:=by rw[hz];omega
   conv=>whnf
   have g5:∀v:Int,(o.set i v).length=us.length:=fun v=>by simpa using hlen
   (repeat((first|refine ag rfl rfl ?_|refine aw aB ?_|refine And.intro Q7 ?_|rw[t1]|rw[e1]|rw[Jx]|rw[f1]|rw[e2]|rw[t2]|rw[e3]|rw[g1]|rw[g2]|rw[f2 (w/2) aa]|rw[g3]|rw[g4]);conv=>whnf))
   exact⟨us.length - (i+1),fun k=>k,[0,4,5],[0],aa,aB,i+1,_,rfl,aa,by simpa using hlen,hw.set aa aa,dF _,cJ _ rfl,rfl,rfl⟩
  ·have t2:decide (((i+1:Nat):Int)<(us.length:Int))=false:=decide_eq_false aa
   have yc:us.getD (i+1) 0=0:=dR aa
   have:=cJ 0 (by rw[yc];rfl)
   rw[Int.zero_mul,Int.add_zero]at this
   conv=>whnf
   (repeat((first|refine ag rfl rfl ?_|refine af rfl rfl ?_|refine And.intro Q7 ?_|rw[t1]|rw[e1]|rw[Jx]|rw[f1]|rw[e2]|rw[t2]);conv=>whnf))
   exact⟨us.length - (i+1),fun k=>k,[0,4,5],[0],aa,aB,i+1,_,rfl,aa,by simpa using hlen,hw.set aa aa,dF _,this,rfl,rfl⟩
 ·have jU:i=us.length:=aa
  subst jU
  have t1:decide ((us.length:Int)<(us.length:Int))=false:=decide_eq_false aa
  rw[dR (xs:=us) (i:=us.length) (Nat.le_refl _),hU]at b7
  have ie:az o us.length=((U/2:Nat):Int):=by
   rw[show(0:Int) % 2=0 from rfl,Int.zero_mul,Int.add_zero]at b7
   omega
  rw[←nW hlen hw ie]
  conv=>whnf
  (repeat(first|(refine af rfl rfl ?_;conv=>whnf)|(rw[t1];conv=>whnf)))
  exact⟨aq.refl _,(fun _ _ h=>by cases h),qN rfl⟩
theorem qT {v m L i:Nat} (hv:v<4294967296^m) (hi:m≤i):(bL v L).getD i 0=0:=by
 by_cases h2:i<L
 ·rw[jc h2,Nat.div_eq_of_lt (Nat.lt_of_lt_of_le hv (Nat.pow_le_pow_right aF hi))];rfl
 ·exact dR (by rw[cY];omega)
theorem wH {o:List Int} {L m v:Nat} (hl:o.length=L) (hw:fK o) (hz:∀j,m≤j→o.getD j 0=0) (hm:m≤L) (hv:az o m=v):o=bL v L:=
 nW hl hw (by rw[eE (k:=m) (fun i h1 _=>hz i h1) hm,hv])
theorem GY {o us vs:List Int} {s i d w c l x:Nat} (hi:s+i<o.length) (hx:us.getD (s+i) 0=x) (hv:vs.getD i 0=w) (hl:l≤1) (MH:x<4294967296)
  (b7:az o (s+i)=az us (s+i) - d*az vs i*4294967296^s+((c:Int)+l)*4294967296^(s+i)):
  az (o.set (s+i) (((x+4294967296 - (c+d*w) % 4294967296 - l) % 4294967296:Nat):Int)) (s+(i+1))=az us (s+(i+1)) - d*az vs (i+1)*4294967296^s+((((c+d*w)/4294967296:Nat):Int)+((if x<(c+d*w) % 4294967296+l then 1 else 0:Nat):Int))*4294967296^(s+(i+1)):=by
 rw[show s+(i+1)=(s+i)+1 from aa,az,az,az,da (Nat.le_refl _),aW,if_pos ⟨rfl,hi⟩,hx,hv,Int.pow_succ]
 have Bo:(c+d*w) % 4294967296<4294967296:=Nat.mod_lt _ aF
 have hd:(((x+4294967296 - (c+d*w) % 4294967296 - l) % 4294967296:Nat):Int)=(x:Int) - (((c+d*w) % 4294967296:Nat):Int) - l+((if x<(c+d*w) % 4294967296+l then 1 else 0:Nat):Int)*4294967296:=by
  split<;>omega
 have hc:(((c+d*w) % 4294967296:Nat):Int)=(c:Int)+d*w - (((c+d*w)/4294967296:Nat):Int)*4294967296:=by
  have:=Nat.div_add_mod (c+d*w) 4294967296
  have h2:((d*w:Nat):Int)=(d:Int)*w:=Int.natCast_mul _ _
  omega
 rw[hd,hc,b7,Int.pow_add]
 generalize ((if x<(c+d*w) % 4294967296+l then 1 else 0:Nat):Int)=l'
 generalize (((c+d*w)/4294967296:Nat):Int)=q
 generalize (4294967296:Int)^s=S
 generalize (4294967296:Int)^i=P
 grind
theorem Jy {o us vs:List Int} {s n d c l x:Nat} (hi:s+n<o.length) (hx:us.getD (s+n) 0=x) (hl:l≤1) (hc:c<4294967296) (MH:x<4294967296)
  (b7:az o (s+n)=az us (s+n) - d*az vs n*4294967296^s+((c:Int)+l)*4294967296^(s+n)):
  az (o.set (s+n) (((x+4294967296 - c - l) % 4294967296:Nat):Int)) (s+n+1)=az us (s+n+1) - d*az vs n*4294967296^s+((if x<c+l then 1 else 0:Nat):Int)*4294967296^(s+n+1):=by
 rw[az,az,da (Nat.le_refl _),aW,if_pos ⟨rfl,hi⟩,hx,Int.pow_succ]
 have hd:(((x+4294967296 - c - l) % 4294967296:Nat):Int)=(x:Int) - c - l+((if x<c+l then 1 else 0:Nat):Int)*4294967296:=by
  split<;>omega
 rw[hd,b7]
 generalize ((if x<c+l then 1 else 0:Nat):Int)=l'
 generalize (4294967296:Int)^(s+n)=S
 generalize (4294967296:Int)^s=P
 grind
theorem Jz {R D B l:Nat} {v:Int} (hl:l≤1) (h0:0≤v) (h1:v<B) (hR:R<B) (hv:v=(R:Int) - D+l*B):
  decide ((l:Int)>0)=decide (R<D)∧v=(((R+B - D) % B:Nat):Int):=by
 have hcc:l=0∨l=1:=aa
 rcases hcc with rfl|rfl
 ·have h2:D≤R:=aa
  refine⟨by rw[decide_eq_false (show ¬R<D by omega)];rfl, ?_⟩
  rw[show R+B - D=(R - D)+B from aa,Nat.add_mod_right,Nat.mod_eq_of_lt aa]
  omega
 ·have h2:R<D:=aa
  refine⟨by rw[decide_eq_true h2];rfl, ?_⟩
  rw[Nat.mod_eq_of_lt aa]
  omega
theorem JA (L s n R d V:Nat) (vs:List Int) (hL:L<1099511627776) (Ym:s+n+1≤L) (hR:R<4294967296^(s+n+1)) (hvl:vs.length<1099511627776) (hn:n≤vs.length) (Nz:fK vs) (hV:az vs n=V) (hd:d<4294967296)
  (K Q:Nat) (hKQ:K≠Q):
  ab Tryz.prog 360 [.aN K 1 s (n+1),.aN Q 1 0 n,.val (.int .u64 d)] [(K,⟨23,true,.ints .u32 (bL R L)⟩),(Q,⟨23,true,.ints .u32 vs⟩)]
   (.val (.bool (decide (R<d*V*4294967296^s)))) [] [(K,⟨23,true,.ints .u32 (bL ((R+4294967296^(s+n+1) - d*V*4294967296^s) % 4294967296^(s+n+1)) L)⟩),(Q,⟨23,true,.ints .u32 vs⟩)]:=by
 refine fq (Z:=[]) aL bJ Tryz.func360 rfl aB (args:=[.aN 0 1 s (n+1),.aN 1 1 0 n,.val (.int .u64 d)]) (fk:=[(0,⟨23,true,.ints .u32 (bL R L)⟩),(1,⟨23,true,.ints .u32 vs⟩)])
  (c:=.val (.bool (decide (R<d*V*4294967296^s)))) (new:=[]) (upd:=[(0,⟨23,true,.ints .u32 (bL ((R+4294967296^(s+n+1) - d*V*4294967296^s) % 4294967296^(s+n+1)) L)⟩),(1,⟨23,true,.ints .u32 vs⟩)]) (cu.of rfl rfl rfl rfl rfl rfl rfl rfl rfl rfl rfl) rfl (cx [(0,K),(1,Q)]) (bh.two hKQ) ?_
 intro W0 w0 ρ0 hE
 conv=>whnf
 skip
 have aet:(bL R L).length=L:=cY R L
 have wI:fK (bL R L):=gg R L
 have JB:az (bL R L) (s+n+1)=R:=by
  have h1:=eE (xs:=bL R L) (k:=s+n+1) (n:=L) (fun i h1 _=>qT hR h1) Ym
  rw[←h1,gG,Nat.mod_eq_of_lt (Nat.lt_of_lt_of_le hR (Nat.pow_le_pow_right aF Ym))]
 have DW:∀(o:List Int) (v:Nat),o.length=L→fK o→(∀j,s+n+1≤j→o.getD j 0=0)→az o (s+n+1)=v→o=bL v L:=fun o v h1 h2 h3 h4=>wH h1 h2 h3 Ym h4
 have hz:∀j,s+n+1≤j→(bL R L).getD j 0=0:=fun j hj=>qT hR hj
 generalize bL R L=us at*
 refine ai hE (fun k=>k) [0,1,2,7,8,12,13,14] [0,1] (fun m fr hp=>∃(i:Nat) (o:List Int) (c l:Nat),m=n - i∧i≤n∧o.length=L∧fK o∧c<4294967296∧l≤1∧(∀j,s+i≤j→o.getD j 0=us.getD j 0)∧az o (s+i)=az us (s+i) - d*az vs i*4294967296^s+((c:Int)+l)*4294967296^(s+i)∧
  fr=[(0,.aN 0 1 s (n+1)),(1,.aN 1 1 0 n),(2,.val (.int .u64 d)),(7,.val (.int .u64 c)),(8,.val (.int .u32 l)),(12,.aN 1 1 0 n),(13,.val (.int .i64 n)),(14,.val (.int .i64 i))]∧hp=[(0,⟨23,true,.ints .u32 o⟩),(1,⟨23,true,.ints .u32 vs⟩)]) n ?_ ?_ ?_
 ·kernel_rfl
 ·exact⟨0,us,0,0,aa,aa,aet,wI,aa,aa,(fun _ _=>rfl),by simp[az],rfl,rfl⟩
 rintro m _ _ ⟨i,o,c,l,rfl,hi,hlen,hw,hc,hl,cv,b7,rfl,rfl⟩
 obtain⟨x,hx⟩:=Int.eq_ofNat_of_zero_le (wI (s+i)).1
 have Mp:=(wI (s+i)).2
 have QI:o.getD (s+i) 0=(x:Int):=by rw[cv _ (Nat.le_refl _)];exact hx
 by_cases aA:i<n
 ·have t1:decide ((i:Int)<(n:Int))=true:=decide_eq_true aa
  have e1:0+(i:Int).toNat=i:=aa
  have e1s:s+(i:Int).toNat=s+i:=aa
  have e2:IntKind.i64.wrap ((i:Int)+1)=((i+1:Nat):Int):=by rw[wrap_i64 aa aa];omega
  obtain⟨w,hww⟩:=Int.eq_ofNat_of_zero_le (Nz i).1
  have mz:=(Nz i).2
  have hp:d*w≤4294967295*4294967295:=Nat.mul_le_mul aa aa
  have e9:IntKind.u64.wrap ((c:Int)+IntKind.u64.wrap ((d:Int)*IntKind.u64.wrap (w:Int)))=((c+d*w:Nat):Int):=by
   rw[ep (n:=w) aa,←Int.natCast_mul,ep (n:=d*w) aa,←Int.natCast_add,ep aa]
  have Ib:IntKind.u32.wrap ((c+d*w:Nat):Int)=(((c+d*w) % 4294967296:Nat):Int):=n0 _
  have QH:jD .u64 ((c+d*w:Nat):Int) 32=(((c+d*w)/4294967296:Nat):Int):=fL _
  have Mu:=Al x ((c+d*w) % 4294967296) l aa aa hl
  have cJ:=GY (o:=o) (us:=us) (vs:=vs) aa hx hww hl aa b7
  have nx:(c+d*w)/4294967296<4294967296:=aa
  have qh:(if x<(c+d*w) % 4294967296+l then 1 else 0:Nat)≤1:=by split<;>omega
  conv=>whnf
  (repeat((first|refine ag rfl rfl ?_|refine And.intro Q7 ?_|refine aS (by assumption) ?_|rw[t1]|rw[e1]|rw[e1s]|rw[hww]|rw[QI]|rw[e9]|rw[Ib]|rw[QH]|rw[e2]);conv=>whnf))
  exact⟨n - (i+1),fun k=>k,[0,1,2,7,8,12,13,14],[0,1],aa,aB,i+1,_,_,_,rfl,aa,by simpa using hlen,hw.set aa aa,nx,qh,(fun j hj=>by rw[aW,if_neg aa];exact cv j aa),cJ,rfl,rfl⟩
 ·have jU:i=n:=aa
  subst jU
  have t1:decide ((i:Int)<(i:Int))=false:=decide_eq_false aa
  have e1s:s+(i:Int).toNat=s+i:=aa
  have e8:IntKind.u32.wrap (c:Int)=(c:Int):=nz hc
  have Mu:=Al x c l aa hc hl
  have ie:=Jy aa hx hl hc aa b7
  have qh:(if x<c+l then 1 else 0:Nat)≤1:=by split<;>omega
  have vx:fK (o.set (s+i) (((x+4294967296 - c - l) % 4294967296:Nat):Int)):=hw.set aa aa
  have Mv:(o.set (s+i) (((x+4294967296 - c - l) % 4294967296:Nat):Int)).length=L:=by simpa using hlen
  obtain⟨hd1,hd2⟩:=Jz (R:=R) (D:=d*V*4294967296^s) (B:=4294967296^(s+i+1)) qh (b8 vx _) (by rw[cS];exact gq vx _) hR (by rw[ie,JB,hV,Int.natCast_mul,Int.natCast_mul,cS,cS])
  have Gv:=DW _ _ Mv vx (fun j hj=>by rw[aW,if_neg aa,cv j aa];exact hz j hj) hd2
  conv=>whnf
  (repeat((first|refine af rfl rfl ?_|refine And.intro Q7 ?_|refine aS (by assumption) ?_|rw[t1]|rw[e1s]|rw[e8]|rw[QI]);conv=>whnf))
  rw[←Gv,←hd1]
  exact⟨aq.refl _,(fun _ _ h=>by cases h),fW rfl rfl⟩
def Hid (p:Prop):Prop:=p
theorem Hid.out {p:Prop} (h:Hid p):p:=h
theorem aX {α:Type} [LT α] {a b:α} {q:Prop} (h:a<b) (hq:q):a<b∧q:=⟨h,hq⟩
theorem gr {α:Type} [LE α] {a b:α} {q:Prop} (h:a≤b) (hq:q):a≤b∧q:=⟨h,hq⟩
theorem ay {a b q:Prop} (h:a∧b) (hq:q):(a∧b)∧q:=⟨h,hq⟩
theorem bN {α:Type} {a b:α} {q:Prop} (h:a≠b) (hq:q):a≠b∧q:=⟨h,hq⟩
theorem JC {V R P S W d r:Nat} (hP:0<P) (hS:0<S) (hW:0<W) (h1:d*(V/P/W)+r=R/(P*S)/W) (h2:r*W+R/(P*S) % W<d*(V/P % W)):R<d*V*S:=by
 have e1:=Nat.div_add_mod (V/P) W
 have e2:=Nat.div_add_mod (R/(P*S)) W
 have hV:=Nat.div_mul_le_self V P
 have hPS:0<P*S:=Nat.mul_pos hP hS
 have hR:=Nat.lt_div_mul_add (a:=R) hPS
 generalize V/P=V2 at*
 generalize R/(P*S)=R2 at*
 generalize V2/W=v1 at*
 generalize V2 % W=v2 at*
 generalize R2/W=t at*
 generalize R2 % W=u0 at*
 have h3:R2+1≤d*V2:=by
  rw[←e1,←e2,←h1,Nat.mul_add,Nat.mul_add]
  have:d*(W*v1)=W*(d*v1):=by rw[Nat.mul_left_comm]
  have:W*r=r*W:=Nat.mul_comm _ _
  omega
 have h4:(R2+1)*(P*S)≤d*V*S:=by
  refine Nat.le_trans (Nat.mul_le_mul_right _ h3) ?_
  rw[show d*V2*(P*S)=d*(V2*P)*S from by simp only[Nat.mul_assoc]]
  exact Nat.mul_le_mul_right _ (Nat.mul_le_mul_left _ hV)
 rw[Nat.add_mul,Nat.one_mul]at h4
 omega
theorem GZ {V R P S W d r:Nat} (hP:0<P) (hS:0<S) (hW:0<W) (hd:d<W) (h1:d*(V/P/W)+r=R/(P*S)/W) (h2:d*(V/P % W)≤r*W+R/(P*S) % W) (hV:W*P≤V):d*V*S≤R+V*S:=by
 have e1:=Nat.div_add_mod (V/P) W
 have e2:=Nat.div_add_mod (R/(P*S)) W
 have hV2:=Nat.lt_div_mul_add (a:=V) hP
 have hR:=Nat.div_mul_le_self R (P*S)
 generalize V/P=V2 at*
 generalize R/(P*S)=R2 at*
 generalize V2/W=v1 at*
 generalize V2 % W=v2 at*
 generalize R2/W=t at*
 generalize R2 % W=u0 at*
 have h3:d*V2≤R2:=by
  rw[←e1,←e2,←h1,Nat.mul_add,Nat.mul_add]
  have:d*(W*v1)=W*(d*v1):=by rw[Nat.mul_left_comm]
  have:W*r=r*W:=Nat.mul_comm _ _
  omega
 have h4:d*V≤d*V2*P+d*P:=by
  rw[Nat.mul_assoc,←Nat.mul_add];exact Nat.mul_le_mul_left _ aa
 have h5:d*P≤V:=Nat.le_trans (Nat.mul_le_mul_right _ (Nat.le_of_lt hd)) hV
 have h6:d*V*S≤(R2*P+V)*S:=Nat.mul_le_mul_right _ (Nat.le_trans h4 (Nat.add_le_add (Nat.mul_le_mul_right _ h3) h5))
 rw[show(R2*P+V)*S=R2*(P*S)+V*S from by rw[Nat.add_mul,Nat.mul_assoc]]at h6
 omega
theorem G0 {V R P S W d r:Nat} (hP:0<P) (hS:0<S) (hW:0<W) (hd:d<W) (h1:d*(V/P/W)+r=R/(P*S)/W) (hr:W≤r):d*V*S≤R:=by
 have hPW:0<P*W:=Nat.mul_pos hP hW
 have hV2:=Nat.lt_div_mul_add (a:=V) hPW
 have hR:=Nat.div_mul_le_self R (P*S*W)
 rw[Nat.div_div_eq_div_mul]at h1
 rw[Nat.div_div_eq_div_mul]at h1
 generalize V/(P*W)=v1 at*
 generalize R/(P*S*W)=t at*
 have h3:d*V≤(d*v1+W)*(P*W):=by
  have h4:d*V≤d*(v1*(P*W)+P*W):=Nat.mul_le_mul_left _ aa
  rw[Nat.mul_add,←Nat.mul_assoc]at h4
  rw[Nat.add_mul]
  exact Nat.le_trans h4 (Nat.add_le_add_left (Nat.mul_le_mul_right _ (Nat.le_of_lt hd)) _)
 have h5:d*V*S≤(d*v1+r)*(P*W)*S:=Nat.mul_le_mul_right _ (Nat.le_trans h3 (Nat.mul_le_mul_right _ aa))
 rw[h1,show t*(P*W)*S=t*(P*S*W)from by simp only[Nat.mul_assoc,Nat.mul_comm S W]]at h5
 omega
theorem D5 {V R P S W d r:Nat} (hP:0<P) (hS:0<S) (hW:0<W) (h1:d*(V/P/W)+r=R/(P*S)/W) (hr:W≤r) (hR:R<V*(S*W)):d<W:=by
 have hPW:0<P*W:=Nat.mul_pos hP hW
 have hV2:=Nat.lt_div_mul_add (a:=V) hPW
 have hR2:=Nat.div_mul_le_self R (P*S*W)
 rw[Nat.div_div_eq_div_mul]at h1
 rw[Nat.div_div_eq_div_mul]at h1
 generalize V/(P*W)=v1 at*
 generalize R/(P*S*W)=t at*
 refine Classical.byContradiction fun hc=> ?_
 have h2:W*v1≤d*v1:=Nat.mul_le_mul_right _ aa
 have h3:W*v1+W≤t:=aa
 have h4:(W*v1+W)*(P*S*W)≤R:=Nat.le_trans (Nat.mul_le_mul_right _ h3) hR2
 have h5:V*(S*W)≤(v1*(P*W)+P*W)*(S*W):=Nat.mul_le_mul_right _ aa
 rw[show(v1*(P*W)+P*W)*(S*W)=(W*v1+W)*(P*S*W)from by grind]at h5
 omega
theorem D6 {V R P S W d:Nat} (hP:0<P) (hS:0<S) (hW:0<W) (hv:0<V/P/W) (hd:R/(P*S)/W/(V/P/W)=d):R<(d+1)*V*S:=by
 have hPW:0<P*W:=Nat.mul_pos hP hW
 have aev:0<P*S*W:=Nat.mul_pos (Nat.mul_pos hP hS) hW
 have hV2:=Nat.div_mul_le_self V (P*W)
 have hR2:=Nat.lt_div_mul_add (a:=R) aev
 rw[Nat.div_div_eq_div_mul R,Nat.div_div_eq_div_mul V]at hd
 rw[Nat.div_div_eq_div_mul]at hv
 have aA:=Nat.lt_div_mul_add (a:=R/(P*S*W)) hv
 rw[hd]at aA
 generalize V/(P*W)=v1 at*
 generalize R/(P*S*W)=t at*
 have h1:t+1≤(d+1)*v1:=by rw[Nat.add_mul];omega
 have h2:(t+1)*(P*S*W)≤(d+1)*V*S:=by
  refine Nat.le_trans (Nat.mul_le_mul_right _ h1) ?_
  rw[show(d+1)*v1*(P*S*W)=(d+1)*(v1*(P*W))*S from by grind]
  exact Nat.mul_le_mul_right _ (Nat.mul_le_mul_left _ hV2)
 rw[Nat.add_mul,Nat.one_mul]at h2
 omega
theorem yE {o us vs:List Int} {s i x w c:Nat} (hi:s+i<o.length) (hx:us.getD (s+i) 0=x) (hw:vs.getD i 0=w)
  (hv:az o (s+i)+c*4294967296^(s+i)=az us (s+i)+az vs i*4294967296^s):
  az (o.set (s+i) (((x+w+c) % 4294967296:Nat):Int)) (s+(i+1))+(((x+w+c)/4294967296:Nat):Int)*4294967296^(s+(i+1))=az us (s+(i+1))+az vs (i+1)*4294967296^s:=by
 rw[show s+(i+1)=(s+i)+1 from aa,az,az,az,da (Nat.le_refl _),aW,if_pos ⟨rfl,hi⟩,hx,hw,Int.pow_succ]
 have hd:(((x+w+c) % 4294967296:Nat):Int)=(x:Int)+w+c - (((x+w+c)/4294967296:Nat):Int)*4294967296:=aa
 rw[hd]
 rw[Int.pow_add]at hv ⊢
 generalize (((x+w+c)/4294967296:Nat):Int)=q
 generalize (4294967296:Int)^i=P at*
 generalize (4294967296:Int)^s=Q at*
 grind
theorem Ch {o us vs:List Int} {s n x c R' V:Nat} (hi:s+n<o.length) (hx:us.getD (s+n) 0=x) (hc:c≤1) (MH:x<4294967296) (hu:az us (s+n+1)=R') (hV:az vs n=V)
  (hv:az o (s+n)+c*4294967296^(s+n)=az us (s+n)+az vs n*4294967296^s) (h0:fK (o.set (s+n) (((x+c) % 4294967296:Nat):Int))):
  az (o.set (s+n) (((x+c) % 4294967296:Nat):Int)) (s+n+1)=(((R'+V*4294967296^s) % 4294967296^(s+n+1):Nat):Int):=by
 have h1:=b8 h0 (s+n+1)
 have h2:=gq h0 (s+n+1)
 rw[az]at hu
 have h3:az (o.set (s+n) (((x+c) % 4294967296:Nat):Int)) (s+n+1)=((R'+V*4294967296^s:Nat):Int) - (((x+c)/4294967296:Nat):Int)*4294967296^(s+n+1):=by
  rw[az,da (Nat.le_refl _),aW,if_pos ⟨rfl,hi⟩,Int.natCast_add,←hu,hx,Int.natCast_mul,←hV,cS,Int.pow_succ]
  have hd:(((x+c) % 4294967296:Nat):Int)=(x:Int)+c - (((x+c)/4294967296:Nat):Int)*4294967296:=aa
  rw[hd]
  generalize (((x+c)/4294967296:Nat):Int)=q
  generalize (4294967296:Int)^(s+n)=P at*
  generalize (4294967296:Int)^s=Q at*
  grind
 rw[←cS]at h2
 rw[h3]at h1 h2 ⊢
 rw[←cS]at*
 have e1:(((x+c)/4294967296:Nat):Int)*((4294967296^(s+n+1):Nat):Int)=((((x+c)/4294967296)*4294967296^(s+n+1):Nat):Int):=(Int.natCast_mul _ _).symm
 rw[e1]at h1 h2 ⊢
 generalize (x+c)/4294967296=t at*
 generalize 4294967296^(s+n+1)=B at*
 generalize V*4294967296^s=D at*
 have h5:R'+D=(R'+D - t*B)+t*B:=aa
 rw[h5,Nat.add_mul_mod_self_right,Nat.mod_eq_of_lt aa]
 omega
theorem Ci {R d D B:Nat} (h:d*D≤R) (hB:R<B):(R+B - d*D) % B=R - d*D:=by
 rw[show R+B - d*D=(R - d*D)+B from aa,Nat.add_mod_right,Nat.mod_eq_of_lt aa]
theorem Cj {R d D B:Nat} (h:R<d*D) (h2:d*D≤R+D) (hB:R<B) (hD:D≤B):((R+B - d*D) % B+D) % B=R - (d - 1)*D∧(d - 1)*D≤R∧R<(d - 1+1)*D∧0<d:=by
 have hd:0<d:=by
  rcases Nat.eq_zero_or_pos d with rfl|h'
  ·simp at h
  ·exact h'
 have e:d*D=(d - 1)*D+D:=by rw[←Nat.succ_mul];congr 1;omega
 have e2:(d - 1+1)*D=d*D:=by congr 1;omega
 rw[e2]
 refine⟨?_,aa,h,hd⟩
 rw[Nat.mod_eq_of_lt (show R+B - d*D<B by omega)]
 rw[show R+B - d*D+D=(R - (d - 1)*D)+B from aa,Nat.add_mod_right,Nat.mod_eq_of_lt aa]
theorem G1 {ys:List Int} (hy:fK ys) {n y Y s V:Nat} (h2:2≤n) (hyt:ys.getD (n - 1) 0=y) (hY:az ys n=Y) (hs:32 - sz y=s) (hV:Y*2^s=V) (h1:1≤sz y) (h32:sz y≤32):
  V<4294967296^n∧2147483648*4294967296^(n - 1)≤V:=by
 have hn:n=(n - 1)+1:=aa
 have ha:=b8 hy (n - 1)
 have hb:=gq hy (n - 1)
 rw[hn,az,hyt]at hY
 rw[←cS]at hb hY
 have e1:(y:Int)*((4294967296^(n - 1):Nat):Int)=((y*4294967296^(n - 1):Nat):Int):=(Int.natCast_mul _ _).symm
 rw[e1]at hY
 have hY1:y*4294967296^(n - 1)≤Y:=aa
 have hY2:Y<(y+1)*4294967296^(n - 1):=by rw[Nat.add_mul,Nat.one_mul];omega
 have Z4:y<2^sz y:=eW.1 (Nat.le_refl _)
 have ZN:2^(sz y - 1)≤y:=by
  refine Classical.byContradiction fun h=> ?_
  have:=eW.2 (show y<2^(sz y - 1) by omega)
  omega
 have p1:2^sz y*2^s=4294967296:=by rw[←Nat.pow_add,show sz y+s=32 from by omega]
 have p2:2^(sz y - 1)*2^s=2147483648:=by rw[←Nat.pow_add,show sz y - 1+s=31 from by omega]
 have ZO:0<2^s:=Nat.two_pow_pos s
 have hQ:4294967296^n=4294967296^(n - 1)*4294967296:=by rw[←Nat.pow_succ];congr 1
 rw[hQ,←hV]
 generalize 4294967296^(n - 1)=Q at*
 generalize 2^s=T at*
 constructor
 ·have h3:Y*T<(y+1)*Q*T:=Nat.mul_lt_mul_of_pos_right hY2 ZO
  have h4:(y+1)*Q*T≤2^sz y*Q*T:=Nat.mul_le_mul_right _ (Nat.mul_le_mul_right _ Z4)
  rw[show 2^sz y*Q*T=Q*(2^sz y*T)from by rw[Nat.mul_comm (2^sz y) Q,Nat.mul_assoc],p1]at h4
  omega
 ·have h3:2^(sz y - 1)*Q*T≤Y*T:=Nat.mul_le_mul_right _ (Nat.le_trans (Nat.mul_le_mul_right _ ZN) hY1)
  rw[show 2^(sz y - 1)*Q*T=(2^(sz y - 1)*T)*Q from by rw[Nat.mul_assoc,Nat.mul_comm Q T,Nat.mul_assoc],p2]at h3
  exact h3
theorem D7 {k n:Nat} (h2:2≤n):4294967296^(k+(n - 2))=4294967296^(n - 2)*4294967296^k∧4294967296^(k+(n - 1))=4294967296^(n - 2)*4294967296^k*4294967296∧4294967296^(k+n)=4294967296^(n - 2)*4294967296^k*4294967296*4294967296∧
  4294967296^(n - 1)=4294967296^(n - 2)*4294967296∧4294967296^n=4294967296^(n - 2)*4294967296*4294967296∧4294967296^(k+n+1)=4294967296^(n - 2)*4294967296^k*4294967296*4294967296*4294967296:=by
 have e0:4294967296^(k+(n - 2))=4294967296^(n - 2)*4294967296^k:=by rw[Nat.pow_add,Nat.mul_comm]
 refine⟨e0, ?_, ?_, ?_, ?_, ?_⟩
 ·rw[←e0,←Nat.pow_succ];congr 1;omega
 ·rw[←e0,←Nat.pow_succ,←Nat.pow_succ];congr 1;omega
 ·rw[←Nat.pow_succ];congr 1;omega
 ·rw[←Nat.pow_succ,←Nat.pow_succ];congr 1;omega
 ·rw[←e0,←Nat.pow_succ,←Nat.pow_succ,←Nat.pow_succ];congr 1;omega
theorem D8 {X V s l n:Nat} (hX:X<4294967296^l) (hs:s<32) (hV:2147483648*4294967296^(n - 1)≤V) (h2:2≤n) (ZP:n≤l):X*2^s<V*4294967296^(l+1 - n):=by
 have h3:2^s≤2147483648:=Nat.le_trans (Nat.pow_le_pow_right aF (show s≤31 by omega)) aF
 have e:4294967296^l=4294967296^(n - 1)*4294967296^(l+1 - n):=by rw[←Nat.pow_add];congr 1;omega
 have h4:2147483648*4294967296^(n - 1)*4294967296^(l+1 - n)≤V*4294967296^(l+1 - n):=Nat.mul_le_mul_right _ hV
 rw[Nat.mul_assoc,←e,Nat.mul_comm]at h4
 have h5:X*2^s<4294967296^l*2147483648:=Nat.lt_of_lt_of_le (Nat.mul_lt_mul_of_pos_right hX (Nat.two_pow_pos s)) (Nat.mul_le_mul_left _ h3)
 omega
theorem D9 {R V P S k n l:Nat} (h2:2≤n) (hk:k+n<l+1) (hP:4294967296^(n - 2)=P) (hS:4294967296^k=S) (hVn:V<4294967296^n) (hVg:2147483648*4294967296^(n - 1)≤V) (hR:R<V*(S*4294967296)):
  R<4294967296^(k+n+1)∧V*4294967296^k≤4294967296^(k+n+1)∧4294967296*P≤V∧(2147483648≤V/P/4294967296∧V/P/4294967296<4294967296)∧R/(P*S)/4294967296<18446744073709551616∧
  (bL R (l+1)).getD (k+n) 0=((R/(P*S)/4294967296/4294967296:Nat):Int)∧(bL R (l+1)).getD (k+(n - 1)) 0=((R/(P*S)/4294967296 % 4294967296:Nat):Int)∧(bL R (l+1)).getD (k+(n - 2)) 0=((R/(P*S) % 4294967296:Nat):Int)∧
  (bL V (n+1)).getD (n - 1) 0=((V/P/4294967296:Nat):Int)∧(bL V (n+1)).getD (n - 2) 0=((V/P % 4294967296:Nat):Int):=by
 obtain⟨q1,q2,q3,q4,q5,q6⟩:=D7 (k:=k) h2
 rw[hP]at q1 q2 q3 q4 q5 q6
 rw[hS]at q1 q2 q3 q6
 have hP0:0<P:=by rw[←hP];exact Nat.pow_pos aF
 have hS0:0<S:=by rw[←hS];exact Nat.pow_pos aF
 have hPS:0<P*S:=Nat.mul_pos hP0 hS0
 rw[q5]at hVn
 rw[q4]at hVg
 have c1:V*(S*4294967296)≤P*S*4294967296*4294967296*4294967296:=by
  refine Nat.le_trans (Nat.mul_le_mul_right _ (Nat.le_of_lt hVn)) (Nat.le_of_eq ?_)
  grind
 have Yn:R<P*S*4294967296*4294967296*4294967296:=Nat.lt_of_lt_of_le hR c1
 have c2:V*S≤P*S*4294967296*4294967296*4294967296:=Nat.le_trans (Nat.mul_le_mul_left _ aa) c1
 have d1:V/P/4294967296=V/(P*4294967296):=Nat.div_div_eq_div_mul _ _ _
 have ab5:V/P/4294967296<4294967296:=by
  rw[d1];exact Nat.div_lt_of_lt_mul hVn
 have aew:2147483648≤V/P/4294967296:=by
  rw[d1];exact(Nat.le_div_iff_mul_le aa).2 hVg
 have d2:R/(P*S)/4294967296/4294967296=R/(P*S*4294967296*4294967296):=by rw[Nat.div_div_eq_div_mul,Nat.div_div_eq_div_mul,Nat.mul_assoc (P*S)]
 have d3:R/(P*S)/4294967296=R/(P*S*4294967296):=Nat.div_div_eq_div_mul _ _ _
 have tlt:R/(P*S)/4294967296/4294967296<4294967296:=by
  rw[d2];exact Nat.div_lt_of_lt_mul Yn
 refine⟨by rw[q6];exact Yn,by rw[q6,hS];exact c2,aa,⟨aew,ab5⟩,aa, ?_, ?_, ?_, ?_, ?_⟩
 ·rw[jc aa,q3,←d2,Nat.mod_eq_of_lt tlt]
 ·rw[jc aa,q2,←d3]
 ·rw[jc aa,q1]
 ·rw[jc aa,q4,←d1,Nat.mod_eq_of_lt ab5]
 ·rw[jc aa,hP]
variable {M:Nat}
theorem Ft (a b:Rat):decide (a.den - 1=b.den - 1)=decide (a.den=b.den):=decide_eq_decide.2 (by have:=a.den_pos;have:=b.den_pos;omega)
theorem uU {x y:Int} {k M:Nat} (hx:sz x.natAbs≤k) (hy:sz y.natAbs≤k) (h:k+1≤M):sz (x+y).natAbs≤M:=
 Nat.le_trans (Nat.le_trans (dQ (Int.natAbs_add_le x y)) (v7 hx hy)) h
theorem wJ {a b:Rat} (h:a.den=b.den):mkRat (a.num+b.num) a.den=a+b:=by
 rw[Rat.add_def',←h,←Int.add_mul,Rat.mkRat_mul_right a.den_nz]
theorem JD (ok:il M) (a b:Rat) (h:qg a+qg b+1≤M):ab Tryz.prog 80 [.frac a,.frac b] [] (.frac (a+b)) [] []:=by
 have ha:=dq a;have ha':=dE a;have hb:=dq b;have gj:=dE b
 have hbp:=rU b.den b.den_nz
 have hap:=rU a.den a.den_nz
 have wa:=mR a
 have wb:=mR b
 have k1:=wq ok a.num b.num aa aa
 have k2:=ui ok a aa
 have k3:=ui ok b aa
 refine bP [] Tryz.func80 ?_
 intro W0 w0 ρ0 hE
 conv=>whnf
 by_cases hw:a.den=1∧b.den=1
 ·have k5:=Aj (a.num+b.num)
  have e:((a.num+b.num:Int):Rat)=a+b:=by
   rw[mS hw.1,mS hw.2,Rat.intCast_add];rfl
  rw[e]at k5
  rw[decide_eq_true hw.1]at wa
  rw[decide_eq_true hw.2]at wb
  (repeat(first|(refine ag rfl rfl ?_;conv=>whnf)|(refine aS (by assumption) ?_;conv=>whnf)|(refine ak jJ ?_;conv=>whnf)));exact aq.refl _
 ·by_cases h1:a.den=1
  ·rw[decide_eq_true h1]at wa
   rw[decide_eq_false (show ¬b.den=1 from fun h2=>hw ⟨h1,h2⟩)]at wb
   (repeat((first|refine ag rfl rfl ?_|refine af rfl rfl ?_|refine aS (by assumption) ?_|refine ak jJ ?_);conv=>whnf))
   refine⟨_,eJ aL df rfl (aj rfl) (aj rfl) rfl rfl rfl rfl (nX (a.den - 1) (b.den - 1)) l0, ?_⟩
   rw[Ft]
   by_cases hd:a.den=b.den
   ·rw[decide_eq_true hd]
    have k4:=kk ok (a.num+b.num) a.den (uU (k:=M - 1) aa aa aa) aa a.den_nz
    rw[wJ hd]at k4
    conv=>whnf
    (repeat(first|(refine ag rfl rfl ?_;conv=>whnf)|(refine aw aB ?_;conv=>whnf)|(refine aS (by assumption) ?_;conv=>whnf)));exact aq.refl _
   ·rw[decide_eq_false hd]
    have p1:=fu a.num.natAbs b.den
    have p2:=fu b.num.natAbs a.den
    have p3:=fu a.den b.den
    have q1:sz (a.num*b.den).natAbs≤M - 1:=by rw[Int.natAbs_mul,Int.natAbs_natCast];omega
    have q2:sz (b.num*a.den).natAbs≤M - 1:=by rw[Int.natAbs_mul,Int.natAbs_natCast];omega
    have r1:=qR ok a aa
    have r2:=qR ok b aa
    have r3:=rT ok a.num b.den ZI
    have r4:=rT ok b.num a.den ZI
    have r5:=wq ok (a.num*b.den) (b.num*a.den) aa aa
    have r6:=ok.mul a.den b.den aa
    have r7:=kk ok (a.num*b.den+b.num*a.den) (a.den*b.den) (uU (k:=M - 1) q1 q2 aa) aa (Nat.mul_ne_zero a.den_nz b.den_nz)
    rw[←Rat.add_def']at r7
    conv=>whnf
    (repeat(first|(refine af rfl rfl ?_;conv=>whnf)|(refine aw aB ?_;conv=>whnf)|(refine aS (by assumption) ?_;conv=>whnf)));exact aq.refl _
  ·rw[decide_eq_false h1]at wa
   (repeat(first|(refine af rfl rfl ?_;conv=>whnf)|(refine aS (by assumption) ?_;conv=>whnf)|(refine ak jo ?_;conv=>whnf)))
   refine⟨_,eJ aL df rfl (aj rfl) (aj rfl) rfl rfl rfl rfl (nX (a.den - 1) (b.den - 1)) l0, ?_⟩
   rw[Ft]
   by_cases hd:a.den=b.den
   ·rw[decide_eq_true hd]
    have k4:=kk ok (a.num+b.num) a.den (uU (k:=M - 1) aa aa aa) aa a.den_nz
    rw[wJ hd]at k4
    conv=>whnf
    (repeat(first|(refine ag rfl rfl ?_;conv=>whnf)|(refine aw aB ?_;conv=>whnf)|(refine aS (by assumption) ?_;conv=>whnf)));exact aq.refl _
   ·rw[decide_eq_false hd]
    have p1:=fu a.num.natAbs b.den
    have p2:=fu b.num.natAbs a.den
    have p3:=fu a.den b.den
    have q1:sz (a.num*b.den).natAbs≤M - 1:=by rw[Int.natAbs_mul,Int.natAbs_natCast];omega
    have q2:sz (b.num*a.den).natAbs≤M - 1:=by rw[Int.natAbs_mul,Int.natAbs_natCast];omega
    have r1:=qR ok a aa
    have r2:=qR ok b aa
    have r3:=rT ok a.num b.den ZI
    have r4:=rT ok b.num a.den ZI
    have r5:=wq ok (a.num*b.den) (b.num*a.den) aa aa
    have r6:=ok.mul a.den b.den aa
    have r7:=kk ok (a.num*b.den+b.num*a.den) (a.den*b.den) (uU (k:=M - 1) q1 q2 aa) aa (Nat.mul_ne_zero a.den_nz b.den_nz)
    rw[←Rat.add_def']at r7
    conv=>whnf
    (repeat(first|(refine af rfl rfl ?_;conv=>whnf)|(refine aw aB ?_;conv=>whnf)|(refine aS (by assumption) ?_;conv=>whnf)));exact aq.refl _
end Go.Proofs.YtfpagioknjjacaaGreatDoor
