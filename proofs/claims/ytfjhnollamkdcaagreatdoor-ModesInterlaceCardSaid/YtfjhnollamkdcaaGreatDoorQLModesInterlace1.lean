/- The texts SxS, SxX, SxY, Hb, Hd, Ja, Mc, Jb, Ka, Kb, Kg, Kf, Kh, Kn, Ko, Az, Ae, Ad, Kw, Ia, Am, Ap. -/
import Derived.Carry
import Derived.OpenShut
import Derived.Deep.Slices
import Derived.Lib.LaidTab
import Derived.Test.YtfjhnollamkdcaaGreatDoorQsA28
namespace Go.Sx
open Go.ChangeShapes
theorem trodAll_stays {H:Type} {enc:TypeId×Value→H} {P:Program} (hl:laidOutB P=true) {W W':World} (hb:RowKit.Below W.heap.size W W'):
  ∀(ts:List TypeId) (vs:List Value) (ds:List (DataW H)) (ps:List MemPlace),ts.all (fun t=>P.readableRec t&&decide (t<P.types.size))=true→DataW.TrodAll enc P W 0 (fun _=>true) true ts vs ds ps→(∀p∈ps,p.block<W.heap.size)→
   DataW.TrodAll enc P W' 0 (fun b=>decide (b<W.heap.size)) true ts vs ds ps
 |[],[],[],_,_,h,_=>h
 |t::ts,v::vs,d::ds,ps,hr,h,hlt=>by
  obtain⟨p,q,h1,h2,rfl⟩:=h
  simp only[List.all_cons,Bool.and_eq_true,decide_eq_true_eq]at hr
  exact⟨p,q,RowKit.Below.trod hl hr.1.1 hr.1.2 h1 hb (fun x hx=>hlt x (List.mem_append.2 (.inl hx))),trodAll_stays hl hb ts vs ds q hr.2 h2 (fun x hx=>hlt x (List.mem_append.2 (.inr hx))),rfl⟩
 |[],_::_,_,_,_,h,_=>h.elim
 |[],[],_::_,_,_,h,_=>h.elim
 |_::_,[],_,_,_,h,_=>h.elim
 |_::_,_::_,[],_,_,h,_=>h.elim
theorem law_post {H:Type} {enc:TypeId×Value→H} {P:Program} {f:Func} {s:ChangeSpec} {W W':World} {args:Array Value} {ds gs:List (DataW H)} {before:List MemPlace} {tb:TypeId}
  (hl:laidOutB P=true) (hr:f.params.toList.all (fun t=>P.readableRec t&&decide (t<P.types.size))=true) (hv:s.vars=[]) (hres:f.resultTypes= #[tb]) (htb:P.underlying tb=some .bool)
  (hW:DataW.Whole enc P f.params.toList s.vars false W args.toList ds gs before) (hfn:(s.fn H (ds++gs)).results=[.lit (.bool true)]∧(s.fn H (ds++gs)).args=ds∧(s.fn H (ds++gs)).vars=[])
  (hb:RowKit.Below W.heap.size W W'):s.post enc P f false true false false W args (.bool true) W':=by
 have hlt:=hW.lt
 have hW':=hW
 obtain⟨p,q,h1,h2,rfl,h3,h4⟩:=hW
 rw[hv]at h2
 obtain⟨rfl,rfl⟩:=trodVars_none h2
 rw[List.append_nil]at hlt
 refine⟨ds,[],p++[],[],p,[],hW', ?_, ?_, ?_,hb.frame _,fun h=>by cases h⟩
 ·rw[hfn.1,hres]
  exact trodAll_cons_mk (RowKit.shut_bool htb true) trodAll_mk0
 ·rw[hfn.2.1]
  exact trodAll_stays hl hb _ _ _ _ hr h1 hlt
 ·rw[hv,hfn.2.2]
  exact rfl
end Go.Sx
namespace Go.Sx
open Go.ChangeShapes Go.WideShapes
theorem tab_heap {P:Program} {W:World} {name:String} {k:IntKind} {zs:List Int} {g:Nat} (hg:P.globalNamed name=some g) (h:Lib.TabIs P W name k zs):∃ty fz,W.heap[g]? =some (.cells (zs.map fun x=>Value.int k x).toArray ty fz):=by
 unfold Lib.TabIs World.var? at h
 rw[hg]at h
 simp only[Option.bind_some]at h
 cases ho:W.heap[g]? with
 |none=>rw[ho]at h;cases h
 |some o=>
  rw[ho]at h
  cases o<;>simp_all
theorem law_runA {P:Program} {f:FuncId} {args:List SV} {W:World} (hf:FnOK P f) (h:CallOK P f args [] (.val (.bool true)) [] [])
  (hg:TabsW W) {z:List (List Value)} (hz:HasZ (allRho hg) args z):
  Calls P f (List.zipWith mkV args z).toArray W fun e w'=>e= .returned (.bool true)∧RowKit.Below W.heap.size W w':=by
 refine(h.calls hf hz ⟨(fun k b hb=>by cases hb),(fun k k' x x' b b' hb=>by cases hb),(fun b o hb=>hb),(fun k b x hb=>by cases hb),(fun k b hb=>by cases hb)⟩).mono ?_
 rintro e w' ⟨v,ρ',rfl,hp⟩
 refine⟨by rw[of_has_val hp.has], ?_⟩
 exact(hp.pres.mono (W':=fun _=>False) (fun b _ ⟨k,blk,t,hm,_⟩=>by cases hm)).below
section
variable {H:Type} {enc:TypeId×Value→H} {P:Program} {W:World} {hg:TabsW W}
theorem Opens.struct2 {t:TypeId} {f0 f1:Field} {α β:Type} {a:α→SV} {b:β→SV} {ga:α→Prop} {gb:β→Prop} (ht:P.underlying t=some (.struct #[f0,f1])) (o0:f0.offset=0) (o1:f1.offset=P.cellsOf f0.type) (hc:P.cellsOf t=P.cellsOf f0.type+P.cellsOf f1.type)
  (h0:Opens enc P hg f0.type a ga) (h1:Opens enc P hg f1.type b gb):Opens enc P hg t (ag2 a b) (fun p=>ga p.1∧gb p.2):=fun fuel cs x h=>by
 obtain⟨xs,n,rfl,_,hlen,hxl,hf⟩:=DataW.trod_struct ht h
 have hx0:xs.length=2:=hxl
 obtain⟨y0,y1,rfl⟩:∃y0 y1,xs=[y0,y1]:=by
  match xs,hx0 with
  |[y0,y1],_=>exact⟨y0,y1,rfl⟩
 have g0:=hf 0 f0 rfl
 have g1:=hf 1 f1 rfl
 obtain⟨p,p1,p2⟩:=h0 _ _ _ g0
 obtain⟨q,q1,q2⟩:=h1 _ _ _ g1
 refine⟨(p,q),⟨p1,q1⟩, ?_⟩
 simp only[ag2,HasC]
 refine⟨[_,_],by simp only[HasZ];exact⟨_,_,rfl,p2,_,_,rfl,q2,rfl⟩, ?_⟩
 simp only[List.flatten_cons,List.flatten_nil,List.append_nil,o0,o1,List.drop_zero]
 rw[List.take_of_length_le (l:=cs.drop _) (by rw[List.length_drop];omega),List.take_append_drop]
theorem mkV_one {c:SV} {v:Value} (h:c.isOne=true) (hv:v.cells.toList=[v]):mkV c v.cells.toList=v:=by rw[hv];simp[mkV,h]
theorem mkV_agg {c:SV} {v:Value} {cs:Array Value} (h:c.isOne=false) (hv:v= .agg cs):mkV c v.cells.toList=v:=by subst hv;simp[mkV,h,Value.cells]
end
end Go.Sx
namespace Go.Sx
theorem wf_u32 {x:Int} (h:(Lit.int .u32 x).wf=true):0≤x∧x<4294967296:=by
 simp[Lit.wf,IntKind.min,IntKind.max,IntKind.bits,IntKind.signed]at h;omega
theorem wf_u8 {x:Int} (h:(Lit.int .u8 x).wf=true):0≤x∧x<256:=by
 simp[Lit.wf,IntKind.min,IntKind.max,IntKind.bits,IntKind.signed]at h;omega
theorem wf_i64 {x:Int} (h:(Lit.int .i64 x).wf=true): -9223372036854775808≤x∧x<9223372036854775808:=by
 simp[Lit.wf,IntKind.min,IntKind.max,IntKind.bits,IntKind.signed]at h;omega
theorem laid_tail {P:Program} {W:World} {x:String×DataW Unit} {rest:List (String×DataW Unit)} (h:laidMet P (x::rest) W):laidMet P rest W:=by
 obtain⟨n,d⟩:=x
 obtain⟨ps,⟨g,t,cs,fuel,p,q,_,_,_,_,hr,rfl⟩,hn,hb⟩:=h
 exact⟨q,hr,(List.nodup_append.1 hn).2.1,fun b off hm=>hb b off (List.mem_append.2 (.inr hm))⟩
section
variable {α:Type} {p:α→Bool} {l:List α} {d:α}
end
end Go.Sx
namespace Go.Proofs.YtfjhnollamkdcaaGreatDoor
open Go.Sx
set_option linter.unusedSimpArgs false
set_option linter.unusedVariables false
set_option maxRecDepth 100000
set_option maxHeartbeats 4000000
abbrev qA:Int×Int→SV:=ag2 (iel .i64) (iel .u32)
def qV (q:Int×Int):Rat:=(q.1:Rat)/((if q.2<1 then 1 else q.2:Int):Rat)
def qOK (q:Int×Int):Prop:=(-9223372036854775808≤q.1∧q.1<9223372036854775808)∧(0≤q.2∧q.2<4294967296)
theorem fs_qV {q:Int×Int} (h:qOK q):fs (qV q)≤130:=by
 have h1:=fs_div (q.1:Rat) ((if q.2<1 then 1 else q.2:Int):Rat)
 have h2:=fs_int h.1.1 h.1.2
 have h3:fs ((if q.2<1 then 1 else q.2:Int):Rat)≤65:=fs_int (by have:=h.2;split<;>omega) (by have:=h.2;split<;>omega)
 unfold qV
 omega
theorem c_QOf (q:Int×Int) (h:qOK q):CallOK Tryz.prog 19 [qA q] [] (.frac (qV q)) [] []:=by
 have hd:(if q.2<1 then 1 else q.2)≠0:=by have:=h.2;split<;>omega
 have e1:(if (1:Int)>q.2 then 1 else q.2)=(if q.2<1 then 1 else q.2):=rfl
 have e2:IntKind.i64.wrap (if (1:Int)>q.2 then 1 else q.2)=(if q.2<1 then 1 else q.2):=wrap_i64 (by have:=h.2;split<;>omega) (by have:=h.2;split<;>omega)
 have g2:=fs_int h.1.1 h.1.2
 have g3:fs ((if q.2<1 then 1 else q.2:Int):Rat)≤65:=fs_int (by have:=h.2;split<;>omega) (by have:=h.2;split<;>omega)
 have k1:=c_fOf natBig q.1 (if q.2<1 then 1 else q.2) (by unfold fs at g2 g3;omega) h.1.1 h.1.2 (by have:=h.2;split<;>omega) (by have:=h.2;split<;>omega) hd
 refine callV (Z:=[]) tabOK mixedOK Tryz.func19 rfl (by kernel_rfl) rfl rfl (by kernel_rfl) rfl ?_
 intro W0 w0 ρ0 hE
 conv=>whnf
 (repeat(first|(refine g_c (by assumption) ?_;conv=>whnf)|(rw[e2];conv=>whnf)));(first|exact Recast.refl _|exact Frz.recast (Recast.refl _) rfl|(refine Frz.one rfl rfl ?_;skip)|(refine Frz.tup ?_;skip))
theorem app_snoc {α:Type} {l:List α} {i:Nat} {d:α} (h:i<l.length):(l.take i).take i++(([l.getD i d]:List α).drop 0).take 1=l.take (i+1):=by
 have e:l.take (i+1)=l.take i++[l.getD i d]:=by rw[List.take_add_one,List.getD_eq_getElem?_getD,List.getElem?_eq_getElem h];rfl
 rw[List.take_take,Nat.min_self,e];rfl
end Go.Proofs.YtfjhnollamkdcaaGreatDoor
namespace Go.Proofs.YtfjhnollamkdcaaGreatDoor
open Go.Sx
set_option linter.unusedSimpArgs false
set_option linter.unusedVariables false
set_option maxRecDepth 100000
set_option maxHeartbeats 4000000
abbrev QWf (l:List (Int×Int)):Prop:=l.length≤maxLen∧∀x∈l,((Lit.int .i64 x.1).wf=true)∧((Lit.int .u32 x.2).wf=true)
theorem qOK_of {l:List (Int×Int)} (w:l.length≤maxLen∧∀x∈l,((Lit.int .i64 x.1).wf=true)∧((Lit.int .u32 x.2).wf=true)):∀q∈l,qOK q:=fun q hq=>⟨wf_i64 (w.2 q hq).1,wf_u32 (w.2 q hq).2⟩
theorem qOK_one {q:Int×Int} (w:((Lit.int .i64 q.1).wf=true)∧((Lit.int .u32 q.2).wf=true)):qOK q:=⟨wf_i64 w.1,wf_u32 w.2⟩
theorem Sm_le {A B:Nat} {l:List Rat} (h:A≤B) (ha:Sm A l):Sm B l:=fun i hi=>Nat.le_trans (ha i hi) h
section
variable {a b z:List Rat} {n i:Nat} {c:Rat}
theorem get_zero (hi:i<n):(List.replicate n (0:Rat)).getD i 0=0:=by simp[List.getD_eq_getElem?_getD,hi]
end
end Go.Proofs.YtfjhnollamkdcaaGreatDoor
namespace Go.Proofs.YtfjhnollamkdcaaGreatDoor
open Go.Sx
set_option linter.unusedSimpArgs false
set_option linter.unusedVariables false
set_option maxRecDepth 100000
set_option maxHeartbeats 4000000
theorem sum_fs {f:Nat→Rat} {B:Nat}:∀n,(∀i,i<n→fs (f i)≤B)→fs (sumR n f)≤2+n*B
 |0,_=>by rw[sumR,fs_zero];omega
 |n+1,h=>by
  have h1:=sum_fs n (fun i hi=>h i (by omega))
  have h2:=h n (by omega)
  have:=fs_add (sumR n f) (f n)
  rw[sumR,Nat.succ_mul];omega
end Go.Proofs.YtfjhnollamkdcaaGreatDoor
namespace Go.Proofs.YtfjhnollamkdcaaGreatDoor
open Go.Sx
set_option linter.unusedSimpArgs false
set_option linter.unusedVariables false
set_option maxRecDepth 100000
set_option maxHeartbeats 4000000
theorem sum_sk {a:Nat} {f:Nat→Rat}:∀k,a<k+1→sumR (k+1) f=f a+sumR k fun j=>f (sk a j)
 |0,h=>by
  obtain rfl:a=0:=by omega
  simp only[sumR];grind
 |k+1,h=>by
  by_cases e:a=k+1
  ·subst e
   rw[sumR,sum_congr (k+1) (g:=fun j=>f (sk (k+1) j)) fun i hi=>by rw[sk_le hi]]
   grind
  ·rw[sumR,sum_sk (a:=a) k (by omega)]
   show _=f a+(sumR k (fun j=>f (sk a j))+f (sk a k))
   rw[sk_ge (show a≤k by omega)];grind
theorem posK_ext {n k:Nat} {A:Mx} (h:PosK n A k):PosK (n+1) A k:=by
 obtain⟨V,hV⟩:=h
 refine⟨fun j i=>if i<n then V j i else 0,fun c hc=> ?_⟩
 have e1:comb k c (fun j i=>if i<n then V j i else 0) n=0:=sum_zeros fun j _=>by
  show c j*(if n<n then V j n else 0)=0
  rw[if_neg (Nat.lt_irrefl n)];grind
 have e:∀i,i<n→comb k c (fun j i=>if i<n then V j i else 0) i=comb k c V i:=fun i hi=>sum_congr k fun j _=>by
  show c j*(if i<n then V j i else 0)=c j*V j i
  rw[if_pos hi]
 rw[qf_last e1,qf_congr e]
 exact hV c hc
theorem posK_cut {n k:Nat} {A:Mx} (h:PosK (n+1) A (k+1)):PosK n A k:=by
 obtain⟨V,hV⟩:=h
 by_cases hz:∃a,a<k+1∧V a n≠0
 ·obtain⟨a,ha,hne⟩:=hz
  refine⟨fun j i=>V (sk a j) i - V (sk a j) n/V a n*V a i,fun c ⟨j,hj,hcj⟩=> ?_⟩
  have hin:V a n*(V a n)⁻¹=1:=Rat.mul_inv_cancel _ hne
  obtain⟨s,hs⟩:∃s,s=sumR k fun j=>c j*(V (sk a j) n/V a n):=⟨_,rfl⟩
  obtain⟨c',hc'⟩:∃c':Nat→Rat,c'=fun b=>if b=a then -s else c (un a b):=⟨_,rfl⟩
  have e:∀i,comb (k+1) c' V i=comb k c (fun j i=>V (sk a j) i - V (sk a j) n/V a n*V a i) i:=fun i=>by
   show sumR (k+1) (fun b=>c' b*V b i)=sumR k fun j=>c j*(V (sk a j) i - V (sk a j) n/V a n*V a i)
   rw[sum_sk k ha,hc']
   simp only[if_true]
   rw[sum_congr k (g:=fun j=>c j*V (sk a j) i) fun j _=>by rw[if_neg (sk_ne a j),un_sk]]
   have e2:sumR k (fun j=>c j*(V (sk a j) i - V (sk a j) n/V a n*V a i))=sumR k (fun j=>c j*V (sk a j) i)+(-V a i)*s:=by
    rw[hs,←sum_smul,←sum_add]
    exact sum_congr k fun j _=>by grind
   rw[e2];grind
  have h1:=hV c' ⟨sk a j,sk_lt hj,by rw[hc'];simp only;rw[if_neg (sk_ne a j),un_sk];exact hcj⟩
  rw[qf_congr fun i _=>e i]at h1
  have h2:comb k c (fun j i=>V (sk a j) i - V (sk a j) n/V a n*V a i) n=0:=sum_zeros fun j _=>by
   show c j*(V (sk a j) n - V (sk a j) n/V a n*V a n)=0
   rw[Rat.div_def];grind
  rwa [qf_last h2]at h1
 ·refine⟨V,fun c ⟨j,hj,hcj⟩=> ?_⟩
  have h1:=hV (fun b=>if b<k then c b else 0) ⟨j,by omega,by simp only[if_pos hj];exact hcj⟩
  have e:∀i,comb (k+1) (fun b=>if b<k then c b else 0) V i=comb k c V i:=fun i=>by
   show sumR k (fun b=>(if b<k then c b else 0)*V b i)+(if k<k then c k else 0)*V k i=sumR k fun b=>c b*V b i
   rw[if_neg (Nat.lt_irrefl k),sum_congr k (g:=fun b=>c b*V b i) fun b hb=>by rw[if_pos hb]]
   grind
  rw[qf_congr fun i _=>e i]at h1
  have h2:comb k c V n=0:=sum_zeros fun b hb=>by
   have:V b n=0:=Classical.byContradiction fun g=>hz ⟨b,by omega,g⟩
   rw[this];grind
  rwa [qf_last h2]at h1
theorem Iner.inter {n m z p m' z' p':Nat} {A:Mx} (h:Iner (n+1) A m z p) (g:Iner n A m' z' p'):p'≤p∧p≤p'+1∧m'≤m∧m≤m'+1:=by
 refine⟨(h.pos p').1 (posK_ext ((g.pos p').2 (Nat.le_refl _))), ?_,(h.neg m').1 (posK_ext ((g.neg m').2 (Nat.le_refl _))), ?_⟩
 ·cases p with
  |zero=>omega
  |succ q=>have:=(g.pos q).1 (posK_cut ((h.pos (q+1)).2 (Nat.le_refl _)));omega
 ·cases m with
  |zero=>omega
  |succ q=>have:=(g.neg q).1 (posK_cut ((h.neg (q+1)).2 (Nat.le_refl _)));omega
end Go.Proofs.YtfjhnollamkdcaaGreatDoor
namespace Go.Proofs.YtfjhnollamkdcaaGreatDoor
open Go.Sx
set_option linter.unusedSimpArgs false
set_option linter.unusedVariables false
set_option maxRecDepth 100000
set_option maxHeartbeats 4000000
theorem set_el {a:List Rat} {n i k j l:Nat} {q:Rat} (ha:a.length=n*n) (hi:i<n) (hk:k<n) (hj:j<n) (hl:l<n):el (a.set (i*n+k) q) n j l=if i=j∧k=l then q else el a n j l:=by
 have h1:=idx_lt hi hk
 have h2:=idx_lt hj hl
 simp only[el,List.getD_eq_getElem?_getD,List.getElem?_set]
 by_cases e:i*n+k=j*n+l
 ·have e1:=congrArg (·/n) e
  have e2:=congrArg (· % n) e
  simp only[idx_div hk,idx_div hl,idx_mod hk,idx_mod hl]at e1 e2
  subst e1 e2
  simp[ha,h1]
 ·rw[if_neg e,if_neg (by rintro⟨rfl,rfl⟩;exact e rfl)]
theorem SymM_set {a:List Rat} {n i k:Nat} {q:Rat} (ha:a.length=n*n) (h:SymM n a) (hi:i<n) (hk:k<n):SymM n ((a.set (i*n+k) q).set (k*n+i) q):=by
 intro j l hj hl
 have hb:(a.set (i*n+k) q).length=n*n:=by rw[List.length_set,ha]
 rw[set_el hb hk hi hj hl,set_el hb hk hi hl hj,set_el ha hi hk hj hl,set_el ha hi hk hl hj]
 by_cases e1:k=j∧i=l
 ·rw[if_pos e1];split
  ·rfl
  ·rw[if_pos ⟨e1.2,e1.1⟩]
 ·rw[if_neg e1]
  by_cases e2:k=l∧i=j
  ·rw[if_pos e2,if_pos ⟨e2.2,e2.1⟩]
  ·rw[if_neg e2,if_neg (fun h=>e2 ⟨h.2,h.1⟩),if_neg (fun h=>e1 ⟨h.2,h.1⟩)];exact h j l hj hl
theorem Sm_set {a:List Rat} {B p:Nat} {q:Rat} (h:Sm B a) (hq:fs q≤B):Sm B (a.set p q):=by
 intro i hi
 rw[List.length_set]at hi
 rw[List.getD_eq_getElem?_getD,List.getElem?_set]
 by_cases e:p=i
 ·subst e;simp[hi];exact hq
 ·rw[if_neg e,←List.getD_eq_getElem?_getD];exact h i hi
end Go.Proofs.YtfjhnollamkdcaaGreatDoor
namespace Go.Proofs.YtfjhnollamkdcaaGreatDoor
open Go.Sx
set_option linter.unusedSimpArgs false
set_option linter.unusedVariables false
set_option maxRecDepth 100000
set_option maxHeartbeats 4000000
theorem m_has (i:Int) (n:Int):CallOK Tryz.prog 103 [iv i,iv n] [] (.val (.bool (decide (0≤i∧i<n)))) [] []:=by
 refine callV (Z:=[]) tabOK mixedOK Tryz.func103 rfl (by kernel_rfl) rfl rfl (by kernel_rfl) rfl ?_
 intro W0 w0 ρ0 hE
 conv=>whnf
 by_cases h1:i<0
 ·have t1:decide (i≥0)=false:=decide_eq_false (by omega)
  rw[decide_eq_false (show ¬(0≤i∧i<n) by omega)]
  (repeat(first|(refine step_w2 rfl rfl ?_;conv=>whnf)|(refine g_o (op_pickF rfl (ev_ok rfl) (ev_ok rfl)) ?_;conv=>whnf)|(rw[t1];conv=>whnf)));(first|exact Recast.refl _|exact Frz.recast (Recast.refl _) rfl|(refine Frz.one rfl rfl ?_;skip)|(refine Frz.tup ?_;skip))
 ·have t1:decide (i≥0)=true:=decide_eq_true (by omega)
  by_cases h2:i<n
  ·have t2:decide (i<n)=true:=decide_eq_true h2
   rw[decide_eq_true (show 0≤i∧i<n by omega)]
   (repeat((first|refine step_w1 rfl rfl ?_|refine g_o (op_pickT rfl (ev_ok rfl) (ev_ok rfl)) ?_|rw[t1]|rw[t2]);conv=>whnf));(first|exact Recast.refl _|exact Frz.recast (Recast.refl _) rfl|(refine Frz.one rfl rfl ?_;skip)|(refine Frz.tup ?_;skip))
  ·have t2:decide (i<n)=false:=decide_eq_false h2
   rw[decide_eq_false (show ¬(0≤i∧i<n) by omega)]
   (repeat((first|refine step_w1 rfl rfl ?_|refine g_o (op_pickT rfl (ev_ok rfl) (ev_ok rfl)) ?_|rw[t1]|rw[t2]);conv=>whnf));(first|exact Recast.refl _|exact Frz.recast (Recast.refl _) rfl|(refine Frz.one rfl rfl ?_;skip)|(refine Frz.tup ?_;skip))
end Go.Proofs.YtfjhnollamkdcaaGreatDoor
namespace Go.Sx
set_option linter.unusedSimpArgs false
set_option linter.unusedVariables false
section
variable {P:Program} {o:Oper} {ft:List (Nat×SV)} {fk:List (Nat×Blk)}
end
end Go.Sx
namespace Go.Proofs.YtfjhnollamkdcaaGreatDoor
open Go.Sx
set_option linter.unusedSimpArgs false
set_option linter.unusedVariables false
set_option maxRecDepth 100000
set_option maxHeartbeats 4000000
theorem m_Make3 {r c:Nat} (hr:r≤2048) (hc:c≤2048) (F:Nat→Nat→Rat) (g:FuncId) (p q s:Pred)
  (hf:∀i k,i<r→k<c→CallOK Tryz.prog g ([]++([iv (i:Nat),iv (k:Nat)]++[.atom p,.atom q,.atom s])) [] (.frac (F i k)) [] []):
  CallOK Tryz.prog 60 [iv r,iv c,.clo g [] [.atom p,.atom q,.atom s]] [] (.tup [mA r c (mk r c F),iv 0]) [] []:=by
 have k1:=m_sides r c
 rw[sides_of (by omega)]at k1
 have hz:(mk r c F).length=r*c:=mk_len ..
 have hrc:r*c≤2048*2048:=Nat.mul_le_mul hr hc
 have t1:IntKind.i64.wrap ((r:Int)*(c:Int))=((r*c:Nat):Int):=by rw[←Int.natCast_mul,wrap_i64 (by omega) (by omega)]
 refine callF (Z:=[]) tabOK mixedOK Tryz.func60 rfl (by kernel_rfl) (by first|rfl|(simp[keylessL,keyless,keylessL_map, *];done)) (by first|rfl|(simp[keylessL,keyless,keylessL_map, *];done)) (by kernel_rfl) rfl ?_
 intro w0 ρ0 hE
 conv=>whnf
 (repeat((first|refine step_w2 rfl rfl ?_|refine step_oA (by first|omega|decide|(simp only[tl0,dlen,List.length_replicate,List.length_set,List.length_map,List.length_zipWith,List.length_take,List.length_append,List.length_cons,List.length_nil];omega)) ?_|refine g_c (by assumption) ?_|rw[bne_self_eq_false]|refine⟨_,op_eqNilF rfl (ev_ok rfl) (ev_ok rfl) Tryz.underlying118, ?_⟩|rw[t1]|rw[Int.toNat_natCast]);conv=>whnf))
 refine SW_loopN hE (fun k=>k) [0,1,2,6,9,30,31] [6,9,25] (fun m fr hp=>∃i:Nat,m=r - i∧i≤r∧fr=[(0,iv r),(1,iv c),(2,.clo g [] [.atom p,.atom q,.atom s]),(6,.ptr 6 0 0 0),(9,.ptr 9 0 0 0),(30,iv r),(31,iv (i:Nat))]∧
  hp=[(6,zM),(9,bM r c 25),(25,fblk ((mk r c F).take (i*c)++List.replicate (r*c - i*c) 0))]) r ?_ ?_ ?_
 ·kernel_rfl
 ·exact⟨0,rfl,Nat.zero_le _,rfl,by rw[Nat.zero_mul,List.take_zero];rfl⟩
 rintro m _ _ ⟨i,rfl,hi,rfl,rfl⟩
 conv=>whnf
 by_cases hlt:i<r
 ·have t2:=dlt hlt
  have t3:=winc (i:=i) (by omega)
  have hic:(i+1)*c≤r*c:=Nat.mul_le_mul_right c hlt
  rw[Nat.succ_mul]at hic
  have hlen:=fill_len (d:=(0:Rat)) (show i*c≤r*c by omega) hz
  have o1:=m_rowM (a:=(mk r c F).take (i*c)++List.replicate (r*c - i*c) 0) ⟨hr,hc,hlen⟩ hlt 25
  (repeat(first|(refine step_w1 rfl rfl ?_;conv=>whnf)|(refine g_c1 (by assumption) rfl ?_;conv=>whnf)|(rw[t2];conv=>whnf)))
  refine SW_loopN hE (fun k=>k) [0,1,2,6,9,10,11,30,31,37,38] [6,9,25] (fun m fr hp=>∃k:Nat,m=c - k∧k≤c∧fr=[(0,iv r),(1,iv c),(2,.clo g [] [.atom p,.atom q,.atom s]),(6,.ptr 6 0 0 0),(9,.ptr 9 0 0 0),(10,iv (i:Nat)),(11,.slc 25 5 (i*c) c),(30,iv r),(31,iv (i:Nat)),(37,iv c),(38,iv (k:Nat))]∧
   hp=[(6,zM),(9,bM r c 25),(25,fblk ((mk r c F).take (i*c+k)++List.replicate (r*c - (i*c+k)) 0))]) c ?_ ?_ ?_
  ·kernel_rfl
  ·exact⟨0,rfl,Nat.zero_le _,rfl,rfl⟩
  rintro m _ _ ⟨k,rfl,hk,rfl,rfl⟩
  conv=>whnf
  by_cases hlk:k<c
  ·have t4:=dlt hlk
   have t5:=winc (i:=k) (by omega)
   have hlen:=fill_len (d:=(0:Rat)) (show i*c+k≤r*c by omega) hz
   have o2:=hf i k hlt hlk
   rw[←mk_el (f:=F) hlt hlk]at o2
   (repeat((first|refine step_w1 rfl rfl ?_|refine step_oL (by first|omega|decide|(simp only[tl0,dlen,List.length_replicate,List.length_set,List.length_map,List.length_zipWith,List.length_take,List.length_append,List.length_cons,List.length_nil];omega)) ?_|refine step_oA (by first|omega|decide|(simp only[tl0,dlen,List.length_replicate,List.length_set,List.length_map,List.length_zipWith,List.length_take,List.length_append,List.length_cons,List.length_nil];omega)) ?_|refine g_c (by assumption) ?_|rw[t4]|rw[t5]|rw[Int.toNat_natCast]);conv=>whnf))
   refine⟨c - (k+1),fun k=>k,[0,1,2,6,9,10,11,30,31,37,38],[6,9,25],by omega,by kernel_rfl,k+1,rfl,hlk,rfl, ?_⟩
   rw[show i*c+(k+1)=i*c+k+1 from rfl,fblk,←fill_set (e:=0) (show i*c+k<r*c by omega) hz]
   rfl
  ·have t4:=dge hlk
   obtain rfl:k=c:=by omega
   (repeat(first|(refine step_w2 rfl rfl ?_;conv=>whnf)|(rw[t4];conv=>whnf)|(rw[t3];conv=>whnf)))
   refine⟨r - (i+1),fun k=>k,[0,1,2,6,9,30,31],[6,9,25],by omega,by kernel_rfl,i+1,rfl,hlt,rfl, ?_⟩
   rw[Nat.succ_mul]
   rfl
 ·have t2:=dge hlt
  obtain rfl:i=r:=by omega
  rw[fill_all hz]
  (repeat(first|(refine step_w2 rfl rfl ?_;conv=>whnf)|(rw[t2];conv=>whnf)))
  (first|exact Recast.refl _|exact Frz.recast (Recast.refl _) rfl|(refine Frz.one rfl rfl ?_;skip)|(refine Frz.tup ?_;(repeat(first|exact FrzC.keyless rfl|exact FrzL.nil|refine FrzL.cons ?_ ?_|(refine FrzC.fracs rfl ?_;(first|rfl|omega|(simp<;>fail)|(simp<;>omega)))|refine FrzC.agg ?_))))
end Go.Proofs.YtfjhnollamkdcaaGreatDoor
namespace Go.Proofs.YtfjhnollamkdcaaGreatDoor
open Go.Sx
set_option linter.unusedSimpArgs false
set_option linter.unusedVariables false
set_option maxRecDepth 100000
set_option maxHeartbeats 4000000
theorem c_IndexFunc (l:List Int) (g:FuncId) (p:Pred) (P:Int→Bool) (hl:l.length<1099511627776) (hf:∀x∈l,CallOK Tryz.prog g ([]++([iv x]++[.atom p])) [] (.val (.bool (P x))) [] []):
  CallOK Tryz.prog 160 [ivec .i64 l,.clo g [] [.atom p]] [] (iv (if l.any P then(l.findIdx P:Nat)else -1)) [] []:=by
 refine callV (Z:=[]) tabOK mixedOK Tryz.func160 rfl (by kernel_rfl) rfl rfl (by kernel_rfl) rfl ?_
 intro W0 w0 ρ0 hE
 conv=>whnf
 (repeat(first|(refine g_o (op_lenM rfl rfl rfl (ev_ok rfl) (tgt rfl) rfl) ?_;conv=>whnf)))
 refine SW_loopN hE (fun k=>k) [0,1,7,8] [] (fun m fr hp=>∃i:Nat,m=l.length - i∧i≤l.length∧(∀j,j<i→P (l.getD j 0)=false)∧fr=[(0,ivec .i64 l),(1,.clo g [] [.atom p]),(7,iv (l.length:Nat)),(8,iv (i:Nat))]∧hp=[]) l.length ?_ ?_ ?_
 ·kernel_rfl
 ·exact⟨0,rfl,Nat.zero_le _,(fun j hj=>by omega),rfl,rfl⟩
 rintro m _ _ ⟨i,rfl,hi,hs,rfl,rfl⟩
 conv=>whnf
 by_cases hlt:i<l.length
 ·have t1:=dlt hlt
  have t2:=winc (i:=i) (by omega)
  have o1:=hf _ (getD_mem (d:=0) hlt)
  cases hP:P (l.getD i 0)
  ·rw[hP]at o1
   (repeat((first|refine step_w1 rfl rfl ?_|refine step_w2 rfl rfl ?_|refine g_c (by assumption) ?_|refine g_o (op_loadA rfl (ev_ok rfl) (tgt rfl) rfl (Nat.succ_ne_zero _) rfl) ?_|refine g_o (op_indexN (α:=Int) (d:=0) rfl (ev_ok rfl) (ev_ok rfl) (tgt rfl) rfl (tgt rfl) rfl (by omega)) ?_|rw[t1]|rw[t2]);conv=>whnf))
   refine⟨l.length - (i+1),fun k=>k,[0,1,7,8],[],by omega,by kernel_rfl,i+1,rfl,hlt, ?_,rfl,rfl⟩
   intro j hj
   by_cases hji:j=i
   ·rw[hji];exact hP
   ·exact hs j (by omega)
  ·rw[hP]at o1
   have e1:l.any P=true:=any_at (d:=0) hlt hP
   have e2:l.findIdx P=i:=by
    rw[List.findIdx_eq hlt]
    refine⟨by rw[List.getD_eq_getElem?_getD,List.getElem?_eq_getElem hlt]at hP;exact hP,fun j hj=> ?_⟩
    have:=hs j hj
    rw[List.getD_eq_getElem?_getD,List.getElem?_eq_getElem (by omega)]at this
    exact this
   rw[if_pos e1,e2]
   (repeat((first|refine step_w1 rfl rfl ?_|refine g_c (by assumption) ?_|refine g_o (op_loadA rfl (ev_ok rfl) (tgt rfl) rfl (Nat.succ_ne_zero _) rfl) ?_|refine g_o (op_indexN (α:=Int) (d:=0) rfl (ev_ok rfl) (ev_ok rfl) (tgt rfl) rfl (tgt rfl) rfl (by omega)) ?_|rw[t1]);conv=>whnf));(first|exact Recast.refl _|exact Frz.recast (Recast.refl _) rfl|(refine Frz.one rfl rfl ?_;skip)|(refine Frz.tup ?_;skip))
 ·have t1:=dge hlt
  have hI:i=l.length:=by omega
  subst hI
  have e1:l.any P=false:=any_no 0 hs
  rw[if_neg (by rw[e1];exact Bool.false_ne_true)]
  (repeat(first|(refine step_w2 rfl rfl ?_;conv=>whnf)|(rw[t1];conv=>whnf)));(first|exact Recast.refl _|exact Frz.recast (Recast.refl _) rfl|(refine Frz.one rfl rfl ?_;skip)|(refine Frz.tup ?_;skip))
theorem c_ContainsFunc (l:List Int) (g:FuncId) (p:Pred) (P:Int→Bool) (hl:l.length<1099511627776) (hf:∀x∈l,CallOK Tryz.prog g ([]++([iv x]++[.atom p])) [] (.val (.bool (P x))) [] []):
  CallOK Tryz.prog 101 [ivec .i64 l,.clo g [] [.atom p]] [] (.val (.bool (l.any P))) [] []:=by
 have k1:=c_IndexFunc l g p P hl hf
 refine callV (Z:=[]) tabOK mixedOK Tryz.func101 rfl (by kernel_rfl) rfl rfl (by kernel_rfl) rfl ?_
 intro W0 w0 ρ0 hE
 conv=>whnf
 cases h:l.any P
 ·rw[if_neg (by rw[h];exact Bool.false_ne_true)]at k1
  (repeat(first|(refine g_c (by assumption) ?_;conv=>whnf)));(first|exact Recast.refl _|exact Frz.recast (Recast.refl _) rfl|(refine Frz.one rfl rfl ?_;skip)|(refine Frz.tup ?_;skip))
 ·rw[if_pos h]at k1
  have t1:decide (((l.findIdx P:Nat):Int)≥0)=true:=decide_eq_true (by omega)
  (repeat(first|(refine g_c (by assumption) ?_;conv=>whnf)|(rw[t1];conv=>whnf)));(first|exact Recast.refl _|exact Frz.recast (Recast.refl _) rfl|(refine Frz.one rfl rfl ?_;skip)|(refine Frz.tup ?_;skip))
abbrev outF (n:Nat) (i:Int):Bool:= !decide (0≤i∧i<(n:Int))
abbrev mpart (c:Nat) (a:List Rat) (rows cols:List Int):List Rat:=mk rows.length cols.length fun i k=>el a c (rows.getD i 0).toNat (cols.getD k 0).toNat
theorem m_Part {r c:Nat} {a:List Rat} (ha:OKM r c a) (rows cols:List Int) (hr:rows.length≤2048) (hc:cols.length≤2048) (h1:∀x∈rows,0≤x∧x<r) (h2:∀x∈cols,0≤x∧x<c):
  CallOK Tryz.prog 41 [mA r c a,ivec .i64 rows,ivec .i64 cols] [] (.tup [mA rows.length cols.length (mpart c a rows cols),iv 0]) [] []:=by
 have k0:=m_Check0 ha
 have k1:=m_sides rows.length cols.length
 rw[sides_of (by omega)]at k1
 have ka:=c_ContainsFunc rows 102 (ptrP (mC r c a)) (outF r) (by omega) (fun x _=>by
  have k1:=m_has x r
  refine callV (Z:=[]) tabOK mixedOK Tryz.func102 rfl (by kernel_rfl) rfl rfl (by kernel_rfl) rfl ?_
  intro W0 w0 ρ0 hE
  conv=>whnf
  (repeat(first|(refine g_c (by assumption) ?_;conv=>whnf)|(refine g_o (op_loadA rfl (ev_ok rfl) (tgt rfl) rfl (Nat.succ_ne_zero _) rfl) ?_;conv=>whnf)|(refine g_o (op_fieldA rfl (ev_ok rfl) (tgt rfl) rfl rfl (Nat.succ_ne_zero _) rfl) ?_;conv=>whnf)));(first|exact Recast.refl _|exact Frz.recast (Recast.refl _) rfl|(refine Frz.one rfl rfl ?_;skip)|(refine Frz.tup ?_;skip)))
 have kb:=c_ContainsFunc cols 104 (ptrP (mC r c a)) (outF c) (by omega) (fun x _=>by
  have k1:=m_has x c
  refine callV (Z:=[]) tabOK mixedOK Tryz.func104 rfl (by kernel_rfl) rfl rfl (by kernel_rfl) rfl ?_
  intro W0 w0 ρ0 hE
  conv=>whnf
  (repeat(first|(refine g_c (by assumption) ?_;conv=>whnf)|(refine g_o (op_loadA rfl (ev_ok rfl) (tgt rfl) rfl (Nat.succ_ne_zero _) rfl) ?_;conv=>whnf)|(refine g_o (op_fieldA rfl (ev_ok rfl) (tgt rfl) rfl rfl (Nat.succ_ne_zero _) rfl) ?_;conv=>whnf)));(first|exact Recast.refl _|exact Frz.recast (Recast.refl _) rfl|(refine Frz.one rfl rfl ?_;skip)|(refine Frz.tup ?_;skip)))
 have e1:rows.any (outF r)=false:=any_no 0 fun i hi=>by rw[outF,decide_eq_true (h1 _ (getD_mem hi))];rfl
 have e2:cols.any (outF c)=false:=any_no 0 fun i hi=>by rw[outF,decide_eq_true (h2 _ (getD_mem hi))];rfl
 rw[e1]at ka
 rw[e2]at kb
 have k2:=m_Make3 hr hc (fun i k=>el a c (rows.getD i 0).toNat (cols.getD k 0).toNat) 105 (ptrP (mC r c a)) (ptrP [ivec .i64 rows]) (ptrP [ivec .i64 cols]) (fun i k hi hk=>by
  have g1:=h1 _ (getD_mem (d:=0) hi)
  have g2:=h2 _ (getD_mem (d:=0) hk)
  have o1:=m_at ha (i:=(rows.getD i 0).toNat) (k:=(cols.getD k 0).toNat) (by omega) (by omega)
  rw[Int.toNat_of_nonneg g1.1,Int.toNat_of_nonneg g2.1]at o1
  refine callV (Z:=[]) tabOK mixedOK Tryz.func105 rfl (by kernel_rfl) rfl rfl (by kernel_rfl) rfl ?_
  intro W0 w0 ρ0 hE
  conv=>whnf
  (repeat((first|refine step_i (by kernel_rfl) ?_|refine g_c (by assumption) ?_|refine g_o (op_loadA rfl (ev_ok rfl) (tgt rfl) rfl (Nat.succ_ne_zero _) rfl) ?_|refine g_o (op_indexN (α:=Int) (d:=0) rfl (ev_ok rfl) (ev_ok rfl) (tgt rfl) rfl (tgt rfl) rfl (by omega)) ?_);conv=>whnf));(first|exact Recast.refl _|exact Frz.recast (Recast.refl _) rfl|(refine Frz.one rfl rfl ?_;skip)|(refine Frz.tup ?_;skip)))
 refine callV (Z:=[3,4,5]) tabOK mixedOK Tryz.func41 rfl (by kernel_rfl) rfl rfl (by kernel_rfl) rfl ?_
 intro W0 w0 ρ0 hE
 conv=>whnf
 (repeat((first|refine step_w1 rfl rfl ?_|refine step_w2 rfl rfl ?_|refine g_c (by assumption) ?_|refine g_o (op_pickF rfl (ev_ok rfl) (ev_ok rfl)) ?_|rw[bne_self_eq_false]|refine g_o (op_lenM rfl rfl rfl (ev_ok rfl) (tgt rfl) rfl) ?_|refine g_o (op_loadA rfl (ev_ok rfl) (tgt rfl) rfl (Nat.succ_ne_zero _) rfl) ?_|refine g_o (op_makeFunc rfl rfl rfl) ?_);conv=>whnf));(first|exact Recast.refl _|exact Frz.recast (Recast.refl _) rfl|(refine Frz.one rfl rfl ?_;skip)|(refine Frz.tup ?_;skip))
end Go.Proofs.YtfjhnollamkdcaaGreatDoor
namespace Go.Sx
set_option linter.unusedSimpArgs false
set_option linter.unusedVariables false
def ag3 {α β γ:Type} (f:α→SV) (g:β→SV) (h:γ→SV) (p:α×β×γ):SV:=.agg [f p.1,g p.2.1,h p.2.2]
end Go.Sx
namespace Go.Proofs.YtfjhnollamkdcaaGreatDoor
open Go.Sx
set_option linter.unusedSimpArgs false
set_option linter.unusedVariables false
set_option maxRecDepth 100000
set_option maxHeartbeats 4000000
abbrev MM:=Int×Int×List (Int×Int)
abbrev mQ:MM→SV:=ag3 (iel .u8) (iel .u8) (mvec 2 qA)
def mOK (m:MM):Prop:=(0≤m.1∧m.1<256)∧(0≤m.2.1∧m.2.1<256)∧m.2.2.length≤maxLen∧∀q∈m.2.2,qOK q
def eQ (l:List (Int×Int)) (p:Nat):Rat:=qV (l.getD p (0,0))
def someL (l:List (Int×Int)) (n:Nat):List Rat:=(List.range n).map (eQ l)
theorem someL_len (l:List (Int×Int)) (n:Nat):(someL l n).length=n:=by simp[someL]
theorem someL_get {l:List (Int×Int)} {n p:Nat} (h:p<n):(someL l n).getD p 0=eQ l p:=by simp[someL,List.getD_eq_getElem?_getD,h]
theorem qOK_at {l:List (Int×Int)} (h:∀q∈l,qOK q) (p:Nat):qOK (l.getD p (0,0)):=by
 by_cases hp:p<l.length
 ·exact h _ (getD_mem hp)
 ·rw[List.getD_eq_getElem?_getD,List.getElem?_eq_none (by omega)];exact⟨⟨by decide,by decide⟩,by decide,by decide⟩
theorem wrap_u8 {n:Int} (h0:0≤n) (h:n<256):IntKind.u8.wrap n=n:=by
 simp[IntKind.wrap,IntKind.bits,IntKind.signed];omega
theorem app_one {α:Type} {l:List α} {i:Nat} {d:α} (h:i<l.length):l.take (i+1)=(l.take i).take i++(([l.getD i d]:List α).drop 0).take 1:=(app_snoc h).symm
theorem c_Some (m:MM) (hm:mOK m) {r c:Nat} (hr:r≤12) (hc:c≤12):CallOK Tryz.prog 22 [mQ m,iv r,iv c] [] (mA r c (someL m.2.2 (r*c))) [] []:=by
 obtain⟨A,B,l⟩:=m
 obtain⟨_,_,hl,hq⟩:=hm
 replace hl:l.length≤maxLen:=hl
 have hz:=someL_len l (r*c)
 have hN:r*c≤12*12:=Nat.mul_le_mul hr hc
 have t0:IntKind.i64.wrap ((r:Int)*(c:Int))=((r*c:Nat):Int):=by rw[←Int.natCast_mul,wrap_i64 (by omega) (by omega)]
 generalize r*c=N at*
 refine callF (Z:=[3]) tabOK mixedOK Tryz.func22 rfl (by kernel_rfl) (by first|rfl|(simp[keylessL,keyless,keylessL_map, *];done)) (by first|rfl|(simp[keylessL,keyless,keylessL_map, *];done)) (by kernel_rfl) rfl ?_
 intro w0 ρ0 hE
 conv=>whnf
 skip
 refine SWx_adoptB (j:=7) (k:=2001) (s:=5) (p:=2) (blk:=fblk []) rfl rfl rfl rfl rfl ?_
 refine SW_loopS hE (fun k=>k) [1,2,3,6,7,8] [6,7,2001] (fun m fr hp=>∃i:Nat,m=N - i∧i≤N∧fr=[(1,iv r),(2,iv c),(3,ptrA [iel .u8 A,iel .u8 B,mvec 2 qA l]),(6,.ptr 6 0 0 0),(7,.ptr 7 0 0 0),(8,iv (i:Nat))]∧
  hp=[(6,zM),(7,⟨30,true,.one [iv r,iv c,.slc 2001 5 0 i]⟩),(2001,fblk ((someL l N).take i))]) N ?_ ?_ ?_
 ·kernel_rfl
 ·exact⟨0,rfl,Nat.zero_le _,rfl,rfl⟩
 rintro m _ _ ⟨i,rfl,hi,rfl,rfl⟩
 have hlt0:((someL l N).take i).length=i:=by rw[List.length_take];omega
 by_cases hlt:i<N
 ·have t1:=dlt hlt
  have t2:=winc (i:=i) (by omega)
  have o1:=c_QOf (l.getD i (0,0)) (qOK_at hq i)
  rw[show qV (l.getD i (0,0))=(someL l N).getD i 0 from(someL_get hlt).symm]at o1
  have e1:=app_one (d:=(0:Rat)) (show i<(someL l N).length by omega)
  refine SWx.of hE ?_
  conv=>whnf
  by_cases hil:i<l.length
  ·have t3:=dlt hil
   (repeat((first|refine step_w1 rfl rfl ?_|refine step_i (by kernel_rfl) ?_|refine step_oA (by first|omega|decide|(simp only[tl0,dlen,List.length_replicate,List.length_set,List.length_map,List.length_zipWith,List.length_take,List.length_append,List.length_cons,List.length_nil];omega)) ?_|refine g_c (by assumption) ?_|refine g_o (op_lenM rfl rfl rfl (ev_ok rfl) (tgt rfl) rfl) ?_|refine g_o (op_loadA rfl (ev_ok rfl) (tgt rfl) rfl (Nat.succ_ne_zero _) rfl) ?_|refine g_o (op_indexN (α:=Int×Int) (d:=(0,0)) rfl (ev_ok rfl) (ev_ok rfl) (tgt rfl) rfl (tgt rfl) rfl (by omega)) ?_|refine g_o (op_fieldA rfl (ev_ok rfl) (tgt rfl) rfl rfl (Nat.succ_ne_zero _) rfl) ?_|rw[t0]|rw[t1]|rw[t3]|rw[t2]|rw[Nat.zero_add]);conv=>whnf))
   refine⟨N - (i+1),renBy [(36,2001)],[1,2,3,6,7,8],[6,7,36],by omega,by kernel_rfl,i+1,rfl,hlt,rfl, ?_⟩
   rw[e1];rfl
  ·have t3:=dge hil
   rw[show l.getD i (0,0)=(0,0)from by rw[List.getD_eq_getElem?_getD,List.getElem?_eq_none (by omega)];rfl]at o1
   (repeat((first|refine step_w1 rfl rfl ?_|refine step_w2 rfl rfl ?_|refine step_i (by kernel_rfl) ?_|refine step_oA (by first|omega|decide|(simp only[tl0,dlen,List.length_replicate,List.length_set,List.length_map,List.length_zipWith,List.length_take,List.length_append,List.length_cons,List.length_nil];omega)) ?_|refine g_c (by assumption) ?_|refine g_o (op_lenM rfl rfl rfl (ev_ok rfl) (tgt rfl) rfl) ?_|refine g_o (op_loadA rfl (ev_ok rfl) (tgt rfl) rfl (Nat.succ_ne_zero _) rfl) ?_|refine g_o (op_fieldA rfl (ev_ok rfl) (tgt rfl) rfl rfl (Nat.succ_ne_zero _) rfl) ?_|rw[t0]|rw[t1]|rw[t3]|rw[t2]|rw[Nat.zero_add]);conv=>whnf))
   refine⟨N - (i+1),renBy [(36,2001)],[1,2,3,6,7,8],[6,7,36],by omega,by kernel_rfl,i+1,rfl,hlt,rfl, ?_⟩
   rw[e1];rfl
 ·have t1:=dge hlt
  obtain rfl:i=N:=by omega
  rw[List.take_of_length_le (by omega)]
  refine SWx.of hE ?_
  conv=>whnf
  (repeat(first|(refine step_w2 rfl rfl ?_;conv=>whnf)|(rw[t0];conv=>whnf)|(rw[t1];conv=>whnf)))
  (first|exact Recast.refl _|exact Frz.recast (Recast.refl _) rfl|(refine Frz.one rfl rfl ?_;(repeat(first|exact FrzC.keyless rfl|exact FrzL.nil|refine FrzL.cons ?_ ?_|(refine FrzC.fracs rfl ?_;(first|rfl|omega|(simp<;>fail)|(simp<;>omega)))|refine FrzC.agg ?_)))|(refine Frz.tup ?_;skip))
end Go.Proofs.YtfjhnollamkdcaaGreatDoor
namespace Go.Proofs.YtfjhnollamkdcaaGreatDoor
open Go.Sx
set_option linter.unusedSimpArgs false
set_option linter.unusedVariables false
set_option maxRecDepth 100000
set_option maxHeartbeats 8000000
theorem u8_mod (x:Int) (h:0≤x∧x<256) (m:Int) (hm:0<m∧m<256):IntKind.u8.wrap (x.tmod m)=x.tmod m∧IntKind.i64.wrap (x.tmod m)=((x % m).toNat:Nat):=by
 have h1:=Int.emod_nonneg x (show m≠0 by omega)
 have h2:=Int.emod_lt_of_pos x hm.1
 rw[Int.tmod_eq_emod_of_nonneg h.1]
 constructor
 ·exact wrap_u8 h1 (by omega)
 ·rw[wrap_i64 (by omega) (by omega)];omega
end Go.Proofs.YtfjhnollamkdcaaGreatDoor
namespace Go.Proofs.YtfjhnollamkdcaaGreatDoor
open Go.Sx
set_option linter.unusedSimpArgs false
set_option linter.unusedVariables false
set_option maxRecDepth 100000
set_option maxHeartbeats 8000000
def symK (l:List (Int×Int)) (n i:Nat):Nat→Nat→List Rat→List Rat
 |0,_,a=>a
 |m+1,t,a=>symK l n i m (t+1) (if t<l.length then(a.set (i*n+(n - (m+1))) (qV (l.getD t (0,0)))).set ((n - (m+1))*n+i) (qV (l.getD t (0,0)))else a)
def symO (l:List (Int×Int)) (n:Nat):Nat→Nat→List Rat→List Rat
 |0,_,a=>a
 |m+1,t,a=>symO l n m (t+(m+1)) (symK l n (n - (m+1)) (m+1) t a)
def symL (l:List (Int×Int)) (n:Nat):List Rat:=symO l n n 0 (List.replicate (n*n) 0)
def SymOK (n:Nat) (a:List Rat):Prop:=a.length=n*n∧SymM n a∧Sm 130 a
theorem symK_ok {l:List (Int×Int)} {n i:Nat} (hq:∀q∈l,qOK q) (hi:i<n):∀m t a,m≤n→SymOK n a→SymOK n (symK l n i m t a)
 |0,_,a,_,h=>h
 |m+1,t,a,hm,h=>by
  rw[symK]
  refine symK_ok hq hi m (t+1) _ (by omega) ?_
  by_cases ht:t<l.length
  ·rw[if_pos ht]
   obtain⟨h1,h2,h3⟩:=h
   have fq:fs (qV (l.getD t (0,0)))≤130:=fs_qV (qOK_at hq t)
   exact⟨by rw[List.length_set,List.length_set,h1],SymM_set h1 h2 hi (by omega),Sm_set (Sm_set h3 fq) fq⟩
  ·rw[if_neg ht];exact h
theorem symO_ok {l:List (Int×Int)} {n:Nat} (hq:∀q∈l,qOK q):∀m t a,m≤n→SymOK n a→SymOK n (symO l n m t a)
 |0,_,a,_,h=>h
 |m+1,t,a,hm,h=>by
  rw[symO]
  exact symO_ok hq m _ _ (by omega) (symK_ok hq (by omega) (m+1) t a hm h)
theorem symL_ok {l:List (Int×Int)} (n:Nat) (hq:∀q∈l,qOK q):SymOK n (symL l n):=
 symO_ok hq n 0 _ (Nat.le_refl _) ⟨by simp,(fun i k hi hk=>by rw[el,el,get_zero (idx_lt hi hk),get_zero (idx_lt hk hi)]),Sm_le (by decide) (Sm_zero _)⟩
theorem c_Symm (l:List (Int×Int)) (hl:l.length≤maxLen) (hq:∀q∈l,qOK q) {n:Nat} (hn:n≤12):CallOK Tryz.prog 56 [iv n,mvec 2 qA l] [] (mA n n (symL l n)) [] []:=by
 have hnn:n*n≤12*12:=Nat.mul_le_mul hn hn
 have t0:IntKind.i64.wrap ((n:Int)*(n:Int))=((n*n:Nat):Int):=by rw[←Int.natCast_mul,wrap_i64 (by omega) (by omega)]
 have hlen:=(symL_ok n hq).1
 refine callF (Z:=[]) tabOK mixedOK Tryz.func56 rfl (by kernel_rfl) (by first|rfl|(simp[keylessL,keyless,keylessL_map, *];done)) (by first|rfl|(simp[keylessL,keyless,keylessL_map, *];done)) (by kernel_rfl) rfl ?_
 intro w0 ρ0 hE
 conv=>whnf
 (repeat(first|(refine And.intro (by first|decide|omega|(simp only[tl0,dlen,List.length_replicate,List.length_set,List.length_map,List.length_zipWith,List.length_take,List.length_append,List.length_cons,List.length_nil];omega)) ?_;conv=>whnf)|(rw[t0];conv=>whnf)|(rw[Int.toNat_natCast];conv=>whnf)))
 refine SW_loopN hE (fun k=>k) [0,1,4,5,6,7] [4,5,14] (fun m fr hp=>∃(i t:Nat) (a:List Rat),m=n - i∧i≤n∧t≤i*12∧a.length=n*n∧symO l n (n - i) t a=symL l n∧
  fr=[(0,iv n),(1,mvec 2 qA l),(4,.ptr 4 0 0 0),(5,.ptr 5 0 0 0),(6,iv (t:Nat)),(7,iv (i:Nat))]∧hp=[(4,zM),(5,bM n n 14),(14,fblk a)]) n ?_ ?_ ?_
 ·kernel_rfl
 ·exact⟨0,0,_,rfl,Nat.zero_le _,Nat.zero_le _,by simp,rfl,rfl,rfl⟩
 rintro m _ _ ⟨i,t,a,rfl,hi,ht,ha,hS,rfl,rfl⟩
 conv=>whnf
 by_cases hlt:i<n
 ·have t1:=dlt hlt
  have t2:=winc (i:=i) (by omega)
  have e1:n - i=(n - (i+1))+1:=by omega
  have e2:n - ((n - (i+1))+1)=i:=by omega
  rw[e1,symO,e2,←e1]at hS
  (repeat(first|(refine step_w1 rfl rfl ?_;conv=>whnf)|(rw[t1];conv=>whnf)))
  refine SW_loopN hE (fun k=>k) [0,1,4,5,6,7,8] [4,5,14] (fun m fr hp=>∃(k t:Nat) (a:List Rat),m=n - k∧i≤k∧k≤n∧t≤i*12+k∧a.length=n*n∧symO l n (n - (i+1)) (t+(n - k)) (symK l n i (n - k) t a)=symL l n∧
   fr=[(0,iv n),(1,mvec 2 qA l),(4,.ptr 4 0 0 0),(5,.ptr 5 0 0 0),(6,iv (t:Nat)),(7,iv (i:Nat)),(8,iv (k:Nat))]∧hp=[(4,zM),(5,bM n n 14),(14,fblk a)]) (n - i) ?_ ?_ ?_
  ·kernel_rfl
  ·exact⟨i,t,a,rfl,Nat.le_refl _,hi,by omega,ha,hS,rfl,rfl⟩
  clear hS ht ha
  rintro m _ _ ⟨k,t,a,rfl,hik,hk,ht,ha,hS,rfl,rfl⟩
  conv=>whnf
  by_cases hlk:k<n
  ·have t3:=dlt hlk
   have t4:=winc (i:=k) (by omega)
   have t5:=winc (i:=t) (by omega)
   have e3:n - k=(n - (k+1))+1:=by omega
   have e4:n - ((n - (k+1))+1)=k:=by omega
   have e5:t+(n - k)=t+1+(n - (k+1)):=by omega
   rw[e5,e3,symK,e4]at hS
   by_cases htl:t<l.length
   ·have t6:=dlt htl
    have o1:=c_QOf (l.getD t (0,0)) (qOK_at hq t)
    rw[if_pos htl]at hS
    obtain⟨w1,w2⟩:=idx_w (i:=i) (k:=k) (c:=n) (by omega) (by omega) (by omega)
    obtain⟨w3,w4⟩:=idx_w (i:=k) (k:=i) (c:=n) (by omega) (by omega) (by omega)
    have b1:=idx_lt hlt hlk
    have b2:=idx_lt hlk hlt
    (repeat((first|refine step_w1 rfl rfl ?_|refine step_i (by kernel_rfl) ?_|refine And.intro (by first|decide|omega|(simp only[tl0,dlen,List.length_replicate,List.length_set,List.length_map,List.length_zipWith,List.length_take,List.length_append,List.length_cons,List.length_nil];omega)) ?_|refine g_c (by assumption) ?_|refine g_o (op_lenM rfl rfl rfl (ev_ok rfl) (tgt rfl) rfl) ?_|refine g_o (op_loadA rfl (ev_ok rfl) (tgt rfl) rfl (Nat.succ_ne_zero _) rfl) ?_|refine g_o (op_indexN (α:=Int×Int) (d:=(0,0)) rfl (ev_ok rfl) (ev_ok rfl) (tgt rfl) rfl (tgt rfl) rfl (by omega)) ?_|rw[t3]|rw[t6]|rw[w1]|rw[w2]|rw[w3]|rw[w4]|rw[t5]|rw[t4]|rw[Int.toNat_natCast]|rw[Nat.zero_add]);conv=>whnf))
    refine⟨n - (k+1),fun k=>k,[0,1,4,5,6,7,8],[4,5,14],by omega,by kernel_rfl,k+1,t+1,_,rfl,by omega,hlk,by omega, ?_,hS,rfl,rfl⟩
    rw[List.length_set,List.length_set,ha]
   ·have t6:=dge htl
    rw[if_neg htl]at hS
    (repeat((first|refine step_w1 rfl rfl ?_|refine step_w2 rfl rfl ?_|refine g_o (op_lenM rfl rfl rfl (ev_ok rfl) (tgt rfl) rfl) ?_|rw[t3]|rw[t6]|rw[t5]|rw[t4]);conv=>whnf))
    exact⟨n - (k+1),fun k=>k,[0,1,4,5,6,7,8],[4,5,14],by omega,by kernel_rfl,k+1,t+1,a,rfl,by omega,hlk,by omega,ha,hS,rfl,rfl⟩
  ·have t3:=dge hlk
   obtain rfl:k=n:=by omega
   rw[Nat.sub_self,symK]at hS
   (repeat(first|(refine step_w2 rfl rfl ?_;conv=>whnf)|(rw[t3];conv=>whnf)|(rw[t2];conv=>whnf)))
   exact⟨k - (i+1),fun k=>k,[0,1,4,5,6,7],[4,5,14],by omega,by kernel_rfl,i+1,t,a,rfl,hlt,by omega,ha,hS,rfl,rfl⟩
 ·have t1:=dge hlt
  obtain rfl:i=n:=by omega
  rw[Nat.sub_self,symO]at hS
  subst hS
  (repeat(first|(refine step_w2 rfl rfl ?_;conv=>whnf)|(rw[t1];conv=>whnf)))
  (first|exact Recast.refl _|exact Frz.recast (Recast.refl _) rfl|(refine Frz.one rfl rfl ?_;(repeat(first|exact FrzC.keyless rfl|exact FrzL.nil|refine FrzL.cons ?_ ?_|(refine FrzC.fracs rfl ?_;(first|rfl|omega|(simp<;>fail)|(simp<;>omega)))|refine FrzC.agg ?_)))|(refine Frz.tup ?_;skip))
end Go.Proofs.YtfjhnollamkdcaaGreatDoor
namespace Go.Proofs.YtfjhnollamkdcaaGreatDoor
open Go.Sx
set_option linter.unusedSimpArgs false
set_option linter.unusedVariables false
set_option maxRecDepth 100000
set_option maxHeartbeats 8000000
def plusL (l:List (Int×Int)) (n:Nat):List Rat:=mk n n fun i k=>delta i k+sumR n fun p=>eQ l (p*n+i)*eQ l (p*n+k)
theorem plus_el {l:List (Int×Int)} {n i k:Nat} (hi:i<n) (hk:k<n):el (plusL l n) n i k=delta i k+sumR n fun p=>eQ l (p*n+i)*eQ l (p*n+k):=mk_el hi hk
theorem plus_sym (l:List (Int×Int)) (n:Nat):SymM n (plusL l n):=fun i k hi hk=>by
 rw[plus_el hi hk,plus_el hk hi]
 congr 1
 ·unfold delta
  by_cases e:i=k
  ·rw[if_pos e,if_pos e.symm]
  ·rw[if_neg e,if_neg (Ne.symm e)]
 ·exact sum_congr n fun p _=>Rat.mul_comm ..
theorem qf_delta (n:Nat) (x:Nat→Rat):qf n delta x=sumR n fun i=>x i*x i:=sum_congr n fun i hi=>by
 rw[sum_one (j:=i) n hi fun k _ hne=>by unfold delta;rw[if_neg (Ne.symm hne)];grind]
 unfold delta;rw[if_pos rfl];grind
theorem qf_gram (n:Nat) (b:Mx) (x:Nat→Rat):qf n (fun i k=>sumR n fun p=>b p i*b p k) x=sumR n fun p=>(sumR n fun i=>b p i*x i)*sumR n fun i=>b p i*x i:=by
 unfold qf
 rw[sum_congr n (g:=fun i=>sumR n fun p=>x i*(b p i*sumR n fun k=>b p k*x k)) fun i _=>by
  rw[sum_congr n (g:=fun k=>sumR n fun p=>x i*(b p i*(b p k*x k))) fun k _=>by
   rw[sum_mulL,sum_mulR];exact sum_congr n fun p _=>by grind]
  rw[sum_swap]
  exact sum_congr n fun p _=>by rw[sum_mulL,sum_mulL]]
 rw[sum_swap]
 refine sum_congr n fun p _=> ?_
 rw[sum_mulR]
 exact sum_congr n fun i _=>by grind
theorem plus_qf (l:List (Int×Int)) (n:Nat) (x:Nat→Rat):qf n (el (plusL l n) n) x=sumR n (fun i=>x i*x i)+sumR n fun p=>(sumR n fun i=>eQ l (p*n+i)*x i)*sumR n fun i=>eQ l (p*n+i)*x i:=by
 rw[qf_congrA (B:=fun i k=>delta i k+sumR n fun p=>eQ l (p*n+i)*eQ l (p*n+k)) fun i k hi hk=>plus_el hi hk,qf_add,qf_delta,qf_gram n fun p i=>eQ l (p*n+i)]
theorem plus_one (l:List (Int×Int)) (n:Nat) (x:Nat→Rat):sumR n (fun i=>x i*x i)≤qf n (el (plusL l n) n) x:=by
 rw[plus_qf]
 have:=sum_nn (n:=n) (f:=fun p=>(sumR n fun i=>eQ l (p*n+i)*x i)*sumR n fun i=>eQ l (p*n+i)*x i) fun p _=>sq_nn _
 grind
theorem plus_pos (l:List (Int×Int)) (n:Nat):PosX n (el (plusL l n) n):=fun x ⟨i,hi,hx⟩=>by
 have h1:=plus_one l n x
 have h2:=sum_pos (n:=n) (f:=fun i=>x i*x i) (fun i _=>sq_nn _) ⟨i,hi,sq_pos hx⟩
 grind
theorem plus_sm {l:List (Int×Int)} {n:Nat} (hq:∀q∈l,qOK q) (hn:n≤5):Sm 1304 (plusL l n):=Sm_mk fun i k _ _=>by
 have h1:=sum_fs (f:=fun p=>eQ l (p*n+i)*eQ l (p*n+k)) (B:=260) n fun p _=>by
  have g1:=fs_qV (qOK_at hq (p*n+i))
  have g2:=fs_qV (qOK_at hq (p*n+k))
  have g3:=fs_mul (eQ l (p*n+i)) (eQ l (p*n+k))
  unfold eQ at g3 ⊢
  omega
 have h2:=fs_add (delta i k) (sumR n fun p=>eQ l (p*n+i)*eQ l (p*n+k))
 have h3:fs (delta i k)≤2:=by unfold delta;split<;>decide+kernel
 omega
end Go.Proofs.YtfjhnollamkdcaaGreatDoor
namespace Go.Proofs.YtfjhnollamkdcaaGreatDoor
open Go.Sx
set_option linter.unusedSimpArgs false
set_option linter.unusedVariables false
set_option maxRecDepth 100000
set_option maxHeartbeats 40000000
theorem dlt_eq {i k:Nat}:(((i:Nat):Int)==((k:Nat):Int))=decide (i=k):=by
 by_cases e:i=k
 ·subst e;rw[decide_eq_true rfl];exact beq_self_eq_true _
 ·rw[decide_eq_false e];exact beq_eq_false_iff_ne.2 (by omega)
theorem c_Plus (l:List (Int×Int)) (hl:l.length≤maxLen) (hq:∀q∈l,qOK q) {n:Nat} (hn:n≤5):CallOK Tryz.prog 23 [iv n,mvec 2 qA l] [] (mA n n (plusL l n)) [] []:=by
 have h00:(0:Int)≤0∧(0:Int)<256:=by decide
 have k0:=c_Some (0,0,l) ⟨h00,h00,hl,hq⟩ (r:=n) (c:=n) (by omega) (by omega)
 replace k0:CallOK Tryz.prog 22 [mQ (0,0,l),iv n,iv n] [] (mA n n (someL l (n*n))) [] []:=k0
 have lX:=someL_len l (n*n)
 have hX:∀p i,p<n→i<n→(someL l (n*n)).getD (p*n+i) 0=eQ l (p*n+i):=fun p i hp hi=>someL_get (idx_lt hp hi)
 have hP:(plusL l n).length=n*n:=mk_len ..
 have hPe:∀i k,i<n→k<n→(plusL l n).getD (i*n+k) 0=delta i k+sumR n fun p=>eQ l (p*n+i)*eQ l (p*n+k):=fun i k hi hk=>plus_el hi hk
 have hfe:∀p,fs (eQ l p)≤130:=fun p=>fs_qV (qOK_at hq p)
 have hnn:n*n≤5*5:=Nat.mul_le_mul hn hn
 generalize someL l (n*n)=X at*
 generalize plusL l n=P at*
 generalize eQ l=w at*
 refine callF (Z:=[]) tabOK mixedOK Tryz.func23 rfl (by kernel_rfl) (by first|rfl|(simp[keylessL,keyless,keylessL_map, *];done)) (by first|rfl|(simp[keylessL,keyless,keylessL_map, *];done)) (by kernel_rfl) rfl ?_
 intro w0 ρ0 hE
 conv=>whnf
 (repeat(first|(refine g_c (by assumption) ?_;conv=>whnf)))
 refine SWx_adoptB (j:=6) (k:=2001) (s:=5) (p:=2) (blk:=fblk []) rfl rfl rfl rfl rfl ?_
 refine SW_loopS hE (fun k=>k) [0,4,5,6,7] [4,5,6,2001] (fun m fr hp=>∃i:Nat,m=n - i∧i≤n∧fr=[(0,iv n),(4,.ptr 4 0 0 0),(5,.ptr 5 0 0 0),(6,.ptr 6 0 0 0),(7,iv (i:Nat))]∧
  hp=[(4,zM),(5,⟨30,true,.one (mC n n X)⟩),(6,⟨30,true,.one [iv n,iv n,.slc 2001 5 0 (i*n)]⟩),(2001,fblk (P.take (i*n)))]) n ?_ ?_ ?_
 ·kernel_rfl
 ·exact⟨0,rfl,Nat.zero_le _,rfl,by rw[Nat.zero_mul];rfl⟩
 rintro m _ _ ⟨i,rfl,hi,rfl,rfl⟩
 by_cases hlt:i<n
 ·have t1:=dlt hlt
  have t2:=winc (i:=i) (by omega)
  refine SWx.of hE ?_
  conv=>whnf
  (repeat(first|(refine tst_tt t1 ?_;conv=>whnf)|(rw[t1];conv=>whnf)))
  refine SW_loopS hE (fun k=>k) [0,4,5,6,7,8] [4,5,6,2001] (fun m fr hp=>∃k:Nat,m=n - k∧k≤n∧fr=[(0,iv n),(4,.ptr 4 0 0 0),(5,.ptr 5 0 0 0),(6,.ptr 6 0 0 0),(7,iv (i:Nat)),(8,iv (k:Nat))]∧
   hp=[(4,zM),(5,⟨30,true,.one (mC n n X)⟩),(6,⟨30,true,.one [iv n,iv n,.slc 2001 5 0 (i*n+k)]⟩),(2001,fblk (P.take (i*n+k)))]) n ?_ ?_ ?_
  ·kernel_rfl
  ·exact⟨0,rfl,Nat.zero_le _,rfl,rfl⟩
  rintro m _ _ ⟨k,rfl,hk,rfl,rfl⟩
  by_cases hlk:k<n
  ·have t3:=dlt hlk
   have t4:=winc (i:=k) (by omega)
   have hin:=idx_lt hlt hlk
   have hlt0:(P.take (i*n+k)).length=i*n+k:=by rw[List.length_take];omega
   have hv:=hPe i k hlt hlk
   have e1:=app_one (d:=(0:Rat)) (show i*n+k<P.length by omega)
   rw[hv]at e1
   have c1:CallOK Tryz.prog 26 [iv 1] [] (.frac 1) [] []:=c_fInt 1 (by decide) (by decide)
   have hd:delta i k=if i=k then 1 else 0:=rfl
   refine SWx.of hE ?_
   conv=>whnf
   have body:∀q,q≤n→True:=fun _ _=>trivial
   by_cases hik:i=k
   ·have t5:(((i:Nat):Int)==((k:Nat):Int))=true:=by rw[dlt_eq];exact decide_eq_true hik
    rw[if_pos hik]at hd
    (repeat((first|refine g_c (by assumption) ?_|refine tst_tt t3 ?_|refine tst_tt t5 ?_|rw[t3]|rw[t5]);conv=>whnf))
    refine SW_loopS hE (fun k=>k) [0,4,5,6,7,8,9,10] [4,5,6,9,2001] (fun m fr hp=>∃p:Nat,m=n - p∧p≤n∧fr=[(0,iv n),(4,.ptr 4 0 0 0),(5,.ptr 5 0 0 0),(6,.ptr 6 0 0 0),(7,iv (i:Nat)),(8,iv (k:Nat)),(9,.ptr 9 0 0 0),(10,iv (p:Nat))]∧
     hp=[(4,zM),(5,⟨30,true,.one (mC n n X)⟩),(6,⟨30,true,.one [iv n,iv n,.slc 2001 5 0 (i*n+k)]⟩),(9,⟨49,true,.one [.frac (delta i k+sumR p fun p=>w (p*n+i)*w (p*n+k))]⟩),(2001,fblk (P.take (i*n+k)))]) n ?_ ?_ ?_
    ·kernel_rfl
    ·exact⟨0,rfl,Nat.zero_le _,rfl,by rw[hd];simp only[sumR,Rat.add_zero];rfl⟩
    rintro m _ _ ⟨p,rfl,hp,rfl,rfl⟩
    by_cases hlp:p<n
    ·have t6:=dlt hlp
     have t7:=winc (i:=p) (by omega)
     obtain⟨w1,w2⟩:=idx_w (i:=p) (k:=i) (c:=n) (by omega) (by omega) (by omega)
     obtain⟨w3,w4⟩:=idx_w (i:=p) (k:=k) (c:=n) (by omega) (by omega) (by omega)
     have b1:=idx_lt hlp hlt
     have b2:=idx_lt hlp hlk
     have g1:=hX p i hlp hlt
     have g2:=hX p k hlp hlk
     have f1:=hfe (p*n+i)
     have f2:=hfe (p*n+k)
     have f3:=fs_mul (w (p*n+i)) (w (p*n+k))
     have hs:=sum_fs (f:=fun p=>w (p*n+i)*w (p*n+k)) (B:=260) p fun j _=>by
      have g1:=hfe (j*n+i)
      have g2:=hfe (j*n+k)
      have g3:=fs_mul (w (j*n+i)) (w (j*n+k))
      omega
     have hd2:fs (delta i k)≤2:=by unfold delta;split<;>decide+kernel
     have hs2:=fs_add (delta i k) (sumR p fun p=>w (p*n+i)*w (p*n+k))
     have m1:=x_Mul (w (p*n+i)) (w (p*n+k)) (by omega)
     have m2:=x_Add (delta i k+sumR p fun p=>w (p*n+i)*w (p*n+k)) (w (p*n+i)*w (p*n+k)) (by omega)
     rw[show delta i k+sumR p (fun p=>w (p*n+i)*w (p*n+k))+w (p*n+i)*w (p*n+k)=delta i k+sumR (p+1) (fun p=>w (p*n+i)*w (p*n+k))from by rw[sumR];exact Rat.add_assoc ..]at m2
     clear hs hs2 hd2 f1 f2 f3
     refine SWx.of hE ?_
     conv=>whnf
     (repeat((first|refine step_i (by kernel_rfl) ?_|refine g_c (by assumption) ?_|refine tst_tt t6 ?_|refine g_o (op_loadA rfl (ev_ok rfl) (tgt rfl) rfl (Nat.succ_ne_zero _) rfl) ?_|refine g_o (op_indexM (α:=Rat) (d:=0) rfl (ev_ok rfl) (ev_ok rfl) (tgt rfl) rfl (tgt rfl) rfl (by omega)) ?_|rw[t6]|rw[w1]|rw[w2]|rw[w4]|rw[g1]|rw[g2]|rw[t7]|rw[Int.toNat_natCast]|rw[Nat.zero_add]);conv=>whnf))
     exact⟨n - (p+1),fun k=>k,[0,4,5,6,7,8,9,10],[4,5,6,9,2001],by omega,by kernel_rfl,p+1,rfl,hlp,rfl,rfl⟩
    ·have t6:=dge hlp
     obtain rfl:p=n:=by omega
     refine SWx.of hE ?_
     conv=>whnf
     (repeat((first|refine step_oA (by first|omega|decide|(simp only[tl0,dlen,List.length_replicate,List.length_set,List.length_map,List.length_zipWith,List.length_take,List.length_append,List.length_cons,List.length_nil];omega)) ?_|refine tst_ff t6 ?_|rw[t6]|rw[t4]|rw[Nat.zero_add]);conv=>whnf))
     refine⟨p - (k+1),renBy [(64,2001)],[0,4,5,6,7,8],[4,5,6,64],by omega,by kernel_rfl,k+1,rfl,hlk,rfl, ?_⟩
     rw[show i*p+(k+1)=i*p+k+1 from rfl,e1];rfl
   ·have t5:(((i:Nat):Int)==((k:Nat):Int))=false:=by rw[dlt_eq];exact decide_eq_false hik
    rw[if_neg hik]at hd
    (repeat((first|refine tst_tt t3 ?_|refine tst_ff t5 ?_|rw[t3]|rw[t5]);conv=>whnf))
    refine SW_loopS hE (fun k=>k) [0,4,5,6,7,8,9,10] [4,5,6,9,2001] (fun m fr hp=>∃p:Nat,m=n - p∧p≤n∧fr=[(0,iv n),(4,.ptr 4 0 0 0),(5,.ptr 5 0 0 0),(6,.ptr 6 0 0 0),(7,iv (i:Nat)),(8,iv (k:Nat)),(9,.ptr 9 0 0 0),(10,iv (p:Nat))]∧
     hp=[(4,zM),(5,⟨30,true,.one (mC n n X)⟩),(6,⟨30,true,.one [iv n,iv n,.slc 2001 5 0 (i*n+k)]⟩),(9,⟨49,true,.one [.frac (delta i k+sumR p fun p=>w (p*n+i)*w (p*n+k))]⟩),(2001,fblk (P.take (i*n+k)))]) n ?_ ?_ ?_
    ·kernel_rfl
    ·exact⟨0,rfl,Nat.zero_le _,rfl,by rw[hd];simp only[sumR,Rat.add_zero];rfl⟩
    rintro m _ _ ⟨p,rfl,hp,rfl,rfl⟩
    by_cases hlp:p<n
    ·have t6:=dlt hlp
     have t7:=winc (i:=p) (by omega)
     obtain⟨w1,w2⟩:=idx_w (i:=p) (k:=i) (c:=n) (by omega) (by omega) (by omega)
     obtain⟨w3,w4⟩:=idx_w (i:=p) (k:=k) (c:=n) (by omega) (by omega) (by omega)
     have b1:=idx_lt hlp hlt
     have b2:=idx_lt hlp hlk
     have g1:=hX p i hlp hlt
     have g2:=hX p k hlp hlk
     have f1:=hfe (p*n+i)
     have f2:=hfe (p*n+k)
     have f3:=fs_mul (w (p*n+i)) (w (p*n+k))
     have hs:=sum_fs (f:=fun p=>w (p*n+i)*w (p*n+k)) (B:=260) p fun j _=>by
      have g1:=hfe (j*n+i)
      have g2:=hfe (j*n+k)
      have g3:=fs_mul (w (j*n+i)) (w (j*n+k))
      omega
     have hd2:fs (delta i k)≤2:=by unfold delta;split<;>decide+kernel
     have hs2:=fs_add (delta i k) (sumR p fun p=>w (p*n+i)*w (p*n+k))
     have m1:=x_Mul (w (p*n+i)) (w (p*n+k)) (by omega)
     have m2:=x_Add (delta i k+sumR p fun p=>w (p*n+i)*w (p*n+k)) (w (p*n+i)*w (p*n+k)) (by omega)
     rw[show delta i k+sumR p (fun p=>w (p*n+i)*w (p*n+k))+w (p*n+i)*w (p*n+k)=delta i k+sumR (p+1) (fun p=>w (p*n+i)*w (p*n+k))from by rw[sumR];exact Rat.add_assoc ..]at m2
     clear hs hs2 hd2 f1 f2 f3
     refine SWx.of hE ?_
     conv=>whnf
     (repeat((first|refine step_i (by kernel_rfl) ?_|refine g_c (by assumption) ?_|refine tst_tt t6 ?_|refine g_o (op_loadA rfl (ev_ok rfl) (tgt rfl) rfl (Nat.succ_ne_zero _) rfl) ?_|refine g_o (op_indexM (α:=Rat) (d:=0) rfl (ev_ok rfl) (ev_ok rfl) (tgt rfl) rfl (tgt rfl) rfl (by omega)) ?_|rw[t6]|rw[w1]|rw[w2]|rw[w4]|rw[g1]|rw[g2]|rw[t7]|rw[Int.toNat_natCast]|rw[Nat.zero_add]);conv=>whnf))
     exact⟨n - (p+1),fun k=>k,[0,4,5,6,7,8,9,10],[4,5,6,9,2001],by omega,by kernel_rfl,p+1,rfl,hlp,rfl,rfl⟩
    ·have t6:=dge hlp
     obtain rfl:p=n:=by omega
     refine SWx.of hE ?_
     conv=>whnf
     (repeat((first|refine step_oA (by first|omega|decide|(simp only[tl0,dlen,List.length_replicate,List.length_set,List.length_map,List.length_zipWith,List.length_take,List.length_append,List.length_cons,List.length_nil];omega)) ?_|refine tst_ff t6 ?_|rw[t6]|rw[t4]|rw[Nat.zero_add]);conv=>whnf))
     refine⟨p - (k+1),renBy [(64,2001)],[0,4,5,6,7,8],[4,5,6,64],by omega,by kernel_rfl,k+1,rfl,hlk,rfl, ?_⟩
     rw[show i*p+(k+1)=i*p+k+1 from rfl,e1];rfl
  ·have t3:=dge hlk
   obtain rfl:k=n:=by omega
   refine SWx.of hE ?_
   conv=>whnf
   (repeat(first|(refine tst_ff t3 ?_;conv=>whnf)|(rw[t3];conv=>whnf)|(rw[t2];conv=>whnf)))
   exact⟨k - (i+1),fun k=>k,[0,4,5,6,7],[4,5,6,2001],by omega,by kernel_rfl,i+1,rfl,hlt,rfl,by rw[Nat.succ_mul];rfl⟩
 ·have t1:=dge hlt
  obtain rfl:i=n:=by omega
  rw[List.take_of_length_le (by omega)]
  refine SWx.of hE ?_
  conv=>whnf
  (repeat(first|(refine tst_ff t1 ?_;conv=>whnf)))
  (first|exact Recast.refl _|exact Frz.recast (Recast.refl _) rfl|(refine Frz.one rfl rfl ?_;(repeat(first|exact FrzC.keyless rfl|exact FrzL.nil|refine FrzL.cons ?_ ?_|(refine FrzC.fracs rfl ?_;(first|rfl|omega|(simp<;>fail)|(simp<;>omega)))|refine FrzC.agg ?_)))|(refine Frz.tup ?_;skip))
end Go.Proofs.YtfjhnollamkdcaaGreatDoor
namespace Go.Proofs.YtfjhnollamkdcaaGreatDoor
open Go.Sx
set_option linter.unusedSimpArgs false
set_option linter.unusedVariables false
set_option maxRecDepth 100000
set_option maxHeartbeats 8000000
section
variable {n B C:Nat} {a m:List Rat} (h:Pen n B C a m)
include h
end
theorem pen_law {l b:List (Int×Int)} {n:Nat} (hl:∀q∈l,qOK q) (hb:∀q∈b,qOK q) (hn:n≤5):Pen n 130 1304 (symL l n) (plusL b n):=
 ⟨hn,(symL_ok n hl).1,mk_len ..,(symL_ok n hl).2.1,plus_sym b n,plus_pos b n,(symL_ok n hl).2.2,plus_sm hb hn⟩
end Go.Proofs.YtfjhnollamkdcaaGreatDoor
namespace Go.Proofs.YtfjhnollamkdcaaGreatDoor
open Go.Sx
set_option linter.unusedSimpArgs false
set_option linter.unusedVariables false
set_option maxRecDepth 100000
set_option maxHeartbeats 40000000
abbrev iblkM (l:List Int):Blk:=⟨3,true,.ints .i64 l⟩
theorem app_int {l:List Int} {x:Int}:iblkM (l++[x])=⟨3,true,.ints .i64 (List.take l.length l++List.take 1 (List.drop 0 [x]))⟩:=by
 rw[iblkM,List.take_of_length_le (Nat.le_refl _)];rfl
end Go.Proofs.YtfjhnollamkdcaaGreatDoor
namespace Go.Proofs.YtfjhnollamkdcaaGreatDoor
open Go.Sx
set_option linter.unusedSimpArgs false
set_option linter.unusedVariables false
set_option maxRecDepth 100000
set_option maxHeartbeats 4000000
theorem SWx_freezeI {E:Env} (t k:Nat) {c:Code} {K:Post'} {fr:List (Nat×SV)} {hp:List (Nat×Blk)} {ty:TypeId} {n:Nat} {kd:IntKind} {xs:List Int} (hW:∀b,¬E.W0 b) (ht:lk fr t=some (.slc k 1 0 n)) (hk:find hp k=some ⟨ty,true,.ints kd xs⟩)
  (hn:n=xs.length) (hs:SWx E c K ((t,ivec kd xs)::fr) (setB hp k ⟨ty,true,.dead⟩)):SWx E c K fr hp:=by
 refine SWx_freeze t k (xs:=xs.map (iel kd)) hW ht hk rfl rfl (keylessL_map (fun _=>rfl) xs) (by simp;omega) ?_
 rw[cutL_all (by simp;omega)]
 exact hs
end Go.Proofs.YtfjhnollamkdcaaGreatDoor
namespace Go.Proofs.YtfjhnollamkdcaaGreatDoor
open Go.Sx
set_option linter.unusedSimpArgs false
set_option linter.unusedVariables false
set_option maxRecDepth 100000
set_option maxHeartbeats 40000000
abbrev lQ:List (Int×Int)→SV:=mvec 2 qA
theorem c_few22 (ls:List (List (Int×Int))) (h:ls.length<1000) (hl:∀l∈ls,l.length≤maxLen):CallOK Tryz.prog 11 [mvec 1 lQ ls] [] (.val (.bool (ls.all fun l=>decide (l.length≤40)))) [] []:=by
 refine callV (Z:=[]) tabOK mixedOK Tryz.func11 rfl (by kernel_rfl) rfl rfl (by kernel_rfl) rfl ?_
 intro W0 w0 ρ0 hE
 conv=>whnf
 skip
 refine SW_loopN hE (fun k=>k) [0,3] [] (fun m fr hp=>∃i:Nat,m=ls.length - i∧i≤ls.length∧(∀j,j<i→decide ((ls.getD j []).length≤40)=true)∧fr=[(0,mvec 1 lQ ls),(3,iv (i:Nat))]∧hp=[]) ls.length ?_ ?_ ?_
 ·kernel_rfl
 ·exact⟨0,rfl,Nat.zero_le _,(fun j hj=>by omega),rfl,rfl⟩
 rintro m _ _ ⟨i,rfl,hi,hs,rfl,rfl⟩
 conv=>whnf
 by_cases hlt:i<ls.length
 ·have t1:=dlt hlt
  have t2:=winc (i:=i) (by omega)
  have hml:(ls.getD i []).length≤maxLen:=hl _ (getD_mem hlt)
  by_cases hL:(ls.getD i []).length≤40
  ·have t3:decide (((ls.getD i []).length:Int)>40)=false:=decide_eq_false (by omega)
   (repeat((first|refine tst_tt t1 ?_|refine tst_ff t3 ?_|refine g_o (op_lenM rfl rfl rfl (ev_ok rfl) (tgt rfl) rfl) ?_|refine g_o (op_loadA rfl (ev_ok rfl) (tgt rfl) rfl (Nat.succ_ne_zero _) rfl) ?_|refine g_o (op_indexN (α:=List (Int×Int)) (d:=[]) rfl (ev_ok rfl) (ev_ok rfl) (tgt rfl) rfl (tgt rfl) rfl (by omega)) ?_|rw[t1]|rw[t3]|rw[t2]);conv=>whnf))
   refine⟨ls.length - (i+1),fun k=>k,[0,3],[],by omega,by kernel_rfl,i+1,rfl,hlt, ?_,rfl,rfl⟩
   intro j hj
   by_cases hji:j=i
   ·rw[hji];exact decide_eq_true hL
   ·exact hs j (by omega)
  ·have t3:decide (((ls.getD i []).length:Int)>40)=true:=decide_eq_true (by omega)
   have e:(ls.all fun l=>decide (l.length≤40))=false:=all_no (d:=[]) hlt (decide_eq_false hL)
   rw[e]
   (repeat((first|refine tst_tt t1 ?_|refine tst_tt t3 ?_|refine g_o (op_lenM rfl rfl rfl (ev_ok rfl) (tgt rfl) rfl) ?_|refine g_o (op_loadA rfl (ev_ok rfl) (tgt rfl) rfl (Nat.succ_ne_zero _) rfl) ?_|refine g_o (op_indexN (α:=List (Int×Int)) (d:=[]) rfl (ev_ok rfl) (ev_ok rfl) (tgt rfl) rfl (tgt rfl) rfl (by omega)) ?_);conv=>whnf));(first|exact Recast.refl _|exact Frz.recast (Recast.refl _) rfl|(refine Frz.one rfl rfl ?_;skip)|(refine Frz.tup ?_;skip))
 ·have t1:=dge hlt
  obtain rfl:i=ls.length:=by omega
  have e:(ls.all fun l=>decide (l.length≤40))=true:=all_at [] hs
  rw[e]
  (repeat(first|(refine tst_ff t1 ?_;conv=>whnf)|(refine g_o (op_lenM rfl rfl rfl (ev_ok rfl) (tgt rfl) rfl) ?_;conv=>whnf)));(first|exact Recast.refl _|exact Frz.recast (Recast.refl _) rfl|(refine Frz.one rfl rfl ?_;skip)|(refine Frz.tup ?_;skip))
theorem c_pencil (l b:List (Int×Int)) (hl:l.length≤maxLen∧∀q∈l,qOK q) (hb:b.length≤maxLen∧∀q∈b,qOK q) {n:Nat} (hn:n≤5):
  CallOK Tryz.prog 13 [lQ l,lQ b,iv n] [] (.tup [mA n n (symL l n),mA n n (plusL b n)]) [] []:=by
 have k1:=c_Symm l hl.1 hl.2 (n:=n) (by omega)
 have k2:=c_Plus b hb.1 hb.2 hn
 refine callV (Z:=[]) tabOK mixedOK Tryz.func13 rfl (by kernel_rfl) rfl rfl (by kernel_rfl) rfl ?_
 intro W0 w0 ρ0 hE
 conv=>whnf
 (repeat(first|(refine g_c (by assumption) ?_;conv=>whnf)));(first|exact Recast.refl _|exact Frz.recast (Recast.refl _) rfl|(refine Frz.one rfl rfl ?_;skip)|(refine Frz.tup ?_;skip))
end Go.Proofs.YtfjhnollamkdcaaGreatDoor
namespace Go.Proofs.YtfjhnollamkdcaaGreatDoor
open Go.Sx
set_option linter.unusedSimpArgs false
set_option linter.unusedVariables false
set_option maxRecDepth 100000
set_option maxHeartbeats 40000000
section
variable {n B C D:Nat} {a m:List Rat} (h:Pen n B C a m)
include h
end
theorem two_mem {l b:List (Int×Int)} (hl:l.length≤maxLen) (hb:b.length≤maxLen):∀x∈[l,b],x.length≤maxLen:=fun x hx=>by
 simp only[List.mem_cons,List.not_mem_nil,or_false]at hx
 rcases hx with rfl|rfl<;>assumption
abbrev lOK (l:List (Int×Int)):Prop:=l.length≤maxLen∧∀q∈l,qOK q
end Go.Proofs.YtfjhnollamkdcaaGreatDoor
