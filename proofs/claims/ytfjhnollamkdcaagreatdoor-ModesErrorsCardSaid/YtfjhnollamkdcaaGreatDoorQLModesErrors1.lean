/- The texts SxS, SxW, SxX, SxY, Hb, Hd, Ja, Nk, Jb, Kf, Kh, Kn, Az, Kp, Kr, Ae, Am, An, Ap. -/
import Derived.Carry
import Derived.OpenShut
import Derived.Deep.Slices
import Derived.Lib.LaidTab
import Derived.Test.YtfjhnollamkdcaaGreatDoorQsA28
namespace Go.Sx
open Go.ChangeShapes
theorem trodAll_stays {H:Type} {enc:TypeId×Value→H} {P:Program} (hl:laidOutB P=true) {W W':World} (hb:RowKit.Below W.heap.size W W'):
  ∀(ts:List TypeId) (vs:List Value) (ds:List (DataW H)) (ps:List MemPlace),ts.all (fun t=>P.readableRec t&&decide (t<P.types.size))=true→DataW.TrodAll enc P W 0 (fun _=>true) true ts vs ds ps→(∀p∈ps,p.block<W.heap.size)→
   DataW.TrodAll enc P W' 0 (fun b=>decide (b<W.heap.size)) true ts vs ds ps
 |[],[],[],_,_,h,_=>h
 |t::ts,v::vs,d::ds,ps,hr,h,hlt=>by
  obtain⟨p,q,h1,h2,rfl⟩:=h
  simp only[List.all_cons,Bool.and_eq_true,decide_eq_true_eq]at hr
  exact⟨p,q,RowKit.Below.trod hl hr.1.1 hr.1.2 h1 hb (fun x hx=>hlt x (List.mem_append.2 (.inl hx))),trodAll_stays hl hb ts vs ds q hr.2 h2 (fun x hx=>hlt x (List.mem_append.2 (.inr hx))),rfl⟩
 |[],_::_,_,_,_,h,_=>h.elim
 |[],[],_::_,_,_,h,_=>h.elim
 |_::_,[],_,_,_,h,_=>h.elim
 |_::_,_::_,[],_,_,h,_=>h.elim
theorem law_post {H:Type} {enc:TypeId×Value→H} {P:Program} {f:Func} {s:ChangeSpec} {W W':World} {args:Array Value} {ds gs:List (DataW H)} {before:List MemPlace} {tb:TypeId}
  (hl:laidOutB P=true) (hr:f.params.toList.all (fun t=>P.readableRec t&&decide (t<P.types.size))=true) (hv:s.vars=[]) (hres:f.resultTypes= #[tb]) (htb:P.underlying tb=some .bool)
  (hW:DataW.Whole enc P f.params.toList s.vars false W args.toList ds gs before) (hfn:(s.fn H (ds++gs)).results=[.lit (.bool true)]∧(s.fn H (ds++gs)).args=ds∧(s.fn H (ds++gs)).vars=[])
  (hb:RowKit.Below W.heap.size W W'):s.post enc P f false true false false W args (.bool true) W':=by
 have hlt:=hW.lt
 have hW':=hW
 obtain⟨p,q,h1,h2,rfl,h3,h4⟩:=hW
 rw[hv]at h2
 obtain⟨rfl,rfl⟩:=trodVars_none h2
 rw[List.append_nil]at hlt
 refine⟨ds,[],p++[],[],p,[],hW', ?_, ?_, ?_,hb.frame _,fun h=>by cases h⟩
 ·rw[hfn.1,hres]
  exact trodAll_cons_mk (RowKit.shut_bool htb true) trodAll_mk0
 ·rw[hfn.2.1]
  exact trodAll_stays hl hb _ _ _ _ hr h1 hlt
 ·rw[hv,hfn.2.2]
  exact rfl
end Go.Sx
namespace Go.Sx
theorem FrzC.via {hp:List (Nat×Blk)} {c d e:SV} (h:∀ρ x,HasC ρ c x→HasC ρ d x) (h1:c.isOne=d.isOne) (hd:FrzC hp d e):FrzC hp c e:=
 ⟨h1.trans hd.1,fun ρ w B hh x hx i hi=>hd.2 ρ w B hh x (h ρ x hx) i hi⟩
theorem FrzC.nilS {hp:List (Nat×Blk)} {w:Nat} {a:Option Addr}:FrzC hp (.val (.slice a 0 0)) (vecA w []):=
 FrzC.via (d:=vecA w []) (fun ρ x hx=>by simp only[HasC]at hx ⊢;exact .inl ⟨rfl,a,hx.1⟩) rfl (FrzC.keyless rfl)
section
variable {P:Program} {o:Oper} {ft:List (Nat×SV)} {fk:List (Nat×Blk)} {w:Nat} {α:Type} {f:α→SV} {xs:List α}
end
section
variable {P:Program} {f:FuncId} {args:List SV} {hp:List (Nat×Blk)} {o:Oper} {fr:List (Nat×SV)} {c:SV}
end
end Go.Sx
namespace Go.Sx
open Go.ChangeShapes Go.WideShapes
theorem tab_heap {P:Program} {W:World} {name:String} {k:IntKind} {zs:List Int} {g:Nat} (hg:P.globalNamed name=some g) (h:Lib.TabIs P W name k zs):∃ty fz,W.heap[g]? =some (.cells (zs.map fun x=>Value.int k x).toArray ty fz):=by
 unfold Lib.TabIs World.var? at h
 rw[hg]at h
 simp only[Option.bind_some]at h
 cases ho:W.heap[g]? with
 |none=>rw[ho]at h;cases h
 |some o=>
  rw[ho]at h
  cases o<;>simp_all
theorem law_runA {P:Program} {f:FuncId} {args:List SV} {W:World} (hf:FnOK P f) (h:CallOK P f args [] (.val (.bool true)) [] [])
  (hg:TabsW W) {z:List (List Value)} (hz:HasZ (allRho hg) args z):
  Calls P f (List.zipWith mkV args z).toArray W fun e w'=>e= .returned (.bool true)∧RowKit.Below W.heap.size W w':=by
 refine(h.calls hf hz ⟨(fun k b hb=>by cases hb),(fun k k' x x' b b' hb=>by cases hb),(fun b o hb=>hb),(fun k b x hb=>by cases hb),(fun k b hb=>by cases hb)⟩).mono ?_
 rintro e w' ⟨v,ρ',rfl,hp⟩
 refine⟨by rw[of_has_val hp.has], ?_⟩
 exact(hp.pres.mono (W':=fun _=>False) (fun b _ ⟨k,blk,t,hm,_⟩=>by cases hm)).below
section
variable {H:Type} {enc:TypeId×Value→H} {P:Program} {W:World} {hg:TabsW W}
theorem Opens.struct2 {t:TypeId} {f0 f1:Field} {α β:Type} {a:α→SV} {b:β→SV} {ga:α→Prop} {gb:β→Prop} (ht:P.underlying t=some (.struct #[f0,f1])) (o0:f0.offset=0) (o1:f1.offset=P.cellsOf f0.type) (hc:P.cellsOf t=P.cellsOf f0.type+P.cellsOf f1.type)
  (h0:Opens enc P hg f0.type a ga) (h1:Opens enc P hg f1.type b gb):Opens enc P hg t (ag2 a b) (fun p=>ga p.1∧gb p.2):=fun fuel cs x h=>by
 obtain⟨xs,n,rfl,_,hlen,hxl,hf⟩:=DataW.trod_struct ht h
 have hx0:xs.length=2:=hxl
 obtain⟨y0,y1,rfl⟩:∃y0 y1,xs=[y0,y1]:=by
  match xs,hx0 with
  |[y0,y1],_=>exact⟨y0,y1,rfl⟩
 have g0:=hf 0 f0 rfl
 have g1:=hf 1 f1 rfl
 obtain⟨p,p1,p2⟩:=h0 _ _ _ g0
 obtain⟨q,q1,q2⟩:=h1 _ _ _ g1
 refine⟨(p,q),⟨p1,q1⟩, ?_⟩
 simp only[ag2,HasC]
 refine⟨[_,_],by simp only[HasZ];exact⟨_,_,rfl,p2,_,_,rfl,q2,rfl⟩, ?_⟩
 simp only[List.flatten_cons,List.flatten_nil,List.append_nil,o0,o1,List.drop_zero]
 rw[List.take_of_length_le (l:=cs.drop _) (by rw[List.length_drop];omega),List.take_append_drop]
theorem mkV_one {c:SV} {v:Value} (h:c.isOne=true) (hv:v.cells.toList=[v]):mkV c v.cells.toList=v:=by rw[hv];simp[mkV,h]
end
end Go.Sx
namespace Go.Sx
theorem wf_u32 {x:Int} (h:(Lit.int .u32 x).wf=true):0≤x∧x<4294967296:=by
 simp[Lit.wf,IntKind.min,IntKind.max,IntKind.bits,IntKind.signed]at h;omega
theorem wf_u8 {x:Int} (h:(Lit.int .u8 x).wf=true):0≤x∧x<256:=by
 simp[Lit.wf,IntKind.min,IntKind.max,IntKind.bits,IntKind.signed]at h;omega
theorem wf_i64 {x:Int} (h:(Lit.int .i64 x).wf=true): -9223372036854775808≤x∧x<9223372036854775808:=by
 simp[Lit.wf,IntKind.min,IntKind.max,IntKind.bits,IntKind.signed]at h;omega
theorem laid_tail {P:Program} {W:World} {x:String×DataW Unit} {rest:List (String×DataW Unit)} (h:laidMet P (x::rest) W):laidMet P rest W:=by
 obtain⟨n,d⟩:=x
 obtain⟨ps,⟨g,t,cs,fuel,p,q,_,_,_,_,hr,rfl⟩,hn,hb⟩:=h
 exact⟨q,hr,(List.nodup_append.1 hn).2.1,fun b off hm=>hb b off (List.mem_append.2 (.inr hm))⟩
section
variable {α:Type} {p:α→Bool} {l:List α} {d:α}
end
theorem SWx_freezeF {E:Env} (t k:Nat) {c:Code} {K:Post'} {fr:List (Nat×SV)} {hp:List (Nat×Blk)} {ty:TypeId} {n:Nat} {qs:List Rat} (hW:∀b,¬E.W0 b) (ht:lk fr t=some (.slc k 5 0 n)) (hk:find hp k=some ⟨ty,true,.fracs qs⟩)
  (hn:n=qs.length) (hs:SWx E c K ((t,fvec qs)::fr) (setB hp k ⟨ty,true,.dead⟩)):SWx E c K fr hp:=by
 refine SWx_freeze t k (xs:=qs.map .frac) hW ht hk rfl rfl (keylessL_map (fun _=>rfl) qs) (by simp;omega) ?_
 rw[cutL_all (by simp;omega)]
 exact hs
end Go.Sx
namespace Go.Proofs.YtfjhnollamkdcaaGreatDoor
open Go.Sx
set_option linter.unusedSimpArgs false
set_option linter.unusedVariables false
set_option maxRecDepth 100000
set_option maxHeartbeats 4000000
abbrev qA:Int×Int→SV:=ag2 (iel .i64) (iel .u32)
def qV (q:Int×Int):Rat:=(q.1:Rat)/((if q.2<1 then 1 else q.2:Int):Rat)
def qOK (q:Int×Int):Prop:=(-9223372036854775808≤q.1∧q.1<9223372036854775808)∧(0≤q.2∧q.2<4294967296)
theorem fs_qV {q:Int×Int} (h:qOK q):fs (qV q)≤130:=by
 have h1:=fs_div (q.1:Rat) ((if q.2<1 then 1 else q.2:Int):Rat)
 have h2:=fs_int h.1.1 h.1.2
 have h3:fs ((if q.2<1 then 1 else q.2:Int):Rat)≤65:=fs_int (by have:=h.2;split<;>omega) (by have:=h.2;split<;>omega)
 unfold qV
 omega
theorem c_QOf (q:Int×Int) (h:qOK q):CallOK Tryz.prog 19 [qA q] [] (.frac (qV q)) [] []:=by
 have hd:(if q.2<1 then 1 else q.2)≠0:=by have:=h.2;split<;>omega
 have e1:(if (1:Int)>q.2 then 1 else q.2)=(if q.2<1 then 1 else q.2):=rfl
 have e2:IntKind.i64.wrap (if (1:Int)>q.2 then 1 else q.2)=(if q.2<1 then 1 else q.2):=wrap_i64 (by have:=h.2;split<;>omega) (by have:=h.2;split<;>omega)
 have g2:=fs_int h.1.1 h.1.2
 have g3:fs ((if q.2<1 then 1 else q.2:Int):Rat)≤65:=fs_int (by have:=h.2;split<;>omega) (by have:=h.2;split<;>omega)
 have k1:=c_fOf natBig q.1 (if q.2<1 then 1 else q.2) (by unfold fs at g2 g3;omega) h.1.1 h.1.2 (by have:=h.2;split<;>omega) (by have:=h.2;split<;>omega) hd
 refine callV (Z:=[]) tabOK mixedOK Tryz.func19 rfl (by kernel_rfl) rfl rfl (by kernel_rfl) rfl ?_
 intro W0 w0 ρ0 hE
 conv=>whnf
 (repeat(first|(refine g_c (by assumption) ?_;conv=>whnf)|(rw[e2];conv=>whnf)));(first|exact Recast.refl _|exact Frz.recast (Recast.refl _) rfl|(refine Frz.one rfl rfl ?_;skip)|(refine Frz.tup ?_;skip))
theorem app_snoc {α:Type} {l:List α} {i:Nat} {d:α} (h:i<l.length):(l.take i).take i++(([l.getD i d]:List α).drop 0).take 1=l.take (i+1):=by
 have e:l.take (i+1)=l.take i++[l.getD i d]:=by rw[List.take_add_one,List.getD_eq_getElem?_getD,List.getElem?_eq_getElem h];rfl
 rw[List.take_take,Nat.min_self,e];rfl
end Go.Proofs.YtfjhnollamkdcaaGreatDoor
namespace Go.Proofs.YtfjhnollamkdcaaGreatDoor
open Go.Sx
set_option linter.unusedSimpArgs false
set_option linter.unusedVariables false
set_option maxRecDepth 100000
set_option maxHeartbeats 4000000
abbrev QWf (l:List (Int×Int)):Prop:=l.length≤maxLen∧∀x∈l,((Lit.int .i64 x.1).wf=true)∧((Lit.int .u32 x.2).wf=true)
theorem qOK_of {l:List (Int×Int)} (w:l.length≤maxLen∧∀x∈l,((Lit.int .i64 x.1).wf=true)∧((Lit.int .u32 x.2).wf=true)):∀q∈l,qOK q:=fun q hq=>⟨wf_i64 (w.2 q hq).1,wf_u32 (w.2 q hq).2⟩
section
variable {a b z:List Rat} {n i:Nat} {c:Rat}
theorem get_zero (hi:i<n):(List.replicate n (0:Rat)).getD i 0=0:=by simp[List.getD_eq_getElem?_getD,hi]
end
end Go.Proofs.YtfjhnollamkdcaaGreatDoor
namespace Go.Proofs.YtfjhnollamkdcaaGreatDoor
open Go.Sx
set_option linter.unusedSimpArgs false
set_option linter.unusedVariables false
set_option maxRecDepth 100000
set_option maxHeartbeats 4000000
theorem sum_fs {f:Nat→Rat} {B:Nat}:∀n,(∀i,i<n→fs (f i)≤B)→fs (sumR n f)≤2+n*B
 |0,_=>by rw[sumR,fs_zero];omega
 |n+1,h=>by
  have h1:=sum_fs n (fun i hi=>h i (by omega))
  have h2:=h n (by omega)
  have:=fs_add (sumR n f) (f n)
  rw[sumR,Nat.succ_mul];omega
end Go.Proofs.YtfjhnollamkdcaaGreatDoor
namespace Go.Proofs.YtfjhnollamkdcaaGreatDoor
open Go.Sx
set_option linter.unusedSimpArgs false
set_option linter.unusedVariables false
set_option maxRecDepth 100000
set_option maxHeartbeats 4000000
section
variable {r c:Nat} {w:Mx} {sp:List Nat} {M:Nat→List Rat}
end
theorem turn_el {r c:Nat} {a:List Rat} {i k:Nat} (hi:i<c) (hk:k<r):el (mturn r c a) r i k=el a c k i:=mk_el hi hk
end Go.Proofs.YtfjhnollamkdcaaGreatDoor
namespace Go.Proofs.YtfjhnollamkdcaaGreatDoor
open Go.Sx
set_option linter.unusedSimpArgs false
set_option linter.unusedVariables false
set_option maxRecDepth 100000
set_option maxHeartbeats 4000000
theorem form_sum {r c:Nat} {a v w:List Rat} (hv:v.length=r):mform r c a v w=sumR r fun i=>sumR c fun k=>v.getD i 0*el a c i k*w.getD k 0:=by
 rw[mform,vdot_sum hv mapply_len]
 exact sum_congr r fun i hi=>by rw[mapply_get hi,sum_mulL];exact sum_congr c fun k _=>by grind
end Go.Proofs.YtfjhnollamkdcaaGreatDoor
namespace Go.Sx
set_option linter.unusedSimpArgs false
set_option linter.unusedVariables false
def ag3 {α β γ:Type} (f:α→SV) (g:β→SV) (h:γ→SV) (p:α×β×γ):SV:=.agg [f p.1,g p.2.1,h p.2.2]
end Go.Sx
namespace Go.Proofs.YtfjhnollamkdcaaGreatDoor
open Go.Sx
set_option linter.unusedSimpArgs false
set_option linter.unusedVariables false
set_option maxRecDepth 100000
set_option maxHeartbeats 4000000
abbrev MM:=Int×Int×List (Int×Int)
abbrev mQ:MM→SV:=ag3 (iel .u8) (iel .u8) (mvec 2 qA)
def mOK (m:MM):Prop:=(0≤m.1∧m.1<256)∧(0≤m.2.1∧m.2.1<256)∧m.2.2.length≤maxLen∧∀q∈m.2.2,qOK q
def eQ (l:List (Int×Int)) (p:Nat):Rat:=qV (l.getD p (0,0))
def someL (l:List (Int×Int)) (n:Nat):List Rat:=(List.range n).map (eQ l)
theorem someL_len (l:List (Int×Int)) (n:Nat):(someL l n).length=n:=by simp[someL]
theorem someL_get {l:List (Int×Int)} {n p:Nat} (h:p<n):(someL l n).getD p 0=eQ l p:=by simp[someL,List.getD_eq_getElem?_getD,h]
theorem qOK_at {l:List (Int×Int)} (h:∀q∈l,qOK q) (p:Nat):qOK (l.getD p (0,0)):=by
 by_cases hp:p<l.length
 ·exact h _ (getD_mem hp)
 ·rw[List.getD_eq_getElem?_getD,List.getElem?_eq_none (by omega)];exact⟨⟨by decide,by decide⟩,by decide,by decide⟩
theorem Sm_some {l:List (Int×Int)} (h:∀q∈l,qOK q) (n:Nat):Sm 130 (someL l n):=by
 intro p hp
 rw[someL_len]at hp
 rw[someL_get hp];exact fs_qV (qOK_at h p)
theorem OKM_some (l:List (Int×Int)) {r c:Nat} (hr:r≤2048) (hc:c≤2048):OKM r c (someL l (r*c)):=⟨hr,hc,someL_len ..⟩
theorem wrap_u8 {n:Int} (h0:0≤n) (h:n<256):IntKind.u8.wrap n=n:=by
 simp[IntKind.wrap,IntKind.bits,IntKind.signed];omega
theorem app_one {α:Type} {l:List α} {i:Nat} {d:α} (h:i<l.length):l.take (i+1)=(l.take i).take i++(([l.getD i d]:List α).drop 0).take 1:=(app_snoc h).symm
theorem c_Some (m:MM) (hm:mOK m) {r c:Nat} (hr:r≤12) (hc:c≤12):CallOK Tryz.prog 22 [mQ m,iv r,iv c] [] (mA r c (someL m.2.2 (r*c))) [] []:=by
 obtain⟨A,B,l⟩:=m
 obtain⟨_,_,hl,hq⟩:=hm
 replace hl:l.length≤maxLen:=hl
 have hz:=someL_len l (r*c)
 have hN:r*c≤12*12:=Nat.mul_le_mul hr hc
 have t0:IntKind.i64.wrap ((r:Int)*(c:Int))=((r*c:Nat):Int):=by rw[←Int.natCast_mul,wrap_i64 (by omega) (by omega)]
 generalize r*c=N at*
 refine callF (Z:=[3]) tabOK mixedOK Tryz.func22 rfl (by kernel_rfl) (by first|rfl|(simp[keylessL,keyless,keylessL_map, *];done)) (by first|rfl|(simp[keylessL,keyless,keylessL_map, *];done)) (by kernel_rfl) rfl ?_
 intro w0 ρ0 hE
 conv=>whnf
 skip
 refine SWx_adoptB (j:=7) (k:=2001) (s:=5) (p:=2) (blk:=fblk []) rfl rfl rfl rfl rfl ?_
 refine SW_loopS hE (fun k=>k) [1,2,3,6,7,8] [6,7,2001] (fun m fr hp=>∃i:Nat,m=N - i∧i≤N∧fr=[(1,iv r),(2,iv c),(3,ptrA [iel .u8 A,iel .u8 B,mvec 2 qA l]),(6,.ptr 6 0 0 0),(7,.ptr 7 0 0 0),(8,iv (i:Nat))]∧
  hp=[(6,zM),(7,⟨30,true,.one [iv r,iv c,.slc 2001 5 0 i]⟩),(2001,fblk ((someL l N).take i))]) N ?_ ?_ ?_
 ·kernel_rfl
 ·exact⟨0,rfl,Nat.zero_le _,rfl,rfl⟩
 rintro m _ _ ⟨i,rfl,hi,rfl,rfl⟩
 have hlt0:((someL l N).take i).length=i:=by rw[List.length_take];omega
 by_cases hlt:i<N
 ·have t1:=dlt hlt
  have t2:=winc (i:=i) (by omega)
  have o1:=c_QOf (l.getD i (0,0)) (qOK_at hq i)
  rw[show qV (l.getD i (0,0))=(someL l N).getD i 0 from(someL_get hlt).symm]at o1
  have e1:=app_one (d:=(0:Rat)) (show i<(someL l N).length by omega)
  refine SWx.of hE ?_
  conv=>whnf
  by_cases hil:i<l.length
  ·have t3:=dlt hil
   (repeat((first|refine step_w1 rfl rfl ?_|refine step_i (by kernel_rfl) ?_|refine step_oA (by first|omega|decide|(simp only[tl0,dlen,List.length_replicate,List.length_set,List.length_map,List.length_zipWith,List.length_take,List.length_append,List.length_cons,List.length_nil];omega)) ?_|refine g_c (by assumption) ?_|refine g_o (op_lenM rfl rfl rfl (ev_ok rfl) (tgt rfl) rfl) ?_|refine g_o (op_loadA rfl (ev_ok rfl) (tgt rfl) rfl (Nat.succ_ne_zero _) rfl) ?_|refine g_o (op_indexN (α:=Int×Int) (d:=(0,0)) rfl (ev_ok rfl) (ev_ok rfl) (tgt rfl) rfl (tgt rfl) rfl (by omega)) ?_|refine g_o (op_fieldA rfl (ev_ok rfl) (tgt rfl) rfl rfl (Nat.succ_ne_zero _) rfl) ?_|rw[t0]|rw[t1]|rw[t3]|rw[t2]|rw[Nat.zero_add]);conv=>whnf))
   refine⟨N - (i+1),renBy [(36,2001)],[1,2,3,6,7,8],[6,7,36],by omega,by kernel_rfl,i+1,rfl,hlt,rfl, ?_⟩
   rw[e1];rfl
  ·have t3:=dge hil
   rw[show l.getD i (0,0)=(0,0)from by rw[List.getD_eq_getElem?_getD,List.getElem?_eq_none (by omega)];rfl]at o1
   (repeat((first|refine step_w1 rfl rfl ?_|refine step_w2 rfl rfl ?_|refine step_i (by kernel_rfl) ?_|refine step_oA (by first|omega|decide|(simp only[tl0,dlen,List.length_replicate,List.length_set,List.length_map,List.length_zipWith,List.length_take,List.length_append,List.length_cons,List.length_nil];omega)) ?_|refine g_c (by assumption) ?_|refine g_o (op_lenM rfl rfl rfl (ev_ok rfl) (tgt rfl) rfl) ?_|refine g_o (op_loadA rfl (ev_ok rfl) (tgt rfl) rfl (Nat.succ_ne_zero _) rfl) ?_|refine g_o (op_fieldA rfl (ev_ok rfl) (tgt rfl) rfl rfl (Nat.succ_ne_zero _) rfl) ?_|rw[t0]|rw[t1]|rw[t3]|rw[t2]|rw[Nat.zero_add]);conv=>whnf))
   refine⟨N - (i+1),renBy [(36,2001)],[1,2,3,6,7,8],[6,7,36],by omega,by kernel_rfl,i+1,rfl,hlt,rfl, ?_⟩
   rw[e1];rfl
 ·have t1:=dge hlt
  obtain rfl:i=N:=by omega
  rw[List.take_of_length_le (by omega)]
  refine SWx.of hE ?_
  conv=>whnf
  (repeat(first|(refine step_w2 rfl rfl ?_;conv=>whnf)|(rw[t0];conv=>whnf)|(rw[t1];conv=>whnf)))
  (first|exact Recast.refl _|exact Frz.recast (Recast.refl _) rfl|(refine Frz.one rfl rfl ?_;(repeat(first|exact FrzC.keyless rfl|exact FrzL.nil|refine FrzL.cons ?_ ?_|(refine FrzC.fracs rfl ?_;(first|rfl|omega|(simp<;>fail)|(simp<;>omega)))|refine FrzC.agg ?_)))|(refine Frz.tup ?_;skip))
end Go.Proofs.YtfjhnollamkdcaaGreatDoor
namespace Go.Proofs.YtfjhnollamkdcaaGreatDoor
open Go.Sx
set_option linter.unusedSimpArgs false
set_option linter.unusedVariables false
set_option maxRecDepth 100000
set_option maxHeartbeats 8000000
theorem u8_mod (x:Int) (h:0≤x∧x<256) (m:Int) (hm:0<m∧m<256):IntKind.u8.wrap (x.tmod m)=x.tmod m∧IntKind.i64.wrap (x.tmod m)=((x % m).toNat:Nat):=by
 have h1:=Int.emod_nonneg x (show m≠0 by omega)
 have h2:=Int.emod_lt_of_pos x hm.1
 rw[Int.tmod_eq_emod_of_nonneg h.1]
 constructor
 ·exact wrap_u8 h1 (by omega)
 ·rw[wrap_i64 (by omega) (by omega)];omega
end Go.Proofs.YtfjhnollamkdcaaGreatDoor
namespace Go.Proofs.YtfjhnollamkdcaaGreatDoor
open Go.Sx
set_option linter.unusedSimpArgs false
set_option linter.unusedVariables false
set_option maxRecDepth 100000
set_option maxHeartbeats 8000000
def plusL (l:List (Int×Int)) (n:Nat):List Rat:=mk n n fun i k=>delta i k+sumR n fun p=>eQ l (p*n+i)*eQ l (p*n+k)
theorem plus_el {l:List (Int×Int)} {n i k:Nat} (hi:i<n) (hk:k<n):el (plusL l n) n i k=delta i k+sumR n fun p=>eQ l (p*n+i)*eQ l (p*n+k):=mk_el hi hk
theorem plus_sym (l:List (Int×Int)) (n:Nat):SymM n (plusL l n):=fun i k hi hk=>by
 rw[plus_el hi hk,plus_el hk hi]
 congr 1
 ·unfold delta
  by_cases e:i=k
  ·rw[if_pos e,if_pos e.symm]
  ·rw[if_neg e,if_neg (Ne.symm e)]
 ·exact sum_congr n fun p _=>Rat.mul_comm ..
theorem qf_delta (n:Nat) (x:Nat→Rat):qf n delta x=sumR n fun i=>x i*x i:=sum_congr n fun i hi=>by
 rw[sum_one (j:=i) n hi fun k _ hne=>by unfold delta;rw[if_neg (Ne.symm hne)];grind]
 unfold delta;rw[if_pos rfl];grind
theorem qf_gram (n:Nat) (b:Mx) (x:Nat→Rat):qf n (fun i k=>sumR n fun p=>b p i*b p k) x=sumR n fun p=>(sumR n fun i=>b p i*x i)*sumR n fun i=>b p i*x i:=by
 unfold qf
 rw[sum_congr n (g:=fun i=>sumR n fun p=>x i*(b p i*sumR n fun k=>b p k*x k)) fun i _=>by
  rw[sum_congr n (g:=fun k=>sumR n fun p=>x i*(b p i*(b p k*x k))) fun k _=>by
   rw[sum_mulL,sum_mulR];exact sum_congr n fun p _=>by grind]
  rw[sum_swap]
  exact sum_congr n fun p _=>by rw[sum_mulL,sum_mulL]]
 rw[sum_swap]
 refine sum_congr n fun p _=> ?_
 rw[sum_mulR]
 exact sum_congr n fun i _=>by grind
theorem plus_qf (l:List (Int×Int)) (n:Nat) (x:Nat→Rat):qf n (el (plusL l n) n) x=sumR n (fun i=>x i*x i)+sumR n fun p=>(sumR n fun i=>eQ l (p*n+i)*x i)*sumR n fun i=>eQ l (p*n+i)*x i:=by
 rw[qf_congrA (B:=fun i k=>delta i k+sumR n fun p=>eQ l (p*n+i)*eQ l (p*n+k)) fun i k hi hk=>plus_el hi hk,qf_add,qf_delta,qf_gram n fun p i=>eQ l (p*n+i)]
theorem plus_one (l:List (Int×Int)) (n:Nat) (x:Nat→Rat):sumR n (fun i=>x i*x i)≤qf n (el (plusL l n) n) x:=by
 rw[plus_qf]
 have:=sum_nn (n:=n) (f:=fun p=>(sumR n fun i=>eQ l (p*n+i)*x i)*sumR n fun i=>eQ l (p*n+i)*x i) fun p _=>sq_nn _
 grind
theorem plus_pos (l:List (Int×Int)) (n:Nat):PosX n (el (plusL l n) n):=fun x ⟨i,hi,hx⟩=>by
 have h1:=plus_one l n x
 have h2:=sum_pos (n:=n) (f:=fun i=>x i*x i) (fun i _=>sq_nn _) ⟨i,hi,sq_pos hx⟩
 grind
theorem plus_sm {l:List (Int×Int)} {n:Nat} (hq:∀q∈l,qOK q) (hn:n≤5):Sm 1304 (plusL l n):=Sm_mk fun i k _ _=>by
 have h1:=sum_fs (f:=fun p=>eQ l (p*n+i)*eQ l (p*n+k)) (B:=260) n fun p _=>by
  have g1:=fs_qV (qOK_at hq (p*n+i))
  have g2:=fs_qV (qOK_at hq (p*n+k))
  have g3:=fs_mul (eQ l (p*n+i)) (eQ l (p*n+k))
  unfold eQ at g3 ⊢
  omega
 have h2:=fs_add (delta i k) (sumR n fun p=>eQ l (p*n+i)*eQ l (p*n+k))
 have h3:fs (delta i k)≤2:=by unfold delta;split<;>decide+kernel
 omega
end Go.Proofs.YtfjhnollamkdcaaGreatDoor
namespace Go.Proofs.YtfjhnollamkdcaaGreatDoor
open Go.Sx
set_option linter.unusedSimpArgs false
set_option linter.unusedVariables false
set_option maxRecDepth 100000
set_option maxHeartbeats 8000000
theorem same_sym {n:Nat} {a:List Rat} (h:mturn n n a=a):sameF n n n n a (mturn n n a)=true:=by simp[sameF,h]
end Go.Proofs.YtfjhnollamkdcaaGreatDoor
namespace Go.Sx
set_option linter.unusedSimpArgs false
set_option linter.unusedVariables false
section
variable {P:Program} {o:Oper} {ft:List (Nat×SV)} {fk:List (Nat×Blk)}
end
end Go.Sx
namespace Go.Proofs.YtfjhnollamkdcaaGreatDoor
open Go.Sx
set_option linter.unusedSimpArgs false
set_option linter.unusedVariables false
set_option maxRecDepth 100000
set_option maxHeartbeats 8000000
theorem m_FormS {r c:Nat} {a v w:List Rat} (ha:OKM r c a) (hv:v.length<1099511627776) (hw:w.length≤2048) (h:v.length≠r):∃e,CallOK Tryz.prog 82 [mA r c a,fvec v,fvec w] [] (.tup [.frac 0,iv e]) [] []∧(v.length≤2048→e=1):=by
 have k0:=m_Check0 ha
 have k1:=m_short [v,w] (by simp) (by simp;omega)
 by_cases hl:2048<v.length
 ·have e:shortF [v,w]=3:=by simp[shortF,hl]
  rw[e]at k1
  refine⟨3, ?_,fun h=>by omega⟩
  refine callV (Z:=[3,20]) tabOK mixedOK Tryz.func82 rfl (by kernel_rfl) rfl rfl (by kernel_rfl) rfl ?_
  intro W0 w0 ρ0 hE
  conv=>whnf
  (repeat((first|refine step_w1 rfl rfl ?_|refine step_w2 rfl rfl ?_|refine g_c (by assumption) ?_|refine g_o (op_loadA rfl (ev_ok rfl) (tgt rfl) rfl (Nat.succ_ne_zero _) rfl) ?_);conv=>whnf));(first|exact Recast.refl _|exact Frz.recast (Recast.refl _) rfl|(refine Frz.one rfl rfl ?_;skip)|(refine Frz.tup ?_;skip))
 ·have e:shortF [v,w]=0:=by simp[shortF];omega
  rw[e]at k1
  have t1:((v.length:Int) != (r:Int))=true:=bne_iff_ne.2 (by omega)
  refine⟨1, ?_,fun _=>rfl⟩
  refine callV (Z:=[3,20]) tabOK mixedOK Tryz.func82 rfl (by kernel_rfl) rfl rfl (by kernel_rfl) rfl ?_
  intro W0 w0 ρ0 hE
  conv=>whnf
  (repeat((first|refine step_w1 rfl rfl ?_|refine step_w2 rfl rfl ?_|refine g_c (by assumption) ?_|refine g_o (op_pickT rfl (ev_ok rfl) (ev_ok rfl)) ?_|rw[bne_self_eq_false]|refine g_o (op_lenM rfl rfl rfl (ev_ok rfl) (tgt rfl) rfl) ?_|refine g_o (op_loadA rfl (ev_ok rfl) (tgt rfl) rfl (Nat.succ_ne_zero _) rfl) ?_|refine g_o (op_fieldA rfl (ev_ok rfl) (tgt rfl) rfl rfl (Nat.succ_ne_zero _) rfl) ?_|rw[t1]);conv=>whnf));(first|exact Recast.refl _|exact Frz.recast (Recast.refl _) rfl|(refine Frz.one rfl rfl ?_;skip)|(refine Frz.tup ?_;skip))
end Go.Proofs.YtfjhnollamkdcaaGreatDoor
namespace Go.Proofs.YtfjhnollamkdcaaGreatDoor
open Go.Sx
set_option linter.unusedSimpArgs false
set_option linter.unusedVariables false
set_option maxRecDepth 100000
set_option maxHeartbeats 40000000
theorem dlt_eq {i k:Nat}:(((i:Nat):Int)==((k:Nat):Int))=decide (i=k):=by
 by_cases e:i=k
 ·subst e;rw[decide_eq_true rfl];exact beq_self_eq_true _
 ·rw[decide_eq_false e];exact beq_eq_false_iff_ne.2 (by omega)
theorem c_Plus (l:List (Int×Int)) (hl:l.length≤maxLen) (hq:∀q∈l,qOK q) {n:Nat} (hn:n≤5):CallOK Tryz.prog 23 [iv n,mvec 2 qA l] [] (mA n n (plusL l n)) [] []:=by
 have h00:(0:Int)≤0∧(0:Int)<256:=by decide
 have k0:=c_Some (0,0,l) ⟨h00,h00,hl,hq⟩ (r:=n) (c:=n) (by omega) (by omega)
 replace k0:CallOK Tryz.prog 22 [mQ (0,0,l),iv n,iv n] [] (mA n n (someL l (n*n))) [] []:=k0
 have lX:=someL_len l (n*n)
 have hX:∀p i,p<n→i<n→(someL l (n*n)).getD (p*n+i) 0=eQ l (p*n+i):=fun p i hp hi=>someL_get (idx_lt hp hi)
 have hP:(plusL l n).length=n*n:=mk_len ..
 have hPe:∀i k,i<n→k<n→(plusL l n).getD (i*n+k) 0=delta i k+sumR n fun p=>eQ l (p*n+i)*eQ l (p*n+k):=fun i k hi hk=>plus_el hi hk
 have hfe:∀p,fs (eQ l p)≤130:=fun p=>fs_qV (qOK_at hq p)
 have hnn:n*n≤5*5:=Nat.mul_le_mul hn hn
 generalize someL l (n*n)=X at*
 generalize plusL l n=P at*
 generalize eQ l=w at*
 refine callF (Z:=[]) tabOK mixedOK Tryz.func23 rfl (by kernel_rfl) (by first|rfl|(simp[keylessL,keyless,keylessL_map, *];done)) (by first|rfl|(simp[keylessL,keyless,keylessL_map, *];done)) (by kernel_rfl) rfl ?_
 intro w0 ρ0 hE
 conv=>whnf
 (repeat(first|(refine g_c (by assumption) ?_;conv=>whnf)))
 refine SWx_adoptB (j:=6) (k:=2001) (s:=5) (p:=2) (blk:=fblk []) rfl rfl rfl rfl rfl ?_
 refine SW_loopS hE (fun k=>k) [0,4,5,6,7] [4,5,6,2001] (fun m fr hp=>∃i:Nat,m=n - i∧i≤n∧fr=[(0,iv n),(4,.ptr 4 0 0 0),(5,.ptr 5 0 0 0),(6,.ptr 6 0 0 0),(7,iv (i:Nat))]∧
  hp=[(4,zM),(5,⟨30,true,.one (mC n n X)⟩),(6,⟨30,true,.one [iv n,iv n,.slc 2001 5 0 (i*n)]⟩),(2001,fblk (P.take (i*n)))]) n ?_ ?_ ?_
 ·kernel_rfl
 ·exact⟨0,rfl,Nat.zero_le _,rfl,by rw[Nat.zero_mul];rfl⟩
 rintro m _ _ ⟨i,rfl,hi,rfl,rfl⟩
 by_cases hlt:i<n
 ·have t1:=dlt hlt
  have t2:=winc (i:=i) (by omega)
  refine SWx.of hE ?_
  conv=>whnf
  (repeat(first|(refine tst_tt t1 ?_;conv=>whnf)|(rw[t1];conv=>whnf)))
  refine SW_loopS hE (fun k=>k) [0,4,5,6,7,8] [4,5,6,2001] (fun m fr hp=>∃k:Nat,m=n - k∧k≤n∧fr=[(0,iv n),(4,.ptr 4 0 0 0),(5,.ptr 5 0 0 0),(6,.ptr 6 0 0 0),(7,iv (i:Nat)),(8,iv (k:Nat))]∧
   hp=[(4,zM),(5,⟨30,true,.one (mC n n X)⟩),(6,⟨30,true,.one [iv n,iv n,.slc 2001 5 0 (i*n+k)]⟩),(2001,fblk (P.take (i*n+k)))]) n ?_ ?_ ?_
  ·kernel_rfl
  ·exact⟨0,rfl,Nat.zero_le _,rfl,rfl⟩
  rintro m _ _ ⟨k,rfl,hk,rfl,rfl⟩
  by_cases hlk:k<n
  ·have t3:=dlt hlk
   have t4:=winc (i:=k) (by omega)
   have hin:=idx_lt hlt hlk
   have hlt0:(P.take (i*n+k)).length=i*n+k:=by rw[List.length_take];omega
   have hv:=hPe i k hlt hlk
   have e1:=app_one (d:=(0:Rat)) (show i*n+k<P.length by omega)
   rw[hv]at e1
   have c1:CallOK Tryz.prog 26 [iv 1] [] (.frac 1) [] []:=c_fInt 1 (by decide) (by decide)
   have hd:delta i k=if i=k then 1 else 0:=rfl
   refine SWx.of hE ?_
   conv=>whnf
   have body:∀q,q≤n→True:=fun _ _=>trivial
   by_cases hik:i=k
   ·have t5:(((i:Nat):Int)==((k:Nat):Int))=true:=by rw[dlt_eq];exact decide_eq_true hik
    rw[if_pos hik]at hd
    (repeat((first|refine g_c (by assumption) ?_|refine tst_tt t3 ?_|refine tst_tt t5 ?_|rw[t3]|rw[t5]);conv=>whnf))
    refine SW_loopS hE (fun k=>k) [0,4,5,6,7,8,9,10] [4,5,6,9,2001] (fun m fr hp=>∃p:Nat,m=n - p∧p≤n∧fr=[(0,iv n),(4,.ptr 4 0 0 0),(5,.ptr 5 0 0 0),(6,.ptr 6 0 0 0),(7,iv (i:Nat)),(8,iv (k:Nat)),(9,.ptr 9 0 0 0),(10,iv (p:Nat))]∧
     hp=[(4,zM),(5,⟨30,true,.one (mC n n X)⟩),(6,⟨30,true,.one [iv n,iv n,.slc 2001 5 0 (i*n+k)]⟩),(9,⟨49,true,.one [.frac (delta i k+sumR p fun p=>w (p*n+i)*w (p*n+k))]⟩),(2001,fblk (P.take (i*n+k)))]) n ?_ ?_ ?_
    ·kernel_rfl
    ·exact⟨0,rfl,Nat.zero_le _,rfl,by rw[hd];simp only[sumR,Rat.add_zero];rfl⟩
    rintro m _ _ ⟨p,rfl,hp,rfl,rfl⟩
    by_cases hlp:p<n
    ·have t6:=dlt hlp
     have t7:=winc (i:=p) (by omega)
     obtain⟨w1,w2⟩:=idx_w (i:=p) (k:=i) (c:=n) (by omega) (by omega) (by omega)
     obtain⟨w3,w4⟩:=idx_w (i:=p) (k:=k) (c:=n) (by omega) (by omega) (by omega)
     have b1:=idx_lt hlp hlt
     have b2:=idx_lt hlp hlk
     have g1:=hX p i hlp hlt
     have g2:=hX p k hlp hlk
     have f1:=hfe (p*n+i)
     have f2:=hfe (p*n+k)
     have f3:=fs_mul (w (p*n+i)) (w (p*n+k))
     have hs:=sum_fs (f:=fun p=>w (p*n+i)*w (p*n+k)) (B:=260) p fun j _=>by
      have g1:=hfe (j*n+i)
      have g2:=hfe (j*n+k)
      have g3:=fs_mul (w (j*n+i)) (w (j*n+k))
      omega
     have hd2:fs (delta i k)≤2:=by unfold delta;split<;>decide+kernel
     have hs2:=fs_add (delta i k) (sumR p fun p=>w (p*n+i)*w (p*n+k))
     have m1:=x_Mul (w (p*n+i)) (w (p*n+k)) (by omega)
     have m2:=x_Add (delta i k+sumR p fun p=>w (p*n+i)*w (p*n+k)) (w (p*n+i)*w (p*n+k)) (by omega)
     rw[show delta i k+sumR p (fun p=>w (p*n+i)*w (p*n+k))+w (p*n+i)*w (p*n+k)=delta i k+sumR (p+1) (fun p=>w (p*n+i)*w (p*n+k))from by rw[sumR];exact Rat.add_assoc ..]at m2
     clear hs hs2 hd2 f1 f2 f3
     refine SWx.of hE ?_
     conv=>whnf
     (repeat((first|refine step_i (by kernel_rfl) ?_|refine g_c (by assumption) ?_|refine tst_tt t6 ?_|refine g_o (op_loadA rfl (ev_ok rfl) (tgt rfl) rfl (Nat.succ_ne_zero _) rfl) ?_|refine g_o (op_indexM (α:=Rat) (d:=0) rfl (ev_ok rfl) (ev_ok rfl) (tgt rfl) rfl (tgt rfl) rfl (by omega)) ?_|rw[t6]|rw[w1]|rw[w2]|rw[w4]|rw[g1]|rw[g2]|rw[t7]|rw[Int.toNat_natCast]|rw[Nat.zero_add]);conv=>whnf))
     exact⟨n - (p+1),fun k=>k,[0,4,5,6,7,8,9,10],[4,5,6,9,2001],by omega,by kernel_rfl,p+1,rfl,hlp,rfl,rfl⟩
    ·have t6:=dge hlp
     obtain rfl:p=n:=by omega
     refine SWx.of hE ?_
     conv=>whnf
     (repeat((first|refine step_oA (by first|omega|decide|(simp only[tl0,dlen,List.length_replicate,List.length_set,List.length_map,List.length_zipWith,List.length_take,List.length_append,List.length_cons,List.length_nil];omega)) ?_|refine tst_ff t6 ?_|rw[t6]|rw[t4]|rw[Nat.zero_add]);conv=>whnf))
     refine⟨p - (k+1),renBy [(64,2001)],[0,4,5,6,7,8],[4,5,6,64],by omega,by kernel_rfl,k+1,rfl,hlk,rfl, ?_⟩
     rw[show i*p+(k+1)=i*p+k+1 from rfl,e1];rfl
   ·have t5:(((i:Nat):Int)==((k:Nat):Int))=false:=by rw[dlt_eq];exact decide_eq_false hik
    rw[if_neg hik]at hd
    (repeat((first|refine tst_tt t3 ?_|refine tst_ff t5 ?_|rw[t3]|rw[t5]);conv=>whnf))
    refine SW_loopS hE (fun k=>k) [0,4,5,6,7,8,9,10] [4,5,6,9,2001] (fun m fr hp=>∃p:Nat,m=n - p∧p≤n∧fr=[(0,iv n),(4,.ptr 4 0 0 0),(5,.ptr 5 0 0 0),(6,.ptr 6 0 0 0),(7,iv (i:Nat)),(8,iv (k:Nat)),(9,.ptr 9 0 0 0),(10,iv (p:Nat))]∧
     hp=[(4,zM),(5,⟨30,true,.one (mC n n X)⟩),(6,⟨30,true,.one [iv n,iv n,.slc 2001 5 0 (i*n+k)]⟩),(9,⟨49,true,.one [.frac (delta i k+sumR p fun p=>w (p*n+i)*w (p*n+k))]⟩),(2001,fblk (P.take (i*n+k)))]) n ?_ ?_ ?_
    ·kernel_rfl
    ·exact⟨0,rfl,Nat.zero_le _,rfl,by rw[hd];simp only[sumR,Rat.add_zero];rfl⟩
    rintro m _ _ ⟨p,rfl,hp,rfl,rfl⟩
    by_cases hlp:p<n
    ·have t6:=dlt hlp
     have t7:=winc (i:=p) (by omega)
     obtain⟨w1,w2⟩:=idx_w (i:=p) (k:=i) (c:=n) (by omega) (by omega) (by omega)
     obtain⟨w3,w4⟩:=idx_w (i:=p) (k:=k) (c:=n) (by omega) (by omega) (by omega)
     have b1:=idx_lt hlp hlt
     have b2:=idx_lt hlp hlk
     have g1:=hX p i hlp hlt
     have g2:=hX p k hlp hlk
     have f1:=hfe (p*n+i)
     have f2:=hfe (p*n+k)
     have f3:=fs_mul (w (p*n+i)) (w (p*n+k))
     have hs:=sum_fs (f:=fun p=>w (p*n+i)*w (p*n+k)) (B:=260) p fun j _=>by
      have g1:=hfe (j*n+i)
      have g2:=hfe (j*n+k)
      have g3:=fs_mul (w (j*n+i)) (w (j*n+k))
      omega
     have hd2:fs (delta i k)≤2:=by unfold delta;split<;>decide+kernel
     have hs2:=fs_add (delta i k) (sumR p fun p=>w (p*n+i)*w (p*n+k))
     have m1:=x_Mul (w (p*n+i)) (w (p*n+k)) (by omega)
     have m2:=x_Add (delta i k+sumR p fun p=>w (p*n+i)*w (p*n+k)) (w (p*n+i)*w (p*n+k)) (by omega)
     rw[show delta i k+sumR p (fun p=>w (p*n+i)*w (p*n+k))+w (p*n+i)*w (p*n+k)=delta i k+sumR (p+1) (fun p=>w (p*n+i)*w (p*n+k))from by rw[sumR];exact Rat.add_assoc ..]at m2
     clear hs hs2 hd2 f1 f2 f3
     refine SWx.of hE ?_
     conv=>whnf
     (repeat((first|refine step_i (by kernel_rfl) ?_|refine g_c (by assumption) ?_|refine tst_tt t6 ?_|refine g_o (op_loadA rfl (ev_ok rfl) (tgt rfl) rfl (Nat.succ_ne_zero _) rfl) ?_|refine g_o (op_indexM (α:=Rat) (d:=0) rfl (ev_ok rfl) (ev_ok rfl) (tgt rfl) rfl (tgt rfl) rfl (by omega)) ?_|rw[t6]|rw[w1]|rw[w2]|rw[w4]|rw[g1]|rw[g2]|rw[t7]|rw[Int.toNat_natCast]|rw[Nat.zero_add]);conv=>whnf))
     exact⟨n - (p+1),fun k=>k,[0,4,5,6,7,8,9,10],[4,5,6,9,2001],by omega,by kernel_rfl,p+1,rfl,hlp,rfl,rfl⟩
    ·have t6:=dge hlp
     obtain rfl:p=n:=by omega
     refine SWx.of hE ?_
     conv=>whnf
     (repeat((first|refine step_oA (by first|omega|decide|(simp only[tl0,dlen,List.length_replicate,List.length_set,List.length_map,List.length_zipWith,List.length_take,List.length_append,List.length_cons,List.length_nil];omega)) ?_|refine tst_ff t6 ?_|rw[t6]|rw[t4]|rw[Nat.zero_add]);conv=>whnf))
     refine⟨p - (k+1),renBy [(64,2001)],[0,4,5,6,7,8],[4,5,6,64],by omega,by kernel_rfl,k+1,rfl,hlk,rfl, ?_⟩
     rw[show i*p+(k+1)=i*p+k+1 from rfl,e1];rfl
  ·have t3:=dge hlk
   obtain rfl:k=n:=by omega
   refine SWx.of hE ?_
   conv=>whnf
   (repeat(first|(refine tst_ff t3 ?_;conv=>whnf)|(rw[t3];conv=>whnf)|(rw[t2];conv=>whnf)))
   exact⟨k - (i+1),fun k=>k,[0,4,5,6,7],[4,5,6,2001],by omega,by kernel_rfl,i+1,rfl,hlt,rfl,by rw[Nat.succ_mul];rfl⟩
 ·have t1:=dge hlt
  obtain rfl:i=n:=by omega
  rw[List.take_of_length_le (by omega)]
  refine SWx.of hE ?_
  conv=>whnf
  (repeat(first|(refine tst_ff t1 ?_;conv=>whnf)))
  (first|exact Recast.refl _|exact Frz.recast (Recast.refl _) rfl|(refine Frz.one rfl rfl ?_;(repeat(first|exact FrzC.keyless rfl|exact FrzL.nil|refine FrzL.cons ?_ ?_|(refine FrzC.fracs rfl ?_;(first|rfl|omega|(simp<;>fail)|(simp<;>omega)))|refine FrzC.agg ?_)))|(refine Frz.tup ?_;skip))
end Go.Proofs.YtfjhnollamkdcaaGreatDoor
namespace Go.Proofs.YtfjhnollamkdcaaGreatDoor
open Go.Sx
set_option linter.unusedSimpArgs false
set_option linter.unusedVariables false
set_option maxRecDepth 100000
set_option maxHeartbeats 40000000
abbrev lQ:List (Int×Int)→SV:=mvec 2 qA
theorem c_few22 (ls:List (List (Int×Int))) (h:ls.length<1000) (hl:∀l∈ls,l.length≤maxLen):CallOK Tryz.prog 11 [mvec 1 lQ ls] [] (.val (.bool (ls.all fun l=>decide (l.length≤40)))) [] []:=by
 refine callV (Z:=[]) tabOK mixedOK Tryz.func11 rfl (by kernel_rfl) rfl rfl (by kernel_rfl) rfl ?_
 intro W0 w0 ρ0 hE
 conv=>whnf
 skip
 refine SW_loopN hE (fun k=>k) [0,3] [] (fun m fr hp=>∃i:Nat,m=ls.length - i∧i≤ls.length∧(∀j,j<i→decide ((ls.getD j []).length≤40)=true)∧fr=[(0,mvec 1 lQ ls),(3,iv (i:Nat))]∧hp=[]) ls.length ?_ ?_ ?_
 ·kernel_rfl
 ·exact⟨0,rfl,Nat.zero_le _,(fun j hj=>by omega),rfl,rfl⟩
 rintro m _ _ ⟨i,rfl,hi,hs,rfl,rfl⟩
 conv=>whnf
 by_cases hlt:i<ls.length
 ·have t1:=dlt hlt
  have t2:=winc (i:=i) (by omega)
  have hml:(ls.getD i []).length≤maxLen:=hl _ (getD_mem hlt)
  by_cases hL:(ls.getD i []).length≤40
  ·have t3:decide (((ls.getD i []).length:Int)>40)=false:=decide_eq_false (by omega)
   (repeat((first|refine tst_tt t1 ?_|refine tst_ff t3 ?_|refine g_o (op_lenM rfl rfl rfl (ev_ok rfl) (tgt rfl) rfl) ?_|refine g_o (op_loadA rfl (ev_ok rfl) (tgt rfl) rfl (Nat.succ_ne_zero _) rfl) ?_|refine g_o (op_indexN (α:=List (Int×Int)) (d:=[]) rfl (ev_ok rfl) (ev_ok rfl) (tgt rfl) rfl (tgt rfl) rfl (by omega)) ?_|rw[t1]|rw[t3]|rw[t2]);conv=>whnf))
   refine⟨ls.length - (i+1),fun k=>k,[0,3],[],by omega,by kernel_rfl,i+1,rfl,hlt, ?_,rfl,rfl⟩
   intro j hj
   by_cases hji:j=i
   ·rw[hji];exact decide_eq_true hL
   ·exact hs j (by omega)
  ·have t3:decide (((ls.getD i []).length:Int)>40)=true:=decide_eq_true (by omega)
   have e:(ls.all fun l=>decide (l.length≤40))=false:=all_no (d:=[]) hlt (decide_eq_false hL)
   rw[e]
   (repeat((first|refine tst_tt t1 ?_|refine tst_tt t3 ?_|refine g_o (op_lenM rfl rfl rfl (ev_ok rfl) (tgt rfl) rfl) ?_|refine g_o (op_loadA rfl (ev_ok rfl) (tgt rfl) rfl (Nat.succ_ne_zero _) rfl) ?_|refine g_o (op_indexN (α:=List (Int×Int)) (d:=[]) rfl (ev_ok rfl) (ev_ok rfl) (tgt rfl) rfl (tgt rfl) rfl (by omega)) ?_);conv=>whnf));(first|exact Recast.refl _|exact Frz.recast (Recast.refl _) rfl|(refine Frz.one rfl rfl ?_;skip)|(refine Frz.tup ?_;skip))
 ·have t1:=dge hlt
  obtain rfl:i=ls.length:=by omega
  have e:(ls.all fun l=>decide (l.length≤40))=true:=all_at [] hs
  rw[e]
  (repeat(first|(refine tst_ff t1 ?_;conv=>whnf)|(refine g_o (op_lenM rfl rfl rfl (ev_ok rfl) (tgt rfl) rfl) ?_;conv=>whnf)));(first|exact Recast.refl _|exact Frz.recast (Recast.refl _) rfl|(refine Frz.one rfl rfl ?_;skip)|(refine Frz.tup ?_;skip))
end Go.Proofs.YtfjhnollamkdcaaGreatDoor
namespace Go.Proofs.YtfjhnollamkdcaaGreatDoor
open Go.Sx
set_option linter.unusedSimpArgs false
set_option linter.unusedVariables false
set_option maxRecDepth 100000
set_option maxHeartbeats 40000000
theorem m_CheckS {r c n:Nat} {a m:List Rat} (ha:OKM r c a) (hm:OKM n n m) (h:¬(r=c∧r=n)):CallOK Tryz.prog 25 [mA r c a,mA n n m] [] (iv 1) [] []:=by
 have k1:=m_Check0 ha
 have k2:=m_Check0 hm
 by_cases h1:r=c
 ·have t1:((r:Int) != (c:Int))=false:=by rw[h1];exact bne_self_eq_false _
  have t2:((r:Int) != (n:Int))=true:=bne_iff_ne.2 (by omega)
  refine callV (Z:=[2,3]) tabOK mixedOK Tryz.func25 rfl (by kernel_rfl) rfl rfl (by kernel_rfl) rfl ?_
  intro W0 w0 ρ0 hE
  conv=>whnf
  (repeat((first|refine step_w1 rfl rfl ?_|refine step_w2 rfl rfl ?_|refine g_c (by assumption) ?_|refine g_o (op_pickT rfl (ev_ok rfl) (ev_ok rfl)) ?_|refine g_o (op_pickF rfl (ev_ok rfl) (ev_ok rfl)) ?_|rw[bne_self_eq_false]|refine g_o (op_loadA rfl (ev_ok rfl) (tgt rfl) rfl (Nat.succ_ne_zero _) rfl) ?_|refine g_o (op_fieldA rfl (ev_ok rfl) (tgt rfl) rfl rfl (Nat.succ_ne_zero _) rfl) ?_|rw[t1]|rw[t2]);conv=>whnf));(first|exact Recast.refl _|exact Frz.recast (Recast.refl _) rfl|(refine Frz.one rfl rfl ?_;skip)|(refine Frz.tup ?_;skip))
 ·have t1:((r:Int) != (c:Int))=true:=bne_iff_ne.2 (by omega)
  refine callV (Z:=[2,3]) tabOK mixedOK Tryz.func25 rfl (by kernel_rfl) rfl rfl (by kernel_rfl) rfl ?_
  intro W0 w0 ρ0 hE
  conv=>whnf
  (repeat((first|refine step_w1 rfl rfl ?_|refine step_w2 rfl rfl ?_|refine g_c (by assumption) ?_|refine g_o (op_pickT rfl (ev_ok rfl) (ev_ok rfl)) ?_|rw[bne_self_eq_false]|refine g_o (op_loadA rfl (ev_ok rfl) (tgt rfl) rfl (Nat.succ_ne_zero _) rfl) ?_|refine g_o (op_fieldA rfl (ev_ok rfl) (tgt rfl) rfl rfl (Nat.succ_ne_zero _) rfl) ?_|rw[t1]);conv=>whnf));(first|exact Recast.refl _|exact Frz.recast (Recast.refl _) rfl|(refine Frz.one rfl rfl ?_;skip)|(refine Frz.tup ?_;skip))
theorem m_CountE {r c n:Int} {a m:List Rat} {e:Int} (t:Rat) (k1:CallOK Tryz.prog 25 [mA r c a,mA n n m] [] (iv e) [] []) (he:e≠0):CallOK Tryz.prog 18 [mA r c a,mA n n m,.frac t] [] (.tup [iv 0,iv 0,iv 0,iv e]) [] []:=by
 have t1:(e != 0)=true:=bne_iff_ne.2 he
 refine callV (Z:=[3,4,5]) tabOK mixedOK Tryz.func18 rfl (by kernel_rfl) rfl rfl (by kernel_rfl) rfl ?_
 intro W0 w0 ρ0 hE
 conv=>whnf
 (repeat(first|(refine g_c (by assumption) ?_;conv=>whnf)|(refine tst_tt t1 ?_;conv=>whnf)|(refine g_o (op_loadA rfl (ev_ok rfl) (tgt rfl) rfl (Nat.succ_ne_zero _) rfl) ?_;conv=>whnf)));(first|exact Recast.refl _|exact Frz.recast (Recast.refl _) rfl|(refine Frz.one rfl rfl ?_;skip)|(refine Frz.tup ?_;skip))
theorem m_ReachE {r c n:Int} {a m:List Rat} {e:Int} (k1:CallOK Tryz.prog 25 [mA r c a,mA n n m] [] (iv e) [] []) (he:e≠0):CallOK Tryz.prog 27 [mA r c a,mA n n m] [] (.tup [.frac 0,iv e]) [] []:=by
 have t1:(e != 0)=true:=bne_iff_ne.2 he
 refine callV (Z:=[2,3]) tabOK mixedOK Tryz.func27 rfl (by kernel_rfl) rfl rfl (by kernel_rfl) rfl ?_
 intro W0 w0 ρ0 hE
 conv=>whnf
 (repeat(first|(refine g_c (by assumption) ?_;conv=>whnf)|(refine tst_tt t1 ?_;conv=>whnf)|(refine g_o (op_loadA rfl (ev_ok rfl) (tgt rfl) rfl (Nat.succ_ne_zero _) rfl) ?_;conv=>whnf)));(first|exact Recast.refl _|exact Frz.recast (Recast.refl _) rfl|(refine Frz.one rfl rfl ?_;skip)|(refine Frz.tup ?_;skip))
theorem m_QuotE {r c n:Int} {a m:List Rat} {e:Int} (v:List Rat) (k1:CallOK Tryz.prog 25 [mA r c a,mA n n m] [] (iv e) [] []) (he:e≠0):CallOK Tryz.prog 28 [mA r c a,mA n n m,fvec v] [] (.tup [.frac 0,iv e]) [] []:=by
 have t1:(e != 0)=true:=bne_iff_ne.2 he
 refine callV (Z:=[3,4]) tabOK mixedOK Tryz.func28 rfl (by kernel_rfl) rfl rfl (by kernel_rfl) rfl ?_
 intro W0 w0 ρ0 hE
 conv=>whnf
 (repeat(first|(refine g_c (by assumption) ?_;conv=>whnf)|(refine tst_tt t1 ?_;conv=>whnf)|(refine g_o (op_loadA rfl (ev_ok rfl) (tgt rfl) rfl (Nat.succ_ne_zero _) rfl) ?_;conv=>whnf)));(first|exact Recast.refl _|exact Frz.recast (Recast.refl _) rfl|(refine Frz.one rfl rfl ?_;skip)|(refine Frz.tup ?_;skip))
theorem m_BracketE {r c n:Int} {a m:List Rat} {e:Int} (k p:Int) (k1:CallOK Tryz.prog 25 [mA r c a,mA n n m] [] (iv e) [] []) (he:e≠0):CallOK Tryz.prog 29 [mA r c a,mA n n m,iv k,iv p] [] (.tup [.frac 0,.frac 0,iv e]) [] []:=by
 have t1:(e != 0)=true:=bne_iff_ne.2 he
 refine callV (Z:=[4,5,6]) tabOK mixedOK Tryz.func29 rfl (by kernel_rfl) rfl rfl (by kernel_rfl) rfl ?_
 intro W0 w0 ρ0 hE
 conv=>whnf
 (repeat((first|refine step_i (by kernel_rfl) ?_|refine g_c (by assumption) ?_|refine tst_tt t1 ?_|refine g_o (op_loadA rfl (ev_ok rfl) (tgt rfl) rfl (Nat.succ_ne_zero _) rfl) ?_);conv=>whnf));(first|exact Recast.refl _|exact Frz.recast (Recast.refl _) rfl|(refine Frz.one rfl rfl ?_;skip)|(refine Frz.tup ?_;skip))
theorem m_PolyE {r c n:Int} {a m:List Rat} {e:Int} (k1:CallOK Tryz.prog 25 [mA r c a,mA n n m] [] (iv e) [] []) (he:e≠0):CallOK Tryz.prog 15 [mA r c a,mA n n m] [] (.tup [fvec [],iv e]) [] []:=by
 have t1:(e != 0)=true:=bne_iff_ne.2 he
 refine callF (Z:=[2,3]) tabOK mixedOK Tryz.func15 rfl (by kernel_rfl) (by first|rfl|(simp[keylessL,keyless,keylessL_map, *];done)) (by first|rfl|(simp[keylessL,keyless,keylessL_map, *];done)) (by kernel_rfl) rfl ?_
 intro w0 ρ0 hE
 conv=>whnf
 (repeat(first|(refine g_c (by assumption) ?_;conv=>whnf)|(refine tst_tt t1 ?_;conv=>whnf)|(refine g_o (op_loadA rfl (ev_ok rfl) (tgt rfl) rfl (Nat.succ_ne_zero _) rfl) ?_;conv=>whnf)));(first|exact Recast.refl _|exact Frz.recast (Recast.refl _) rfl|(refine Frz.one rfl rfl ?_;skip)|(refine Frz.tup ?_;(repeat(first|exact FrzC.keyless rfl|exact FrzL.nil|refine FrzL.cons ?_ ?_|exact FrzC.nilS))))
end Go.Proofs.YtfjhnollamkdcaaGreatDoor
namespace Go.Proofs.YtfjhnollamkdcaaGreatDoor
open Go.Sx
set_option linter.unusedSimpArgs false
set_option linter.unusedVariables false
set_option maxRecDepth 100000
set_option maxHeartbeats 40000000
section
variable {n B C D:Nat} {a m:List Rat} (h:Pen n B C a m)
include h
end
abbrev lOK (l:List (Int×Int)):Prop:=l.length≤maxLen∧∀q∈l,qOK q
end Go.Proofs.YtfjhnollamkdcaaGreatDoor
