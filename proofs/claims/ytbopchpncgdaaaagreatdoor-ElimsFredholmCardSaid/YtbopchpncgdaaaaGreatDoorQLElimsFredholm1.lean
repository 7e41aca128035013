/- The texts SxP, SxS, SxX, SxY, Ga, Gb, Gc, Gd, Hb, Pa, Hd, Ja, Ka, Kb, Kc, Kd, Kf, Kh, Kl, Km, Kn, Ko, Kq, Ng, Nh, Od. -/
import Derived.Carry
import Derived.OpenShut
import Derived.Deep.Slices
import Derived.Lib.LaidTab
import Derived.Test.YtbopchpncgdaaaaGreatDoorQsB10
namespace Go.Sx
section
variable {P:Program} {o:Oper} {ft:List (Nat×SV)} {fk:List (Nat×Blk)} {c c':SV}
theorem op_neAgg {T:List (TypeId×TI)} {good:List TypeId} {t t2:TypeId} {x y:Operand} {l l':List Value} {r:Bool} {fs:List (Nat×TypeId×Nat)} {ti:TI} (hT:TabOK P T) (hg:GoodOK P good) (ho:o.op= .binOp .neq t x y t2) (hx:EvOK ft x c) (hy:EvOK ft y c')
  (hl:flatC c=some l) (hl':flatC c'=some l') (hti:tfind T t=some ti) (hk:ti.kind= .agg fs) (hr:eqTy T good 10 t l l'=some r) (hgd:P.eqGuardType P.depth t=false):OpOK P o ft fk (.val (.bool (!r))) [] []:=
 ok_pure fun ρ a w hp=>by
  have e1:=flatC_spec hl (hx ρ a hp.hft)
  have e2:=flatC_spec hl' (hy ρ a hp.hft)
  obtain⟨ti',h1,_,_,h4⟩:=eqTy_run hT hg 10 t l l' r hr 10000 w (by omega)
  rw[hti]at h1
  cases h1
  simp only[mkT,hk]at h4
  refine⟨_, ?_,has_val rfl⟩
  simp only[execOp,ho,e1,e2,Sem.run_bind,run_eqGuard_agg w .neq t x y _ _ hgd,Result.andThen_ok,run_neq_struct,h4,Sem.run_pure]
end
section
variable {P:Program} {o:Oper} {ft fr:List (Nat×SV)} {fk:List (Nat×Blk)} {c c':SV}
end
end Go.Sx
namespace Go.Sx
open Go.ChangeShapes
theorem trodAll_stays {H:Type} {enc:TypeId×Value→H} {P:Program} (hl:laidOutB P=true) {W W':World} (hb:RowKit.Below W.heap.size W W'):
  ∀(ts:List TypeId) (vs:List Value) (ds:List (DataW H)) (ps:List MemPlace),ts.all (fun t=>P.readableRec t&&decide (t<P.types.size))=true→DataW.TrodAll enc P W 0 (fun _=>true) true ts vs ds ps→(∀p∈ps,p.block<W.heap.size)→
   DataW.TrodAll enc P W' 0 (fun b=>decide (b<W.heap.size)) true ts vs ds ps
 |[],[],[],_,_,h,_=>h
 |t::ts,v::vs,d::ds,ps,hr,h,hlt=>by
  obtain⟨p,q,h1,h2,rfl⟩:=h
  simp only[List.all_cons,Bool.and_eq_true,decide_eq_true_eq]at hr
  exact⟨p,q,RowKit.Below.trod hl hr.1.1 hr.1.2 h1 hb (fun x hx=>hlt x (List.mem_append.2 (.inl hx))),trodAll_stays hl hb ts vs ds q hr.2 h2 (fun x hx=>hlt x (List.mem_append.2 (.inr hx))),rfl⟩
 |[],_::_,_,_,_,h,_=>h.elim
 |[],[],_::_,_,_,h,_=>h.elim
 |_::_,[],_,_,_,h,_=>h.elim
 |_::_,_::_,[],_,_,h,_=>h.elim
theorem law_post {H:Type} {enc:TypeId×Value→H} {P:Program} {f:Func} {s:ChangeSpec} {W W':World} {args:Array Value} {ds gs:List (DataW H)} {before:List MemPlace} {tb:TypeId}
  (hl:laidOutB P=true) (hr:f.params.toList.all (fun t=>P.readableRec t&&decide (t<P.types.size))=true) (hv:s.vars=[]) (hres:f.resultTypes= #[tb]) (htb:P.underlying tb=some .bool)
  (hW:DataW.Whole enc P f.params.toList s.vars false W args.toList ds gs before) (hfn:(s.fn H (ds++gs)).results=[.lit (.bool true)]∧(s.fn H (ds++gs)).args=ds∧(s.fn H (ds++gs)).vars=[])
  (hb:RowKit.Below W.heap.size W W'):s.post enc P f false true false false W args (.bool true) W':=by
 have hlt:=hW.lt
 have hW':=hW
 obtain⟨p,q,h1,h2,rfl,h3,h4⟩:=hW
 rw[hv]at h2
 obtain⟨rfl,rfl⟩:=trodVars_none h2
 rw[List.append_nil]at hlt
 refine⟨ds,[],p++[],[],p,[],hW', ?_, ?_, ?_,hb.frame _,fun h=>by cases h⟩
 ·rw[hfn.1,hres]
  exact trodAll_cons_mk (RowKit.shut_bool htb true) trodAll_mk0
 ·rw[hfn.2.1]
  exact trodAll_stays hl hb _ _ _ _ hr h1 hlt
 ·rw[hv,hfn.2.2]
  exact rfl
end Go.Sx
namespace Go.Sx
open Go.ChangeShapes Go.WideShapes
theorem tab_heap {P:Program} {W:World} {name:String} {k:IntKind} {zs:List Int} {g:Nat} (hg:P.globalNamed name=some g) (h:Lib.TabIs P W name k zs):∃ty fz,W.heap[g]? =some (.cells (zs.map fun x=>Value.int k x).toArray ty fz):=by
 unfold Lib.TabIs World.var? at h
 rw[hg]at h
 simp only[Option.bind_some]at h
 cases ho:W.heap[g]? with
 |none=>rw[ho]at h;cases h
 |some o=>
  rw[ho]at h
  cases o<;>simp_all
theorem law_runA {P:Program} {f:FuncId} {args:List SV} {W:World} (hf:FnOK P f) (h:CallOK P f args [] (.val (.bool true)) [] [])
  (hg:TabsW W) {z:List (List Value)} (hz:HasZ (allRho hg) args z):
  Calls P f (List.zipWith mkV args z).toArray W fun e w'=>e= .returned (.bool true)∧RowKit.Below W.heap.size W w':=by
 refine(h.calls hf hz ⟨(fun k b hb=>by cases hb),(fun k k' x x' b b' hb=>by cases hb),(fun b o hb=>hb),(fun k b x hb=>by cases hb),(fun k b hb=>by cases hb)⟩).mono ?_
 rintro e w' ⟨v,ρ',rfl,hp⟩
 refine⟨by rw[of_has_val hp.has], ?_⟩
 exact(hp.pres.mono (W':=fun _=>False) (fun b _ ⟨k,blk,t,hm,_⟩=>by cases hm)).below
section
variable {H:Type} {enc:TypeId×Value→H} {P:Program} {W:World} {hg:TabsW W}
theorem Opens.struct2 {t:TypeId} {f0 f1:Field} {α β:Type} {a:α→SV} {b:β→SV} {ga:α→Prop} {gb:β→Prop} (ht:P.underlying t=some (.struct #[f0,f1])) (o0:f0.offset=0) (o1:f1.offset=P.cellsOf f0.type) (hc:P.cellsOf t=P.cellsOf f0.type+P.cellsOf f1.type)
  (h0:Opens enc P hg f0.type a ga) (h1:Opens enc P hg f1.type b gb):Opens enc P hg t (ag2 a b) (fun p=>ga p.1∧gb p.2):=fun fuel cs x h=>by
 obtain⟨xs,n,rfl,_,hlen,hxl,hf⟩:=DataW.trod_struct ht h
 have hx0:xs.length=2:=hxl
 obtain⟨y0,y1,rfl⟩:∃y0 y1,xs=[y0,y1]:=by
  match xs,hx0 with
  |[y0,y1],_=>exact⟨y0,y1,rfl⟩
 have g0:=hf 0 f0 rfl
 have g1:=hf 1 f1 rfl
 obtain⟨p,p1,p2⟩:=h0 _ _ _ g0
 obtain⟨q,q1,q2⟩:=h1 _ _ _ g1
 refine⟨(p,q),⟨p1,q1⟩, ?_⟩
 simp only[ag2,HasC]
 refine⟨[_,_],by simp only[HasZ];exact⟨_,_,rfl,p2,_,_,rfl,q2,rfl⟩, ?_⟩
 simp only[List.flatten_cons,List.flatten_nil,List.append_nil,o0,o1,List.drop_zero]
 rw[List.take_of_length_le (l:=cs.drop _) (by rw[List.length_drop];omega),List.take_append_drop]
theorem mkV_one {c:SV} {v:Value} (h:c.isOne=true) (hv:v.cells.toList=[v]):mkV c v.cells.toList=v:=by rw[hv];simp[mkV,h]
theorem mkV_agg {c:SV} {v:Value} {cs:Array Value} (h:c.isOne=false) (hv:v= .agg cs):mkV c v.cells.toList=v:=by subst hv;simp[mkV,h,Value.cells]
end
end Go.Sx
namespace Go.Sx
theorem wf_u32 {x:Int} (h:(Lit.int .u32 x).wf=true):0≤x∧x<4294967296:=by
 simp[Lit.wf,IntKind.min,IntKind.max,IntKind.bits,IntKind.signed]at h;omega
theorem wf_u8 {x:Int} (h:(Lit.int .u8 x).wf=true):0≤x∧x<256:=by
 simp[Lit.wf,IntKind.min,IntKind.max,IntKind.bits,IntKind.signed]at h;omega
theorem wf_i64 {x:Int} (h:(Lit.int .i64 x).wf=true): -9223372036854775808≤x∧x<9223372036854775808:=by
 simp[Lit.wf,IntKind.min,IntKind.max,IntKind.bits,IntKind.signed]at h;omega
theorem laid_tail {P:Program} {W:World} {x:String×DataW Unit} {rest:List (String×DataW Unit)} (h:laidMet P (x::rest) W):laidMet P rest W:=by
 obtain⟨n,d⟩:=x
 obtain⟨ps,⟨g,t,cs,fuel,p,q,_,_,_,_,hr,rfl⟩,hn,hb⟩:=h
 exact⟨q,hr,(List.nodup_append.1 hn).2.1,fun b off hm=>hb b off (List.mem_append.2 (.inr hm))⟩
section
variable {α:Type} {p:α→Bool} {l:List α} {d:α}
end
theorem zip_len {α β γ:Type} {f:α→β→γ} {a:List α} {b:List β} {n:Nat} (ha:a.length=n) (hb:b.length=n):(List.zipWith f a b).length=n:=by simp[ha,hb]
theorem zip_get {α β γ:Type} {f:α→β→γ} {a:List α} {b:List β} {i:Nat} {d1:α} {d2:β} {d3:γ} (ha:i<a.length) (hb:i<b.length):(List.zipWith f a b).getD i d3=f (a.getD i d1) (b.getD i d2):=by
 simp[List.getD_eq_getElem?_getD,List.getElem?_zipWith,List.getElem?_eq_getElem ha,List.getElem?_eq_getElem hb]
end Go.Sx
namespace Go.Proofs.YtbopchpncgdaaaaGreatDoor
open Go.Sx
set_option linter.unusedSimpArgs false
set_option linter.unusedVariables false
set_option maxRecDepth 100000
set_option maxHeartbeats 4000000
theorem fs_add (a b:Rat):fs (a+b)≤fs a+fs b:=by have:=@fsz_add a b;unfold fs;omega
theorem f_Add (a b:Rat) (h:fs a+fs b≤1073741824):CallOK Tryz.prog 93 [.frac a,.frac b] [] (.frac (a+b)) [] []:=c_fAdd natBig a b (by unfold fs at h;omega)
theorem f_Mul (a b:Rat) (h:fs a+fs b≤1073741824):CallOK Tryz.prog 40 [.frac a,.frac b] [] (.frac (a*b)) [] []:=c_fMul natBig a b (by unfold fs at h;omega)
end Go.Proofs.YtbopchpncgdaaaaGreatDoor
namespace Go.Proofs.YtbopchpncgdaaaaGreatDoor
open Go.Sx
set_option linter.unusedSimpArgs false
set_option linter.unusedVariables false
set_option maxRecDepth 100000
set_option maxHeartbeats 4000000
def alikeF (ls:List (List Rat)):Int:=if ls.any (fun v=>decide (2048<v.length))then 3 else if ls.all (fun v=>v.length==(ls.headD []).length)then 0 else 1
theorem v_alike (ls:List (List Rat)) (hn:ls.length<1099511627776) (hl:∀v∈ls,v.length<1099511627776):CallOK Tryz.prog 187 [mvec 1 fvec ls] [] (.val (.int .i64 (alikeF ls))) [] []:=by
 refine callV (Z:=[]) tabOK mixedOK Tryz.func187 rfl (by kernel_rfl) rfl rfl (by kernel_rfl) rfl ?_
 intro W0 w0 ρ0 hE
 conv=>whnf
 (repeat(first|(refine g_o (op_lenM rfl rfl rfl (ev_ok rfl) (tgt rfl) rfl) ?_;conv=>whnf)))
 refine SW_loopN hE (fun k=>k) [0,2,7,8,9] [] (fun m fr hp=>∃i,m=ls.length - i∧i≤ls.length∧(∀j,j<i→decide (2048<(ls.getD j []).length)=false)∧fr=[(0,mvec 1 fvec ls),(2,.val (.int .i64 0)),(7,mvec 1 fvec ls),(8,.val (.int .i64 (ls.length:Nat))),(9,.val (.int .i64 (i:Nat)))]∧hp=[]) ls.length ?_ ?_ ?_
 ·kernel_rfl
 ·exact⟨0,rfl,Nat.zero_le _,(fun j hj=>by omega),rfl,rfl⟩
 rintro m _ _ ⟨i,rfl,hi,hs,rfl,rfl⟩
 conv=>whnf
 by_cases hlt:i<ls.length
 ·have t1:=dlt hlt
  have t2:=winc (i:=i) (by omega)
  by_cases hL:2048<(ls.getD i []).length
  ·have t3:decide (((ls.getD i []).length:Int)>2048)=true:=decide_eq_true (by omega)
   have e:alikeF ls=3:=by rw[alikeF,if_pos (any_at (d:=[]) hlt (decide_eq_true hL))]
   rw[e]
   (repeat((first|refine step_w1 rfl rfl ?_|refine g_o (op_lenM rfl rfl rfl (ev_ok rfl) (tgt rfl) rfl) ?_|refine g_o (op_loadA rfl (ev_ok rfl) (tgt rfl) rfl (Nat.succ_ne_zero _) rfl) ?_|refine g_o (op_indexN (α:=List Rat) (d:=[]) rfl (ev_ok rfl) (ev_ok rfl) (tgt rfl) rfl (tgt rfl) rfl (by omega)) ?_|rw[t1]|rw[t3]);conv=>whnf));(first|exact Recast.refl _|exact Frz.recast (Recast.refl _) rfl|(refine Frz.one rfl rfl ?_;skip)|(refine Frz.tup ?_;skip))
  ·have t3:decide (((ls.getD i []).length:Int)>2048)=false:=decide_eq_false (by omega)
   (repeat((first|refine step_w1 rfl rfl ?_|refine step_w2 rfl rfl ?_|refine g_o (op_lenM rfl rfl rfl (ev_ok rfl) (tgt rfl) rfl) ?_|refine g_o (op_loadA rfl (ev_ok rfl) (tgt rfl) rfl (Nat.succ_ne_zero _) rfl) ?_|refine g_o (op_indexN (α:=List Rat) (d:=[]) rfl (ev_ok rfl) (ev_ok rfl) (tgt rfl) rfl (tgt rfl) rfl (by omega)) ?_|rw[t1]|rw[t3]|rw[t2]);conv=>whnf))
   refine⟨ls.length - (i+1),fun k=>k,[0,2,7,8,9],[],by omega,by kernel_rfl,i+1,rfl,hlt, ?_,rfl,rfl⟩
   intro j hj
   by_cases hji:j=i
   ·rw[hji];exact decide_eq_false hL
   ·exact hs j (by omega)
 ·have t1:=dge hlt
  have hI:i=ls.length:=by omega
  subst hI
  have hshort:ls.any (fun v=>decide (2048<v.length))=false:=any_no [] hs
  (repeat(first|(refine step_w2 rfl rfl ?_;conv=>whnf)|(refine g_o (op_lenM rfl rfl rfl (ev_ok rfl) (tgt rfl) rfl) ?_;conv=>whnf)|(rw[t1];conv=>whnf)))
  refine SW_loopN hE (fun k=>k) [0,2,17,18,19] [] (fun m fr hp=>∃i,m=ls.length - i∧i≤ls.length∧(∀j,j<i→((ls.getD j []).length==(ls.headD []).length)=true)∧fr=[(0,mvec 1 fvec ls),(2,.val (.int .i64 0)),(17,mvec 1 fvec ls),(18,.val (.int .i64 (ls.length:Nat))),(19,.val (.int .i64 (i:Nat)))]∧hp=[]) ls.length ?_ ?_ ?_
  ·kernel_rfl
  ·exact⟨0,rfl,Nat.zero_le _,(fun j hj=>by omega),rfl,rfl⟩
  rintro m _ _ ⟨i,rfl,hi,hs,rfl,rfl⟩
  conv=>whnf
  by_cases hlt:i<ls.length
  ·have t1:=dlt hlt
   have t2:=winc (i:=i) (by omega)
   have h0:0<ls.length:=by omega
   have hh:ls.getD 0 []=ls.headD []:=by cases ls<;>rfl
   by_cases hL:(ls.getD i []).length=(ls.getD 0 []).length
   ·have t3:(((ls.getD i []).length:Int) != ((ls.getD 0 []).length:Int))=false:=by rw[hL];exact bne_self_eq_false _
    (repeat((first|refine step_w1 rfl rfl ?_|refine step_w2 rfl rfl ?_|refine g_o (op_lenM rfl rfl rfl (ev_ok rfl) (tgt rfl) rfl) ?_|refine g_o (op_loadA rfl (ev_ok rfl) (tgt rfl) rfl (Nat.succ_ne_zero _) rfl) ?_|refine g_o (op_indexN (α:=List Rat) (d:=[]) rfl (ev_ok rfl) (ev_ok rfl) (tgt rfl) rfl (tgt rfl) rfl (by omega)) ?_|rw[t1]|rw[t3]|rw[t2]);conv=>whnf))
    refine⟨ls.length - (i+1),fun k=>k,[0,2,17,18,19],[],by omega,by kernel_rfl,i+1,rfl,hlt, ?_,rfl,rfl⟩
    intro j hj
    by_cases hji:j=i
    ·rw[hji,hL,hh];exact beq_self_eq_true _
    ·exact hs j (by omega)
   ·have t3:(((ls.getD i []).length:Int) != ((ls.getD 0 []).length:Int))=true:=bne_iff_ne.2 (by omega)
    have e:alikeF ls=1:=by
     rw[alikeF,if_neg (by rw[hshort];exact Bool.false_ne_true),if_neg]
     rw[all_no (d:=[]) hlt (by rw[←hh];exact beq_false_of_ne hL)]
     exact Bool.false_ne_true
    rw[e]
    (repeat((first|refine step_w1 rfl rfl ?_|refine g_o (op_lenM rfl rfl rfl (ev_ok rfl) (tgt rfl) rfl) ?_|refine g_o (op_loadA rfl (ev_ok rfl) (tgt rfl) rfl (Nat.succ_ne_zero _) rfl) ?_|refine g_o (op_indexN (α:=List Rat) (d:=[]) rfl (ev_ok rfl) (ev_ok rfl) (tgt rfl) rfl (tgt rfl) rfl (by omega)) ?_|rw[t1]|rw[t3]);conv=>whnf));(first|exact Recast.refl _|exact Frz.recast (Recast.refl _) rfl|(refine Frz.one rfl rfl ?_;skip)|(refine Frz.tup ?_;skip))
  ·have t1:=dge hlt
   have hI:i=ls.length:=by omega
   subst hI
   have e:alikeF ls=0:=by
    rw[alikeF,if_neg (by rw[hshort];exact Bool.false_ne_true),if_pos (all_at [] hs)]
   rw[e]
   (repeat(first|(refine step_w2 rfl rfl ?_;conv=>whnf)|(rw[t1];conv=>whnf)));(first|exact Recast.refl _|exact Frz.recast (Recast.refl _) rfl|(refine Frz.one rfl rfl ?_;skip)|(refine Frz.tup ?_;skip))
theorem alike_two (a b:List Rat):alikeF [a,b]=if 2048<a.length∨2048<b.length then 3 else if a.length=b.length then 0 else 1:=by
 simp only[alikeF,List.any_cons,List.any_nil,Bool.or_false,Bool.or_eq_true,decide_eq_true_eq,List.all_cons,List.all_nil,Bool.and_true,List.headD_cons,beq_self_eq_true,Bool.true_and,beq_iff_eq]
 split
 ·rfl
 ·split
  ·rename_i h;rw[if_pos h.symm]
  ·rename_i h;rw[if_neg (fun h'=>h h'.symm)]
theorem v_each0 (F:Rat→Rat→Rat) (g:FuncId) (a b:List Rat) (hab:a.length=b.length) (hl:a.length≤2048)
  (hf:∀i,i<a.length→CallOK Tryz.prog g ([]++([.frac (a.getD i 0),.frac (b.getD i 0)]++[])) [] (.frac (F (a.getD i 0) (b.getD i 0))) [] []):
  CallOK Tryz.prog 126 [fvec a,fvec b,.clo g [] []] [] (.tup [fvec (List.zipWith F a b),.val (.int .i64 0)]) [] []:=by
 have k1:=v_alike [a,b] (by simp) (by simp;omega)
 rw[alike_two,if_neg (by omega),if_pos hab]at k1
 refine callF (Z:=[13]) tabOK mixedOK Tryz.func126 rfl (by kernel_rfl) (by first|rfl|(simp[keylessL,keyless,keylessL_map, *];done)) (by first|rfl|(simp[keylessL,keyless,keylessL_map, *];done)) (by kernel_rfl) rfl ?_
 intro w0 ρ0 hE
 conv=>whnf
 (repeat((first|refine step_w2 rfl rfl ?_|refine And.intro (by first|decide|omega|(simp only[tl0,dlen,List.length_replicate,List.length_set,List.length_map,List.length_zipWith,List.length_take,List.length_append,List.length_cons,List.length_nil];omega)) ?_|refine g_c (by assumption) ?_|rw[bne_self_eq_false]|refine g_o (op_lenM rfl rfl rfl (ev_ok rfl) (tgt rfl) rfl) ?_|rw[Int.toNat_natCast]);conv=>whnf))
 have hz:=zip_len (f:=F) rfl hab.symm
 refine SW_loopN hE (fun k=>k) [0,1,2,6,7,9,22,23] [20] (fun m fr hp=>∃i,m=a.length - i∧i≤a.length∧fr=[(0,fvec a),(1,fvec b),(2,.clo g [] []),(6,.val (.slice none 0 0)),(7,.val (.int .i64 0)),(9,.slc 20 5 0 a.length),(22,.val (.int .i64 (a.length:Nat))),(23,.val (.int .i64 (i:Nat)))]∧
  hp=[(20,⟨53,true,.fracs ((List.zipWith F a b).take i++List.replicate (a.length - i) 0)⟩)]) a.length ?_ ?_ ?_
 ·kernel_rfl
 ·exact⟨0,rfl,Nat.zero_le _,rfl,rfl⟩
 rintro m _ _ ⟨i,rfl,hi,rfl,rfl⟩
 conv=>whnf
 have hlen:=fill_len (d:=(0:Rat)) hi hz
 by_cases hlt:i<a.length
 ·have t1:=dlt hlt
  have t2:=winc (i:=i) (by omega)
  have k2:=hf i hlt
  rw[←zip_get (f:=F) (d3:=0) hlt (by omega)]at k2
  (repeat((first|refine step_w1 rfl rfl ?_|refine step_i (by kernel_rfl) ?_|refine And.intro (by first|decide|omega|(simp only[tl0,dlen,List.length_replicate,List.length_set,List.length_map,List.length_zipWith,List.length_take,List.length_append,List.length_cons,List.length_nil];omega)) ?_|refine g_c (by assumption) ?_|refine g_o (op_indexN (α:=Rat) (d:=0) rfl (ev_ok rfl) (ev_ok rfl) (tgt rfl) rfl (tgt rfl) rfl (by omega)) ?_|refine g_o (op_loadA rfl (ev_ok rfl) (tgt rfl) rfl (Nat.succ_ne_zero _) rfl) ?_|rw[t1]|rw[t2]|rw[Int.toNat_natCast]|rw[Nat.zero_add]);conv=>whnf))
  refine⟨a.length - (i+1),fun k=>k,[0,1,2,6,7,9,22,23],[20],by omega,by kernel_rfl,i+1,rfl,hlt,rfl, ?_⟩
  rw[←fill_set (e:=0) hlt hz]
  rfl
 ·have t1:=dge hlt
  have hI:i=a.length:=by omega
  subst hI
  rw[fill_all hz]
  (repeat(first|(refine step_w2 rfl rfl ?_;conv=>whnf)|(rw[t1];conv=>whnf)))
  (first|exact Recast.refl _|exact Frz.recast (Recast.refl _) rfl|(refine Frz.one rfl rfl ?_;skip)|(refine Frz.tup ?_;(repeat(first|exact FrzC.keyless rfl|exact FrzL.nil|refine FrzL.cons ?_ ?_|(refine FrzC.fracs rfl ?_;(first|rfl|omega|(simp<;>fail)|(simp<;>omega)))))))
theorem v_each1 (F:Rat→Rat→Rat) (g:FuncId) (p:Pred) (a b:List Rat) (hab:a.length=b.length) (hl:a.length≤2048)
  (hf:∀i,i<a.length→CallOK Tryz.prog g ([]++([.frac (a.getD i 0),.frac (b.getD i 0)]++[.atom p])) [] (.frac (F (a.getD i 0) (b.getD i 0))) [] []):
  CallOK Tryz.prog 126 [fvec a,fvec b,.clo g [] [.atom p]] [] (.tup [fvec (List.zipWith F a b),.val (.int .i64 0)]) [] []:=by
 have k1:=v_alike [a,b] (by simp) (by simp;omega)
 rw[alike_two,if_neg (by omega),if_pos hab]at k1
 refine callF (Z:=[13]) tabOK mixedOK Tryz.func126 rfl (by kernel_rfl) (by first|rfl|(simp[keylessL,keyless,keylessL_map, *];done)) (by first|rfl|(simp[keylessL,keyless,keylessL_map, *];done)) (by kernel_rfl) rfl ?_
 intro w0 ρ0 hE
 conv=>whnf
 (repeat((first|refine step_w2 rfl rfl ?_|refine And.intro (by first|decide|omega|(simp only[tl0,dlen,List.length_replicate,List.length_set,List.length_map,List.length_zipWith,List.length_take,List.length_append,List.length_cons,List.length_nil];omega)) ?_|refine g_c (by assumption) ?_|rw[bne_self_eq_false]|refine g_o (op_lenM rfl rfl rfl (ev_ok rfl) (tgt rfl) rfl) ?_|rw[Int.toNat_natCast]);conv=>whnf))
 have hz:=zip_len (f:=F) rfl hab.symm
 refine SW_loopN hE (fun k=>k) [0,1,2,6,7,9,22,23] [20] (fun m fr hp=>∃i,m=a.length - i∧i≤a.length∧fr=[(0,fvec a),(1,fvec b),(2,.clo g [] [.atom p]),(6,.val (.slice none 0 0)),(7,.val (.int .i64 0)),(9,.slc 20 5 0 a.length),(22,.val (.int .i64 (a.length:Nat))),(23,.val (.int .i64 (i:Nat)))]∧
  hp=[(20,⟨53,true,.fracs ((List.zipWith F a b).take i++List.replicate (a.length - i) 0)⟩)]) a.length ?_ ?_ ?_
 ·kernel_rfl
 ·exact⟨0,rfl,Nat.zero_le _,rfl,rfl⟩
 rintro m _ _ ⟨i,rfl,hi,rfl,rfl⟩
 conv=>whnf
 have hlen:=fill_len (d:=(0:Rat)) hi hz
 by_cases hlt:i<a.length
 ·have t1:=dlt hlt
  have t2:=winc (i:=i) (by omega)
  have k2:=hf i hlt
  rw[←zip_get (f:=F) (d3:=0) hlt (by omega)]at k2
  (repeat((first|refine step_w1 rfl rfl ?_|refine step_i (by kernel_rfl) ?_|refine And.intro (by first|decide|omega|(simp only[tl0,dlen,List.length_replicate,List.length_set,List.length_map,List.length_zipWith,List.length_take,List.length_append,List.length_cons,List.length_nil];omega)) ?_|refine g_c (by assumption) ?_|refine g_o (op_indexN (α:=Rat) (d:=0) rfl (ev_ok rfl) (ev_ok rfl) (tgt rfl) rfl (tgt rfl) rfl (by omega)) ?_|refine g_o (op_loadA rfl (ev_ok rfl) (tgt rfl) rfl (Nat.succ_ne_zero _) rfl) ?_|rw[t1]|rw[t2]|rw[Int.toNat_natCast]|rw[Nat.zero_add]);conv=>whnf))
  refine⟨a.length - (i+1),fun k=>k,[0,1,2,6,7,9,22,23],[20],by omega,by kernel_rfl,i+1,rfl,hlt,rfl, ?_⟩
  rw[←fill_set (e:=0) hlt hz]
  rfl
 ·have t1:=dge hlt
  have hI:i=a.length:=by omega
  subst hI
  rw[fill_all hz]
  (repeat(first|(refine step_w2 rfl rfl ?_;conv=>whnf)|(rw[t1];conv=>whnf)))
  (first|exact Recast.refl _|exact Frz.recast (Recast.refl _) rfl|(refine Frz.one rfl rfl ?_;skip)|(refine Frz.tup ?_;(repeat(first|exact FrzC.keyless rfl|exact FrzL.nil|refine FrzL.cons ?_ ?_|(refine FrzC.fracs rfl ?_;(first|rfl|omega|(simp<;>fail)|(simp<;>omega)))))))
end Go.Proofs.YtbopchpncgdaaaaGreatDoor
namespace Go.Proofs.YtbopchpncgdaaaaGreatDoor
open Go.Sx
set_option linter.unusedSimpArgs false
set_option linter.unusedVariables false
set_option maxRecDepth 100000
set_option maxHeartbeats 4000000
def fsL (l:List Rat):Nat:=(l.map fs).sum
theorem fs_sum (l:List Rat) (s:Rat):fs (l.foldl (·+·) s)≤fs s+fsL l:=by
 induction l generalizing s with
 |nil=>simp[fsL]
 |cons q l ih=>
  have:=ih (s+q)
  have:=fs_add s q
  simp only[List.foldl_cons,fsL,List.map_cons,List.sum_cons]at*
  omega
theorem f_totalAdd (s q:Rat) (h:fs s+fs q≤1073741824) (K:Nat):
  CallOK Tryz.prog 189 [.ptr K 0 0 0,.frac q] [(K,⟨248,true,.one [.frac s]⟩)] (.tup []) [] [(K,⟨248,true,.one [.frac (s+q)]⟩)]:=by
 have k1:=f_Add s q h
 refine callK (Z:=[]) tabOK mixedOK Tryz.func189 rfl (by kernel_rfl) (args:=[.ptr 0 0 0 0,.frac q]) (fk:=[(0,⟨248,true,.one [.frac s]⟩)]) (c:=.tup []) (new:=[]) (upd:=[(0,⟨248,true,.one [.frac (s+q)]⟩)]) (ShapeOK.of rfl rfl rfl rfl rfl rfl rfl rfl rfl rfl rfl) rfl (fun _=>K) NamesOK.upd ?_
 intro W0 w0 ρ0 hE
 conv=>whnf
 (repeat(first|(refine step_i (by kernel_rfl) ?_;conv=>whnf)|(refine g_c (by assumption) ?_;conv=>whnf)))
 exact⟨Recast.refl _,(fun _ _ h=>by cases h),fun k b hm=>by simp only[List.mem_singleton,Prod.mk.injEq]at hm;obtain⟨rfl,rfl⟩:=hm;rfl⟩
theorem take_snoc (l:List Rat) (i:Nat) (hi:i<l.length):l.take (i+1)=l.take i++[l.getD i 0]:=by rw[List.take_add_one,List.getD_eq_getElem?_getD,List.getElem?_eq_getElem hi];rfl
theorem foldl_take (l:List Rat) (i:Nat) (hi:i<l.length) (s:Rat):(l.take (i+1)).foldl (·+·) s=(l.take i).foldl (·+·) s+l.getD i 0:=by
 rw[take_snoc l i hi,List.foldl_append];rfl
theorem fsL_append (a b:List Rat):fsL (a++b)=fsL a+fsL b:=by unfold fsL;rw[List.map_append,List.sum_append]
theorem fsL_one (q:Rat):fsL [q]=fs q:=by simp[fsL]
theorem fsL_take (l:List Rat) (i:Nat) (hi:i<l.length):fsL (l.take i)+fs (l.getD i 0)≤fsL l:=by
 have h1:fsL (l.take (i+1))=fsL (l.take i)+fs (l.getD i 0):=by rw[take_snoc l i hi,fsL_append,fsL_one]
 have h3:fsL l=fsL (l.take (i+1))+fsL (l.drop (i+1)):=by rw[←fsL_append,List.take_append_drop]
 rw[h3,h1]
 exact Nat.le_add_right _ _
theorem f_each (l:List Rat) (s:Rat) (hn:l.length<1099511627776) (h:fs s+fsL l≤1073741824) (K:Nat):
  CallOK Tryz.prog 188 [.clo 189 [.ptr K 0 0 0] [],fvec l] [(K,⟨248,true,.one [.frac s]⟩)] (.tup []) [] [(K,⟨248,true,.one [.frac (l.foldl (·+·) s)]⟩)]:=by
 refine callK (Z:=[]) tabOK mixedOK Tryz.func188 rfl (by kernel_rfl) (args:=[.clo 189 [.ptr 1001 0 0 0] [],fvec l]) (fk:=[(1001,⟨248,true,.one [.frac s]⟩)]) (c:=.tup []) (new:=[]) (upd:=[(1001,⟨248,true,.one [.frac (l.foldl (·+·) s)]⟩)]) (ShapeOK.of rfl rfl rfl rfl rfl rfl rfl rfl rfl rfl rfl) rfl (fun _=>K) NamesOK.upd ?_
 intro W0 w0 ρ0 hE
 conv=>whnf
 (repeat(first|(refine g_o (op_lenM rfl rfl rfl (ev_ok rfl) (tgt rfl) rfl) ?_;conv=>whnf)))
 refine SW_loopN hE (fun k=>k) [0,1,6,7,8] [1001] (fun m fr hp=>∃i,m=l.length - i∧i≤l.length∧fr=[(0,.clo 189 [.ptr 1001 0 0 0] []),(1,fvec l),(6,fvec l),(7,.val (.int .i64 (l.length:Nat))),(8,.val (.int .i64 (i:Nat)))]∧
  hp=[(1001,⟨248,true,.one [.frac ((l.take i).foldl (·+·) s)]⟩)]) l.length ?_ ?_ ?_
 ·kernel_rfl
 ·exact⟨0,rfl,Nat.zero_le _,rfl,rfl⟩
 rintro m _ _ ⟨i,rfl,hi,rfl,rfl⟩
 conv=>whnf
 by_cases hlt:i<l.length
 ·have t1:=dlt hlt
  have t2:=winc (i:=i) (by omega)
  have hs:=fs_sum (l.take i) s
  have hs2:=fsL_take l i hlt
  have k1:=f_totalAdd ((l.take i).foldl (·+·) s) (l.getD i 0) (by omega) 1001
  rw[←foldl_take l i hlt s]at k1
  (repeat((first|refine step_w1 rfl rfl ?_|refine g_c1u (by assumption) rfl rfl ?_|refine g_o (op_indexN (α:=Rat) (d:=0) rfl (ev_ok rfl) (ev_ok rfl) (tgt rfl) rfl (tgt rfl) rfl (by omega)) ?_|refine g_o (op_loadA rfl (ev_ok rfl) (tgt rfl) rfl (Nat.succ_ne_zero _) rfl) ?_|rw[t1]|rw[t2]);conv=>whnf))
  exact⟨l.length - (i+1),fun k=>k,[0,1,6,7,8],[1001],by omega,by kernel_rfl,i+1,rfl,hlt,rfl,rfl⟩
 ·have t1:=dge hlt
  have hI:i=l.length:=by omega
  subst hI
  rw[List.take_length]
  (repeat(first|(refine step_w2 rfl rfl ?_;conv=>whnf)|(rw[t1];conv=>whnf)))
  exact⟨Recast.refl _,(fun _ _ h=>by cases h),fun k b hm=>by simp only[List.mem_singleton,Prod.mk.injEq]at hm;obtain⟨rfl,rfl⟩:=hm;rfl⟩
theorem f_Sum (l:List Rat) (hn:l.length<1099511627776) (h:fsL l+2≤1073741824):CallOK Tryz.prog 130 [fvec l] [] (.frac (l.foldl (·+·) 0)) [] []:=by
 have k1:=f_each l 0 hn (by rw[fs_zero];omega) 3
 refine callV (Z:=[]) tabOK mixedOK Tryz.func130 rfl (by kernel_rfl) rfl rfl (by kernel_rfl) rfl ?_
 intro W0 w0 ρ0 hE
 conv=>whnf
 (repeat(first|(refine g_c1u (by assumption) rfl rfl ?_;conv=>whnf)|(refine g_o (op_makeFunc rfl rfl rfl) ?_;conv=>whnf)));(first|exact Recast.refl _|exact Frz.recast (Recast.refl _) rfl|(refine Frz.one rfl rfl ?_;skip)|(refine Frz.tup ?_;skip))
end Go.Proofs.YtbopchpncgdaaaaGreatDoor
namespace Go.Proofs.YtbopchpncgdaaaaGreatDoor
open Go.Sx
set_option linter.unusedSimpArgs false
set_option linter.unusedVariables false
set_option maxRecDepth 100000
set_option maxHeartbeats 4000000
def Fit (a b:List Rat):Prop:=∀i,i<a.length→fs (a.getD i 0)+fs (b.getD i 0)≤1073741824
abbrev vmul (a b:List Rat):List Rat:=List.zipWith (·*·) a b
abbrev vaxpy (c:Rat) (a b:List Rat):List Rat:=List.zipWith (fun x y=>c*x+y) a b
theorem v_Axpy1 (c x y:Rat) (h:fs c+fs x+fs y≤1073741824):CallOK Tryz.prog 127 ([]++([.frac x,.frac y]++[ptrA [.frac c]])) [] (.frac (c*x+y)) [] []:=by
 have k1:=f_Mul c x (by omega)
 have k2:=f_Add (c*x) y (by have:=fs_mul c x;omega)
 refine callV (Z:=[]) tabOK mixedOK Tryz.func127 rfl (by kernel_rfl) rfl rfl (by kernel_rfl) rfl ?_
 intro W0 w0 ρ0 hE
 conv=>whnf
 (repeat(first|(refine step_i (by kernel_rfl) ?_;conv=>whnf)|(refine g_c (by assumption) ?_;conv=>whnf)|(refine g_o (op_loadA rfl (ev_ok rfl) (tgt rfl) rfl (Nat.succ_ne_zero _) rfl) ?_;conv=>whnf)));(first|exact Recast.refl _|exact Frz.recast (Recast.refl _) rfl|(refine Frz.one rfl rfl ?_;skip)|(refine Frz.tup ?_;skip))
theorem v_Axpy (c:Rat) (a b:List Rat) (hab:a.length=b.length) (hl:a.length≤2048) (h:∀i,i<a.length→fs c+fs (a.getD i 0)+fs (b.getD i 0)≤1073741824):CallOK Tryz.prog 56 [.frac c,fvec a,fvec b] [] (.tup [fvec (vaxpy c a b),.val (.int .i64 0)]) [] []:=by
 have k1:=v_each1 (fun x y=>c*x+y) 127 (ptrP [.frac c]) a b hab hl (fun i hi=>v_Axpy1 _ _ _ (h i hi))
 refine callV (Z:=[3]) tabOK mixedOK Tryz.func56 rfl (by kernel_rfl) rfl rfl (by kernel_rfl) rfl ?_
 intro W0 w0 ρ0 hE
 conv=>whnf
 (repeat(first|(refine g_c (by assumption) ?_;conv=>whnf)|(refine g_o (op_makeFunc rfl rfl rfl) ?_;conv=>whnf)));(first|exact Recast.refl _|exact Frz.recast (Recast.refl _) rfl|(refine Frz.one rfl rfl ?_;skip)|(refine Frz.tup ?_;skip))
def vdot (a b:List Rat):Rat:=(vmul a b).foldl (·+·) 0
theorem v_Dot (a b:List Rat) (hab:a.length=b.length) (hl:a.length≤2048) (h:Fit a b) (hs:fsL (vmul a b)+2≤1073741824):CallOK Tryz.prog 60 [fvec a,fvec b] [] (.tup [.frac (vdot a b),.val (.int .i64 0)]) [] []:=by
 have k1:=v_each0 (·*·) 40 a b hab hl (fun i hi=>f_Mul _ _ (h i hi))
 have k2:=f_Sum (vmul a b) (by simp;omega) hs
 refine callV (Z:=[]) tabOK mixedOK Tryz.func60 rfl (by kernel_rfl) rfl rfl (by kernel_rfl) rfl ?_
 intro W0 w0 ρ0 hE
 conv=>whnf
 (repeat(first|(refine g_c (by assumption) ?_;conv=>whnf)));(first|exact Recast.refl _|exact Frz.recast (Recast.refl _) rfl|(refine Frz.one rfl rfl ?_;skip)|(refine Frz.tup ?_;skip))
theorem v_Zero (n:Nat) (hn:n≤2048):CallOK Tryz.prog 55 [.val (.int .i64 (n:Nat))] [] (.tup [fvec (List.replicate n 0),.val (.int .i64 0)]) [] []:=by
 have k1:=v_fits n
 rw[fitsF,if_neg (by omega),if_neg (by omega)]at k1
 refine callF (Z:=[]) tabOK mixedOK Tryz.func55 rfl (by kernel_rfl) (by first|rfl|(simp[keylessL,keyless,keylessL_map, *];done)) (by first|rfl|(simp[keylessL,keyless,keylessL_map, *];done)) (by kernel_rfl) rfl ?_
 intro w0 ρ0 hE
 conv=>whnf
 (repeat((first|refine step_w2 rfl rfl ?_|refine And.intro (by first|decide|omega|(simp only[tl0,dlen,List.length_replicate,List.length_set,List.length_map,List.length_zipWith,List.length_take,List.length_append,List.length_cons,List.length_nil];omega)) ?_|refine g_c (by assumption) ?_|rw[Int.toNat_natCast]);conv=>whnf));(first|exact Recast.refl _|exact Frz.recast (Recast.refl _) rfl|(refine Frz.one rfl rfl ?_;skip)|(refine Frz.tup ?_;(repeat(first|exact FrzC.keyless rfl|exact FrzL.nil|refine FrzL.cons ?_ ?_|(refine FrzC.fracs rfl ?_;(first|rfl|omega|(simp<;>fail)|(simp<;>omega)))))))
theorem v_Equal (a b:List Rat) (ha:a.length<1099511627776) (hb:b.length<1099511627776):CallOK Tryz.prog 129 [fvec a,fvec b] [] (.val (.bool (decide (a=b)))) [] []:=by
 refine callV (Z:=[]) tabOK mixedOK Tryz.func129 rfl (by kernel_rfl) rfl rfl (by kernel_rfl) rfl ?_
 intro W0 w0 ρ0 hE
 conv=>whnf
 by_cases hab:a.length=b.length
 ·have t0:((a.length:Int) != (b.length:Int))=false:=by rw[hab];exact bne_self_eq_false _
  (repeat(first|(refine step_w2 rfl rfl ?_;conv=>whnf)|(refine g_o (op_lenM rfl rfl rfl (ev_ok rfl) (tgt rfl) rfl) ?_;conv=>whnf)|(rw[t0];conv=>whnf)))
  refine SW_loopN hE (fun k=>k) [0,1,4,11,12,13] [] (fun m fr hp=>∃i,m=a.length - i∧i≤a.length∧a.take i=b.take i∧fr=[(0,fvec a),(1,fvec b),(4,.val (.bool false)),(11,fvec a),(12,.val (.int .i64 (a.length:Nat))),(13,.val (.int .i64 (i:Nat)))]∧hp=[]) a.length ?_ ?_ ?_
  ·kernel_rfl
  ·exact⟨0,rfl,Nat.zero_le _,rfl,rfl,rfl⟩
  rintro m _ _ ⟨i,rfl,hi,ht,rfl,rfl⟩
  conv=>whnf
  by_cases hlt:i<a.length
  ·have t1:=dlt hlt
   have t2:=winc (i:=i) (by omega)
   by_cases hv:a.getD i 0=b.getD i 0
   ·have t3:(!decide (a.getD i 0=b.getD i 0))=false:=by rw[decide_eq_true hv];rfl
    (repeat((first|refine step_w1 rfl rfl ?_|refine step_w2 rfl rfl ?_|refine step_i (by kernel_rfl) ?_|refine g_o (op_indexN (α:=Rat) (d:=0) rfl (ev_ok rfl) (ev_ok rfl) (tgt rfl) rfl (tgt rfl) rfl (by omega)) ?_|refine g_o (op_loadA rfl (ev_ok rfl) (tgt rfl) rfl (Nat.succ_ne_zero _) rfl) ?_|refine⟨_,op_neAgg tabOK goodOK rfl (ev_ok rfl) (ev_ok rfl) rfl rfl rfl rfl (q_same _ _) q_guard, ?_⟩|rw[t1]|rw[t3]|rw[t2]);conv=>whnf))
    exact⟨a.length - (i+1),fun k=>k,[0,1,4,11,12,13],[],by omega,by kernel_rfl,i+1,rfl,hlt,by rw[take_snoc a i hlt,take_snoc b i (by omega),ht,hv],rfl,rfl⟩
   ·have t3:(!decide (a.getD i 0=b.getD i 0))=true:=by rw[decide_eq_false hv];rfl
    have e:decide (a=b)=false:=decide_eq_false (fun h=>hv (by rw[h]))
    rw[e]
    (repeat((first|refine step_w1 rfl rfl ?_|refine step_i (by kernel_rfl) ?_|refine g_o (op_indexN (α:=Rat) (d:=0) rfl (ev_ok rfl) (ev_ok rfl) (tgt rfl) rfl (tgt rfl) rfl (by omega)) ?_|refine g_o (op_loadA rfl (ev_ok rfl) (tgt rfl) rfl (Nat.succ_ne_zero _) rfl) ?_|refine⟨_,op_neAgg tabOK goodOK rfl (ev_ok rfl) (ev_ok rfl) rfl rfl rfl rfl (q_same _ _) q_guard, ?_⟩|rw[t1]|rw[t3]);conv=>whnf));(first|exact Recast.refl _|exact Frz.recast (Recast.refl _) rfl|(refine Frz.one rfl rfl ?_;skip)|(refine Frz.tup ?_;skip))
  ·have t1:=dge hlt
   have hI:i=a.length:=by omega
   have e:decide (a=b)=true:=decide_eq_true (by rw[hI,List.take_length]at ht;rw[ht,hab,List.take_length])
   rw[e]
   (repeat(first|(refine step_w2 rfl rfl ?_;conv=>whnf)|(rw[t1];conv=>whnf)));(first|exact Recast.refl _|exact Frz.recast (Recast.refl _) rfl|(refine Frz.one rfl rfl ?_;skip)|(refine Frz.tup ?_;skip))
 ·have t0:((a.length:Int) != (b.length:Int))=true:=bne_iff_ne.2 (by omega)
  have e:decide (a=b)=false:=decide_eq_false (fun h=>hab (by rw[h]))
  rw[e]
  (repeat(first|(refine step_w1 rfl rfl ?_;conv=>whnf)|(refine g_o (op_lenM rfl rfl rfl (ev_ok rfl) (tgt rfl) rfl) ?_;conv=>whnf)|(rw[t0];conv=>whnf)));(first|exact Recast.refl _|exact Frz.recast (Recast.refl _) rfl|(refine Frz.one rfl rfl ?_;skip)|(refine Frz.tup ?_;skip))
theorem v_Same (a b:List Rat) (ha:a.length<1099511627776) (hb:b.length<1099511627776):CallOK Tryz.prog 58 [fvec a,fvec b] [] (.val (.bool (decide (a=b)))) [] []:=by
 have k1:=v_Equal a b ha hb
 refine callV (Z:=[]) tabOK mixedOK Tryz.func58 rfl (by kernel_rfl) rfl rfl (by kernel_rfl) rfl ?_
 intro W0 w0 ρ0 hE
 conv=>whnf
 (repeat(first|(refine g_c (by assumption) ?_;conv=>whnf)));(first|exact Recast.refl _|exact Frz.recast (Recast.refl _) rfl|(refine Frz.one rfl rfl ?_;skip)|(refine Frz.tup ?_;skip))
end Go.Proofs.YtbopchpncgdaaaaGreatDoor
namespace Go.Proofs.YtbopchpncgdaaaaGreatDoor
open Go.Sx
set_option linter.unusedSimpArgs false
set_option linter.unusedVariables false
set_option maxRecDepth 100000
set_option maxHeartbeats 4000000
theorem fs_qV {q:Int×Int} (h:qOK q):fs (qV q)≤130:=by
 have h1:=fs_div (q.1:Rat) ((if q.2<1 then 1 else q.2:Int):Rat)
 have h2:=fs_int h.1.1 h.1.2
 have h3:fs ((if q.2<1 then 1 else q.2:Int):Rat)≤65:=fs_int (by have:=h.2;split<;>omega) (by have:=h.2;split<;>omega)
 unfold qV
 omega
theorem app_snoc {α:Type} {l:List α} {i:Nat} {d:α} (h:i<l.length):(l.take i).take i++(([l.getD i d]:List α).drop 0).take 1=l.take (i+1):=by
 have e:l.take (i+1)=l.take i++[l.getD i d]:=by rw[List.take_add_one,List.getD_eq_getElem?_getD,List.getElem?_eq_getElem h];rfl
 rw[List.take_take,Nat.min_self,e];rfl
end Go.Proofs.YtbopchpncgdaaaaGreatDoor
namespace Go.Proofs.YtbopchpncgdaaaaGreatDoor
open Go.Sx
set_option linter.unusedSimpArgs false
set_option linter.unusedVariables false
theorem foldl_sum (l:List Rat):∀n,n≤l.length→(l.take n).foldl (·+·) 0=sumR n (fun i=>l.getD i 0)
 |0,_=>rfl
 |n+1,h=>by rw[foldl_take l n (by omega),foldl_sum l n (by omega),sumR]
theorem vdot_sum {a b:List Rat} {n:Nat} (ha:a.length=n) (hb:b.length=n):vdot a b=sumR n (fun i=>a.getD i 0*b.getD i 0):=by
 have hz:(vmul a b).length=n:=zip_len ha hb
 have h1:=foldl_sum (vmul a b) n (by omega)
 rw[List.take_of_length_le (by omega)]at h1
 rw[vdot,h1]
 clear h1
 have key:∀m,m≤n→sumR m (fun i=>(vmul a b).getD i 0)=sumR m (fun i=>a.getD i 0*b.getD i 0):=by
  intro m
  induction m with
  |zero=>intro _;rfl
  |succ m ih=>intro h;rw[sumR,sumR,ih (by omega),zip_get (d1:=0) (d2:=0) (by omega) (by omega)]
 exact key n (Nat.le_refl _)
section
variable (x y:Nat→Rat)
end
end Go.Proofs.YtbopchpncgdaaaaGreatDoor
namespace Go.Proofs.YtbopchpncgdaaaaGreatDoor
open Go.Sx
set_option linter.unusedSimpArgs false
set_option linter.unusedVariables false
set_option maxRecDepth 100000
set_option maxHeartbeats 4000000
theorem Sm_zip {op:Rat→Rat→Rat} {a b:List Rat} {A B:Nat} (hop:∀x y,fs (op x y)≤fs x+fs y) (ha:Sm A a) (hb:Sm B b) (hab:a.length=b.length):Sm (A+B) (List.zipWith op a b):=by
 intro i hi
 rw[List.length_zipWith]at hi
 rw[zip_get (d1:=0) (d2:=0) (by omega) (by omega)]
 have h1:=hop (a.getD i 0) (b.getD i 0)
 have h2:=ha i (by omega)
 have h3:=hb i (by omega)
 omega
theorem fsL_Sm:∀{l:List Rat} {B:Nat},Sm B l→fsL l≤l.length*B
 |[],_,_=>by simp[fsL]
 |q::l,B,h=>by
  have h1:=h 0 (by simp)
  have h2:=fsL_Sm (l:=l) (B:=B) (fun i hi=>h (i+1) (by simpa using hi))
  have e:fsL (q::l)=fs q+fsL l:=by simp[fsL]
  rw[e,List.length_cons,Nat.succ_mul]
  have:fs q≤B:=h1
  omega
theorem Fit_Sm {a b:List Rat} {A B:Nat} (ha:Sm A a) (hb:Sm B b) (hab:a.length=b.length) (h:A+B≤1073741824):Fit a b:=by
 intro i hi
 have h1:=ha i hi
 have h2:=hb i (by omega)
 omega
theorem fs_vdot {a b:List Rat} {A B n:Nat} (ha:Sm A a) (hb:Sm B b) (h1:a.length=n) (h2:b.length=n):fs (vdot a b)≤2+n*(A+B):=by
 have h:=fsL_Sm (Sm_zip fs_mul ha hb (h1.trans h2.symm))
 rw[zip_len h1 h2]at h
 have h3:=fs_sum (vmul a b) 0
 rw[fs_zero]at h3
 unfold vdot
 exact Nat.le_trans h3 (Nat.add_le_add_left h 2)
abbrev QWf (l:List (Int×Int)):Prop:=l.length≤maxLen∧∀x∈l,((Lit.int .i64 x.1).wf=true)∧((Lit.int .u32 x.2).wf=true)
theorem qOK_of {l:List (Int×Int)} (w:l.length≤maxLen∧∀x∈l,((Lit.int .i64 x.1).wf=true)∧((Lit.int .u32 x.2).wf=true)):∀q∈l,qOK q:=fun q hq=>⟨wf_i64 (w.2 q hq).1,wf_u32 (w.2 q hq).2⟩
theorem Sm_le {A B:Nat} {l:List Rat} (h:A≤B) (ha:Sm A l):Sm B l:=fun i hi=>Nat.le_trans (ha i hi) h
section
variable {a b z:List Rat} {n i:Nat} {c:Rat}
theorem get_zero (hi:i<n):(List.replicate n (0:Rat)).getD i 0=0:=by simp[List.getD_eq_getElem?_getD,hi]
theorem s_same (ha:a.length=n) (hb:b.length=n) (hn:n≤2048) (h:a=b):CallOK Tryz.prog 58 [fvec a,fvec b] [] (.val (.bool true)) [] []:=by
 have:=v_Same a b (by omega) (by omega)
 rwa [decide_eq_true h]at this
end
end Go.Proofs.YtbopchpncgdaaaaGreatDoor
namespace Go.Proofs.YtbopchpncgdaaaaGreatDoor
open Go.Sx
set_option linter.unusedSimpArgs false
set_option linter.unusedVariables false
set_option maxRecDepth 100000
set_option maxHeartbeats 4000000
abbrev mturn (r c:Nat) (a:List Rat):List Rat:=mk c r fun i k=>el a c k i
end Go.Proofs.YtbopchpncgdaaaaGreatDoor
namespace Go.Proofs.YtbopchpncgdaaaaGreatDoor
open Go.Sx
set_option linter.unusedSimpArgs false
set_option linter.unusedVariables false
set_option maxRecDepth 100000
set_option maxHeartbeats 4000000
abbrev MV:=Int×Int×List Rat
abbrev mB (m:MV):SV:=mA m.1 m.2.1 m.2.2
def allF:List MV→Int
 |[]=>0
 |m::l=>if checkF m.1 m.2.1 m.2.2.length≠0 then checkF m.1 m.2.1 m.2.2.length else allF l
theorem drop_one {α:Type} {l:List α} {i:Nat} (d:α) (h:i<l.length):l.drop i=l.getD i d::l.drop (i+1):=by
 rw[List.drop_eq_getElem_cons h,List.getD_eq_getElem?_getD,List.getElem?_eq_getElem h];rfl
abbrev nilM:MV:=(0,0,[])
theorem m_all (l:List MV) (hl:l.length<1099511627776) (h:∀m∈l,m.2.2.length<1099511627776):CallOK Tryz.prog 95 [mvec 3 mB l] [] (iv (allF l)) [] []:=by
 refine callV (Z:=[]) tabOK mixedOK Tryz.func95 rfl (by kernel_rfl) rfl rfl (by kernel_rfl) rfl ?_
 intro W0 w0 ρ0 hE
 conv=>whnf
 (repeat(first|(refine g_o (op_lenM rfl rfl rfl (ev_ok rfl) (tgt rfl) rfl) ?_;conv=>whnf)))
 refine SW_loopN hE (fun k=>k) [0,6,7,8] [] (fun m fr hp=>∃i:Nat,m=l.length - i∧i≤l.length∧allF (l.drop i)=allF l∧fr=[(0,mvec 3 mB l),(6,mvec 3 mB l),(7,iv (l.length:Nat)),(8,iv (i:Nat))]∧hp=[]) l.length ?_ ?_ ?_
 ·kernel_rfl
 ·exact⟨0,rfl,Nat.zero_le _,rfl,rfl,rfl⟩
 rintro m _ _ ⟨i,rfl,hi,hs,rfl,rfl⟩
 conv=>whnf
 by_cases hlt:i<l.length
 ·have t1:=dlt hlt
  have t2:=winc (i:=i) (by omega)
  have k1:=m_Check (l.getD i nilM).1 (l.getD i nilM).2.1 (l.getD i nilM).2.2 (h _ (getD_mem hlt))
  rw[drop_one nilM hlt,allF]at hs
  by_cases hc:checkF (l.getD i nilM).1 (l.getD i nilM).2.1 (l.getD i nilM).2.2.length=0
  ·rw[if_neg (by omega)]at hs
   rw[hc]at k1
   (repeat((first|refine step_w1 rfl rfl ?_|refine step_w2 rfl rfl ?_|refine g_c (by assumption) ?_|rw[bne_self_eq_false]|refine g_o (op_loadA rfl (ev_ok rfl) (tgt rfl) rfl (Nat.succ_ne_zero _) rfl) ?_|refine g_o (op_indexN (α:=MV) (d:=nilM) rfl (ev_ok rfl) (ev_ok rfl) (tgt rfl) rfl (tgt rfl) rfl (by omega)) ?_|rw[t1]|rw[t2]);conv=>whnf))
   exact⟨l.length - (i+1),fun k=>k,[0,6,7,8],[],by omega,by kernel_rfl,i+1,rfl,hlt,hs,rfl,rfl⟩
  ·have t3:(checkF (l.getD i nilM).1 (l.getD i nilM).2.1 (l.getD i nilM).2.2.length != 0)=true:=bne_iff_ne.2 hc
   rw[if_pos hc]at hs
   rw[←hs]
   (repeat((first|refine step_w1 rfl rfl ?_|refine g_c (by assumption) ?_|refine g_o (op_loadA rfl (ev_ok rfl) (tgt rfl) rfl (Nat.succ_ne_zero _) rfl) ?_|refine g_o (op_indexN (α:=MV) (d:=nilM) rfl (ev_ok rfl) (ev_ok rfl) (tgt rfl) rfl (tgt rfl) rfl (by omega)) ?_|rw[t1]|rw[t3]);conv=>whnf));(first|exact Recast.refl _|exact Frz.recast (Recast.refl _) rfl|(refine Frz.one rfl rfl ?_;skip)|(refine Frz.tup ?_;skip))
 ·have t1:=dge hlt
  have hI:i=l.length:=by omega
  rw[hI,List.drop_length]at hs
  rw[←hs]
  (repeat(first|(refine step_w2 rfl rfl ?_;conv=>whnf)|(rw[t1];conv=>whnf)));(first|exact Recast.refl _|exact Frz.recast (Recast.refl _) rfl|(refine Frz.one rfl rfl ?_;skip)|(refine Frz.tup ?_;skip))
theorem m_all1 {r c:Nat} {a:List Rat} (ha:OKM r c a):CallOK Tryz.prog 95 [mvec 3 mB [((r:Int),(c:Int),a)]] [] (iv 0) [] []:=by
 have:=m_all [((r:Int),(c:Int),a)] (by simp) (by
  intro m hm
  have h1:=ha.small
  simp only[List.mem_cons,List.not_mem_nil,or_false]at hm
  obtain rfl:=hm
  show a.length<_;omega)
 rwa [allF,if_neg (by rw[check_ok ha.r ha.c ha.n];decide),allF]at this
def shortF (l:List (List Rat)):Int:=if l.any (fun v=>decide (2048<v.length))then 3 else 0
theorem m_short (ls:List (List Rat)) (hn:ls.length<1099511627776) (hl:∀v∈ls,v.length<1099511627776):CallOK Tryz.prog 128 [mvec 1 fvec ls] [] (iv (shortF ls)) [] []:=by
 refine callV (Z:=[]) tabOK mixedOK Tryz.func128 rfl (by kernel_rfl) rfl rfl (by kernel_rfl) rfl ?_
 intro W0 w0 ρ0 hE
 conv=>whnf
 (repeat(first|(refine g_o (op_lenM rfl rfl rfl (ev_ok rfl) (tgt rfl) rfl) ?_;conv=>whnf)))
 refine SW_loopN hE (fun k=>k) [0,5,6,7] [] (fun m fr hp=>∃i:Nat,m=ls.length - i∧i≤ls.length∧(∀j,j<i→decide (2048<(ls.getD j []).length)=false)∧fr=[(0,mvec 1 fvec ls),(5,mvec 1 fvec ls),(6,iv (ls.length:Nat)),(7,iv (i:Nat))]∧hp=[]) ls.length ?_ ?_ ?_
 ·kernel_rfl
 ·exact⟨0,rfl,Nat.zero_le _,(fun j hj=>by omega),rfl,rfl⟩
 rintro m _ _ ⟨i,rfl,hi,hs,rfl,rfl⟩
 conv=>whnf
 by_cases hlt:i<ls.length
 ·have t1:=dlt hlt
  have t2:=winc (i:=i) (by omega)
  by_cases hL:2048<(ls.getD i []).length
  ·have t3:decide (((ls.getD i []).length:Int)>2048)=true:=decide_eq_true (by omega)
   have e:shortF ls=3:=by rw[shortF,if_pos (any_at (d:=[]) hlt (decide_eq_true hL))]
   rw[e]
   (repeat((first|refine step_w1 rfl rfl ?_|refine g_o (op_lenM rfl rfl rfl (ev_ok rfl) (tgt rfl) rfl) ?_|refine g_o (op_loadA rfl (ev_ok rfl) (tgt rfl) rfl (Nat.succ_ne_zero _) rfl) ?_|refine g_o (op_indexN (α:=List Rat) (d:=[]) rfl (ev_ok rfl) (ev_ok rfl) (tgt rfl) rfl (tgt rfl) rfl (by omega)) ?_|rw[t1]|rw[t3]);conv=>whnf));(first|exact Recast.refl _|exact Frz.recast (Recast.refl _) rfl|(refine Frz.one rfl rfl ?_;skip)|(refine Frz.tup ?_;skip))
  ·have t3:decide (((ls.getD i []).length:Int)>2048)=false:=decide_eq_false (by omega)
   (repeat((first|refine step_w1 rfl rfl ?_|refine step_w2 rfl rfl ?_|refine g_o (op_lenM rfl rfl rfl (ev_ok rfl) (tgt rfl) rfl) ?_|refine g_o (op_loadA rfl (ev_ok rfl) (tgt rfl) rfl (Nat.succ_ne_zero _) rfl) ?_|refine g_o (op_indexN (α:=List Rat) (d:=[]) rfl (ev_ok rfl) (ev_ok rfl) (tgt rfl) rfl (tgt rfl) rfl (by omega)) ?_|rw[t1]|rw[t3]|rw[t2]);conv=>whnf))
   refine⟨ls.length - (i+1),fun k=>k,[0,5,6,7],[],by omega,by kernel_rfl,i+1,rfl,hlt, ?_,rfl,rfl⟩
   intro j hj
   by_cases hji:j=i
   ·rw[hji];exact decide_eq_false hL
   ·exact hs j (by omega)
 ·have t1:=dge hlt
  have hI:i=ls.length:=by omega
  subst hI
  have e:shortF ls=0:=by rw[shortF,if_neg];rw[any_no [] hs];exact Bool.false_ne_true
  rw[e]
  (repeat(first|(refine step_w2 rfl rfl ?_;conv=>whnf)|(rw[t1];conv=>whnf)));(first|exact Recast.refl _|exact Frz.recast (Recast.refl _) rfl|(refine Frz.one rfl rfl ?_;skip)|(refine Frz.tup ?_;skip))
end Go.Proofs.YtbopchpncgdaaaaGreatDoor
namespace Go.Sx
set_option linter.unusedSimpArgs false
set_option linter.unusedVariables false
section
variable {P:Program} {o:Oper} {ft:List (Nat×SV)} {fk:List (Nat×Blk)}
end
end Go.Sx
namespace Go.Proofs.YtbopchpncgdaaaaGreatDoor
open Go.Sx
set_option linter.unusedSimpArgs false
set_option linter.unusedVariables false
set_option maxRecDepth 100000
set_option maxHeartbeats 4000000
theorem m_Make1 {r c:Nat} (hr:r≤2048) (hc:c≤2048) (F:Nat→Nat→Rat) (g:FuncId) (p:Pred)
  (hf:∀i k,i<r→k<c→CallOK Tryz.prog g ([]++([iv (i:Nat),iv (k:Nat)]++[.atom p])) [] (.frac (F i k)) [] []):
  CallOK Tryz.prog 96 [iv r,iv c,.clo g [] [.atom p]] [] (.tup [mA r c (mk r c F),iv 0]) [] []:=by
 have k1:=m_sides r c
 rw[sides_of (by omega)]at k1
 have hz:(mk r c F).length=r*c:=mk_len ..
 have hrc:r*c≤2048*2048:=Nat.mul_le_mul hr hc
 have t1:IntKind.i64.wrap ((r:Int)*(c:Int))=((r*c:Nat):Int):=by rw[←Int.natCast_mul,wrap_i64 (by omega) (by omega)]
 refine callF (Z:=[]) tabOK mixedOK Tryz.func96 rfl (by kernel_rfl) (by first|rfl|(simp[keylessL,keyless,keylessL_map, *];done)) (by first|rfl|(simp[keylessL,keyless,keylessL_map, *];done)) (by kernel_rfl) rfl ?_
 intro w0 ρ0 hE
 conv=>whnf
 (repeat((first|refine step_w2 rfl rfl ?_|refine step_oA (by first|omega|decide|(simp only[tl0,dlen,List.length_replicate,List.length_set,List.length_map,List.length_zipWith,List.length_take,List.length_append,List.length_cons,List.length_nil];omega)) ?_|refine g_c (by assumption) ?_|rw[bne_self_eq_false]|refine⟨_,op_eqNilF rfl (ev_ok rfl) (ev_ok rfl) Tryz.underlying142, ?_⟩|rw[t1]|rw[Int.toNat_natCast]);conv=>whnf))
 refine SW_loopN hE (fun k=>k) [0,1,2,6,9,30,31] [6,9,25] (fun m fr hp=>∃i:Nat,m=r - i∧i≤r∧fr=[(0,iv r),(1,iv c),(2,.clo g [] [.atom p]),(6,.ptr 6 0 0 0),(9,.ptr 9 0 0 0),(30,iv r),(31,iv (i:Nat))]∧
  hp=[(6,zM),(9,bM r c 25),(25,fblk ((mk r c F).take (i*c)++List.replicate (r*c - i*c) 0))]) r ?_ ?_ ?_
 ·kernel_rfl
 ·exact⟨0,rfl,Nat.zero_le _,rfl,by rw[Nat.zero_mul,List.take_zero];rfl⟩
 rintro m _ _ ⟨i,rfl,hi,rfl,rfl⟩
 conv=>whnf
 by_cases hlt:i<r
 ·have t2:=dlt hlt
  have t3:=winc (i:=i) (by omega)
  have hic:(i+1)*c≤r*c:=Nat.mul_le_mul_right c hlt
  rw[Nat.succ_mul]at hic
  have hlen:=fill_len (d:=(0:Rat)) (show i*c≤r*c by omega) hz
  have o1:=m_rowM (a:=(mk r c F).take (i*c)++List.replicate (r*c - i*c) 0) ⟨hr,hc,hlen⟩ hlt 25
  (repeat(first|(refine step_w1 rfl rfl ?_;conv=>whnf)|(refine g_c1 (by assumption) rfl ?_;conv=>whnf)|(rw[t2];conv=>whnf)))
  refine SW_loopN hE (fun k=>k) [0,1,2,6,9,10,11,30,31,37,38] [6,9,25] (fun m fr hp=>∃k:Nat,m=c - k∧k≤c∧fr=[(0,iv r),(1,iv c),(2,.clo g [] [.atom p]),(6,.ptr 6 0 0 0),(9,.ptr 9 0 0 0),(10,iv (i:Nat)),(11,.slc 25 5 (i*c) c),(30,iv r),(31,iv (i:Nat)),(37,iv c),(38,iv (k:Nat))]∧
   hp=[(6,zM),(9,bM r c 25),(25,fblk ((mk r c F).take (i*c+k)++List.replicate (r*c - (i*c+k)) 0))]) c ?_ ?_ ?_
  ·kernel_rfl
  ·exact⟨0,rfl,Nat.zero_le _,rfl,rfl⟩
  rintro m _ _ ⟨k,rfl,hk,rfl,rfl⟩
  conv=>whnf
  by_cases hlk:k<c
  ·have t4:=dlt hlk
   have t5:=winc (i:=k) (by omega)
   have hlen:=fill_len (d:=(0:Rat)) (show i*c+k≤r*c by omega) hz
   have o2:=hf i k hlt hlk
   rw[←mk_el (f:=F) hlt hlk]at o2
   (repeat((first|refine step_w1 rfl rfl ?_|refine step_oL (by first|omega|decide|(simp only[tl0,dlen,List.length_replicate,List.length_set,List.length_map,List.length_zipWith,List.length_take,List.length_append,List.length_cons,List.length_nil];omega)) ?_|refine step_oA (by first|omega|decide|(simp only[tl0,dlen,List.length_replicate,List.length_set,List.length_map,List.length_zipWith,List.length_take,List.length_append,List.length_cons,List.length_nil];omega)) ?_|refine g_c (by assumption) ?_|rw[t4]|rw[t5]|rw[Int.toNat_natCast]);conv=>whnf))
   refine⟨c - (k+1),fun k=>k,[0,1,2,6,9,10,11,30,31,37,38],[6,9,25],by omega,by kernel_rfl,k+1,rfl,hlk,rfl, ?_⟩
   rw[show i*c+(k+1)=i*c+k+1 from rfl,fblk,←fill_set (e:=0) (show i*c+k<r*c by omega) hz]
   rfl
  ·have t4:=dge hlk
   obtain rfl:k=c:=by omega
   (repeat(first|(refine step_w2 rfl rfl ?_;conv=>whnf)|(rw[t4];conv=>whnf)|(rw[t3];conv=>whnf)))
   refine⟨r - (i+1),fun k=>k,[0,1,2,6,9,30,31],[6,9,25],by omega,by kernel_rfl,i+1,rfl,hlt,rfl, ?_⟩
   rw[Nat.succ_mul]
   rfl
 ·have t2:=dge hlt
  obtain rfl:i=r:=by omega
  rw[fill_all hz]
  (repeat(first|(refine step_w2 rfl rfl ?_;conv=>whnf)|(rw[t2];conv=>whnf)))
  (first|exact Recast.refl _|exact Frz.recast (Recast.refl _) rfl|(refine Frz.one rfl rfl ?_;skip)|(refine Frz.tup ?_;(repeat(first|exact FrzC.keyless rfl|exact FrzL.nil|refine FrzL.cons ?_ ?_|(refine FrzC.fracs rfl ?_;(first|rfl|omega|(simp<;>fail)|(simp<;>omega)))|refine FrzC.agg ?_))))
end Go.Proofs.YtbopchpncgdaaaaGreatDoor
namespace Go.Proofs.YtbopchpncgdaaaaGreatDoor
open Go.Sx
set_option linter.unusedSimpArgs false
set_option linter.unusedVariables false
set_option maxRecDepth 100000
set_option maxHeartbeats 4000000
theorem m_Turn1 {r c:Nat} {a:List Rat} (ha:OKM r c a) (i k:Nat) (hi:i<c) (hk:k<r):CallOK Tryz.prog 99 ([]++([iv (i:Nat),iv (k:Nat)]++[ptrA (mC r c a)])) [] (.frac (el a c k i)) [] []:=by
 have k1:=m_at ha hk hi
 refine callV (Z:=[]) tabOK mixedOK Tryz.func99 rfl (by kernel_rfl) rfl rfl (by kernel_rfl) rfl ?_
 intro W0 w0 ρ0 hE
 conv=>whnf
 (repeat(first|(refine g_c (by assumption) ?_;conv=>whnf)|(refine g_o (op_loadA rfl (ev_ok rfl) (tgt rfl) rfl (Nat.succ_ne_zero _) rfl) ?_;conv=>whnf)));(first|exact Recast.refl _|exact Frz.recast (Recast.refl _) rfl|(refine Frz.one rfl rfl ?_;skip)|(refine Frz.tup ?_;skip))
theorem m_Turn {r c:Nat} {a:List Rat} (ha:OKM r c a):CallOK Tryz.prog 39 [mA r c a] [] (.tup [mA c r (mturn r c a),iv 0]) [] []:=by
 have k0:=m_Check0 ha
 have k1:=m_Make1 ha.c ha.r _ 99 (ptrP (mC r c a)) (fun i k hi hk=>m_Turn1 ha i k hi hk)
 refine callV (Z:=[1]) tabOK mixedOK Tryz.func39 rfl (by kernel_rfl) rfl rfl (by kernel_rfl) rfl ?_
 intro W0 w0 ρ0 hE
 conv=>whnf
 (repeat((first|refine step_w2 rfl rfl ?_|refine g_c (by assumption) ?_|rw[bne_self_eq_false]|refine g_o (op_loadA rfl (ev_ok rfl) (tgt rfl) rfl (Nat.succ_ne_zero _) rfl) ?_|refine g_o (op_fieldA rfl (ev_ok rfl) (tgt rfl) rfl rfl (Nat.succ_ne_zero _) rfl) ?_|refine g_o (op_makeFunc rfl rfl rfl) ?_);conv=>whnf));(first|exact Recast.refl _|exact Frz.recast (Recast.refl _) rfl|(refine Frz.one rfl rfl ?_;skip)|(refine Frz.tup ?_;skip))
end Go.Proofs.YtbopchpncgdaaaaGreatDoor
namespace Go.Proofs.YtbopchpncgdaaaaGreatDoor
open Go.Sx
set_option linter.unusedSimpArgs false
set_option linter.unusedVariables false
set_option maxRecDepth 100000
set_option maxHeartbeats 4000000
theorem row_dot {r c i:Nat} {a v:List Rat} (ha:a.length=r*c) (hv:v.length=c) (hi:i<r):vdot (rowL a c i) v=(mapply r c a v).getD i 0:=by
 rw[vdot_sum (rowL_len hi ha) hv,mapply_get hi]
 exact sum_congr c fun k hk=>by rw[rowL_get hk]
theorem m_Apply {r c A B:Nat} (C:Nat) {a v:List Rat} (ha:OKM r c a) (hv:v.length=c) (sa:Sm A a) (sv:Sm B v) (hC:c≤C) (h:A+B+(2+C*(A+B))≤1073741824):
  CallOK Tryz.prog 57 [mA r c a,fvec v] [] (.tup [fvec (mapply r c a v),iv 0]) [] []:=by
 have hr:=ha.r
 have hc:=ha.c
 have k0:=m_all1 ha
 have k1:=m_short [v] (by simp) (by simp;omega)
 rw[show shortF [v]=0 from by simp[shortF];omega]at k1
 have t0:((v.length:Int) != (c:Int))=false:=by rw[hv];exact bne_self_eq_false _
 have hz:(mapply r c a v).length=r:=mapply_len
 refine callF (Z:=[2,11,17]) tabOK mixedOK Tryz.func57 rfl (by kernel_rfl) (by first|rfl|(simp[keylessL,keyless,keylessL_map, *];done)) (by first|rfl|(simp[keylessL,keyless,keylessL_map, *];done)) (by kernel_rfl) rfl ?_
 intro w0 ρ0 hE
 conv=>whnf
 (repeat((first|refine step_w2 rfl rfl ?_|refine step_oA (by first|omega|decide|(simp only[tl0,dlen,List.length_replicate,List.length_set,List.length_map,List.length_zipWith,List.length_take,List.length_append,List.length_cons,List.length_nil];omega)) ?_|refine g_c (by assumption) ?_|rw[bne_self_eq_false]|refine g_o (op_lenM rfl rfl rfl (ev_ok rfl) (tgt rfl) rfl) ?_|refine g_o (op_loadA rfl (ev_ok rfl) (tgt rfl) rfl (Nat.succ_ne_zero _) rfl) ?_|refine g_o (op_fieldA rfl (ev_ok rfl) (tgt rfl) rfl rfl (Nat.succ_ne_zero _) rfl) ?_|rw[t0]|rw[Int.toNat_natCast]);conv=>whnf))
 refine SW_loopN hE (fun k=>k) [1,2,8,31,32] [29] (fun m fr hp=>∃i:Nat,m=r - i∧i≤r∧fr=[(1,fvec v),(2,ptrA (mC r c a)),(8,.slc 29 5 0 r),(31,iv r),(32,iv (i:Nat))]∧hp=[(29,fblk ((mapply r c a v).take i++List.replicate (r - i) 0))]) r ?_ ?_ ?_
 ·kernel_rfl
 ·exact⟨0,rfl,Nat.zero_le _,rfl,rfl⟩
 rintro m _ _ ⟨i,rfl,hi,rfl,rfl⟩
 have hlen:=fill_len (d:=(0:Rat)) hi hz
 conv=>whnf
 by_cases hlt:i<r
 ·have t1:=dlt hlt
  have t2:=winc (i:=i) (by omega)
  have o1:=m_rowV ha hlt
  have l1:=rowL_len hlt ha.n
  have s1:=Sm_row sa ha.n hlt
  have hs:fsL (vmul (rowL a c i) v)≤_:=fsL_Sm (Sm_zip fs_mul s1 sv (l1.trans hv.symm))
  rw[zip_len l1 hv]at hs
  have hC2:=Nat.mul_le_mul_right (A+B) hC
  have o2:=v_Dot (rowL a c i) v (l1.trans hv.symm) (by omega) (Fit_Sm s1 sv (l1.trans hv.symm) (by omega)) (by omega)
  rw[row_dot ha.n hv hlt]at o2
  clear hs hC2 s1
  (repeat((first|refine step_w1 rfl rfl ?_|refine step_oL (by first|omega|decide|(simp only[tl0,dlen,List.length_replicate,List.length_set,List.length_map,List.length_zipWith,List.length_take,List.length_append,List.length_cons,List.length_nil];omega)) ?_|refine step_oA (by first|omega|decide|(simp only[tl0,dlen,List.length_replicate,List.length_set,List.length_map,List.length_zipWith,List.length_take,List.length_append,List.length_cons,List.length_nil];omega)) ?_|refine g_c (by assumption) ?_|refine g_o (op_loadA rfl (ev_ok rfl) (tgt rfl) rfl (Nat.succ_ne_zero _) rfl) ?_|rw[t1]|rw[t2]|rw[Int.toNat_natCast]|rw[Nat.zero_add]);conv=>whnf))
  refine⟨r - (i+1),fun k=>k,[1,2,8,31,32],[29],by omega,by kernel_rfl,i+1,rfl,hlt,rfl, ?_⟩
  rw[fblk,←fill_set (e:=0) hlt hz]
  rfl
 ·have t1:=dge hlt
  have hI:i=r:=by omega
  subst hI
  rw[fill_all hz]
  (repeat(first|(refine step_w2 rfl rfl ?_;conv=>whnf)|(rw[t1];conv=>whnf)))
  (first|exact Recast.refl _|exact Frz.recast (Recast.refl _) rfl|(refine Frz.one rfl rfl ?_;skip)|(refine Frz.tup ?_;(repeat(first|exact FrzC.keyless rfl|exact FrzL.nil|refine FrzL.cons ?_ ?_|(refine FrzC.fracs rfl ?_;(first|rfl|omega|(simp<;>fail)|(simp<;>omega)))))))
theorem fs_dot {a b:List Rat} {A B n N:Nat} (ha:Sm A a) (hb:Sm B b) (h1:a.length=n) (h2:b.length=n) (hn:n≤N):fs (vdot a b)≤2+N*(A+B):=by
 have:=fs_vdot ha hb h1 h2
 have:=Nat.mul_le_mul_right (A+B) hn
 omega
theorem Sm_apply {r c A B C:Nat} {a v:List Rat} (ha:a.length=r*c) (hv:v.length=c) (sa:Sm A a) (sv:Sm B v) (hC:c≤C):Sm (2+C*(A+B)) (mapply r c a v):=by
 intro i hi
 rw[mapply_len]at hi
 rw[←row_dot ha hv hi]
 exact fs_dot (Sm_row sa ha hi) sv (rowL_len hi ha) hv hC
end Go.Proofs.YtbopchpncgdaaaaGreatDoor
namespace Go.Sx
set_option linter.unusedSimpArgs false
set_option linter.unusedVariables false
theorem Opens.struct3 {H:Type} {enc:TypeId×Value→H} {P:Program} {W:World} {hg:TabsW W} {t:TypeId} {f0 f1 f2:Field} {α β γ:Type} {a:α→SV} {b:β→SV} {c:γ→SV} {ga:α→Prop} {gb:β→Prop} {gc:γ→Prop} (ht:P.underlying t=some (.struct #[f0,f1,f2])) (o0:f0.offset=0) (o1:f1.offset=P.cellsOf f0.type)
  (o2:f2.offset=P.cellsOf f0.type+P.cellsOf f1.type) (hc:P.cellsOf t=P.cellsOf f0.type+P.cellsOf f1.type+P.cellsOf f2.type)
  (h0:Opens enc P hg f0.type a ga) (h1:Opens enc P hg f1.type b gb) (h2:Opens enc P hg f2.type c gc):Opens enc P hg t (ag3 a b c) (fun p=>ga p.1∧gb p.2.1∧gc p.2.2):=fun fuel cs x h=>by
 obtain⟨xs,n,rfl,_,hlen,hxl,hf⟩:=DataW.trod_struct ht h
 have hx0:xs.length=3:=hxl
 obtain⟨y0,y1,y2,rfl⟩:∃y0 y1 y2,xs=[y0,y1,y2]:=by
  match xs,hx0 with
  |[y0,y1,y2],_=>exact⟨y0,y1,y2,rfl⟩
 have g0:=hf 0 f0 rfl
 have g1:=hf 1 f1 rfl
 have g2:=hf 2 f2 rfl
 obtain⟨p,p1,p2⟩:=h0 _ _ _ g0
 obtain⟨q,q1,q2⟩:=h1 _ _ _ g1
 obtain⟨r,r1,r2⟩:=h2 _ _ _ g2
 refine⟨(p,q,r),⟨p1,q1,r1⟩, ?_⟩
 simp only[ag3,HasC]
 refine⟨[_,_,_],by simp only[HasZ];exact⟨_,_,rfl,p2,_,_,rfl,q2,_,_,rfl,r2,rfl⟩, ?_⟩
 simp only[List.flatten_cons,List.flatten_nil,List.append_nil,o0,o1,o2,List.drop_zero]
 rw[List.take_of_length_le (l:=cs.drop (P.cellsOf f0.type+P.cellsOf f1.type)) (by rw[List.length_drop];omega),←List.drop_drop,List.take_append_drop,List.take_append_drop]
end Go.Sx
namespace Go.Proofs.YtbopchpncgdaaaaGreatDoor
open Go.Sx
set_option linter.unusedSimpArgs false
set_option linter.unusedVariables false
set_option maxRecDepth 100000
set_option maxHeartbeats 4000000
def mOK (m:MM):Prop:=(0≤m.1∧m.1<256)∧(0≤m.2.1∧m.2.1<256)∧m.2.2.length≤maxLen∧∀q∈m.2.2,qOK q
theorem Sm_some {l:List (Int×Int)} (h:∀q∈l,qOK q) (n:Nat):Sm 130 (someL l n):=by
 intro p hp
 rw[someL_len]at hp
 rw[someL_get hp];exact fs_qV (qOK_at h p)
theorem OKM_some (l:List (Int×Int)) {r c:Nat} (hr:r≤2048) (hc:c≤2048):OKM r c (someL l (r*c)):=⟨hr,hc,someL_len ..⟩
theorem wrap_u8 {n:Int} (h0:0≤n) (h:n<256):IntKind.u8.wrap n=n:=by
 simp[IntKind.wrap,IntKind.bits,IntKind.signed];omega
theorem app_one {α:Type} {l:List α} {i:Nat} {d:α} (h:i<l.length):l.take (i+1)=(l.take i).take i++(([l.getD i d]:List α).drop 0).take 1:=(app_snoc h).symm
theorem c_Some (m:MM) (hm:mOK m) {r c:Nat} (hr:r≤12) (hc:c≤12):CallOK Tryz.prog 31 [mQ m,iv r,iv c] [] (mA r c (someL m.2.2 (r*c))) [] []:=by
 obtain⟨A,B,l⟩:=m
 obtain⟨_,_,hl,hq⟩:=hm
 replace hl:l.length≤maxLen:=hl
 have hz:=someL_len l (r*c)
 have hN:r*c≤12*12:=Nat.mul_le_mul hr hc
 have t0:IntKind.i64.wrap ((r:Int)*(c:Int))=((r*c:Nat):Int):=by rw[←Int.natCast_mul,wrap_i64 (by omega) (by omega)]
 generalize r*c=N at*
 refine callF (Z:=[3]) tabOK mixedOK Tryz.func31 rfl (by kernel_rfl) (by first|rfl|(simp[keylessL,keyless,keylessL_map, *];done)) (by first|rfl|(simp[keylessL,keyless,keylessL_map, *];done)) (by kernel_rfl) rfl ?_
 intro w0 ρ0 hE
 conv=>whnf
 skip
 refine SWx_adoptB (j:=7) (k:=2001) (s:=5) (p:=2) (blk:=fblk []) rfl rfl rfl rfl rfl ?_
 refine SW_loopS hE (fun k=>k) [1,2,3,6,7,8] [6,7,2001] (fun m fr hp=>∃i:Nat,m=N - i∧i≤N∧fr=[(1,iv r),(2,iv c),(3,ptrA [iel .u8 A,iel .u8 B,mvec 2 qA l]),(6,.ptr 6 0 0 0),(7,.ptr 7 0 0 0),(8,iv (i:Nat))]∧
  hp=[(6,zM),(7,⟨24,true,.one [iv r,iv c,.slc 2001 5 0 i]⟩),(2001,fblk ((someL l N).take i))]) N ?_ ?_ ?_
 ·kernel_rfl
 ·exact⟨0,rfl,Nat.zero_le _,rfl,rfl⟩
 rintro m _ _ ⟨i,rfl,hi,rfl,rfl⟩
 have hlt0:((someL l N).take i).length=i:=by rw[List.length_take];omega
 by_cases hlt:i<N
 ·have t1:=dlt hlt
  have t2:=winc (i:=i) (by omega)
  have o1:=c_QOf (l.getD i (0,0)) (qOK_at hq i)
  rw[show qV (l.getD i (0,0))=(someL l N).getD i 0 from(someL_get hlt).symm]at o1
  have e1:=app_one (d:=(0:Rat)) (show i<(someL l N).length by omega)
  refine SWx.of hE ?_
  conv=>whnf
  by_cases hil:i<l.length
  ·have t3:=dlt hil
   (repeat((first|refine step_w1 rfl rfl ?_|refine step_i (by kernel_rfl) ?_|refine step_oA (by first|omega|decide|(simp only[tl0,dlen,List.length_replicate,List.length_set,List.length_map,List.length_zipWith,List.length_take,List.length_append,List.length_cons,List.length_nil];omega)) ?_|refine g_c (by assumption) ?_|refine g_o (op_lenM rfl rfl rfl (ev_ok rfl) (tgt rfl) rfl) ?_|refine g_o (op_loadA rfl (ev_ok rfl) (tgt rfl) rfl (Nat.succ_ne_zero _) rfl) ?_|refine g_o (op_indexN (α:=Int×Int) (d:=(0,0)) rfl (ev_ok rfl) (ev_ok rfl) (tgt rfl) rfl (tgt rfl) rfl (by omega)) ?_|refine g_o (op_fieldA rfl (ev_ok rfl) (tgt rfl) rfl rfl (Nat.succ_ne_zero _) rfl) ?_|rw[t0]|rw[t1]|rw[t3]|rw[t2]|rw[Nat.zero_add]);conv=>whnf))
   refine⟨N - (i+1),renBy [(36,2001)],[1,2,3,6,7,8],[6,7,36],by omega,by kernel_rfl,i+1,rfl,hlt,rfl, ?_⟩
   rw[e1];rfl
  ·have t3:=dge hil
   rw[show l.getD i (0,0)=(0,0)from by rw[List.getD_eq_getElem?_getD,List.getElem?_eq_none (by omega)];rfl]at o1
   (repeat((first|refine step_w1 rfl rfl ?_|refine step_w2 rfl rfl ?_|refine step_i (by kernel_rfl) ?_|refine step_oA (by first|omega|decide|(simp only[tl0,dlen,List.length_replicate,List.length_set,List.length_map,List.length_zipWith,List.length_take,List.length_append,List.length_cons,List.length_nil];omega)) ?_|refine g_c (by assumption) ?_|refine g_o (op_lenM rfl rfl rfl (ev_ok rfl) (tgt rfl) rfl) ?_|refine g_o (op_loadA rfl (ev_ok rfl) (tgt rfl) rfl (Nat.succ_ne_zero _) rfl) ?_|refine g_o (op_fieldA rfl (ev_ok rfl) (tgt rfl) rfl rfl (Nat.succ_ne_zero _) rfl) ?_|rw[t0]|rw[t1]|rw[t3]|rw[t2]|rw[Nat.zero_add]);conv=>whnf))
   refine⟨N - (i+1),renBy [(36,2001)],[1,2,3,6,7,8],[6,7,36],by omega,by kernel_rfl,i+1,rfl,hlt,rfl, ?_⟩
   rw[e1];rfl
 ·have t1:=dge hlt
  obtain rfl:i=N:=by omega
  rw[List.take_of_length_le (by omega)]
  refine SWx.of hE ?_
  conv=>whnf
  (repeat(first|(refine step_w2 rfl rfl ?_;conv=>whnf)|(rw[t0];conv=>whnf)|(rw[t1];conv=>whnf)))
  (first|exact Recast.refl _|exact Frz.recast (Recast.refl _) rfl|(refine Frz.one rfl rfl ?_;(repeat(first|exact FrzC.keyless rfl|exact FrzL.nil|refine FrzL.cons ?_ ?_|(refine FrzC.fracs rfl ?_;(first|rfl|omega|(simp<;>fail)|(simp<;>omega)))|refine FrzC.agg ?_)))|(refine Frz.tup ?_;skip))
end Go.Proofs.YtbopchpncgdaaaaGreatDoor
namespace Go.Proofs.YtbopchpncgdaaaaGreatDoor
open Go.Sx
set_option linter.unusedSimpArgs false
set_option linter.unusedVariables false
set_option maxRecDepth 100000
set_option maxHeartbeats 4000000
theorem Sm_turn {r c B:Nat} {a:List Rat} (ha:a.length=r*c) (sa:Sm B a):Sm B (mturn r c a):=Sm_mk fun _ _ hi hk=>el_sm sa ha hk hi
end Go.Proofs.YtbopchpncgdaaaaGreatDoor
namespace Go.Proofs.YtbopchpncgdaaaaGreatDoor
open Go.Sx
set_option linter.unusedSimpArgs false
set_option linter.unusedVariables false
set_option maxRecDepth 100000
set_option maxHeartbeats 8000000
theorem side_le (x:Int):(x % 7).toNat≤6:=by omega
abbrev MWf (m:MM):Prop:=((Lit.int .u8 m.1).wf=true)∧((Lit.int .u8 m.2.1).wf=true)∧(m.2.2.length≤maxLen∧∀x∈m.2.2,((Lit.int .i64 x.1).wf=true)∧((Lit.int .u32 x.2).wf=true))
theorem mOK_of {m:MM} (w:MWf m):mOK m:=⟨wf_u8 w.1,wf_u8 w.2.1,w.2.2.1,qOK_of w.2.2⟩
end Go.Proofs.YtbopchpncgdaaaaGreatDoor
namespace Go.Proofs.YtbopchpncgdaaaaGreatDoor
open Go.Sx
set_option linter.unusedSimpArgs false
set_option linter.unusedVariables false
set_option maxRecDepth 100000
set_option maxHeartbeats 8000000
theorem u8_mod (x:Int) (h:0≤x∧x<256) (m:Int) (hm:0<m∧m<256):IntKind.u8.wrap (x.tmod m)=x.tmod m∧IntKind.i64.wrap (x.tmod m)=((x % m).toNat:Nat):=by
 have h1:=Int.emod_nonneg x (show m≠0 by omega)
 have h2:=Int.emod_lt_of_pos x hm.1
 rw[Int.tmod_eq_emod_of_nonneg h.1]
 constructor
 ·exact wrap_u8 h1 (by omega)
 ·rw[wrap_i64 (by omega) (by omega)];omega
theorem OKM_turn {r c:Nat} {a:List Rat} (ha:OKM r c a):OKM c r (mturn r c a):=OKM_mk ha.c ha.r
end Go.Proofs.YtbopchpncgdaaaaGreatDoor
namespace Go.Proofs.YtbopchpncgdaaaaGreatDoor
open Go.Sx
set_option linter.unusedSimpArgs false
set_option linter.unusedVariables false
set_option maxRecDepth 100000
set_option maxHeartbeats 8000000
theorem c_MOf (m:MM) (hm:mOK m):CallOK Tryz.prog 25 [mQ m] [] (mA ((m.1 % 7).toNat:Nat) ((m.2.1 % 7).toNat:Nat) (someL m.2.2 ((m.1 % 7).toNat*(m.2.1 % 7).toNat))) [] []:=by
 obtain⟨e1,e2⟩:=u8_mod m.1 hm.1 7 (by decide)
 obtain⟨e3,e4⟩:=u8_mod m.2.1 hm.2.1 7 (by decide)
 have h1:=side_le m.1
 have h2:=side_le m.2.1
 generalize hr:(m.1 % 7).toNat=r at*
 generalize hc:(m.2.1 % 7).toNat=c at*
 have k1:=c_Some m hm (r:=r) (c:=c) (by omega) (by omega)
 refine callV (Z:=[]) tabOK mixedOK Tryz.func25 rfl (by kernel_rfl) rfl rfl (by kernel_rfl) rfl ?_
 intro W0 w0 ρ0 hE
 conv=>whnf
 (repeat((first|refine And.intro (by first|decide|omega|(simp only[tl0,dlen,List.length_replicate,List.length_set,List.length_map,List.length_zipWith,List.length_take,List.length_append,List.length_cons,List.length_nil];omega)) ?_|refine g_c (by assumption) ?_|rw[e2]|rw[e4]);conv=>whnf));(first|exact Recast.refl _|exact Frz.recast (Recast.refl _) rfl|(refine Frz.one rfl rfl ?_;skip)|(refine Frz.tup ?_;skip))
end Go.Proofs.YtbopchpncgdaaaaGreatDoor
namespace Go.Proofs.YtbopchpncgdaaaaGreatDoor
open Go.Sx
set_option linter.unusedSimpArgs false
set_option linter.unusedVariables false
set_option maxRecDepth 100000
set_option maxHeartbeats 40000000
theorem q_eq {a b:Rat} (h:a=b):eqTy tab good 10 53 (fracCells a) (fracCells b)=some true:=by rw[q_same,decide_eq_true h]
end Go.Proofs.YtbopchpncgdaaaaGreatDoor
namespace Go.Proofs.YtbopchpncgdaaaaGreatDoor
open Go.Sx
set_option linter.unusedSimpArgs false
set_option linter.unusedVariables false
set_option maxRecDepth 100000
set_option maxHeartbeats 4000000
section
variable {r c:Nat} {w:Mx} {piv:List Nat}
end
theorem rnk_le_c (r c:Nat) (W:Mx):rnk r c W≤c:=(Inv.red (r:=r) (W:=W) c).re.le
end Go.Proofs.YtbopchpncgdaaaaGreatDoor
namespace Go.Proofs.YtbopchpncgdaaaaGreatDoor
open Go.Sx
set_option linter.unusedSimpArgs false
set_option linter.unusedVariables false
set_option maxRecDepth 100000
set_option maxHeartbeats 4000000
theorem kvS_get {r c m k:Nat} {w:Mx} {sp:List Nat} {M:Nat→List Rat} (h:RE r c w sp) (hk:k<m) (hn:k∉sp) (hm:c≤m) (hM:∀j,j<sp.length→(M j).getD k 0=w j k):
  ∀i,i≤sp.length→∀q,q<m→(kvS M sp m k i).getD q 0=delta q k - sumR i fun j=>delta q (sp.getD j 0)*w j k
 |0,_,q,hq=>by
  rw[kvS,sumR]
  by_cases e:q=k
  ·subst e;simp[List.getD_eq_getElem?_getD,delta,hq];grind
  ·simp[List.getD_eq_getElem?_getD,delta,e,List.getElem?_set_ne (Ne.symm e),hq];grind
 |i+1,hi,q,hq=>by
  rw[kvS,sumR]
  have ih:=kvS_get h hk hn hm hM i (by omega) q hq
  by_cases e:sp.getD i 0=q
  ·have hz:sumR i (fun j=>delta q (sp.getD j 0)*w j k)=0:=sum_zeros fun j hj=>by
    rw[delta,if_neg fun g=>by have:=piv_inj h (i:=j) (j:=i) (by omega) (by omega) (by rw[←g,e]);omega];grind
   have hqk:q≠k:=fun g=>hn (mem_getDN.2 ⟨i,by omega,by rw[e,g]⟩)
   rw[hz,←e,List.getD_eq_getElem?_getD,List.getElem?_set_self (by rw[kvS_len,e];exact hq),e,hM i (by omega),delta,if_neg hqk,delta,if_pos rfl]
   simp only[Option.getD_some];grind
  ·rw[List.getD_eq_getElem?_getD,List.getElem?_set_ne e,←List.getD_eq_getElem?_getD,ih,show delta q (sp.getD i 0)=0 from if_neg (Ne.symm e)];grind
theorem kvL_get {r c m k:Nat} {w:Mx} {sp:List Nat} {M:Nat→List Rat} (h:RE r c w sp) (hk:k<m) (hn:k∉sp) (hm:c≤m) (hM:∀j,j<sp.length→(M j).getD k 0=w j k) {q:Nat} (hq:q<m):
  (kvL M sp m k).getD q 0=kv w sp k q:=kvS_get h hk hn hm hM _ (Nat.le_refl _) q hq
theorem sum_last {c:Nat} {f g:Nat→Rat} (h:∀q,q<c→f q=g q):sumR (c+1) f=sumR c g+f c:=by rw[sumR,sum_congr c h]
def extV (x:Nat→Rat) (c q:Nat):Rat:=if q<c then x q else -1
theorem extV_lt {x:Nat→Rat} {c q:Nat} (h:q<c):extV x c q=x q:=if_pos h
theorem extV_c {x:Nat→Rat} {c:Nat}:extV x c c= -1:=if_neg (Nat.lt_irrefl c)
theorem sol_cons {r c:Nat} {W:Mx} {s:St} (hi:Inv r W c s) {x:Nat→Rat} (hx:∀i,i<r→sumR c (fun q=>W i q*x q)=W i c):∀i,s.piv.length≤i→i<r→s.w i c=0:=by
 have hk:Ker r (c+1) W (extV x c):=fun i hir=>by
  rw[sum_last (g:=fun q=>W i q*x q) fun q hq=>by rw[extV_lt hq],hx i hir,extV_c];grind
 have hs:=(hi.ker (c:=c+1) _).2 hk
 intro i h1 h2
 have:=hs i h2
 rw[sum_last (g:=fun q=>0) fun q hq=>by rw[hi.low i h1 h2 q hq];grind,extV_c,sum_zeros fun _ _=>rfl]at this
 grind
def xsol (w:Mx) (sp:List Nat) (c q:Nat):Rat:=sumR sp.length fun j=>delta q (sp.getD j 0)*w j c
theorem xsol_sum {r c:Nat} {w:Mx} {sp:List Nat} (h:RE r c w sp) {i:Nat} (hi:i<r):sumR c (fun q=>w i q*xsol w sp c q)=if i<sp.length then w i c else 0:=by
 rw[sum_congr c (g:=fun q=>sumR sp.length fun j=>w i q*delta q (sp.getD j 0)*w j c) fun q _=>by
  rw[xsol,sum_mulL];exact sum_congr _ fun j _=>by grind,sum_swap,sum_congr sp.length (g:=fun j=>delta i j*w j c) fun j hj=>by
  rw[←sum_mulR,sum_deltaR,if_pos (h.lt j hj),h.unit j hj i hi,delta],sum_deltaL]
theorem xsol_ok {r c:Nat} {W:Mx} {s:St} (hi:Inv r W c s) (hz:∀i,s.piv.length≤i→i<r→s.w i c=0):∀i,i<r→sumR c (fun q=>W i q*xsol s.w s.piv c q)=W i c:=by
 have hk:Ker r (c+1) s.w (extV (xsol s.w s.piv c) c):=fun i hir=>by
  rw[sum_last (g:=fun q=>s.w i q*xsol s.w s.piv c q) fun q hq=>by rw[extV_lt hq],xsol_sum hi.re hir,extV_c]
  by_cases g:i<s.piv.length
  ·rw[if_pos g];grind
  ·rw[if_neg g,hz i (by omega) hir];grind
 intro i hir
 have:=(hi.ker (c:=c+1) _).1 hk i hir
 rw[sum_last (g:=fun q=>W i q*xsol s.w s.piv c q) fun q hq=>by rw[extV_lt hq],extV_c]at this
 grind
theorem xsol_free {w:Mx} {sp:List Nat} {c q:Nat} (hq:q∉sp):xsol w sp c q=0:=sum_zeros fun j hj=>by
 rw[delta,if_neg fun e=>hq (mem_getDN.2 ⟨j,hj,e.symm⟩)];grind
theorem cert_ok {r c:Nat} {W:Mx} {s:St} (hi:Inv r W c s) (hI:∀a k,a<r→k<r→W a (c+1+k)=delta a k) {i:Nat} (h1:s.piv.length≤i) (h2:i<r) (hne:s.w i c≠0):
  (∀q,q<c→sumR r (fun a=>W a q*(s.w i (c+1+a)/s.w i c))=0)∧sumR r (fun a=>(s.w i (c+1+a)/s.w i c)*W a c)=1:=by
 obtain⟨P,_,hP⟩:=hi.by_
 have e:∀q,sumR r (fun a=>W a q*(s.w i (c+1+a)/s.w i c))=s.w i q*(s.w i c)⁻¹:=fun q=>by
  rw[hP i h2 q,pr,sum_mulR]
  exact sum_congr r fun a ha=>by rw[aug_P (m:=c+1) hP hI h2 ha,Rat.div_def];grind
 refine⟨fun q hq=>by rw[e,hi.low i h1 h2 q hq];grind, ?_⟩
 rw[sum_congr r (g:=fun a=>W a c*(s.w i (c+1+a)/s.w i c)) fun a _=>Rat.mul_comm _ _,e,Rat.mul_inv_cancel _ hne]
end Go.Proofs.YtbopchpncgdaaaaGreatDoor
namespace Go.Proofs.YtbopchpncgdaaaaGreatDoor
open Go.Sx
set_option linter.unusedSimpArgs false
set_option linter.unusedVariables false
set_option maxRecDepth 100000
set_option maxHeartbeats 40000000
abbrev zS:Blk:=⟨232,true,.one [iv 0,iv 0,.val (.slice none 0 0),.int 0,iv 0]⟩
end Go.Proofs.YtbopchpncgdaaaaGreatDoor
