/- The texts Fq, Fz9, Fi3, Fi4. -/
import Derived.ChangeKeysEq
import Derived.Test.YthaeohlijigplaaGreatQLTopFound5
import Derived.Test.YthaeohlijigplaaGreatQLTopFound2
namespace Go.Proofs.YthaeohlijigplaaGreat
open Go.Sx
set_option linter.unusedSimpArgs false
set_option linter.unusedVariables false
set_option maxRecDepth 100000
set_option maxHeartbeats 4000000
section
variable {P:Program} {T:List (TypeId×TI)} {good:List TypeId}
theorem cellsOf_TOK {t:TypeId} {ti:TI} (ht:TOK P t ti):P.cellsOf t=ti.size:=by
 obtain⟨i,z,e1,e2,_⟩:=ht.info
 simp[Program.cellsOf,e1,e2]
theorem eqItems_run (hT:TabOK P T) (hg:GoodOK P good) {e:TypeId} {te:TI} (hte:tfind T e=some te) (xs ys:List Value) (f:Nat→Bool):∀(is:List Nat),
  (∀i∈is,eqTy T good 10 e ((xs.drop (i*te.size)).take te.size) ((ys.drop (i*te.size)).take te.size)=some (f i))→∀(d:Nat) (w:World),10≤d→(Op.eqItems d e (P.cellsOf e) xs.toArray ys.toArray is).run P w= .ok (is.all f) w
 |[],_,d,w,_=>by simp[Op.eqItems]
 |i::is,h,d,w,hd=>by
  obtain⟨ti,h1,h2,h3,h4⟩:=eqTy_run hT hg 10 _ _ _ _ (h i (by simp)) d w hd
  rw[hte]at h1
  cases h1
  have ht:=hT.get hte
  have hrest:=eqItems_run hT hg hte xs ys f is (fun j hj=>h j (by simp[hj])) d w hd
  have p1:=part_run ht (xs:=xs.toArray) (off:=i*te.size) (fun hk=>(h3 hk).1) h2 w
  have p2:=part_run ht (xs:=ys.toArray) (off:=i*te.size) (fun hk=>(h3 hk).2) h2 w
  rw[cellsOf_TOK ht]at hrest ⊢
  simp only[Op.eqItems,Sem.run_bind,p1,p2,Result.andThen_ok,h4,List.all_cons]
  cases f i
  ·simp
  ·simp[hrest]
theorem eqArr_run (hT:TabOK P T) (hg:GoodOK P good) {t e:TypeId} {ti te:TI} {n:Nat} (hti:tfind T t=some ti) (hk:ti.kind= .arr n e) (hte:tfind T e=some te) (xs ys:List Value) (f:Nat→Bool)
  (h:∀i,i<n→eqTy T good 10 e ((xs.drop (i*te.size)).take te.size) ((ys.drop (i*te.size)).take te.size)=some (f i)) (d:Nat) (w:World) (hd:11≤d):
  (Op.equalIn d t (.agg xs.toArray) (.agg ys.toArray)).run P w= .ok ((List.range n).all f) w:=by
 obtain⟨d,rfl⟩:∃d',d=d'+1:=⟨d - 1,by omega⟩
 have hu:=(hT.get hti).kind;rw[hk]at hu
 obtain⟨i,z,e1,_⟩:=(hT.get hte).info
 rw[run_equalIn_array w d xs.toArray ys.toArray hu e1]
 exact eqItems_run hT hg hte xs ys f _ (fun i hi=>h i (List.mem_range.1 hi)) d w (by omega)
end
def goodK:List TypeId:=[214,216]
theorem goodKOK:GoodOK Tryz.prog goodK:=by
 have h:goodK.all (fun t=> !Tryz.prog.stoodInHeld t&&(Tryz.prog.fieldsOf t).toList.all (fun f=>f.name != "_"))=true:=by kernel_rfl
 intro t ht;have:=List.all_eq_true.1 h t ht;simpa using this
theorem pair_dec (p q:Int×Int):((p.1==q.1)&&(p.2==q.2))=decide (p=q):=by
 obtain⟨a,b⟩:=p
 obtain⟨c,d⟩:=q
 rw[Bool.eq_iff_iff];simp
theorem key_e1:PairKey Tryz.prog 214 where
 und:=⟨_,Tryz.underlying214⟩
 check em p w:=by kernel_rfl
 eq p q w:=by
  have h:=eqTy_run tabOK goodKOK 10 214 [.int .i64 p.1,.int .i64 p.2] [.int .i64 q.1,.int .i64 q.2] (decide (p=q)) (by rw[←pair_dec];show some ((p.1==q.1)&&((p.2==q.2)&&true))=_;rw[Bool.and_true]) 10000 w (by decide)
  obtain⟨ti,h1,_,_,h4⟩:=h
  cases h1
  exact h4
theorem key_e2:PairKey Tryz.prog 216 where
 und:=⟨_,Tryz.underlying216⟩
 check em p w:=by kernel_rfl
 eq p q w:=by
  have h:=eqTy_run tabOK goodKOK 10 216 [.int .i64 p.1,.int .i64 p.2] [.int .i64 q.1,.int .i64 q.2] (decide (p=q)) (by rw[←pair_dec];show some ((p.1==q.1)&&((p.2==q.2)&&true))=_;rw[Bool.and_true]) 10000 w (by decide)
  obtain⟨ti,h1,_,_,h4⟩:=h
  cases h1
  exact h4
theorem key_r:PairKey Tryz.prog 155 where
 und:=⟨_,Tryz.underlying155⟩
 check em p w:=by kernel_rfl
 eq p q w:=by
  have h:=eqArr_run tabOK goodKOK (t:=155) (e:=3) (n:=2) rfl rfl rfl [.int .i64 p.1,.int .i64 p.2] [.int .i64 q.1,.int .i64 q.2] (fun i=>match i with|0=>p.1==q.1|_=>p.2==q.2) (fun i hi=>by
   obtain rfl|rfl:i=0∨i=1:=by omega
   ·rfl
   ·rfl) 10000 w (by decide)
  refine h.trans ?_
  rw[←pair_dec]
  show Result.ok ((p.1==q.1)&&((p.2==q.2)&&true)) w=_
  rw[Bool.and_true]
theorem key_b:PairKey Tryz.prog 163 where
 und:=⟨_,Tryz.underlying163⟩
 check em p w:=by kernel_rfl
 eq p q w:=by
  have h:=eqArr_run tabOK goodKOK (t:=163) (e:=3) (n:=2) rfl rfl rfl [.int .i64 p.1,.int .i64 p.2] [.int .i64 q.1,.int .i64 q.2] (fun i=>match i with|0=>p.1==q.1|_=>p.2==q.2) (fun i hi=>by
   obtain rfl|rfl:i=0∨i=1:=by omega
   ·rfl
   ·rfl) 10000 w (by decide)
  refine h.trans ?_
  rw[←pair_dec]
  show Result.ok ((p.1==q.1)&&((p.2==q.2)&&true)) w=_
  rw[Bool.and_true]
theorem um_e1:Tryz.prog.underlying 212=some (.map 214 3):=by kernel_rfl
theorem um_e2:Tryz.prog.underlying 215=some (.map 216 154):=by kernel_rfl
theorem um_r:Tryz.prog.underlying 152=some (.map 155 3):=by kernel_rfl
theorem um_b:Tryz.prog.underlying 161=some (.map 163 3):=by kernel_rfl
def eI:EV Int where
 s n:=iv n
 v n:=.int .i64 n
 has ρ b x:=⟨of_has_val,fun h=>by subst h;exact has_val rfl⟩
abbrev E4:=Int×Int×Int×Int
abbrev edA (e:E4):SV:=.agg [iv e.1,iv e.2.1,iv e.2.2.1,iv e.2.2.2]
def edV (e:E4):Value:=.agg #[.int .i64 e.1,.int .i64 e.2.1,.int .i64 e.2.2.1,.int .i64 e.2.2.2]
def eE:EV E4 where
 s:=edA
 v:=edV
 has ρ b x:=⟨fun h=>flatC_spec (cells:=[.int .i64 b.1,.int .i64 b.2.1,.int .i64 b.2.2.1,.int .i64 b.2.2.2]) rfl h,fun h=>by
  subst h
  simp only[edA,Has,HasC,HasZ]
  exact⟨_,⟨_,⟨_,_,rfl,⟨rfl,rfl⟩,_,_,rfl,⟨rfl,rfl⟩,_,_,rfl,⟨rfl,rfl⟩,_,_,rfl,⟨rfl,rfl⟩,rfl⟩,rfl⟩,rfl⟩⟩
theorem zI (w:World):(zeroValue 3).run Tryz.prog w= .ok (eI.v 0) w:=by kernel_rfl
theorem zE (w:World):(zeroValue 154).run Tryz.prog w= .ok (eE.v (0,0,0,0)) w:=by kernel_rfl
end Go.Proofs.YthaeohlijigplaaGreat
namespace Go.Proofs.YthaeohlijigplaaGreat
open Go.Sx
set_option linter.unusedSimpArgs false
set_option linter.unusedVariables false
set_option maxRecDepth 100000
set_option maxHeartbeats 8000000
theorem q_Has (a b c p:Int):CallOK Tryz.prog 74 [triA (a,b,c),iv p] [] (.val (.bool ((a==p)||((b==p)||(c==p))))) [] []:=by
 cases h1:(a==p)with
 |true=>
  refine callV (Z:=[2]) tabOK mixedOK Tryz.func74 rfl (by kernel_rfl) rfl rfl (by kernel_rfl) rfl ?_
  intro W0 w0 ρ0 hE
  conv=>whnf
  (repeat((first|refine step_w2 rfl rfl ?_|refine g_o (op_pickT rfl (ev_ok rfl) (ev_ok rfl)) ?_|refine g_o (op_loadA rfl (ev_ok rfl) (tgt rfl) rfl (Nat.succ_ne_zero _) rfl) ?_|refine g_o (op_indexArrA rfl (ev_ok rfl) (ev_ok rfl) (tgt rfl) rfl (tgt rfl) (by omega) (by omega) (Nat.succ_ne_zero _) rfl) ?_|rw[h1]);conv=>whnf));(first|exact Recast.refl _|exact Frz.recast (Recast.refl _) rfl|(refine Frz.one rfl rfl ?_;skip)|(refine Frz.tup ?_;skip))
 |false=>
  cases h2:(b==p)with
  |true=>
   refine callV (Z:=[2]) tabOK mixedOK Tryz.func74 rfl (by kernel_rfl) rfl rfl (by kernel_rfl) rfl ?_
   intro W0 w0 ρ0 hE
   conv=>whnf
   (repeat((first|refine step_w1 rfl rfl ?_|refine step_w2 rfl rfl ?_|refine g_o (op_pickT rfl (ev_ok rfl) (ev_ok rfl)) ?_|refine g_o (op_pickF rfl (ev_ok rfl) (ev_ok rfl)) ?_|refine g_o (op_loadA rfl (ev_ok rfl) (tgt rfl) rfl (Nat.succ_ne_zero _) rfl) ?_|refine g_o (op_indexArrA rfl (ev_ok rfl) (ev_ok rfl) (tgt rfl) rfl (tgt rfl) (by omega) (by omega) (Nat.succ_ne_zero _) rfl) ?_|rw[h1]|rw[h2]);conv=>whnf));(first|exact Recast.refl _|exact Frz.recast (Recast.refl _) rfl|(refine Frz.one rfl rfl ?_;skip)|(refine Frz.tup ?_;skip))
  |false=>
   refine callV (Z:=[2]) tabOK mixedOK Tryz.func74 rfl (by kernel_rfl) rfl rfl (by kernel_rfl) rfl ?_
   intro W0 w0 ρ0 hE
   conv=>whnf
   (repeat((first|refine step_w1 rfl rfl ?_|refine g_o (op_pickF rfl (ev_ok rfl) (ev_ok rfl)) ?_|refine g_o (op_loadA rfl (ev_ok rfl) (tgt rfl) rfl (Nat.succ_ne_zero _) rfl) ?_|refine g_o (op_indexArrA rfl (ev_ok rfl) (ev_ok rfl) (tgt rfl) rfl (tgt rfl) (by omega) (by omega) (Nat.succ_ne_zero _) rfl) ?_|rw[h1]|rw[h2]);conv=>whnf));(first|exact Recast.refl _|exact Frz.recast (Recast.refl _) rfl|(refine Frz.one rfl rfl ?_;skip)|(refine Frz.tup ?_;skip))
end Go.Proofs.YthaeohlijigplaaGreat
namespace Go.Sx
set_option linter.unusedSimpArgs false
set_option linter.unusedVariables false
section
variable {P:Program} {o:Oper} {ft:List (Nat×SV)} {fk:List (Nat×Blk)}
theorem op_clip {t e:TypeId} {x hi mx:Operand} {ti te:TI} {k s i n:Nat} {kh km:IntKind} (ho:o.op= .slice t x none (some hi) (some mx)) (hx:EvOK ft x (.slc k s i n))
  (hhi:EvOK ft hi (.val (.int kh (n:Nat)))) (hmx:EvOK ft mx (.val (.int km (n:Nat))))
  (ht:TOK P t ti) (hk:ti.kind= .slc e) (he:TOK P e te) (hs:te.size=s):OpOK P o ft fk (.slc k s i n) [] []:=
 ok_pure fun ρ a w hp=>by
  have hu:=ht.kind;rw[hk]at hu
  have key:∀(ad:Option Addr) (m cap:Nat),n=m→m≤cap→a.eval x= .slice ad m cap→
    (execOp a.eval o).run P w= .ok (.value (.slice (if n=0 then ad else ad.map (·.add (0*s))) (n - 0) (n - 0))) w:=by
   intro ad m cap hnm hmc hv
   have hr:∀(z:Operand) (kd:IntKind) (bd:Nat),EvOK ft z (.val (.int kd (n:Nat)))→n≤bd→∀q,(Instr.sliceBound (a.eval z) bd q).run P w= .ok n w:=by
    intro z kd bd hz hbd q
    have:=of_has_val (hz ρ a hp.hft)
    have hb:0≤(n:Int)∧(n:Int)≤(bd:Int):=by omega
    simp[Instr.sliceBound,this,asIntOf,hbd]
   have hbnds:(Instr.sliceBounds true m cap none (some (a.eval hi)) (some (a.eval mx))).run P w= .ok (0,n,n) w:=by
    unfold Instr.sliceBounds
    simp[hr mx km cap hmx (by omega),hr hi kh n hhi (Nat.le_refl _)]
   simp only[execOp,ho,Option.map_some,Option.map_none,Instr.sliceAt,Sem.run_bind,run_underlying hu,Result.andThen_ok,Instr.slice,hv,hbnds,he.sizeOf,hs,Sem.run_pure]
  rcases has_slc (hx ρ a hp.hft)with⟨b,t',cap,h1,h2,h3,h4⟩|⟨rfl,ad,h4⟩
  ·refine⟨_,key _ n cap rfl h2 h4,slc_has ?_⟩
   by_cases hc:n=0
   ·right
    subst hc
    exact⟨rfl,_,rfl⟩
   ·left
    refine⟨b,t',n,h1,Nat.le_refl _, ?_, ?_⟩
    ·exact Nat.le_trans (Nat.mul_le_mul_right s (by omega)) h3
    ·rw[if_neg hc]
     simp[Addr.add]
  ·exact⟨_,key ad 0 0 rfl (Nat.le_refl _) h4,slc_has (.inr ⟨rfl,ad,rfl⟩)⟩
end
section
variable {P:Program} {o:Oper} {ft:List (Nat×SV)} {fk new upd:List (Nat×Blk)} {c:SV}
theorem op_storeE {t:TypeId} {x y:Operand} {ti:TI} {k s i r f:Nat} {ty:TypeId} {d d':Data} {ob:Option Prop} {cs cs' nw:List SV} {sv:SV} (ho:o.op= .store t x y) (hx:EvOK ft x (.ptr k s i r)) (hy:EvOK ft y sv)
  (ht:TOK P t ti) (hk:(k,⟨ty,true,d⟩)∈fk) (he:elem d s i=some (ob,cs)) (hob:obP ob) (hc:comps sv=some nw) (hw:SV.widthL nw=ti.size) (hle:r+ti.size≤SV.widthL cs)
  (hp:put f cs r ti.size nw=some cs') (hd:elemPut d i [.agg cs']=some d'):OpOK P o ft fk .any [] [(k,⟨ty,true,d'⟩)]:=
 ok_skip fun ρ a w hpre=>by
  have hx:=hx ρ a hpre.hft
  simp only[Has,HasC]at hx
  obtain⟨_,⟨b,n,hkey,rfl⟩,hv⟩:=hx
  simp only[mkV,SV.isOne,if_true,List.headD_cons]at hv
  rcases hpre.hfk k _ hk with h0|⟨b',n',vs,ex,h1,h2,h3,h4,h5⟩|⟨h1,h2⟩
  case inl=>simp only at h0;cases d<;>simp[Data.live,elem]at h0 he
  case inr.inr=>rw[hkey]at h1;cases h1
  rw[hkey]at h1
  cases h1
  simp only at h2 h3
  rw[Data.obj_cells (elem_cells he)]at h2
  obtain⟨z,g1,g2,g3⟩:=elem_has he hob h3
  obtain⟨yz,y1,y2⟩:=comps_has hc (hy ρ a hpre.hft)
  have hyl:=(HasZ.len nw yz y1).1
  have hy1:=(HasZ.len nw yz y1).2
  have hzl:=(HasZ.len cs z g1).1
  obtain⟨z',p1,p2⟩:=put_has hp g1 y1
  have hzl':z'.flatten.length=SV.widthL cs:=by
   rw[p2]
   simp only[List.length_append,List.length_take,List.length_drop]
   omega
  have p1':HasZ ρ [.agg cs'] [z'.flatten]:=by
   simp only[HasZ,HasC]
   exact⟨_,_,rfl,⟨z',p1,rfl⟩,rfl⟩
  have hff:([z'.flatten]:List (List Value)).flatten=z'.flatten:=by simp
  have hdc:=elemPut_has he hob h3 hd p1' (by rw[hff];exact hzl')
  rw[hff]at hdc
  have hsplit:vs=vs.take (i*s)++(z.flatten++vs.drop (i*s+SV.widthL cs)):=by
   rw[g2,hzl,←List.drop_drop,List.take_append_drop,List.take_append_drop]
  have hAl:(vs.take (i*s)).length=i*s:=by rw[List.length_take];omega
  generalize hA:vs.take (i*s)=A at hsplit hAl hdc
  generalize hC:vs.drop (i*s+SV.widthL cs)=C at hsplit hdc
  have hsz:(yz.flatten).length=ti.size:=by omega
  have hL:(vs++ex).take (i*s+r)++yz.flatten++(vs++ex).drop (i*s+r+yz.flatten.length)=(A++z'.flatten++C)++ex:=by
   rw[hsplit,p2,hsz,←hAl]
   simp only[List.append_assoc]
   rw[List.take_length_add_append,Nat.add_assoc,List.drop_length_add_append,List.take_append_of_le_length (by omega),List.drop_append_of_le_length (by omega)]
   try simp
  have hrun:(storeVar t ⟨b,i*s+r,none⟩ (a.eval y)).run P w= .ok () (w.setRow b ((A++z'.flatten++C)++ex).toArray):=by
   have hsc:=run_storeCells_at (P:=P) b (i*s+r) ty yz.flatten 0 (vs++ex).toArray w h2 (by simp only[List.size_toArray,List.length_append];omega) hy1
   simp only[Nat.add_zero,hL]at hsc
   have hcells:(a.eval y).cells.size=ti.size:=by rw[←Array.length_toList,y2];exact hsz
   unfold storeVar
   simp only[Sem.run_bind,ht.sizeOf,Result.andThen_ok,hcells,ne_eq,not_true_eq_false,if_false,y2,hsc]
  refine⟨w.setRow b ((A++z'.flatten++C)++ex).toArray,ρ, ?_, ?_⟩
  ·simp only[execOp,ho,Instr.storeAt,Instr.sureAddr,hv,Sem.run_bind,Sem.run_pure,Result.andThen_ok,hrun]
  ·refine⟨.refl ρ,trivial,fun _ _=>rfl,⟨rfl,rfl,rfl,by simp[World.setRow],fun i hi hn=> ?_,Nat.le_refl _⟩,fun j bj hj=> ?_,(fun j c c' h1 h2 h3 h4=> ?_),(fun _ _ _ h=>by cases h),(fun _ _ _ _ _ _ h=>by cases h),fun b o h=>.inl h⟩
   ·refine heap_setRow_other fun hib=>hn ⟨k,_,n,List.mem_cons_self .., ?_⟩
    rw[hib];exact hkey
   ·rcases hj with hj|hj
    ·simp only[List.mem_singleton,Prod.mk.injEq]at hj
     obtain⟨rfl,rfl⟩:=hj
     refine .inr (.inl ⟨b,n,_,ex,hkey,by rw[Data.obj_cells (elemPut_cells hd)];exact heap_setRow_same h2,hdc, ?_,h5⟩)
     rw[←h4,hsplit]
     simp only[List.length_append,hzl',hzl]
     omega
    ·cases hj
   ·simp only[List.mem_singleton,Prod.mk.injEq]at h1 h2
    obtain⟨_,rfl⟩:=h1
    obtain⟨_,rfl⟩:=h2
    rw[h3]at h4;cases h4
end
end Go.Sx
namespace Go.Sx
set_option linter.unusedSimpArgs false
set_option linter.unusedVariables false
set_option maxRecDepth 100000
theorem HasZ_at {ρ:Rho}:∀{cs:List SV} {z:List (List Value)} {p:Nat} {c:SV},HasZ ρ cs z→cs[p]? =some c→∃x,z[p]? =some x∧HasC ρ c x
 |[],_,_,_,_,h=>by simp at h
 |d::cs,z,0,c,hz,h=>by
  simp only[HasZ]at hz
  obtain⟨x,r,rfl,h1,_⟩:=hz
  simp only[List.getElem?_cons_zero,Option.some.injEq]at h
  subst h
  exact⟨x,rfl,h1⟩
 |d::cs,z,p+1,c,hz,h=>by
  simp only[HasZ]at hz
  obtain⟨x,r,rfl,_,h2⟩:=hz
  obtain⟨y,h3,h4⟩:=HasZ_at h2 (by simpa using h)
  exact⟨y,by simpa using h3,h4⟩
theorem HasZ_put {ρ:Rho} {v:SV} {x:List Value}:∀{cs:List SV} {z:List (List Value)} {p:Nat},HasZ ρ cs z→z[p]? =some x→HasC ρ v x→HasZ ρ (cs.set p v) z
 |[],z,p,hz,_,_=>by simpa using hz
 |d::cs,z,0,hz,h,hv=>by
  simp only[HasZ]at hz
  obtain⟨y,r,rfl,_,h2⟩:=hz
  simp only[List.getElem?_cons_zero,Option.some.injEq]at h
  subst h
  simp only[List.set_cons_zero,HasZ]
  exact⟨_,_,rfl,hv,h2⟩
 |d::cs,z,p+1,hz,h,hv=>by
  simp only[HasZ]at hz
  obtain⟨y,r,rfl,h1,h2⟩:=hz
  simp only[List.set_cons_succ,HasZ]
  exact⟨y,r,rfl,h1,HasZ_put h2 (by simpa using h) hv⟩
theorem nil_vec' {ρ:Rho} {w:Nat} {a:Option Addr} {l:List SV} (h:l=[]):HasC ρ (vecA w l) [.slice a 0 0]:=by
 subst h;exact nil_vec (by simp only[HasC];exact⟨rfl,rfl⟩)
theorem freezeC_RR {E:Env} (jj pp k:Nat) {tj:TypeId} {wj:Bool} {cs:List SV} {fr:List (Nat×SV)} {hp:List (Nat×Blk)} {ty:TypeId} {d:Data} {w i n:Nat} {xs:List SV} (hW:∀b,¬E.W0 b) (hjf:find hp jj=some ⟨tj,wj,.one cs⟩) (hjk:jj≠k) (hpc:cs[pp]? =some (.slc k w i n)) (hk:find hp k=some ⟨ty,true,d⟩)
  (he:elemsOf d=some xs) (hw:dwidth d=some w) (hkl:keylessL xs=true) (hn:i+n≤xs.length) {a:Act} {W:World} (hR:RR E (fn fr hp) a W):RR E (fn fr ((jj,⟨tj,wj,.one (cs.set pp (vecA w (cutL xs i (i+n))))⟩)::setB hp k ⟨ty,true,.dead⟩)) a W:=by
 have hl:d.live=true:=by cases d<;>simp[elemsOf]at he<;>rfl
 obtain⟨ρ,hext,hfx,hR⟩:=hR
 have hkb:(fn fr hp (.k k)).blk=some ⟨ty,true,d⟩:=by simp only[fn,LV.blk];exact hk
 have hjb:(fn fr hp (.k jj)).blk=some ⟨tj,wj,.one cs⟩:=by simp only[fn,LV.blk];exact hjf
 obtain⟨bj,nj,exj,zj,hj1,hj2,hj3,hj4,hj5⟩:∃bj nj exj zj,ρ.key jj=some (bj,nj)∧W.heap[bj]? =some ((Data.one cs).obj ρ (zj.flatten++exj) tj)∧HasZ ρ cs zj∧(zj.flatten++exj).length=nj∧∀v∈exj,v.oneCell'=true:=by
  rcases hR.hp.blk jj _ hjb with g0|⟨b',t',vs,ex,g1,g2,⟨z,g3,rfl⟩,g4,g5⟩|⟨_,g2⟩
  ·cases g0
  ·exact⟨b',t',ex,z,g1,g2,g3,g4,g5⟩
  ·exact g2.elim
 obtain⟨x,hzx,hx⟩:=HasZ_at hj3 hpc
 have hlayk:∀q b,(fn fr ((jj,⟨tj,wj,.one (cs.set pp (vecA w (cutL xs i (i+n))))⟩)::setB hp k ⟨ty,true,.dead⟩) (.k q)).blk=some b→(q=jj∧b=⟨tj,wj,.one (cs.set pp (vecA w (cutL xs i (i+n))))⟩)∨(q=k∧b=⟨ty,true,.dead⟩)∨(q≠jj∧q≠k∧(fn fr hp (.k q)).blk=some b):=by
  intro q b hb
  simp only[fn,LV.blk,find]at hb ⊢
  cases hq:Nat.beq jj q with
  |true=>
   rw[hq]at hb
   exact .inl ⟨(Nat.eq_of_beq_eq_true hq).symm,(Option.some.inj hb).symm⟩
  |false=>
   rw[hq]at hb
   simp only[find_setB]at hb
   have hne:q≠jj:=by rintro rfl;simp[Nat.beq_refl]at hq
   by_cases hj:q=k
   ·rw[if_pos hj]at hb;exact .inr (.inl ⟨hj,(Option.some.inj hb).symm⟩)
   ·rw[if_neg hj]at hb;exact .inr (.inr ⟨hne,hj,hb⟩)
 have fin:∀ρ':Rho,ρ'.key=ρ.key→(∀b o,ρ.imm b=some o→ρ'.imm b=some o)→(∀b o,ρ'.imm b=some o→ρ.imm b=some o∨E.w0.heap.size≤b)→(∀b o,ρ'.imm b=some o→W.heap[b]? =some o)→
   (∀j b x,j≠k→(fn fr hp (.k j)).blk=some b→b.wr=true→b.data.live=true→ρ.key j=some x→ρ'.imm x.1=none)→(∀D,W.heap[D]? =some (.deferred (some []))→ρ.imm D=none→ρ'.imm D=none)→HasC ρ' (vecA w (cutL xs i (i+n))) x→
   RR E (fn fr ((jj,⟨tj,wj,.one (cs.set pp (vecA w (cutL xs i (i+n))))⟩)::setB hp k ⟨ty,true,.dead⟩)) a W:=by
  intro ρ' hkey himm hnew hheap hnone hmark hhas
  have hle:ρ.Le ρ':=⟨fun j y hy=>by rw[hkey];exact hy,himm⟩
  refine⟨ρ',⟨hext.le.trans hle,fun b o hb=>(hnew b o hb).elim (fun h=>hext.imm b o h) .inr,fun j hj=>by rw[hkey];exact hext.fix j hj⟩,fun j hj=> ?_,{defers:= ?_,size:=hR.size,fr:= ?_,pres:=hR.pres,hp:= ?_}⟩
  ·have:=hfx j hj
   simp only[fn,LV.blk,find]at this ⊢
   cases hq:Nat.beq jj j with
   |true=>simp
   |false=>
    simp only[find_setB]
    split
    ·simp
    ·exact this
  ·obtain⟨Ds,d1,d2,d3⟩:=hR.defers
   refine⟨Ds,d1,d2,fun D hD=> ?_⟩
   obtain⟨e1,e2,e3⟩:=d3 D hD
   refine⟨e1,e2, ?_⟩
   exact hmark D e2 e3
  ·intro u sv hu
   exact Has.mono hle _ _ (hR.fr u sv hu)
  ·have hmap:∀q b,(fn fr ((jj,⟨tj,wj,.one (cs.set pp (vecA w (cutL xs i (i+n))))⟩)::setB hp k ⟨ty,true,.dead⟩) (.k q)).blk=some b→b.data.live=true→∃b0,(fn fr hp (.k q)).blk=some b0∧b0.wr=b.wr∧b0.data.live=true∧q≠k:=by
    intro q b hb hlv
    rcases hlayk q b hb with⟨rfl,rfl⟩|⟨_,rfl⟩|⟨_,h2,h3⟩
    ·exact⟨_,hjb,rfl,rfl,hjk⟩
    ·cases hlv
    ·exact⟨b,h3,rfl,hlv,h2⟩
   constructor
   ·intro q b hb
    rcases hlayk q b hb with⟨rfl,rfl⟩|⟨rfl,rfl⟩|⟨_,_,hb⟩
    ·refine .inr (.inl ⟨bj,nj,zj.flatten,exj,by rw[hkey];exact hj1,hj2,⟨zj, ?_,rfl⟩,hj4,hj5⟩)
     exact HasZ_put (HasZ.mono hle cs zj hj3) hzx hhas
    ·exact .inl rfl
    ·rcases hR.hp.blk q b hb with g0|⟨b',t',vs,ex,g1,g2,g3,g4⟩|⟨g1,g2⟩
     ·exact .inl g0
     ·exact .inr (.inl ⟨b',t',vs,ex,by rw[hkey];exact g1,(by rw[Data.obj_le hle g3];exact g2),g3.mono hle,g4⟩)
     ·exact .inr (.inr ⟨by rw[hkey];exact g1,g2⟩)
   ·intro j j' y y' b b' hy hy' hne hyy hb hb' hl1 hl2
    rw[hkey]at hy hy'
    obtain⟨c0,h1,h2,h3,_⟩:=hmap j b hb hl1
    obtain⟨c0',h1',h2',h3',_⟩:=hmap j' b' hb' hl2
    rw[←h2]
    exact hR.hp.sep j j' y y' c0 c0' hy hy' hne hyy h1 h1' h3 h3'
   ·intro j b y hb hwr hl1 hy
    rw[hkey]at hy
    obtain⟨c0,h1,h2,h3,_⟩:=hmap j b hb hl1
    exact hR.hp.own j c0 y h1 (h2.trans hwr) h3 hy
   ·intro j y hy
    rw[hkey]at hy
    obtain⟨b,hb⟩:=hR.hp.dom j y hy
    simp only[fn,LV.blk,find]at hb ⊢
    cases hq:Nat.beq jj j with
    |true=>exact⟨_,rfl⟩
    |false=>
     simp only[find_setB]
     split
     ·exact⟨_,rfl⟩
     ·exact⟨b,hb⟩
   ·exact hheap
   ·intro j b y hb hwr hl1 hy
    rw[hkey]at hy
    obtain⟨c0,h1,h2,h3,h4⟩:=hmap j b hb hl1
    exact hnone j c0 y h4 h1 (h2.trans hwr) h3 hy
 rcases vec_of_blk (hR.hp.blk k _ hkb) he hw hkl hn hx with⟨rfl,ad,rfl⟩|⟨b,t',o,h1,h2,h3⟩
 ·refine fin ρ rfl (fun _ _ h=>h) (fun _ _ h=>.inl h) hR.hp.imm (fun j b y _ hb hwr hl1 hy=>hR.hp.immw j b y hb hwr hl1 hy) (fun _ _ h=>h) ?_
  exact nil_vec' (by simp[cutL])
 ·have hB:E.w0.heap.size≤b:=(hR.hp.own k _ _ hkb rfl hl h1).resolve_right (hW _)
  obtain⟨u,hup⟩:=(Up.refl ρ W E.w0.heap.size).add hR.hp.imm hB h2
  refine fin ⟨ρ.key,_,u.glob⟩ rfl u.le (fun b o hb=>(u.new b o hb).imp id (fun h=>h.1)) (fun c p hc=> ?_) (fun j blk y hj hb hwr hl1 hy=> ?_) (fun D hD1 hD2=> ?_) ?_
  ·rcases u.new c p hc with h|h
   ·exact hR.hp.imm c p h
   ·exact h.2
  ·show(if y.1=b then some o else ρ.imm y.1)=none
   rw[if_neg]
   ·exact hR.hp.immw j blk y hb hwr hl1 hy
   ·intro he2
    have:=hR.hp.sep k j (b,t') y _ _ h1 hy (fun h=>hj h.symm) he2.symm hkb hb hl hl1
    cases this
  ·show(if D=b then some o else ρ.imm D)=none
   rw[if_neg,hD2]
   rintro rfl
   rcases hR.hp.blk k _ hkb with g0|⟨b',t'',vs,ex,g1,g2,_⟩|⟨g1,_⟩
   ·rw[show Data.live d=false from g0]at hl;cases hl
   ·rw[h1]at g1;cases g1;rw[hD1]at g2;exact Data.obj_deferred (Option.some.inj g2).symm
   ·rw[h1]at g1;cases g1
  ·exact HasC.mono (bareR_up ⟨ρ.key,_,u.glob⟩ u.glob) _ _ (h3 _ u.glob u.le (by simp))
theorem SWx_freezeB {E:Env} (jj pp k:Nat) {c:Code} {K:Post'} {tj:TypeId} {wj:Bool} {cs:List SV} {fr:List (Nat×SV)} {hp:List (Nat×Blk)} {ty:TypeId} {w n:Nat} {xs:List SV} (hW:∀b,¬E.W0 b) (hjf:find hp jj=some ⟨tj,wj,.one cs⟩) (hjk:jj≠k) (hpc:cs[pp]? =some (.slc k w 0 n)) (hk:find hp k=some ⟨ty,true,.seq w xs⟩)
  (hkl:keylessL xs=true) (hn:n=xs.length) (hs:SWx E c K fr ((jj,⟨tj,wj,.one (cs.set pp (vecA w xs))⟩)::setB hp k ⟨ty,true,.dead⟩)):SWx E c K fr hp:=
 ⟨fun a W hR=>hs.run a W (by
  have:=freezeC_RR jj pp k (xs:=xs) hW hjf hjk hpc hk rfl rfl hkl (by omega) hR
  rwa [cutL_all (by omega)]at this)⟩
end Go.Sx
