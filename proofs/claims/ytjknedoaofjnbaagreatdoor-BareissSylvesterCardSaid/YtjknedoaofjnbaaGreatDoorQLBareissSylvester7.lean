/- The texts Ks, Kt, Qa, Qb, Qc, Qd, Nf. -/
import Derived.Test.YtjknedoaofjnbaaGreatDoorQLBareissSylvester6
namespace Go.Proofs.YtjknedoaofjnbaaGreatDoor
open Go.Sx
set_option linter.unusedSimpArgs false
set_option linter.unusedVariables false
set_option maxRecDepth 100000
set_option maxHeartbeats 8000000
end Go.Proofs.YtjknedoaofjnbaaGreatDoor
namespace Go.Sx
set_option linter.unusedSimpArgs false
set_option linter.unusedVariables false
end Go.Sx
namespace Go.Proofs.YtjknedoaofjnbaaGreatDoor
open Go.Sx
set_option linter.unusedSimpArgs false
set_option linter.unusedVariables false
set_option maxRecDepth 100000
set_option maxHeartbeats 40000000
end Go.Proofs.YtjknedoaofjnbaaGreatDoor
namespace Go.Sx
set_option linter.unusedSimpArgs false
set_option linter.unusedVariables false
theorem CallOK.weak {P:Program} {f:FuncId} {args:List SV} {fk fk':List (Nat×Blk)} {c:SV} {new upd:List (Nat×Blk)} (h:CallOK P f args fk' c new upd) (hk:∀ρ w,PreW fk new ρ w→PreW fk' new ρ w):CallOK P f args fk c new upd:=by
 rcases h with⟨h1,h2⟩|h
 ·exact .inl ⟨h1,fun ρ w z hz hp=>h2 ρ w z hz (hk ρ w hp)⟩
 ·exact .inr fun ρ w z hz hp=>h ρ w z hz (hk ρ w hp)
def roB (b:Bool) (x:Blk):Blk:=⟨x.ty,b&&x.wr,x.data⟩
theorem PreW.some {ρ:Rho} {w:World} {fk new:List (Nat×Blk)} (g:Nat→Bool) (hp:PreW fk new ρ w):PreW (fk.map fun x=>(x.1,roB (g x.1) x.2)) new ρ w:=by
 refine⟨fun k b hk=> ?_,fun k k' x x' b b' hk hk' e1 e2 e3 e4 e5 e6=> ?_,hp.imm,fun k b x hk hw hl hx=> ?_,hp.fresh⟩
 ·obtain⟨⟨q,b0⟩,hq,he⟩:=List.mem_map.1 hk
  cases he
  exact hp.hfk q b0 hq
 ·obtain⟨⟨q,b0⟩,hq,he⟩:=List.mem_map.1 hk
  obtain⟨⟨q',b0'⟩,hq',he'⟩:=List.mem_map.1 hk'
  cases he
  cases he'
  have:=hp.sep q q' x x' b0 b0' hq hq' e1 e2 e3 e4 e5 e6
  simp[roB,this]
 ·obtain⟨⟨q,b0⟩,hq,he⟩:=List.mem_map.1 hk
  cases he
  exact hp.immw q b0 x hq (by simp[roB]at hw;exact hw.2) hl hx
def deads:List Nat→List (Nat×Blk)
 |[]=>[]
 |k::r=>(k,⟨0,true,.dead⟩)::deads r
theorem find_deads {mv:List Nat} {hp:List (Nat×Blk)} {k:Nat}:(k∈mv→find (deads mv++hp) k=some ⟨0,true,.dead⟩)∧(k∉mv→find (deads mv++hp) k=find hp k):=by
 induction mv with
 |nil=>exact⟨(fun h=>by cases h),fun _=>rfl⟩
 |cons j r ih=>
  simp only[deads,List.cons_append,find]
  cases hb:Nat.beq j k with
  |true=>
   obtain rfl:=Nat.eq_of_beq_eq_true hb
   exact⟨fun _=>rfl,fun h=>absurd (List.mem_cons_self ..) h⟩
  |false=>
   have hne:k≠j:=by rintro rfl;simp[Nat.beq_refl]at hb
   exact⟨fun h=>ih.1 ((List.mem_cons.1 h).resolve_left hne),fun h=>ih.2 fun g=>h (List.mem_cons_of_mem _ g)⟩
def fixM (σ:Nat→Nat) (ks mv:List Nat):List Nat→Bool
 |[]=>true
 |k::r=>(memN k mv||(memN k ks&&Nat.beq (σ k) k))&&fixM σ ks mv r
theorem fixM_spec {σ:Nat→Nat} {ks mv:List Nat}:∀{l:List Nat},fixM σ ks mv l=true→∀k∈l,k∈mv∨(k∈ks∧σ k=k)
 |j::r,h,k,hk=>by
  simp only[fixM,Bool.and_eq_true,Bool.or_eq_true,memN_iff]at h
  rcases List.mem_cons.1 hk with rfl|hk
  ·exact h.1.imp id fun g=>⟨g.1,Nat.eq_of_beq_eq_true g.2⟩
  ·exact fixM_spec h.2 k hk
def awayOK (σ:Nat→Nat) (mv:List Nat):List Nat→Bool
 |[]=>true
 |k::r=> !(memN (σ k) mv)&&awayOK σ mv r
theorem awayOK_spec {σ:Nat→Nat} {mv:List Nat}:∀{l:List Nat},awayOK σ mv l=true→∀k∈l,σ k∉mv
 |j::r,h,k,hk=>by
  simp only[awayOK,Bool.and_eq_true,Bool.not_eq_true',←Bool.not_eq_true,memN_iff]at h
  rcases List.mem_cons.1 hk with rfl|hk
  ·exact h.1
  ·exact awayOK_spec h.2 k hk
def moveOK (fx:List Nat) (σ:Nat→Nat) (ts ks mv:List Nat) (fr:List (Nat×SV)) (hp:List (Nat×Blk)):Bool:=
 normOKf ks fr ts&&(normOKh ks hp ks&&(injOK σ ks&&(fixM σ ks mv fx&&(awayOK σ mv ks&&subN mv fx))))
theorem move_RR {E:Env} (hE:E.OK) {σ:Nat→Nat} {ts ks mv:List Nat} {fr:List (Nat×SV)} {hp:List (Nat×Blk)} (h:moveOK E.fx σ ts ks mv fr hp=true) {a:Act} {w:World} (hR:RR E (fn fr hp) a w):
  RR E (fn (normF σ fr ts) (deads mv++normH σ hp ks)) a w:=by
 simp only[moveOK,Bool.and_eq_true]at h
 obtain⟨h1,h2,h3,h4,h5,h6⟩:=h
 obtain⟨ρ,hext,hfx,hR⟩:=hR
 have hinj:=injOK_spec h3
 have hfix:=fixM_spec h4
 have haway:=awayOK_spec h5
 have hmv:=subN_spec h6
 let ρ':Rho:=⟨fun k'=>if k'∈mv then ρ.key k' else match ks.find? (fun k=>σ k==k')with
  |some k=>ρ.key k
  |none=>none,ρ.imm,ρ.glob⟩
 have hkm:∀k∈mv,ρ'.key k=ρ.key k:=fun k hk=>if_pos hk
 have hkey:∀k∈ks,ρ'.key (σ k)=ρ.key k:=by
  intro k hk
  show(if σ k∈mv then ρ.key (σ k)else match ks.find? (fun j=>σ j==σ k)with|some k=>ρ.key k|none=>none)=ρ.key k
  rw[if_neg (haway k hk)]
  cases hf:ks.find? (fun j=>σ j==σ k)with
  |none=>have:=List.find?_eq_none.1 hf k hk;simp at this
  |some j=>
   have hj:=List.mem_of_find?_eq_some hf
   have hs:=List.find?_some hf
   have:j=k:=hinj j hj k hk (by simpa using hs)
   rw[this]
 have hkey':∀k' x,ρ'.key k'=some x→k'∈mv∨(k'∉mv∧∃k∈ks,σ k=k'∧ρ.key k=some x):=by
  intro k' x hx
  by_cases hm:k'∈mv
  ·exact .inl hm
  have hx:(if k'∈mv then ρ.key k' else match ks.find? (fun j=>σ j==k')with|some k=>ρ.key k|none=>none)=some x:=hx
  rw[if_neg hm]at hx
  cases hf:ks.find? (fun j=>σ j==k')with
  |none=>rw[hf]at hx;cases hx
  |some j=>rw[hf]at hx;exact .inr ⟨hm,j,List.mem_of_find?_eq_some hf,by simpa using List.find?_some hf,hx⟩
 have hold:∀k' b',(fn (normF σ fr ts) (deads mv++normH σ hp ks) (.k k')).blk=some b'→(k'∈mv∧b'=⟨0,true,.dead⟩)∨∃k∈ks,σ k=k'∧∃b,find hp k=some b∧b'=renB σ b∧∀j∈refsD b.data,j∈ks:=by
  intro k' b' hb
  simp only[fn,LV.blk]at hb
  by_cases hm:k'∈mv
  ·rw[find_deads.1 hm]at hb;cases hb;exact .inl ⟨hm,rfl⟩
  ·rw[find_deads.2 hm]at hb;exact .inr (normH_find h2 k' b' hb)
 have hlive:∀k' b',(fn (normF σ fr ts) (deads mv++normH σ hp ks) (.k k')).blk=some b'→b'.data.live=true→∃k∈ks,σ k=k'∧∃b,find hp k=some b∧b'=renB σ b∧∀j∈refsD b.data,j∈ks:=by
  intro k' b' hb hl
  rcases hold k' b' hb with⟨_,rfl⟩|g
  ·cases hl
  ·exact g
 have hfk:∀k∈E.fx,ρ'.key k=ρ.key k:=by
  intro k hk
  rcases hfix k hk with e|⟨e1,e2⟩
  ·exact hkm k e
  ·have:=hkey k e1
   rw[e2]at this;exact this
 refine⟨ρ',⟨⟨fun k x hx=> ?_,hext.le.imm⟩,hext.imm,fun k hk=> ?_⟩,fun k hk=> ?_,{defers:=hR.defers,size:=hR.size,fr:= ?_,pres:=hR.pres,hp:= ?_}⟩
 ·rw[hfk k (hE.dom k x hx)];exact hext.le.key k x hx
 ·rw[hfk k hk];exact hext.fix k hk
 ·simp only[fn,LV.blk]
  rcases hfix k hk with e|⟨e1,e2⟩
  ·rw[find_deads.1 e];simp
  ·by_cases hm:k∈mv
   ·rw[find_deads.1 hm];simp
   ·rw[find_deads.2 hm]
    obtain⟨b,hb⟩:=normH_has (σ:=σ) h2 k e1
    rw[e2]at hb
    rw[hb];simp
 ·intro t sv ht
  obtain⟨c,c1,rfl,c3⟩:=normF_lk h1 t sv ht
  exact(ren_has (ρ:=ρ) (ρ':=ρ') (σ:=σ) rfl c _ (fun k hk=>hkey k (c3 k hk))).2 (hR.fr t c (by simp only[fn,LV.sv];exact c1))
 ·constructor
  ·intro k' b' hb
   rcases hold k' b' hb with⟨_,rfl⟩|⟨k,hk,rfl,b,b1,rfl,b3⟩
   ·exact .inl rfl
   ·exact(renB_iff (ρ:=ρ) (ρ':=ρ') (σ:=σ) rfl k b (hkey k hk) (fun j hj=>hkey j (b3 j hj))).2 (hR.hp.blk k b (by simp only[fn,LV.blk];exact b1))
  ·intro k1 k2 x1 x2 b1 b2 hx1 hx2 hne he hb1 hb2 hl1 hl2
   obtain⟨j1,m1,rfl,c1,d1,rfl,_⟩:=hlive k1 b1 hb1 hl1
   obtain⟨j2,m2,rfl,c2,d2,rfl,_⟩:=hlive k2 b2 hb2 hl2
   rw[hkey j1 m1]at hx1
   rw[hkey j2 m2]at hx2
   exact hR.hp.sep j1 j2 x1 x2 c1 c2 hx1 hx2 (fun h=>hne (by rw[h])) he (by simp only[fn,LV.blk];exact d1) (by simp only[fn,LV.blk];exact d2) (by rwa [renB,renD_live]at hl1) (by rwa [renB,renD_live]at hl2)
  ·intro k' b' x hb hw hl hx
   obtain⟨k,hk,rfl,b,b1,rfl,_⟩:=hlive k' b' hb hl
   rw[hkey k hk]at hx
   exact hR.hp.own k b x (by simp only[fn,LV.blk];exact b1) hw (by rwa [renB,renD_live]at hl) hx
  ·intro k' x hx
   simp only[fn,LV.blk]
   rcases hkey' k' x hx with hm|⟨hm,k,hk,rfl,_⟩
   ·exact⟨_,find_deads.1 hm⟩
   ·rw[find_deads.2 hm]
    exact normH_has (σ:=σ) h2 k hk
  ·exact hR.hp.imm
  ·intro k' b' x hb hw hl hx
   obtain⟨k,hk,rfl,b,b1,rfl,_⟩:=hlive k' b' hb hl
   rw[hkey k hk]at hx
   exact hR.hp.immw k b x (by simp only[fn,LV.blk];exact b1) hw (by rwa [renB,renD_live]at hl) hx
theorem SWx_move {E:Env} (hE:E.OK) (σ:Nat→Nat) (ts ks mv:List Nat) {c:Code} {K:Post'} {fr:List (Nat×SV)} {hp:List (Nat×Blk)} (h:moveOK E.fx σ ts ks mv fr hp=true)
  (hs:SWx E c K (normF σ fr ts) (deads mv++normH σ hp ks)):SWx E c K fr hp:=⟨fun a w hR=>hs.run a w (move_RR hE h hR)⟩
theorem SWx_norm {E:Env} (hE:E.OK) (σ:Nat→Nat) (ts ks:List Nat) {c:Code} {K:Post'} {fr:List (Nat×SV)} {hp:List (Nat×Blk)} (h:normOK E.fx σ ts ks fr hp=true)
  (hs:SWx E c K (normF σ fr ts) (normH σ hp ks)):SWx E c K fr hp:=⟨SW_norm hE σ ts ks h hs.run⟩
theorem get_nil {hp:List (Nat×Blk)}:∀j c,(j,c)∈([]:List (Nat×Blk))→find hp j=some c:=fun _ _ h=>by cases h
theorem get_cons {hp l:List (Nat×Blk)} {k:Nat} {b:Blk} (h:find hp k=some b) (r:∀j c,(j,c)∈l→find hp j=some c):∀j c,(j,c)∈(k,b)::l→find hp j=some c:=by
 intro j c hm
 rcases List.mem_cons.1 hm with e|e
 ·cases e;exact h
 ·exact r j c e
theorem NamesOK.same {fk:List (Nat×Blk)}:NamesOK fk [] fun k=>k:=⟨fun _ _ _ _ _ _ h _=>h,(fun _ _ h=>by cases h),fun _ _ h=>by cases h⟩
mutual
theorem renS_id:∀c:SV,renS (fun k=>k) c=c
 |.ptr .. |.slc .. |.any|.val _|.nat _|.int _|.frac _|.atom _=>rfl
 |.agg cs=>by rw[renS,renL_id cs]
 |.tup vs=>by rw[renS,renL_id vs]
 |.clo f a b=>by rw[renS,renL_id a,renL_id b]
 |.yld k rc ts a=>by rw[renS,renL_id a]
theorem renL_id:∀l:List SV,renL (fun k=>k) l=l
 |[]=>rfl
 |c::l=>by rw[renL,renS_id c,renL_id l]
end
theorem renB_id (b:Blk):renB (fun k=>k) b=b:=by
 obtain⟨ty,wr,d⟩:=b
 cases d<;>simp only[renB,renD,renL_id]
theorem renH_id:∀l:List (Nat×Blk),renH (fun k=>k) l=l
 |[]=>rfl
 |(k,b)::r=>by rw[renH,renB_id,renH_id r]
theorem callI {P:Program} {T:List (TypeId×TI)} {Z:List Nat} (hT:TabOK P T) (hm:P.follows .mixedOrders=true) {f:FuncId} {fn':Func} {code:Code} (hf:P.funcs[f]? =some fn') (hb:fn'.body=some code)
  (hn:(fn'.name== "runtime.NumGoroutine")=false) {args:List SV} {fk:List (Nat×Blk)} {c:SV} {upd:List (Nat×Blk)} (hs:ShapeOK args fk c [] upd) (hnt:Nat.ble args.length fn'.ntmps=true)
  (h:∀W0 w0 ρ0,Env.OK ⟨P,T,W0,w0,fn'.ntmps,ρ0,keysOf fk,Z,none⟩→cwp ⟨P,T,W0,w0,fn'.ntmps,ρ0,keysOf fk,Z,none⟩ code (Ret T fn'.results.toList (Fin c [] upd)) (enum 0 args) fk):
  CallOK P f args fk c [] upd:=by
 have:=callK hT hm hf hb hn hs hnt (fun k=>k) NamesOK.same h
 rwa [renL_id,renH_id,renS_id,renH_id upd]at this
section
variable {P:Program} {o:Oper} {fr:List (Nat×SV)} {hp:List (Nat×Blk)}
theorem ptr1_has {ρ:Rho} {v:Value} {k i:Nat} (h:Has ρ (.ptr k 1 i 0) v):Has ρ (.ptr k 1 0 i) v:=by
 obtain⟨z,⟨b,t',h1,h2⟩,h3⟩:=h
 refine⟨z,⟨b,t',h1, ?_⟩,h3⟩
 rw[h2];simp
theorem g_load1 {K:SV→List (Nat×Blk)→List (Nat×Blk)→List (Nat×Blk)→Prop} {t ty:TypeId} {x:Operand} {ti:TI} {k i:Nat} {wr:Bool} {cs l:List SV} {c:SV} (ho:o.op= .load t x) (hx:EvOK fr x (.ptr k 1 i 0))
  (hf:find hp k=some ⟨ty,wr,.one cs⟩) (ht:TOK P t ti) (hs:sub 64 cs i ti.size=some l) (hsz:ti.size≠0) (hsh:shapeAs ti l=some c) (hK:K c [(k,⟨ty,wr,.one cs⟩)] [] []):
  ∃c fk new upd,OpOK P o fr fk c new upd∧(∀j b,(j,b)∈fk→find hp j=some b)∧(∀j b,(j,b)∈new→find hp j=none)∧(∀j b,(j,b)∈upd→∃b0,(j,b0)∈fk∧b0.wr=true∧b0.data.live=true∧b.wr=true)∧K c fk new upd:=
 ⟨c,_,[],[],op_load (ob:=none) (i:=0) (s:=1) ho (fun ρ a h=>ptr1_has (hx ρ a h)) ht (List.mem_singleton.2 rfl) rfl trivial hs hsz hsh,one_fk hf,nil_new,nil_upd,hK⟩
theorem g_store1 {K:SV→List (Nat×Blk)→List (Nat×Blk)→List (Nat×Blk)→Prop} {t ty:TypeId} {x y:Operand} {ti:TI} {k i:Nat} {cs cs' nw:List SV} {sv:SV} (ho:o.op= .store t x y) (hx:EvOK fr x (.ptr k 1 i 0))
  (hy:EvOK fr y sv) (hf:find hp k=some ⟨ty,true,.one cs⟩) (ht:TOK P t ti) (hc:comps sv=some nw) (hw:SV.widthL nw=ti.size) (hle:i+ti.size≤SV.widthL cs) (hp':put 64 cs i ti.size nw=some cs')
  (hK:K .any [(k,⟨ty,true,.one cs⟩)] [] [(k,⟨ty,true,.one cs'⟩)]):
  ∃c fk new upd,OpOK P o fr fk c new upd∧(∀j b,(j,b)∈fk→find hp j=some b)∧(∀j b,(j,b)∈new→find hp j=none)∧(∀j b,(j,b)∈upd→∃b0,(j,b0)∈fk∧b0.wr=true∧b0.data.live=true∧b.wr=true)∧K c fk new upd:=
 ⟨.any,_,[],_,op_store (ob:=none) (i:=0) (s:=1) ho (fun ρ a h=>ptr1_has (hx ρ a h)) hy ht (List.mem_singleton.2 rfl) rfl trivial hc hw hle hp' rfl,one_fk hf,nil_new,one_upd (List.mem_singleton.2 rfl) rfl rfl rfl,hK⟩
end
end Go.Sx
namespace Go.Proofs.YtjknedoaofjnbaaGreatDoor
open Go.Sx
set_option linter.unusedSimpArgs false
set_option linter.unusedVariables false
set_option maxRecDepth 100000
set_option maxHeartbeats 40000000
abbrev wkC (r m p:Nat) (d:Rat):List SV:=[.slc 1002 1 0 r,iv m,.slc 1003 1 0 p,.frac d]
abbrev wkB (b:Bool) (r m p:Nat) (d:Rat):Blk:=⟨153,b,.one (wkC r m p d)⟩
abbrev rkB (b:Bool) (l:List SV):Blk:=⟨22,b,.one l⟩
abbrev rk (i c:Nat):SV:=.slc (1010+i) 5 0 c
abbrev pvB (b:Bool) (l:List Int):Blk:=⟨3,b,.ints .i64 l⟩
abbrev rwB (b:Bool) (l:List Rat):Blk:=⟨53,b,.fracs l⟩
abbrev cellsE (r c:Nat):List SV:=(List.range r).map fun i=>rk i c
def rowsE (b:Nat→Bool) (M:Nat→List Rat):Nat→Nat→List (Nat×Blk)
 |0,_=>[]
 |n+1,i=>(1010+i,rwB (b i) (M i))::rowsE b M n (i+1)
abbrev hpE (bW bR bP:Bool) (w:Nat→Bool) (r m c p:Nat) (d:Rat) (pv:List Int) (M:Nat→List Rat):List (Nat×Blk):=
 (1001,wkB bW r m p d)::(1002,rkB bR (cellsE r c))::(1003,pvB bP pv)::rowsE w M r 0
theorem e_swap {r i k:Nat} (m c p:Nat) (d:Rat) (pv:List Int) (M:Nat→List Rat) (hr:r≤6) (hi:i<r) (hk:k<i):
  CallOK Tryz.prog 150 [.ptr 1001 0 0 0,iv i,iv k] (hpE true true false (fun _=>false) r m c p d pv M) (.tup []) []
   [(1001,wkB true r m p (-d)),(1002,rkB true (((cellsE r c).set i (rk k c)).set k (rk i c)))]:=by
 have k1:=c_fNeg d
 obtain rfl|rfl|rfl|rfl|rfl:r=2∨r=3∨r=4∨r=5∨r=6:=by omega
 all_goals obtain rfl|rfl|rfl|rfl|rfl:i=1∨i=2∨i=3∨i=4∨i=5:=by omega
 all_goals first|omega|skip
 all_goals obtain rfl|rfl|rfl|rfl|rfl:k=0∨k=1∨k=2∨k=3∨k=4:=by omega
 all_goals first|omega|skip
 all_goals
  refine callI (Z:=[]) tabOK mixedOK Tryz.func150 rfl (by kernel_rfl) (ShapeOK.of rfl rfl rfl rfl rfl rfl rfl rfl rfl rfl rfl) rfl ?_
  intro W0 w0 ρ0 hE
  conv=>whnf
  (repeat((first|refine step_w1 rfl rfl ?_|refine step_i (by kernel_rfl) ?_|refine step_oA (by first|omega|decide|(simp only[tl0,dlen,List.length_replicate,List.length_set,List.length_map,List.length_zipWith,List.length_take,List.length_append,List.length_cons,List.length_nil];omega)) ?_|refine g_c (by assumption) ?_|refine g_load1 rfl (ev_ok rfl) rfl (tgt rfl) rfl (Nat.succ_ne_zero _) rfl ?_|refine g_store1 rfl (ev_ok rfl) (ev_ok rfl) rfl (tgt rfl) rfl rfl (Nat.le_of_ble_eq_true rfl) rfl ?_);conv=>whnf))
  exact⟨Recast.refl _,get_nil,get_cons rfl (get_cons rfl get_nil)⟩
theorem e_swap0 (i:Int):CallOK Tryz.prog 150 [.ptr 1001 0 0 0,iv i,iv i] [(1001,⟨0,false,.dead⟩)] (.tup []) [] []:=by
 refine callI (Z:=[]) tabOK mixedOK Tryz.func150 rfl (by kernel_rfl) (ShapeOK.of rfl rfl rfl rfl rfl rfl rfl rfl rfl rfl rfl) rfl ?_
 intro W0 w0 ρ0 hE
 conv=>whnf
 (repeat(first|(refine step_w2 rfl rfl ?_;conv=>whnf)|(rw[bne_self_eq_false];conv=>whnf)))
 exact⟨Recast.refl _,get_nil,get_nil⟩
end Go.Proofs.YtjknedoaofjnbaaGreatDoor
namespace Go.Sx
set_option linter.unusedSimpArgs false
set_option linter.unusedVariables false
def pickH (hp:List (Nat×Blk)):List Nat→List (Nat×Blk)
 |[]=>[]
 |k::r=>match find hp k with
  |some b=>(k,b)::pickH hp r
  |none=>pickH hp r
theorem normH_id (hp:List (Nat×Blk)):∀ks,normH (fun k=>k) hp ks=pickH hp ks
 |[]=>rfl
 |k::r=>by
  rw[normH,pickH,normH_id hp r]
  cases find hp k with
  |none=>rfl
  |some b=>simp only[renB_id]
theorem SW_loopE {E:Env} (hE:E.OK) {c:Code} {K:Post'} {fr:List (Nat×SV)} {hp:List (Nat×Blk)} (ts:List Nat) (I:Nat→List (Nat×SV)→List (Nat×Blk)→Prop) (m:Nat)
  (h0:normOK E.fx (fun k=>k) ts E.fx fr hp=true) (hI:I m (normF (fun k=>k) fr ts) (pickH hp E.fx))
  (h:∀m fr hp,I m fr hp→cwp E c (fun e fr' hp'=>match e with
   |.normal=>∃m',m'<m∧normOK E.fx (fun k=>k) ts E.fx fr' hp'=true∧I m' (normF (fun k=>k) fr' ts) (pickH hp' E.fx)
   |e=>K e fr' hp') fr hp):SWx E (.loop c) K fr hp:=by
 refine⟨?_⟩
 refine SW_norm hE (fun k=>k) ts E.fx h0 (SW_loop (fun m fr hp=>∃fr0 hp0,(∀a w,RR E (fn fr hp) a w→RR E (fn fr0 hp0) a w)∧I m fr0 hp0) m ⟨_,_,fun _ _ h=>h,by rw[normH_id];exact hI⟩ ?_)
 rintro m fr hp ⟨fr0,hp0,hw,hI⟩ a w hR
 refine Code.wpIn_mono ?_ (cwp_sound hE c _ fr0 hp0 (h m fr0 hp0 hI) a w (hw a w hR))
 rintro e a' w' ⟨fr',hp',h1,h2⟩
 cases e with
 |normal=>
  obtain⟨m',hlt,hok,hI'⟩:=h1
  rw[←normH_id]at hI'
  exact⟨fr',hp',⟨m',hlt,_,_,fun a w hR=>norm_RR hE hok hR,hI'⟩,h2⟩
 |_=>exact⟨fr',hp',h1,h2⟩
theorem normOK_of {fx:List Nat} {σ:Nat→Nat} {ts ks:List Nat} {fr:List (Nat×SV)} {hp:List (Nat×Blk)} (h1:normOKf ks fr ts=true) (h2:normOKh ks hp ks=true) (h3:(injOK σ ks&&fixOK σ ks fx)=true):normOK fx σ ts ks fr hp=true:=by
 rw[normOK,h1,h2,h3];rfl
theorem normOKh_nil {ks:List Nat} {hp:List (Nat×Blk)}:normOKh ks hp []=true:=rfl
theorem normOKh_cons {ks r:List Nat} {hp:List (Nat×Blk)} {k:Nat} {b:Blk} (h:find hp k=some b) (h1:subN (refsD b.data) ks=true) (h2:normOKh ks hp r=true):normOKh ks hp (k::r)=true:=by
 simp only[normOKh,h,h1,h2,Bool.and_self]
theorem subN_app {l m r:List Nat}:subN (l++m) r=(subN l r&&subN m r):=by
 induction l with
 |nil=>rfl
 |cons x l ih=>simp only[List.cons_append,subN,ih,Bool.and_assoc]
theorem refsB_nil {r:List Nat}:subN (refsB []) r=true:=rfl
theorem refsB_cons {k:Nat} {b:Blk} {l:List (Nat×Blk)} {r:List Nat} (h:subN (refsD b.data) r=true) (h2:subN (refsB l) r=true):subN (refsB ((k,b)::l)) r=true:=by
 rw[refsB,subN_app,h,h2];rfl
theorem sub_mid {A B:List SV} {x:SV} (hx:x.width=1):∀(f:Nat),(∀a∈A,a.width=1)→A.length+1<f→sub f (A++x::B) A.length 1=some [x]:=by
 induction A with
 |nil=>
  intro f _ hf
  match f,hf with
  |f+2,_=>simp[sub,hx]
 |cons a A ih=>
  intro f ha hf
  match f,hf with
  |f+1,hf=>
   have:=ih f (fun b hb=>ha b (List.mem_cons_of_mem _ hb)) (by simp only[List.length_cons]at hf;omega)
   simp only[List.cons_append,List.length_cons,sub,ha a (List.mem_cons_self ..),Nat.add_sub_cancel]
   rw[show Nat.ble 1 (A.length+1)=true from Nat.ble_eq_true_of_le (by omega)]
   exact this
inductive WL:List SV→List SV→Prop
 |refl {l}:WL l l
 |eq {c l m}:WL l m→WL (c::l) (c::m)
 |any {c l m}:c.width=1→WL l m→WL (c::l) (.any::m)
theorem WL.has {ρ:Rho} {l m:List SV} (h:WL l m):∀z,HasZ ρ l z→HasZ ρ m z:=by
 induction h with
 |refl=>exact fun _ h=>h
 |eq _ ih=>
  intro z hz
  simp only[HasZ]at hz ⊢
  obtain⟨x,r,rfl,h1,h2⟩:=hz
  exact⟨x,r,rfl,h1,ih r h2⟩
 |any hw _ ih=>
  intro z hz
  simp only[HasZ]at hz ⊢
  obtain⟨x,r,rfl,h1,h2⟩:=hz
  refine⟨x,r,rfl, ?_,ih r h2⟩
  obtain⟨g1,g2⟩:=HasC.len _ x h1
  rw[hw]at g1
  match x,g1,g2 with
  |[v],_,g2=>simp only[HasC];exact⟨v,rfl,g2 v (List.mem_singleton.2 rfl)⟩
inductive WkBlk:Blk→Blk→Prop
 |dead {b ty}:WkBlk b ⟨ty,false,.dead⟩
 |same {ty wr wr' d}:(wr'=true→wr=true)→WkBlk ⟨ty,wr,d⟩ ⟨ty,wr',d⟩
 |one {ty wr wr' cs cs'}:(wr'=true→wr=true)→WL cs cs'→WkBlk ⟨ty,wr,.one cs⟩ ⟨ty,wr',.one cs'⟩
theorem ff_imp {p:Prop} (h:false=true):p:=by cases h
theorem WkBlk.ok {b b':Blk} (h:WkBlk b b') {ρ:Rho} {w:World} {k:Nat} (hb:BlkOK ρ w k b):BlkOK ρ w k b':=by
 cases h with
 |dead=>exact .inl rfl
 |same=>exact hb
 |one _ hl=>
  rcases hb with h|⟨b,t,vs,ex,h1,h2,⟨z,h3,h4⟩,h5⟩|⟨h1,h2⟩
  ·cases h
  ·exact .inr (.inl ⟨b,t,vs,ex,h1,h2,⟨z,hl.has z h3,h4⟩,h5⟩)
  ·exact .inr (.inr ⟨h1,h2⟩)
theorem WkBlk.live {b b':Blk} (h:WkBlk b b') (hl:b'.data.live=true):b.data.live=true∧(b'.wr=true→b.wr=true):=by
 cases h with
 |dead=>cases hl
 |same g=>exact⟨hl,g⟩
 |one g _=>exact⟨rfl,g⟩
def fkOf (hp:List (Nat×Blk)):List (Nat×Blk)→List (Nat×Blk)
 |[]=>[]
 |(k,_)::r=>match find hp k with
  |some b=>(k,b)::fkOf hp r
  |none=>fkOf hp r
theorem fkOf_mem {hp:List (Nat×Blk)}:∀{l:List (Nat×Blk)} (j:Nat) (b:Blk),(j,b)∈fkOf hp l→find hp j=some b
 |(k,_)::r,j,b,hm=>by
  rw[fkOf]at hm
  cases hf:find hp k with
  |none=>rw[hf]at hm;exact fkOf_mem j b hm
  |some c=>
   rw[hf]at hm
   rcases List.mem_cons.1 hm with e|e
   ·cases e;exact hf
   ·exact fkOf_mem j b e
inductive WkH (hp:List (Nat×Blk)):List (Nat×Blk)→Prop
 |nil:WkH hp []
 |cons {k b b' l}:find hp k=some b→WkBlk b b'→WkH hp l→WkH hp ((k,b')::l)
theorem WkH.mem {hp l:List (Nat×Blk)} (h:WkH hp l):∀k b',(k,b')∈l→∃b,(k,b)∈fkOf hp l∧WkBlk b b':=by
 induction h with
 |nil=>intro _ _ h;cases h
 |cons hf hw _ ih=>
  intro j b' hm
  rw[fkOf,hf]
  rcases List.mem_cons.1 hm with e|e
  ·cases e;exact⟨_,List.mem_cons_self ..,hw⟩
  ·obtain⟨c,h1,h2⟩:=ih j b' e
   exact⟨c,List.mem_cons_of_mem _ h1,h2⟩
theorem PreW.view {hp l new:List (Nat×Blk)} {ρ:Rho} {w:World} (h:WkH hp l) (hp':PreW (fkOf hp l) new ρ w):PreW l new ρ w:=by
 refine⟨fun k b hk=> ?_,fun k k' x x' b b' hk hk' e1 e2 e3 e4 e5 e6=> ?_,hp'.imm,fun k b x hk hw hl hx=> ?_,hp'.fresh⟩
 ·obtain⟨c,h1,h2⟩:=h.mem k b hk
  exact h2.ok (hp'.hfk k c h1)
 ·obtain⟨c,h1,h2⟩:=h.mem k b hk
  obtain⟨c',h1',h2'⟩:=h.mem k' b' hk'
  have:=hp'.sep k k' x x' c c' h1 h1' e1 e2 e3 e4 (h2.live e5).1 (h2'.live e6).1
  cases hb:b.wr with
  |false=>rfl
  |true=>rw[(h2.live e5).2 hb]at this;cases this
 ·obtain⟨c,h1,h2⟩:=h.mem k b hk
  exact hp'.immw k c x h1 ((h2.live hl).2 hw) (h2.live hl).1 hx
section
variable {P:Program} {f:FuncId} {args:List SV} {c:SV} {hp:List (Nat×Blk)}
theorem g_cv {k:SV→List (Nat×Blk)→List (Nat×Blk)→List (Nat×Blk)→Prop} {l upd:List (Nat×Blk)} (h:CallOK P f args l c [] upd) (hw:WkH hp l) (hu:UpdOK (fkOf hp l) upd) (hk:k c (fkOf hp l) [] upd):
  ∃fk c new upd,CallOK P f args fk c new upd∧FkOK hp fk∧NewOK hp new∧UpdOK fk upd∧k c fk new upd:=
 ⟨fkOf hp l,c,[],upd,CallOK.weak h fun _ _=>PreW.view hw,fkOf_mem,nil_new,hu,hk⟩
end
theorem updB_spec {fk upd:List (Nat×Blk)} (h:updKB fk upd=true) (hw:(upd.all fun x=>x.2.wr)=true):UpdOK fk upd:=fun j b hm=>by
 obtain⟨b0,h1,h2,h3⟩:=updKB_spec h j b hm
 exact⟨b0,h1,h2,h3,List.all_eq_true.1 hw _ hm⟩
def inj1 (σ:Nat→Nat) (k:Nat):List Nat→Bool
 |[]=>true
 |j::r=>(Nat.beq j k|| !(Nat.beq (σ k) (σ j)))&&inj1 σ k r
theorem inj1_spec {σ:Nat→Nat} {k:Nat}:∀{l:List Nat},inj1 σ k l=true→∀j∈l,k≠j→σ k≠σ j
 |i::r,h,j,hj,hne=>by
  simp only[inj1,Bool.and_eq_true,Bool.or_eq_true,Bool.not_eq_true']at h
  rcases List.mem_cons.1 hj with rfl|hj
  ·rcases h.1 with g|g
   ·exact absurd (Nat.eq_of_beq_eq_true g).symm hne
   ·intro e;rw[e]at g;simp at g
  ·exact inj1_spec h.2 j hj hne
def namesB (σ:Nat→Nat) (ks:List Nat):List (Nat×Blk)→Bool
 |[]=>true
 |(k,b)::r=>(!b.wr||inj1 σ k ks)&&namesB σ ks r
theorem namesB_spec {σ:Nat→Nat} {ks:List Nat}:∀{l:List (Nat×Blk)},namesB σ ks l=true→∀q b,(q,b)∈l→b.wr=true→∀j∈ks,q≠j→σ q≠σ j
 |(k,b)::r,h,q,c,hm,hw,j,hj,hne=>by
  simp only[namesB,Bool.and_eq_true,Bool.or_eq_true,Bool.not_eq_true']at h
  rcases List.mem_cons.1 hm with e|e
  ·cases e
   rcases h.1 with g|g
   ·rw[hw]at g;cases g
   ·exact inj1_spec g j hj hne
  ·exact namesB_spec h.2 q c e hw j hj hne
theorem NamesOK.of {fk:List (Nat×Blk)} {σ:Nat→Nat} (h:namesB σ (keysOf fk) fk=true):NamesOK fk [] σ:=
 ⟨fun q q' b b' hq hq' hne hw=>namesB_spec h q b hq hw q' (keysOf_mem.2 ⟨b',hq'⟩) hne,(fun _ _ h=>by cases h),fun _ _ h=>by cases h⟩
end Go.Sx
namespace Go.Proofs.YtjknedoaofjnbaaGreatDoor
open Go.Sx
set_option linter.unusedSimpArgs false
set_option linter.unusedVariables false
set_option maxRecDepth 100000
set_option maxHeartbeats 40000000
theorem set_at {l:List Rat} {j:Nat} {x:Rat} (h:j<l.length):(l.set j x).getD j 0=x:=by simp[List.getD_eq_getElem?_getD,h]
theorem set_off {l:List Rat} {j k:Nat} {x:Rat} (h:k≠j):(l.set j x).getD k 0=l.getD k 0:=by simp[List.getD_eq_getElem?_getD,List.getElem?_set_ne (Ne.symm h)]
theorem range_ext {o:List Rat} {n:Nat} {F:Nat→Rat} (hl:o.length=n) (h:∀k,k<n→o.getD k 0=F k):o=(List.range n).map F:=by
 refine List.ext_getElem (by simp[hl]) fun k h1 h2=> ?_
 have:=h k (by omega)
 rw[List.getD_eq_getElem?_getD,List.getElem?_eq_getElem h1]at this
 simpa using this
abbrev wvB (r m:Nat) (d:Rat):Blk:=⟨153,false,.one [.slc 1002 1 0 r,iv m,.any,.frac d]⟩
abbrev qB (q:Rat):Blk:=⟨53,false,.one [.frac q]⟩
abbrev mid (A B:List SV) (n:Nat):List SV:=A++ .slc 1010 5 0 n::B
theorem e_each1 {r i:Nat} (A B:List SV) (m c:Nat) (d q:Rat) (x:List Rat) (F:Nat→Rat) (g:FuncId) (hi:A.length=i) (hA:∀a∈A,a.width=1) (hr:r≤40) (hir:i<r) (hc:c≤4096) (hx:x.length=c)
  (hR:subN (refsL (mid A B c)) [1001,1002,1006,1010]=true)
  (hf:∀k,k<c→CallOK Tryz.prog g ([]++([iv (k:Nat),.frac (x.getD k 0)]++[.ptr 1006 0 0 0])) [(1006,qB q)] (.frac (F k)) [] []) (σ:Nat→Nat) (hσ:NamesOK [(1001,wvB r m d),(1002,rkB false (mid A B c)),(1006,qB q),(1010,rwB true x)] [] σ):
  CallOK Tryz.prog 200 (renL σ [.ptr 1001 0 0 0,iv i,.clo g [] [.ptr 1006 0 0 0]]) (renH σ [(1001,wvB r m d),(1002,rkB false (mid A B c)),(1006,qB q),(1010,rwB true x)]) (renS σ (.tup [])) (renH σ []) (renH σ [(1010,rwB true ((List.range c).map F))]):=by
 refine callK (Z:=[]) tabOK mixedOK Tryz.func200 rfl (by kernel_rfl) (ShapeOK.of rfl (by exact refsB_cons rfl (refsB_cons hR (refsB_cons rfl (refsB_cons rfl refsB_nil)))) rfl rfl rfl rfl rfl rfl rfl rfl rfl) rfl σ hσ ?_
 intro W0 w0 ρ0 hE
 have hs:sub 64 (mid A B c) A.length 1=some [.slc 1010 5 0 c]:=sub_mid rfl 64 hA (by omega)
 obtain⟨AA,hAA⟩:∃X,X=A:=⟨A,rfl⟩
 rcases A with _|⟨a,A⟩
 all_goals
  subst hi
  conv=>whnf
  (repeat((first|refine step_oA (by first|omega|decide|(simp only[tl0,dlen,List.length_replicate,List.length_set,List.length_map,List.length_zipWith,List.length_take,List.length_append,List.length_cons,List.length_nil];omega)) ?_|refine g_load1 rfl (ev_ok rfl) rfl (tgt rfl) hs (Nat.succ_ne_zero _) rfl ?_|rw[Int.toNat_natCast]|rw[Nat.zero_add]);conv=>whnf))
  refine SW_loopE hE [0,1,2,14,15,16] (fun m' fr hp=>∃(j:Nat) (o:List Rat),m'=c - j∧j≤c∧o.length=c∧(∀k,k<j→o.getD k 0=F k)∧(∀k,j≤k→o.getD k 0=x.getD k 0)∧
   fr=[(0,.ptr 1001 0 0 0),(1,iv AA.length),(2,.clo g [] [.ptr 1006 0 0 0]),(14,.slc 1010 5 0 c),(15,iv c),(16,iv (j:Nat))]∧hp=[(1001,wvB r m d),(1002,rkB false (mid AA B c)),(1006,qB q),(1010,rwB true o)]) c ?_ ?_ ?_
  ·exact normOK_of (by kernel_rfl) (by exact normOKh_cons rfl rfl (normOKh_cons rfl hR (normOKh_cons rfl rfl (normOKh_cons rfl rfl normOKh_nil)))) (by kernel_rfl)
  ·exact⟨0,x,rfl,Nat.zero_le _,hx,fun k h=>by omega,fun k _=>rfl,by subst hAA;rfl,by subst hAA;rfl⟩
  rintro m _ _ ⟨j,o,rfl,hj,hl,ho,hu,rfl,rfl⟩
  subst hAA
  conv=>whnf
  by_cases hlt:j<c
  ·have t1:=dlt hlt
   have t2:=winc (i:=j) (by omega)
   have hk:=hf j hlt
   rw[←hu j (Nat.le_refl _)]at hk
   (repeat((first|refine step_i (by kernel_rfl) ?_|refine step_oL (by first|omega|decide|(simp only[tl0,dlen,List.length_replicate,List.length_set,List.length_map,List.length_zipWith,List.length_take,List.length_append,List.length_cons,List.length_nil];omega)) ?_|refine step_oA (by first|omega|decide|(simp only[tl0,dlen,List.length_replicate,List.length_set,List.length_map,List.length_zipWith,List.length_take,List.length_append,List.length_cons,List.length_nil];omega)) ?_|refine g_c1 (by assumption) rfl ?_|refine tst_tt t1 ?_|refine g_load1 rfl (ev_ok rfl) rfl (tgt rfl) hs (Nat.succ_ne_zero _) rfl ?_|rw[t1]|rw[t2]|rw[Int.toNat_natCast]|rw[Nat.zero_add]);conv=>whnf))
   refine⟨c - (j+1),by omega,normOK_of (by kernel_rfl) (by exact normOKh_cons rfl rfl (normOKh_cons rfl hR (normOKh_cons rfl rfl (normOKh_cons rfl rfl normOKh_nil)))) (by kernel_rfl),j+1,o.set j (F j),rfl,hlt,by rw[List.length_set];exact hl, ?_, ?_,rfl,rfl⟩
   ·intro k h
    by_cases e:k=j
    ·rw[e,set_at (by omega)]
    ·rw[set_off e];exact ho k (by omega)
   ·intro k h
    rw[set_off (by omega)];exact hu k (by omega)
  ·have t1:=dge hlt
   obtain rfl:j=c:=by omega
   have hx:=range_ext hl ho
   (repeat(first|(refine tst_ff t1 ?_;conv=>whnf)))
   exact⟨Recast.refl _,get_nil,get_cons (by rw[←hx];rfl) get_nil⟩
end Go.Proofs.YtjknedoaofjnbaaGreatDoor
namespace Go.Proofs.YtjknedoaofjnbaaGreatDoor
open Go.Sx
set_option linter.unusedSimpArgs false
set_option linter.unusedVariables false
set_option maxRecDepth 100000
set_option maxHeartbeats 40000000
theorem len_szH {n:Nat} (h:sz n≤4398046511104):(wInts n).length<274877906944:=by
 have:=wlen_sz (n:=n) (M:=137438953472) (by omega)
 omega
theorem natHuge:NatOK 4398046511104 where
 big:=by decide
 cmp a b ha hb:=c_Cmp a b (by have:=len_szH ha;omega) (by have:=len_szH hb;omega)
 add a b h:=n_Add a b (by have:=len_szH (n:=a) (Nat.le_trans (sz_mono (by omega)) h);omega) (by have:=len_szH (n:=b) (Nat.le_trans (sz_mono (by omega)) h);omega)
 sub a b ha h:=n_Sub a b (by have:=len_szH ha;omega) h
 subF a b hb h:=c_SubF a b (by have:=len_szH hb;have:=len_le_of (Nat.lt_trans h (lt_of_len b));omega) (by have:=len_szH hb;omega) h
 mul a b h:=n_Mul a b (len_szH (by omega)) (len_szH (by omega))
 div a b ha hb h0:=c_Div a b (len_szH ha) (len_szH hb) h0
 divZ a:=c_DivZ a
 gcd a b ha hb:=c_Gcd a b (len_szH ha) (len_szH hb)
theorem x_Add (a b:Rat) (h:fs a+fs b≤4398046511104):CallOK Tryz.prog 98 [.frac a,.frac b] [] (.frac (a+b)) [] []:=c_fAdd natHuge a b (by unfold fs at h;omega)
theorem x_Mul (a b:Rat) (h:fs a+fs b≤4398046511104):CallOK Tryz.prog 41 [.frac a,.frac b] [] (.frac (a*b)) [] []:=c_fMul natHuge a b (by unfold fs at h;omega)
theorem x_Div (a b:Rat) (hb:b≠0) (h:fs a+fs b≤4398046511104):CallOK Tryz.prog 73 [.frac a,.frac b] [] (.tup [.frac (a/b),.val (.int .i64 0)]) [] []:=c_fDiv natHuge a b hb (by unfold fs at h;omega)
theorem x_Sub (a b:Rat) (h:fs a+fs b≤4398046511104):CallOK Tryz.prog 203 [.frac a,.frac b] [] (.frac (a - b)) [] []:=by
 have k1:=c_fNeg b
 have k2:=x_Add a (-b) (by rw[fs_neg];exact h)
 rw[←Rat.sub_eq_add_neg]at k2
 refine callV (Z:=[]) tabOK mixedOK Tryz.func203 rfl (by kernel_rfl) rfl rfl (by kernel_rfl) rfl ?_
 intro W0 w0 ρ0 hE
 conv=>whnf
 (repeat(first|(refine step_i (by kernel_rfl) ?_;conv=>whnf)|(refine g_c (by assumption) ?_;conv=>whnf)));(first|exact Recast.refl _|exact Frz.recast (Recast.refl _) rfl|(refine Frz.one rfl rfl ?_;skip)|(refine Frz.tup ?_;skip))
theorem e_clear1 (k:Int) (x q:Rat) (hq:q≠0) (h:fs x+fs q≤4398046511104):CallOK Tryz.prog 201 ([]++([iv k,.frac x]++[.ptr 1006 0 0 0])) [(1006,qB q)] (.frac (x/q)) [] []:=by
 have k1:=x_Div x q hq h
 refine callI (Z:=[]) tabOK mixedOK Tryz.func201 rfl (by kernel_rfl) (ShapeOK.of rfl rfl rfl rfl rfl rfl rfl rfl rfl rfl rfl) rfl ?_
 intro W0 w0 ρ0 hE
 conv=>whnf
 (repeat(first|(refine g_c (by assumption) ?_;conv=>whnf)))
 exact⟨Recast.refl _,get_nil,get_nil⟩
abbrev wbB:Blk:=⟨146,false,.one [.ptr 1001 0 0 0]⟩
abbrev mid2 (C D:List SV) (n:Nat):List SV:=C++ .slc 1011 5 0 n::D
theorem e_clear2 {r top k:Nat} (C D:List SV) (m c A:Nat) (d x q:Rat) (T o:List Rat) (hi:C.length=top) (hC:∀a∈C,a.width=1) (hr:r≤40) (ht:top<r) (hk:k<c) (hT:T.length=c)
  (hR:subN (refsL (mid2 C D c)) [1006,1005,1001,1002,1011,1010]=true) (hx:fs x≤A) (hq:fs q≤A) (hn:fs (T.getD k 0)≤2*A) (hA:4*A≤4398046511104):
  CallOK Tryz.prog 202 ([]++([iv (k:Nat),.frac x]++[.ptr 1006 0 0 0,.ptr 1005 0 0 0,ptrA [iv top]])) [(1006,qB q),(1005,wbB),(1001,wvB r m d),(1002,rkB false (mid2 C D c)),(1011,rwB false T),(1010,rwB false o)] (.frac (x - q*T.getD k 0)) [] []:=by
 have k1:=x_Mul q (T.getD k 0) (by omega)
 have k2:=x_Sub x (q*T.getD k 0) (by have:=fs_mul q (T.getD k 0);omega)
 refine callI (Z:=[]) tabOK mixedOK Tryz.func202 rfl (by kernel_rfl) (ShapeOK.of rfl (by exact refsB_cons rfl (refsB_cons rfl (refsB_cons rfl (refsB_cons hR (refsB_cons rfl (refsB_cons rfl refsB_nil)))))) rfl rfl rfl rfl rfl rfl rfl rfl rfl) rfl ?_
 intro W0 w0 ρ0 hE
 have hs:sub 64 (mid2 C D c) C.length 1=some [.slc 1011 5 0 c]:=sub_mid rfl 64 hC (by omega)
 rcases C with _|⟨a,C⟩
 all_goals
  subst hi
  conv=>whnf
  (repeat((first|refine step_i (by kernel_rfl) ?_|refine step_oL (by first|omega|decide|(simp only[tl0,dlen,List.length_replicate,List.length_set,List.length_map,List.length_zipWith,List.length_take,List.length_append,List.length_cons,List.length_nil];omega)) ?_|refine step_oA (by first|omega|decide|(simp only[tl0,dlen,List.length_replicate,List.length_set,List.length_map,List.length_zipWith,List.length_take,List.length_append,List.length_cons,List.length_nil];omega)) ?_|refine g_c (by assumption) ?_|refine g_o (op_loadA rfl (ev_ok rfl) (tgt rfl) rfl (Nat.succ_ne_zero _) rfl) ?_|refine g_load1 rfl (ev_ok rfl) rfl (tgt rfl) hs (Nat.succ_ne_zero _) rfl ?_|rw[Int.toNat_natCast]|rw[Nat.zero_add]);conv=>whnf))
  exact⟨Recast.refl _,get_nil,get_nil⟩
end Go.Proofs.YtjknedoaofjnbaaGreatDoor
namespace Go.Sx
set_option linter.unusedSimpArgs false
set_option linter.unusedVariables false
section
variable {P:Program} {f:FuncId} {args:List SV} {c:SV} {hp:List (Nat×Blk)}
end
end Go.Sx
namespace Go.Proofs.YtjknedoaofjnbaaGreatDoor
open Go.Sx
set_option linter.unusedSimpArgs false
set_option linter.unusedVariables false
set_option maxRecDepth 100000
set_option maxHeartbeats 40000000
abbrev cap2 (top:Nat):List SV:=[.ptr 1006 0 0 0,.ptr 1005 0 0 0,ptrA [iv top]]
abbrev fk2 (r m c:Nat) (A B:List SV) (d q:Rat) (T x:List Rat) (b:Bool):List (Nat×Blk):=[(1006,qB q),(1005,wbB),(1001,wvB r m d),(1002,rkB false (mid A B c)),(1011,rwB false T),(1010,rwB b x)]
theorem e_each2 {r i top:Nat} (A B:List SV) (m c:Nat) (d q:Rat) (x T:List Rat) (F:Nat→Rat) (g:FuncId) (hi:A.length=i) (hA:∀a∈A,a.width=1) (hr:r≤40) (hir:i<r) (hc:c≤4096) (hx:x.length=c)
  (hR:subN (refsL (mid A B c)) [1006,1005,1001,1002,1011,1010]=true)
  (hf:∀k o,k<c→CallOK Tryz.prog g ([]++([iv (k:Nat),.frac (x.getD k 0)]++cap2 top)) (fk2 r m c A B d q T o false) (.frac (F k)) [] []) (σ:Nat→Nat) (hσ:NamesOK (fk2 r m c A B d q T x true) [] σ):
  CallOK Tryz.prog 200 (renL σ [.ptr 1001 0 0 0,iv i,.clo g [] (cap2 top)]) (renH σ (fk2 r m c A B d q T x true)) (renS σ (.tup [])) (renH σ []) (renH σ [(1010,rwB true ((List.range c).map F))]):=by
 refine callK (Z:=[]) tabOK mixedOK Tryz.func200 rfl (by kernel_rfl) (ShapeOK.of rfl (by exact refsB_cons rfl (refsB_cons rfl (refsB_cons rfl (refsB_cons hR (refsB_cons rfl (refsB_cons rfl refsB_nil)))))) rfl rfl rfl rfl rfl rfl rfl rfl rfl) rfl σ hσ ?_
 intro W0 w0 ρ0 hE
 have hs:sub 64 (mid A B c) A.length 1=some [.slc 1010 5 0 c]:=sub_mid rfl 64 hA (by omega)
 obtain⟨AA,hAA⟩:∃X,X=A:=⟨A,rfl⟩
 rcases A with _|⟨a,A⟩
 all_goals
  subst hi
  conv=>whnf
  (repeat((first|refine step_oA (by first|omega|decide|(simp only[tl0,dlen,List.length_replicate,List.length_set,List.length_map,List.length_zipWith,List.length_take,List.length_append,List.length_cons,List.length_nil];omega)) ?_|refine g_load1 rfl (ev_ok rfl) rfl (tgt rfl) hs (Nat.succ_ne_zero _) rfl ?_|rw[Int.toNat_natCast]|rw[Nat.zero_add]);conv=>whnf))
  refine SW_loopE hE [0,1,2,14,15,16] (fun m' fr hp=>∃(j:Nat) (o:List Rat),m'=c - j∧j≤c∧o.length=c∧(∀k,k<j→o.getD k 0=F k)∧(∀k,j≤k→o.getD k 0=x.getD k 0)∧
   fr=[(0,.ptr 1001 0 0 0),(1,iv AA.length),(2,.clo g [] (cap2 top)),(14,.slc 1010 5 0 c),(15,iv c),(16,iv (j:Nat))]∧hp=fk2 r m c AA B d q T o true) c ?_ ?_ ?_
  ·exact normOK_of (by kernel_rfl) (by exact normOKh_cons rfl rfl (normOKh_cons rfl rfl (normOKh_cons rfl rfl (normOKh_cons rfl hR (normOKh_cons rfl rfl (normOKh_cons rfl rfl normOKh_nil)))))) (by kernel_rfl)
  ·exact⟨0,x,rfl,Nat.zero_le _,hx,fun k h=>by omega,fun k _=>rfl,by subst hAA;rfl,by subst hAA;rfl⟩
  rintro m _ _ ⟨j,o,rfl,hj,hl,ho,hu,rfl,rfl⟩
  subst hAA
  conv=>whnf
  by_cases hlt:j<c
  ·have t1:=dlt hlt
   have t2:=winc (i:=j) (by omega)
   have hk:=fun b=>hf j b hlt
   rw[←hu j (Nat.le_refl _)]at hk
   (repeat((first|refine step_i (by kernel_rfl) ?_|refine step_oL (by first|omega|decide|(simp only[tl0,dlen,List.length_replicate,List.length_set,List.length_map,List.length_zipWith,List.length_take,List.length_append,List.length_cons,List.length_nil];omega)) ?_|refine step_oA (by first|omega|decide|(simp only[tl0,dlen,List.length_replicate,List.length_set,List.length_map,List.length_zipWith,List.length_take,List.length_append,List.length_cons,List.length_nil];omega)) ?_|refine tst_tt t1 ?_|refine g_load1 rfl (ev_ok rfl) rfl (tgt rfl) hs (Nat.succ_ne_zero _) rfl ?_|refine g_cv (hk o) (WkH.cons rfl (.same fun h=>h) (WkH.cons rfl (.same fun h=>h) (WkH.cons rfl (.same fun h=>h) (WkH.cons rfl (.same fun h=>h) (WkH.cons rfl (.same fun h=>h) (WkH.cons rfl (.same ff_imp) .nil)))))) nil_upd ?_|rw[t1]|rw[t2]|rw[Int.toNat_natCast]|rw[Nat.zero_add]);conv=>whnf))
   refine⟨c - (j+1),by omega,normOK_of (by kernel_rfl) (by exact normOKh_cons rfl rfl (normOKh_cons rfl rfl (normOKh_cons rfl rfl (normOKh_cons rfl hR (normOKh_cons rfl rfl (normOKh_cons rfl rfl normOKh_nil)))))) (by kernel_rfl),j+1,o.set j (F j),rfl,hlt,by rw[List.length_set];exact hl, ?_, ?_,rfl,rfl⟩
   ·intro k h
    by_cases e:k=j
    ·rw[e,set_at (by omega)]
    ·rw[set_off e];exact ho k (by omega)
   ·intro k h
    rw[set_off (by omega)];exact hu k (by omega)
  ·have t1:=dge hlt
   obtain rfl:j=c:=by omega
   have hx:=range_ext hl ho
   (repeat(first|(refine tst_ff t1 ?_;conv=>whnf)))
   exact⟨Recast.refl _,get_nil,get_cons (by rw[←hx];rfl) get_nil⟩
end Go.Proofs.YtjknedoaofjnbaaGreatDoor
namespace Go.Proofs.YtjknedoaofjnbaaGreatDoor
open Go.Sx
set_option linter.unusedSimpArgs false
set_option linter.unusedVariables false
set_option maxRecDepth 100000
set_option maxHeartbeats 4000000
def pickF (w:Mx) (k:Nat):Nat→Nat→Option Nat
 |0,_=>none
 |m+1,i=>if w i k=0 then pickF w k m (i+1)else some i
theorem pick_none {w:Mx} {k:Nat}:∀{m i:Nat},pickF w k m i=none→∀j,i≤j→j<i+m→w j k=0
 |0,i,_,j,h1,h2=>by omega
 |m+1,i,h,j,h1,h2=>by
  rw[pickF]at h
  by_cases g:w i k=0
  ·rw[if_pos g]at h
   by_cases e:j=i
   ·rw[e,g]
   ·exact pick_none h j (by omega) (by omega)
  ·rw[if_neg g]at h;cases h
theorem pick_some {w:Mx} {k:Nat}:∀{m i j:Nat},pickF w k m i=some j→i≤j∧j<i+m∧w j k≠0
 |0,i,j,h=>by cases h
 |m+1,i,j,h=>by
  rw[pickF]at h
  by_cases g:w i k=0
  ·rw[if_pos g]at h
   have:=pick_some h
   exact⟨by omega,by omega,this.2.2⟩
  ·rw[if_neg g]at h
   obtain rfl:=Option.some.inj h
   exact⟨Nat.le_refl _,by omega,g⟩
def clearM (w:Mx) (top k:Nat):Mx:=fun a q=>if a=top then w top q/w top k else w a q - w a k*(w top q/w top k)
structure St where
 w:Mx
 piv:List Nat
 d:Rat
def colStep (r:Nat) (s:St) (k:Nat):St:=
 match pickF s.w k (r - s.piv.length) s.piv.length with
 |none=>s
 |some i=>⟨clearM (swapRow s.w i s.piv.length) s.piv.length k,s.piv++[k],(if i=s.piv.length then s.d else - s.d)*swapRow s.w i s.piv.length s.piv.length k⟩
def redF (r c:Nat) (s:St):St:=(List.range c).foldl (colStep r) s
theorem redF_succ (r c:Nat) (s:St):redF r (c+1) s=colStep r (redF r c s) c:=by
 rw[redF,List.range_succ,List.foldl_append];rfl
theorem Alt.addall {n:Nat} {F:Mx→Rat} (hF:Alt n F) (A:Mx) {t:Nat} (ht:t<n) (c:Nat→Rat):F (fun a q=>if a=t then A t q else A a q+c a*A t q)=F A:=by
 have h:∀m,m≤n→F (fun a q=>if a=t then A t q else if a<m then A a q+c a*A t q else A a q)=F A:=by
  intro m
  induction m with
  |zero=>
   intro _
   refine hF.congr _ _ fun a q _ _=> ?_
   by_cases e:a=t
   ·rw[if_pos e,e]
   ·rw[if_neg e,if_neg (by omega)]
  |succ m ih=>
   intro hm
   rw[←ih (by omega)]
   by_cases e:m=t
   ·refine hF.congr _ _ fun a q _ _=> ?_
    by_cases g:a=t
    ·rw[if_pos g,if_pos g]
    ·rw[if_neg g,if_neg g]
     by_cases g2:a<m
     ·rw[if_pos g2,if_pos (by omega)]
     ·rw[if_neg g2,if_neg (by omega)]
   ·rw[←hF.addrow (i:=m) (j:=t) (fun a q=>if a=t then A t q else if a<m then A a q+c a*A t q else A a q) (c m) (by omega) ht e]
    refine hF.congr _ _ fun a q _ _=> ?_
    by_cases g:a=m
    ·subst g
     rw[setRow_at,if_neg e,if_pos (by omega),if_neg e,if_neg (by omega),if_pos rfl]
    ·rw[setRow_ne _ _ g]
     by_cases g1:a=t
     ·rw[if_pos g1,if_pos g1]
     ·rw[if_neg g1,if_neg g1]
      by_cases g2:a<m
      ·rw[if_pos g2,if_pos (by omega)]
      ·rw[if_neg g2,if_neg (by omega)]
 rw[←h n (Nat.le_refl _)]
 refine hF.congr _ _ fun a q ha _=> ?_
 by_cases e:a=t
 ·rw[if_pos e,if_pos e]
 ·rw[if_neg e,if_neg e,if_pos ha]
structure Inv (r:Nat) (W:Mx) (k:Nat) (s:St):Prop where
 len:s.piv.length≤r
 lt:∀j,j<s.piv.length→s.piv.getD j 0<k
 inc:∀i j,i<j→j<s.piv.length→s.piv.getD i 0<s.piv.getD j 0
 unit:∀j,j<s.piv.length→∀i,i<r→s.w i (s.piv.getD j 0)=if i=j then 1 else 0
 left:∀i,i<s.piv.length→∀q,q<s.piv.getD i 0→s.w i q=0
 low:∀i,s.piv.length≤i→i<r→∀q,q<k→s.w i q=0
 by_:∃P,det r P*s.d=1∧∀i,i<r→∀q,s.w i q=pr r P W i q
theorem Inv.start (r:Nat) (W:Mx):Inv r W 0 ⟨W,[],1⟩ where
 len:=Nat.zero_le _
 lt:=fun j h=>by simp at h
 inc:=fun i j _ h=>by simp at h
 unit:=fun j h=>by simp at h
 left:=fun j h=>by simp at h
 low:=fun i _ _ q h=>by omega
 by_:=⟨delta,by rw[det_one];grind,fun i hi q=>by rw[pr,sum_deltaL,if_pos hi]⟩
theorem getD_snocN {l:List Nat} {a j:Nat} (h:j<l.length):(l++[a]).getD j 0=l.getD j 0:=by
 rw[List.getD_eq_getElem?_getD,List.getD_eq_getElem?_getD,List.getElem?_append_left h]
theorem getD_last {l:List Nat} {a:Nat}:(l++[a]).getD l.length 0=a:=by simp[List.getD_eq_getElem?_getD]
theorem swapRow_lt {w:Mx} {i t a:Nat} (h:a<t) (hi:t≤i):swapRow w i t a=w a:=by
 unfold swapRow;rw[if_neg (by omega),if_neg (by omega)]
theorem swapRow_ge {w:Mx} {i t a r:Nat} (hi:t≤i) (hir:i<r) (h:t≤a) (har:a<r):∃b,t≤b∧b<r∧swapRow w i t a=w b:=by
 unfold swapRow
 by_cases h1:a=i
 ·rw[if_pos h1];exact⟨t,Nat.le_refl _,by omega,rfl⟩
 ·rw[if_neg h1]
  by_cases h2:a=t
  ·rw[if_pos h2];exact⟨i,hi,hir,rfl⟩
  ·rw[if_neg h2];exact⟨a,h,har,rfl⟩
theorem swapRow_t {w:Mx} {i t:Nat}:swapRow w i t t=w i:=by
 unfold swapRow
 by_cases h:t=i
 ·rw[if_pos h,h]
 ·rw[if_neg h,if_pos rfl]
theorem pr_swap (r:Nat) (P W:Mx) (i t a q:Nat):pr r (swapRow P i t) W a q=swapRow (pr r P W) i t a q:=by
 show(sumR r fun p=>(if a=i then P t else if a=t then P i else P a) p*W p q)=(if a=i then pr r P W t else if a=t then pr r P W i else pr r P W a) q
 by_cases h:a=i
 ·rw[if_pos h,if_pos h];rfl
 ·rw[if_neg h,if_neg h]
  by_cases h2:a=t
  ·rw[if_pos h2,if_pos h2];rfl
  ·rw[if_neg h2,if_neg h2];rfl
theorem Inv.step {r:Nat} {W:Mx} {k:Nat} {s:St} (h:Inv r W k s):Inv r W (k+1) (colStep r s k):=by
 unfold colStep
 cases hp:pickF s.w k (r - s.piv.length) s.piv.length with
 |none=>
  have hz:=pick_none hp
  have:=h.len
  show Inv r W (k+1) s
  exact {h with
   lt:=fun j hj=>by have:=h.lt j hj;omega
   low:=fun i h1 h2 q hq=>by
    by_cases e:q=k
    ·rw[e];exact hz i h1 (by omega)
    ·exact h.low i h1 h2 q (by omega)}
 |some i=>
  obtain⟨g1,g2,g3⟩:=pick_some hp
  dsimp only
  have hl:=h.len
  have hir:i<r:=by omega
  have ht:s.piv.length<r:=by omega
  have hdef:s.piv.length=s.piv.length:=rfl
  revert g1 g2 ht hl
  generalize ht':s.piv.length=t
  intro g1 g2 hl ht
  have hp0:swapRow s.w i t t k≠0:=by rw[swapRow_t];exact g3
  have hz:∀a,t≤a→a<r→∀q,q<k→swapRow s.w i t a q=0:=fun a h1 h2 q hq=>by
   obtain⟨b,b1,b2,e⟩:=swapRow_ge (w:=s.w) g1 hir h1 h2
   rw[e];exact h.low b (by omega) b2 q hq
  have hu:∀j,j<t→∀a,a<r→swapRow s.w i t a (s.piv.getD j 0)=if a=j then 1 else 0:=fun j hj a ha=>by
   by_cases hat:a<t
   ·rw[swapRow_lt hat g1];exact h.unit j (by omega) a ha
   ·rw[hz a (by omega) ha _ (h.lt j (by omega)),if_neg (by omega)]
  have hc:∀a,a<t→∀q,q<k→clearM (swapRow s.w i t) t k a q=s.w a q:=fun a ha q hq=>by
   unfold clearM
   rw[if_neg (by omega),hz t (Nat.le_refl _) ht q hq,swapRow_lt ha g1];grind
  have hlen:(s.piv++[k]).length=t+1:=by rw[List.length_append,ht'];rfl
  refine {len:=by simp only[hlen];omega,lt:= ?_,inc:= ?_,unit:= ?_,left:= ?_,low:= ?_,by_:= ?_}
  ·intro j hj
   simp only[hlen]at hj
   show(s.piv++[k]).getD j 0<k+1
   by_cases e:j<t
   ·rw[getD_snocN (by omega)];have:=h.lt j (by omega);omega
   ·obtain rfl:j=t:=by omega
    rw[←ht',getD_last];omega
  ·intro a b hab hb
   simp only[hlen]at hb
   show(s.piv++[k]).getD a 0<(s.piv++[k]).getD b 0
   by_cases e:b<t
   ·rw[getD_snocN (by omega),getD_snocN (by omega)];exact h.inc a b hab (by omega)
   ·obtain rfl:b=t:=by omega
    rw[getD_snocN (by omega)]
    rw[show(s.piv++[k]).getD b 0=k from by rw[←ht',getD_last]]
    exact h.lt a (by omega)
  ·intro j hj a ha
   simp only[hlen]at hj
   show clearM (swapRow s.w i t) t k a ((s.piv++[k]).getD j 0)=_
   by_cases e:j<t
   ·rw[getD_snocN (by omega)]
    unfold clearM
    rw[hu j e t ht,hu j e a ha,if_neg (show ¬t=j by omega)]
    by_cases g:a=t
    ·rw[if_pos g,if_neg (by omega),Rat.div_def];grind
    ·rw[if_neg g,Rat.div_def];split<;>grind
   ·obtain rfl:j=t:=by omega
    rw[show(s.piv++[k]).getD j 0=k from by rw[←ht',getD_last]]
    unfold clearM
    by_cases g:a=j
    ·rw[if_pos g,if_pos g,Rat.div_def,Rat.mul_inv_cancel _ hp0]
    ·rw[if_neg g,if_neg g,Rat.div_def,Rat.mul_inv_cancel _ hp0];grind
  ·intro a ha q hq
   simp only[hlen]at ha
   change q<(s.piv++[k]).getD a 0 at hq
   show clearM (swapRow s.w i t) t k a q=0
   by_cases e:a<t
   ·rw[getD_snocN (by omega)]at hq
    have:=h.lt a (by omega)
    rw[hc a e q (by omega)]
    exact h.left a (by omega) q hq
   ·obtain rfl:a=t:=by omega
    rw[show(s.piv++[k]).getD a 0=k from by rw[←ht',getD_last]]at hq
    unfold clearM
    rw[if_pos rfl,hz a (Nat.le_refl _) ht q hq,Rat.div_def];grind
  ·intro a h1 h2 q hq
   simp only[hlen]at h1
   show clearM (swapRow s.w i t) t k a q=0
   unfold clearM
   rw[if_neg (by omega)]
   by_cases e:q=k
   ·rw[e,Rat.div_def,Rat.mul_inv_cancel _ hp0];grind
   ·rw[hz a (by omega) h2 q (by omega),hz t (Nat.le_refl _) ht q (by omega),Rat.div_def];grind
  ·obtain⟨P,hP1,hP2⟩:=h.by_
   have hsw:∀a,a<r→∀q,swapRow s.w i t a q=pr r (swapRow P i t) W a q:=fun a ha q=>by
    rw[pr_swap];unfold swapRow
    by_cases e1:a=i
    ·rw[if_pos e1,if_pos e1];exact hP2 t ht q
    ·rw[if_neg e1,if_neg e1]
     by_cases e2:a=t
     ·rw[if_pos e2,if_pos e2];exact hP2 i hir q
     ·rw[if_neg e2,if_neg e2];exact hP2 a ha q
   have hsd:det r (swapRow P i t)*(if i=t then s.d else - s.d)=1:=by
    by_cases e:i=t
    ·subst e
     rw[if_pos rfl,show swapRow P i i=P from by
      funext a;unfold swapRow
      by_cases e1:a=i
      ·rw[if_pos e1,e1]
      ·rw[if_neg e1,if_neg e1],hP1]
    ·rw[if_neg e,(det_Alt r).swap P hir ht e];grind
   generalize swapRow s.w i t=w1 at*
   generalize swapRow P i t=Q at*
   have hinv:=Rat.mul_inv_cancel _ hp0
   refine⟨fun a q=>if a=t then(w1 t k)⁻¹*Q t q else Q a q+(- w1 a k*(w1 t k)⁻¹)*Q t q, ?_, ?_⟩
   ·have e1:=(det_Alt r).addall (setRow Q t fun q=>(w1 t k)⁻¹*Q t q) ht fun a=> - w1 a k
    rw[(det_Alt r).smul Q _ _ ht,show setRow Q t (fun q=>Q t q)=Q from setRow_self Q t]at e1
    rw[det_congr (B:=fun a q=>if a=t then setRow Q t (fun q=>(w1 t k)⁻¹*Q t q) t q else setRow Q t (fun q=>(w1 t k)⁻¹*Q t q) a q+ - w1 a k*setRow Q t (fun q=>(w1 t k)⁻¹*Q t q) t q) fun a q _ _=>by
     rw[setRow_at]
     by_cases e:a=t
     ·rw[if_pos e,if_pos e]
     ·rw[if_neg e,if_neg e,setRow_ne _ _ e];grind,e1]
    show(w1 t k)⁻¹*det r Q*((if i=t then s.d else - s.d)*w1 t k)=1
    grind
   ·intro a ha q
    show clearM w1 t k a q=_
    unfold clearM pr
    by_cases e:a=t
    ·rw[if_pos e,hsw t ht q,Rat.div_def,pr,sum_congr r (f:=fun p=>(if a=t then(w1 t k)⁻¹*Q t p else Q a p+(- w1 a k*(w1 t k)⁻¹)*Q t p)*W p q) (g:=fun p=>(w1 t k)⁻¹*(Q t p*W p q)) fun p _=>by rw[if_pos e];grind,←sum_mulL];grind
    ·rw[if_neg e,hsw t ht q,hsw a ha q,Rat.div_def,pr,sum_congr r (f:=fun p=>(if a=t then(w1 t k)⁻¹*Q t p else Q a p+(- w1 a k*(w1 t k)⁻¹)*Q t p)*W p q) (g:=fun p=>Q a p*W p q+(- w1 a k*(w1 t k)⁻¹)*(Q t p*W p q)) fun p _=>by rw[if_neg e];grind,sum_add,←sum_mulL]
     unfold pr;grind
theorem Inv.red {r:Nat} {W:Mx}:∀c,Inv r W c (redF r c ⟨W,[],1⟩)
 |0=>Inv.start r W
 |c+1=>by rw[redF_succ];exact(Inv.red c).step
end Go.Proofs.YtjknedoaofjnbaaGreatDoor
