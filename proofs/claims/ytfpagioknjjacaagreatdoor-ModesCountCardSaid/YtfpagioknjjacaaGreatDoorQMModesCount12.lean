/- The texts Qa, Qb, Qc, Qd. -/
import Derived.Test.YtfpagioknjjacaaGreatDoorQMModesCount9
import Derived.Test.YtfpagioknjjacaaGreatDoorQMModesCount6
import Derived.Test.YtfpagioknjjacaaGreatDoorQMModesCount4
namespace Go.Sx
set_option linter.unusedSimpArgs false
set_option linter.unusedVariables false
theorem af.ah5 {P:Program} {f:FuncId} {args:List SV} {fk fk':List (Nat×aA)} {c:SV} {new upd:List (Nat×aA)} (h:af P f args fk' c new upd) (hk:∀ρ w,mb fk new ρ w→mb fk' new ρ w):af P f args fk c new upd:=by
 rcases h with⟨h1,h2⟩|h
 ·exact .inl ⟨h1,fun ρ w z hz hp=>h2 ρ w z hz (hk ρ w hp)⟩
 ·exact .inr fun ρ w z hz hp=>h ρ w z hz (hk ρ w hp)
def roB (b:Bool) (x:aA):aA:=⟨x.ty,b&&x.wr,x.data⟩
theorem mb.some {ρ:bI} {w:World} {fk new:List (Nat×aA)} (g:Nat→Bool) (hp:mb fk new ρ w):mb (fk.map fun x=>(x.1,roB (g x.1) x.2)) new ρ w:=by
 refine⟨fun k b hk=> ?_,fun k k' x x' b b' hk kE e1 e2 e3 e4 e5 e6=> ?_,hp.aT,fun k b x hk hw hl hx=> ?_,hp.fresh⟩
 ·obtain⟨⟨q,b0⟩,hq,he⟩:=List.mem_map.1 hk
  cases he
  exact hp.mj q b0 hq
 ·obtain⟨⟨q,b0⟩,hq,he⟩:=List.mem_map.1 hk
  obtain⟨⟨q',b0'⟩,qn,he'⟩:=List.mem_map.1 kE
  cases he
  cases he'
  have:=hp.sep q q' x x' b0 b0' hq qn e1 e2 e3 e4 e5 e6
  simp[roB,this]
 ·obtain⟨⟨q,b0⟩,hq,he⟩:=List.mem_map.1 hk
  cases he
  exact hp.ep q b0 x hq (by simp[roB]at hw;exact hw.2) hl hx
def sZ:List Nat→List (Nat×aA)
 |[]=>[]
 |k::r=>(k,⟨0,true,.dead⟩)::sZ r
theorem gr {mv:List Nat} {hp:List (Nat×aA)} {k:Nat}:(k∈mv→find (sZ mv++hp) k=some ⟨0,true,.dead⟩)∧(k∉mv→find (sZ mv++hp) k=find hp k):=by
 induction mv with
 |nil=>exact⟨(fun h=>by cases h),fun _=>rfl⟩
 |cons j r ih=>
  simp only[sZ,List.cons_append,find]
  cases hb:Nat.beq j k with
  |true=>
   obtain rfl:=Nat.eq_of_beq_eq_true hb
   exact⟨fun _=>rfl,fun h=>absurd (List.mem_cons_self ..) h⟩
  |false=>
   have a7:k≠j:=by rintro rfl;simp[Nat.beq_refl]at hb
   exact⟨fun h=>ih.1 ((List.mem_cons.1 h).resolve_left a7),fun h=>ih.2 fun g=>h (List.mem_cons_of_mem _ g)⟩
def RB (σ:Nat→Nat) (ks mv:List Nat):List Nat→Bool
 |[]=>true
 |k::r=>(vI k mv||(vI k ks&&Nat.beq (σ k) k))&&RB σ ks mv r
theorem Ba {σ:Nat→Nat} {ks mv:List Nat}:∀{l:List Nat},RB σ ks mv l=true→∀k∈l,k∈mv∨(k∈ks∧σ k=k)
 |j::r,h,k,hk=>by
  simp only[RB,Bool.and_eq_true,Bool.or_eq_true,jg]at h
  rcases List.mem_cons.1 hk with rfl|hk
  ·exact h.1.imp id fun g=>⟨g.1,Nat.eq_of_beq_eq_true g.2⟩
  ·exact Ba h.2 k hk
def CN (σ:Nat→Nat) (mv:List Nat):List Nat→Bool
 |[]=>true
 |k::r=> !(vI (σ k) mv)&&CN σ mv r
theorem vw {σ:Nat→Nat} {mv:List Nat}:∀{l:List Nat},CN σ mv l=true→∀k∈l,σ k∉mv
 |j::r,h,k,hk=>by
  simp only[CN,Bool.and_eq_true,Bool.not_eq_true',←Bool.not_eq_true,jg]at h
  rcases List.mem_cons.1 hk with rfl|hk
  ·exact h.1
  ·exact vw h.2 k hk
def G3 (fx:List Nat) (σ:Nat→Nat) (ts ks mv:List Nat) (fr:List (Nat×SV)) (hp:List (Nat×aA)):Bool:=
 dP ks fr ts&&(dm ks hp ks&&(rI σ ks&&(RB σ ks mv fx&&(CN σ mv ks&&er mv fx))))
theorem RC {E:Env} (hE:E.OK) {σ:Nat→Nat} {ts ks mv:List Nat} {fr:List (Nat×SV)} {hp:List (Nat×aA)} (h:G3 E.fx σ ts ks mv fr hp=true) {a:Act} {w:World} (hR:RR E (fn fr hp) a w):
  RR E (fn (eW σ fr ts) (sZ mv++gv σ hp ks)) a w:=by
 simp only[G3,Bool.and_eq_true]at h
 obtain⟨h1,h2,h3,h4,h5,h6⟩:=h
 obtain⟨ρ,hext,hfx,hR⟩:=hR
 have VR:=qp h3
 have Je:=Ba h4
 have afX:=vw h5
 have hmv:=du h6
 let ρ':bI:=⟨fun k'=>if k'∈mv then ρ.key k' else match ks.find? (fun k=>σ k==k')with
  |some k=>ρ.key k
  |none=>none,ρ.aT,ρ.b7⟩
 have G4:∀k∈mv,ρ'.key k=ρ.key k:=fun k hk=>if_pos hk
 have bJ:∀k∈ks,ρ'.key (σ k)=ρ.key k:=by
  intro k hk
  show(if σ k∈mv then ρ.key (σ k)else match ks.find? (fun j=>σ j==σ k)with|some k=>ρ.key k|none=>none)=ρ.key k
  rw[if_neg (afX k hk)]
  cases hf:ks.find? (fun j=>σ j==σ k)with
  |none=>have:=List.find?_eq_none.1 hf k hk;simp at this
  |some j=>
   have hj:=List.mem_of_find?_eq_some hf
   have hs:=List.find?_some hf
   have:j=k:=VR j hj k hk (by simpa using hs)
   rw[this]
 have KZ:∀k' x,ρ'.key k'=some x→k'∈mv∨(k'∉mv∧∃k∈ks,σ k=k'∧ρ.key k=some x):=by
  intro k' x hx
  by_cases hm:k'∈mv
  ·exact .inl hm
  have hx:(if k'∈mv then ρ.key k' else match ks.find? (fun j=>σ j==k')with|some k=>ρ.key k|none=>none)=some x:=hx
  rw[if_neg hm]at hx
  cases hf:ks.find? (fun j=>σ j==k')with
  |none=>rw[hf]at hx;cases hx
  |some j=>rw[hf]at hx;exact .inr ⟨hm,j,List.mem_of_find?_eq_some hf,by simpa using List.find?_some hf,hx⟩
 have hold:∀k' b',(fn (eW σ fr ts) (sZ mv++gv σ hp ks) (.k k')).blk=some b'→(k'∈mv∧b'=⟨0,true,.dead⟩)∨∃k∈ks,σ k=k'∧∃b,find hp k=some b∧b'=dE σ b∧∀j∈oN b.data,j∈ks:=by
  intro k' b' hb
  simp only[fn,LV.blk]at hb
  by_cases hm:k'∈mv
  ·rw[gr.1 hm]at hb;cases hb;exact .inl ⟨hm,rfl⟩
  ·rw[gr.2 hm]at hb;exact .inr (qq h2 k' b' hb)
 have zL:∀k' b',(fn (eW σ fr ts) (sZ mv++gv σ hp ks) (.k k')).blk=some b'→b'.data.live=true→∃k∈ks,σ k=k'∧∃b,find hp k=some b∧b'=dE σ b∧∀j∈oN b.data,j∈ks:=by
  intro k' b' hb hl
  rcases hold k' b' hb with⟨_,rfl⟩|g
  ·cases hl
  ·exact g
 have mj:∀k∈E.fx,ρ'.key k=ρ.key k:=by
  intro k hk
  rcases Je k hk with e|⟨e1,e2⟩
  ·exact G4 k e
  ·have:=bJ k e1
   rw[e2]at this;exact this
 refine⟨ρ',⟨⟨fun k x hx=> ?_,hext.le.aT⟩,hext.aT,fun k hk=> ?_⟩,fun k hk=> ?_,{defers:=hR.defers,size:=hR.size,fr:= ?_,bw:=hR.bw,hp:= ?_}⟩
 ·rw[mj k (hE.ud k x hx)];exact hext.le.key k x hx
 ·rw[mj k hk];exact hext.fix k hk
 ·simp only[fn,LV.blk]
  rcases Je k hk with e|⟨e1,e2⟩
  ·rw[gr.1 e];simp
  ·by_cases hm:k∈mv
   ·rw[gr.1 hm];simp
   ·rw[gr.2 hm]
    obtain⟨b,hb⟩:=mu (σ:=σ) h2 k e1
    rw[e2]at hb
    rw[hb];simp
 ·intro t sv ht
  obtain⟨c,c1,rfl,c3⟩:=rJ h1 t sv ht
  exact(vT (ρ:=ρ) (ρ':=ρ') (σ:=σ) rfl c _ (fun k hk=>bJ k (c3 k hk))).2 (hR.fr t c (by simp only[fn,LV.sv];exact c1))
 ·constructor
  ·intro k' b' hb
   rcases hold k' b' hb with⟨_,rfl⟩|⟨k,hk,rfl,b,b1,rfl,b3⟩
   ·exact .inl rfl
   ·exact(ji (ρ:=ρ) (ρ':=ρ') (σ:=σ) rfl k b (bJ k hk) (fun j hj=>bJ j (b3 j hj))).2 (hR.hp.blk k b (by simp only[fn,LV.blk];exact b1))
  ·intro k1 k2 x1 x2 b1 b2 hx1 Kv a7 he hb1 hb2 gJ gI
   obtain⟨j1,m1,rfl,c1,d1,rfl,_⟩:=zL k1 b1 hb1 gJ
   obtain⟨j2,m2,rfl,c2,d2,rfl,_⟩:=zL k2 b2 hb2 gI
   rw[bJ j1 m1]at hx1
   rw[bJ j2 m2]at Kv
   exact hR.hp.sep j1 j2 x1 x2 c1 c2 hx1 Kv (fun h=>a7 (by rw[h])) he (by simp only[fn,LV.blk];exact d1) (by simp only[fn,LV.blk];exact d2) (by rwa [dE,cy]at gJ) (by rwa [dE,cy]at gI)
  ·intro k' b' x hb hw hl hx
   obtain⟨k,hk,rfl,b,b1,rfl,_⟩:=zL k' b' hb hl
   rw[bJ k hk]at hx
   exact hR.hp.own k b x (by simp only[fn,LV.blk];exact b1) hw (by rwa [dE,cy]at hl) hx
  ·intro k' x hx
   simp only[fn,LV.blk]
   rcases KZ k' x hx with hm|⟨hm,k,hk,rfl,_⟩
   ·exact⟨_,gr.1 hm⟩
   ·rw[gr.2 hm]
    exact mu (σ:=σ) h2 k hk
  ·exact hR.hp.aT
  ·intro k' b' x hb hw hl hx
   obtain⟨k,hk,rfl,b,b1,rfl,_⟩:=zL k' b' hb hl
   rw[bJ k hk]at hx
   exact hR.hp.ep k b x (by simp only[fn,LV.blk];exact b1) hw (by rwa [dE,cy]at hl) hx
theorem NZ {E:Env} (hE:E.OK) (σ:Nat→Nat) (ts ks mv:List Nat) {c:Code} {K:bK} {fr:List (Nat×SV)} {hp:List (Nat×aA)} (h:G3 E.fx σ ts ks mv fr hp=true)
  (hs:dG E c K (eW σ fr ts) (sZ mv++gv σ hp ks)):dG E c K fr hp:=⟨fun a w hR=>hs.run a w (RC hE h hR)⟩
theorem N0 {E:Env} (hE:E.OK) (σ:Nat→Nat) (ts ks:List Nat) {c:Code} {K:bK} {fr:List (Nat×SV)} {hp:List (Nat×aA)} (h:gP E.fx σ ts ks fr hp=true)
  (hs:dG E c K (eW σ fr ts) (gv σ hp ks)):dG E c K fr hp:=⟨vU hE σ ts ks h hs.run⟩
theorem get_nil {hp:List (Nat×aA)}:∀j c,(j,c)∈([]:List (Nat×aA))→find hp j=some c:=fun _ _ h=>by cases h
theorem cL {hp l:List (Nat×aA)} {k:Nat} {b:aA} (h:find hp k=some b) (r:∀j c,(j,c)∈l→find hp j=some c):∀j c,(j,c)∈(k,b)::l→find hp j=some c:=by
 intro j c hm
 rcases List.mem_cons.1 hm with e|e
 ·cases e;exact h
 ·exact r j c e
theorem bh.same {fk:List (Nat×aA)}:bh fk [] fun k=>k:=⟨fun _ _ _ _ _ _ h _=>h,(fun _ _ h=>by cases h),fun _ _ h=>by cases h⟩
mutual
theorem CO:∀c:SV,eE (fun k=>k) c=c
 |.ptr .. |.aK .. |.any|.val _|.nat _|.int _|.frac _|.atom _=>rfl
 |.agg cs=>by rw[eE,jT cs]
 |.cC vs=>by rw[eE,jT vs]
 |.clo f a b=>by rw[eE,jT a,jT b]
 |.yld k rc ts a=>by rw[eE,jT a]
theorem jT:∀l:List SV,kJ (fun k=>k) l=l
 |[]=>rfl
 |c::l=>by rw[kJ,CO c,jT l]
end
theorem IE (b:aA):dE (fun k=>k) b=b:=by
 obtain⟨ty,wr,d⟩:=b
 cases d<;>simp only[dE,zz,jT]
theorem pV:∀l:List (Nat×aA),jC (fun k=>k) l=l
 |[]=>rfl
 |(k,b)::r=>by rw[jC,IE,pV r]
theorem pf {P:Program} {T:List (TypeId×TI)} {Z:List Nat} (hT:db P T) (hm:P.follows .mixedOrders=true) {f:FuncId} {fn':Func} {code:Code} (hf:P.funcs[f]? =some fn') (hb:fn'.body=some code)
  (hn:(fn'.name== "runtime.NumGoroutine")=false) {args:List SV} {fk:List (Nat×aA)} {c:SV} {upd:List (Nat×aA)} (hs:bV args fk c [] upd) (hnt:Nat.ble args.length fn'.ntmps=true)
  (h:∀W0 w0 ρ0,Env.OK ⟨P,T,W0,w0,fn'.ntmps,ρ0,ax fk,Z,none⟩→BG ⟨P,T,W0,w0,fn'.ntmps,ρ0,ax fk,Z,none⟩ code (Kj T fn'.results.toList (Fin c [] upd)) (enum 0 args) fk):
  af P f args fk c [] upd:=by
 have:=gw hT hm hf hb hn hs hnt (fun k=>k) bh.same h
 rwa [jT,pV,CO,pV upd]at this
section
variable {P:Program} {o:Oper} {fr:List (Nat×SV)} {hp:List (Nat×aA)}
theorem E2 {ρ:bI} {v:Value} {k i:Nat} (h:Has ρ (.ptr k 1 i 0) v):Has ρ (.ptr k 1 0 i) v:=by
 obtain⟨z,⟨b,t',h1,h2⟩,h3⟩:=h
 refine⟨z,⟨b,t',h1, ?_⟩,h3⟩
 rw[h2];simp
theorem cN {K:SV→List (Nat×aA)→List (Nat×aA)→List (Nat×aA)→Prop} {t ty:TypeId} {x:Operand} {ti:TI} {k i:Nat} {wr:Bool} {cs l:List SV} {c:SV} (ho:o.op= .load t x) (hx:aZ fr x (.ptr k 1 i 0))
  (hf:find hp k=some ⟨ty,wr,.one cs⟩) (ht:aE P t ti) (hs:sub 64 cs i ti.size=some l) (fG:ti.size≠0) (hsh:dN ti l=some c) (hK:K c [(k,⟨ty,wr,.one cs⟩)] [] []):
  ∃c fk new upd,bL P o fr fk c new upd∧(∀j b,(j,b)∈fk→find hp j=some b)∧(∀j b,(j,b)∈new→find hp j=none)∧(∀j b,(j,b)∈upd→∃b0,(j,b0)∈fk∧b0.wr=true∧b0.data.live=true∧b.wr=true)∧K c fk new upd:=
 ⟨c,_,[],[],vR (ob:=none) (i:=0) (s:=1) ho (fun ρ a h=>E2 (hx ρ a h)) ht (List.mem_singleton.2 rfl) rfl trivial hs fG hsh,dD hf,an,ar,hK⟩
theorem N2 {K:SV→List (Nat×aA)→List (Nat×aA)→List (Nat×aA)→Prop} {t ty:TypeId} {x y:Operand} {ti:TI} {k i:Nat} {cs cs' nw:List SV} {sv:SV} (ho:o.op= .store t x y) (hx:aZ fr x (.ptr k 1 i 0))
  (hy:aZ fr y sv) (hf:find hp k=some ⟨ty,true,.one cs⟩) (ht:aE P t ti) (hc:oy sv=some nw) (hw:SV.cu nw=ti.size) (hle:i+ti.size≤SV.cu cs) (bW:put 64 cs i ti.size nw=some cs')
  (hK:K .any [(k,⟨ty,true,.one cs⟩)] [] [(k,⟨ty,true,.one cs'⟩)]):
  ∃c fk new upd,bL P o fr fk c new upd∧(∀j b,(j,b)∈fk→find hp j=some b)∧(∀j b,(j,b)∈new→find hp j=none)∧(∀j b,(j,b)∈upd→∃b0,(j,b0)∈fk∧b0.wr=true∧b0.data.live=true∧b.wr=true)∧K c fk new upd:=
 ⟨.any,_,[],_,Dd (ob:=none) (i:=0) (s:=1) ho (fun ρ a h=>E2 (hx ρ a h)) hy ht (List.mem_singleton.2 rfl) rfl trivial hc hw hle bW rfl,dD hf,an,dQ (List.mem_singleton.2 rfl) rfl rfl rfl,hK⟩
end
end Go.Sx
namespace Go.Proofs.YtfpagioknjjacaaGreatDoor
open Go.Sx
set_option linter.unusedSimpArgs false
set_option linter.unusedVariables false
set_option maxRecDepth 100000
set_option maxHeartbeats 40000000
abbrev wkC (r m p:Nat) (d:Rat):List SV:=[.aK 1002 1 0 r,iv m,.aK 1003 1 0 p,.frac d]
abbrev wkB (b:Bool) (r m p:Nat) (d:Rat):aA:=⟨269,b,.one (wkC r m p d)⟩
abbrev E3 (b:Bool) (l:List SV):aA:=⟨36,b,.one l⟩
abbrev rk (i c:Nat):SV:=.aK (1010+i) 5 0 c
abbrev pvB (b:Bool) (l:List Int):aA:=⟨3,b,.ints .i64 l⟩
abbrev uN (b:Bool) (l:List Rat):aA:=⟨52,b,.cd l⟩
abbrev ib (r c:Nat):List SV:=(List.range r).map fun i=>rk i c
def l9 (b:Nat→Bool) (M:Nat→List Rat):Nat→Nat→List (Nat×aA)
 |0,_=>[]
 |n+1,i=>(1010+i,uN (b i) (M i))::l9 b M n (i+1)
abbrev hpE (uW uR uP:Bool) (w:Nat→Bool) (r m c p:Nat) (d:Rat) (pv:List Int) (M:Nat→List Rat):List (Nat×aA):=
 (1001,wkB uW r m p d)::(1002,E3 uR (ib r c))::(1003,pvB uP pv)::l9 w M r 0
theorem acb {r i k:Nat} (m c p:Nat) (d:Rat) (pv:List Int) (M:Nat→List Rat) (hr:r≤6) (hi:i<r) (hk:k<i):
  af Tryz.prog 307 [.ptr 1001 0 0 0,iv i,iv k] (hpE true true false (fun _=>false) r m c p d pv M) (.cC []) []
   [(1001,wkB true r m p (-d)),(1002,E3 true (((ib r c).set i (rk k c)).set k (rk i c)))]:=by
 have k1:=BU d
 obtain rfl|rfl|rfl|rfl|rfl:r=2∨r=3∨r=4∨r=5∨r=6:=aa
 all_goals obtain rfl|rfl|rfl|rfl|rfl:i=1∨i=2∨i=3∨i=4∨i=5:=aa
 all_goals first|omega|skip
 all_goals obtain rfl|rfl|rfl|rfl|rfl:k=0∨k=1∨k=2∨k=3∨k=4:=aa
 all_goals first|omega|skip
 all_goals
  refine pf (Z:=[]) aM bB Tryz.func307 rfl aF (bV.of rfl rfl rfl rfl rfl rfl rfl rfl rfl rfl rfl) rfl ?_
  intro W0 w0 ρ0 hE
  conv=>whnf
  (repeat((first|refine ah rfl rfl ?_|refine aB aF ?_|refine av Q3 ?_|refine a8 (by assumption) ?_|refine cN rfl (ak rfl) rfl (dJ rfl) rfl (Nat.succ_ne_zero _) rfl ?_|refine N2 rfl (ak rfl) (ak rfl) rfl (dJ rfl) rfl rfl (Nat.le_of_ble_eq_true rfl) rfl ?_);conv=>whnf))
  exact⟨aq.refl _,get_nil,cL rfl (cL rfl get_nil)⟩
theorem RD (i:Int):af Tryz.prog 307 [.ptr 1001 0 0 0,iv i,iv i] [(1001,⟨0,false,.dead⟩)] (.cC []) [] []:=by
 refine pf (Z:=[]) aM bB Tryz.func307 rfl aF (bV.of rfl rfl rfl rfl rfl rfl rfl rfl rfl rfl rfl) rfl ?_
 intro W0 w0 ρ0 hE
 conv=>whnf
 (repeat(first|(refine ag rfl rfl ?_;conv=>whnf)|(rw[bne_self_eq_false];conv=>whnf)))
 exact⟨aq.refl _,get_nil,get_nil⟩
end Go.Proofs.YtfpagioknjjacaaGreatDoor
namespace Go.Sx
set_option linter.unusedSimpArgs false
set_option linter.unusedVariables false
def mV (hp:List (Nat×aA)):List Nat→List (Nat×aA)
 |[]=>[]
 |k::r=>match find hp k with
  |some b=>(k,b)::mV hp r
  |none=>mV hp r
theorem pg (hp:List (Nat×aA)):∀ks,gv (fun k=>k) hp ks=mV hp ks
 |[]=>rfl
 |k::r=>by
  rw[gv,mV,pg hp r]
  cases find hp k with
  |none=>rfl
  |some b=>simp only[IE]
theorem s6 {E:Env} (hE:E.OK) {c:Code} {K:bK} {fr:List (Nat×SV)} {hp:List (Nat×aA)} (ts:List Nat) (I:Nat→List (Nat×SV)→List (Nat×aA)→Prop) (m:Nat)
  (h0:gP E.fx (fun k=>k) ts E.fx fr hp=true) (hI:I m (eW (fun k=>k) fr ts) (mV hp E.fx))
  (h:∀m fr hp,I m fr hp→BG E c (fun e fr' bW=>match e with
   |.normal=>∃m',m'<m∧gP E.fx (fun k=>k) ts E.fx fr' bW=true∧I m' (eW (fun k=>k) fr' ts) (mV bW E.fx)
   |e=>K e fr' bW) fr hp):dG E (.loop c) K fr hp:=by
 refine⟨?_⟩
 refine vU hE (fun k=>k) ts E.fx h0 (BH (fun m fr hp=>∃fr0 vV,(∀a w,RR E (fn fr hp) a w→RR E (fn fr0 vV) a w)∧I m fr0 vV) m ⟨_,_,fun _ _ h=>h,by rw[pg];exact hI⟩ ?_)
 rintro m fr hp ⟨fr0,vV,hw,hI⟩ a w hR
 refine Code.wpIn_mono ?_ (iC hE c _ fr0 vV (h m fr0 vV hI) a w (hw a w hR))
 rintro e a' w' ⟨fr',bW,h1,h2⟩
 cases e with
 |normal=>
  obtain⟨m',aI,hok,Hl⟩:=h1
  rw[←pg]at Hl
  exact⟨fr',bW,⟨m',aI,_,_,fun a w hR=>py hE hok hR,Hl⟩,h2⟩
 |_=>exact⟨fr',bW,h1,h2⟩
theorem kq {fx:List Nat} {σ:Nat→Nat} {ts ks:List Nat} {fr:List (Nat×SV)} {hp:List (Nat×aA)} (h1:dP ks fr ts=true) (h2:dm ks hp ks=true) (h3:(rI σ ks&&vf σ ks fx)=true):gP fx σ ts ks fr hp=true:=by
 rw[gP,h1,h2,h3];rfl
theorem ma {ks:List Nat} {hp:List (Nat×aA)}:dm ks hp []=true:=rfl
theorem bq {ks r:List Nat} {hp:List (Nat×aA)} {k:Nat} {b:aA} (h:find hp k=some b) (h1:er (oN b.data) ks=true) (h2:dm ks hp r=true):dm ks hp (k::r)=true:=by
 simp only[dm,h,h1,h2,Bool.and_self]
theorem N3 {l m r:List Nat}:er (l++m) r=(er l r&&er m r):=by
 induction l with
 |nil=>rfl
 |cons x l ih=>simp only[List.cons_append,er,ih,Bool.and_assoc]
theorem uO {r:List Nat}:er (gQ []) r=true:=rfl
theorem cv {k:Nat} {b:aA} {l:List (Nat×aA)} {r:List Nat} (h:er (oN b.data) r=true) (h2:er (gQ l) r=true):er (gQ ((k,b)::l)) r=true:=by
 rw[gQ,N3,h,h2];rfl
theorem wI {A B:List SV} {x:SV} (hx:x.width=1):∀(f:Nat),(∀a∈A,a.width=1)→A.length+1<f→sub f (A++x::B) A.length 1=some [x]:=by
 induction A with
 |nil=>
  intro f _ hf
  match f,hf with
  |f+2,_=>simp[sub,hx]
 |cons a A ih=>
  intro f ha hf
  match f,hf with
  |f+1,hf=>
   have:=ih f (fun b hb=>ha b (List.mem_cons_of_mem _ hb)) (by simp only[List.length_cons]at hf;omega)
   simp only[List.cons_append,List.length_cons,sub,ha a (List.mem_cons_self ..),Nat.add_sub_cancel]
   rw[show Nat.ble 1 (A.length+1)=true from Nat.ble_eq_true_of_le aa]
   exact this
inductive WL:List SV→List SV→Prop
 |refl {l}:WL l l
 |eq {c l m}:WL l m→WL (c::l) (c::m)
 |any {c l m}:c.width=1→WL l m→WL (c::l) (.any::m)
theorem WL.has {ρ:bI} {l m:List SV} (h:WL l m):∀z,au ρ l z→au ρ m z:=by
 induction h with
 |refl=>exact fun _ h=>h
 |eq _ ih=>
  intro z hz
  simp only[au]at hz ⊢
  obtain⟨x,r,rfl,h1,h2⟩:=hz
  exact⟨x,r,rfl,h1,ih r h2⟩
 |any hw _ ih=>
  intro z hz
  simp only[au]at hz ⊢
  obtain⟨x,r,rfl,h1,h2⟩:=hz
  refine⟨x,r,rfl, ?_,ih r h2⟩
  obtain⟨g1,g2⟩:=aG.len _ x h1
  rw[hw]at g1
  match x,g1,g2 with
  |[v],_,g2=>simp only[aG];exact⟨v,rfl,g2 v (List.mem_singleton.2 rfl)⟩
inductive kR:aA→aA→Prop
 |dead {b ty}:kR b ⟨ty,false,.dead⟩
 |same {ty wr wr' d}:(wr'=true→wr=true)→kR ⟨ty,wr,d⟩ ⟨ty,wr',d⟩
 |one {ty wr wr' cs cs'}:(wr'=true→wr=true)→WL cs cs'→kR ⟨ty,wr,.one cs⟩ ⟨ty,wr',.one cs'⟩
theorem F3 {p:Prop} (h:false=true):p:=by cases h
theorem kR.ok {b b':aA} (h:kR b b') {ρ:bI} {w:World} {k:Nat} (hb:gK ρ w k b):gK ρ w k b':=by
 cases h with
 |dead=>exact .inl rfl
 |same=>exact hb
 |one _ hl=>
  rcases hb with h|⟨b,t,vs,ex,h1,h2,⟨z,h3,h4⟩,h5⟩|⟨h1,h2⟩
  ·cases h
  ·exact .inr (.inl ⟨b,t,vs,ex,h1,h2,⟨z,hl.has z h3,h4⟩,h5⟩)
  ·exact .inr (.inr ⟨h1,h2⟩)
theorem kR.live {b b':aA} (h:kR b b') (hl:b'.data.live=true):b.data.live=true∧(b'.wr=true→b.wr=true):=by
 cases h with
 |dead=>cases hl
 |same g=>exact⟨hl,g⟩
 |one g _=>exact⟨rfl,g⟩
def zD (hp:List (Nat×aA)):List (Nat×aA)→List (Nat×aA)
 |[]=>[]
 |(k,_)::r=>match find hp k with
  |some b=>(k,b)::zD hp r
  |none=>zD hp r
theorem yS {hp:List (Nat×aA)}:∀{l:List (Nat×aA)} (j:Nat) (b:aA),(j,b)∈zD hp l→find hp j=some b
 |(k,_)::r,j,b,hm=>by
  rw[zD]at hm
  cases hf:find hp k with
  |none=>rw[hf]at hm;exact yS j b hm
  |some c=>
   rw[hf]at hm
   rcases List.mem_cons.1 hm with e|e
   ·cases e;exact hf
   ·exact yS j b e
inductive F0 (hp:List (Nat×aA)):List (Nat×aA)→Prop
 |nil:F0 hp []
 |cons {k b b' l}:find hp k=some b→kR b b'→F0 hp l→F0 hp ((k,b')::l)
theorem F0.mem {hp l:List (Nat×aA)} (h:F0 hp l):∀k b',(k,b')∈l→∃b,(k,b)∈zD hp l∧kR b b':=by
 induction h with
 |nil=>intro _ _ h;cases h
 |cons hf hw _ ih=>
  intro j b' hm
  rw[zD,hf]
  rcases List.mem_cons.1 hm with e|e
  ·cases e;exact⟨_,List.mem_cons_self ..,hw⟩
  ·obtain⟨c,h1,h2⟩:=ih j b' e
   exact⟨c,List.mem_cons_of_mem _ h1,h2⟩
theorem mb.view {hp l new:List (Nat×aA)} {ρ:bI} {w:World} (h:F0 hp l) (bW:mb (zD hp l) new ρ w):mb l new ρ w:=by
 refine⟨fun k b hk=> ?_,fun k k' x x' b b' hk kE e1 e2 e3 e4 e5 e6=> ?_,bW.aT,fun k b x hk hw hl hx=> ?_,bW.fresh⟩
 ·obtain⟨c,h1,h2⟩:=h.mem k b hk
  exact h2.ok (bW.mj k c h1)
 ·obtain⟨c,h1,h2⟩:=h.mem k b hk
  obtain⟨c',h1',h2'⟩:=h.mem k' b' kE
  have:=bW.sep k k' x x' c c' h1 h1' e1 e2 e3 e4 (h2.live e5).1 (h2'.live e6).1
  cases hb:b.wr with
  |false=>rfl
  |true=>rw[(h2.live e5).2 hb]at this;cases this
 ·obtain⟨c,h1,h2⟩:=h.mem k b hk
  exact bW.ep k c x h1 ((h2.live hl).2 hw) (h2.live hl).1 hx
section
variable {P:Program} {f:FuncId} {args:List SV} {c:SV} {hp:List (Nat×aA)}
theorem E4 {k:SV→List (Nat×aA)→List (Nat×aA)→List (Nat×aA)→Prop} {l upd:List (Nat×aA)} (h:af P f args l c [] upd) (hw:F0 hp l) (hu:kO (zD hp l) upd) (hk:k c (zD hp l) [] upd):
  ∃fk c new upd,af P f args fk c new upd∧vJ hp fk∧rM hp new∧kO fk upd∧k c fk new upd:=
 ⟨zD hp l,c,[],upd,af.ah5 h fun _ _=>mb.view hw,yS,an,hu,hk⟩
end
theorem kA {fk upd:List (Nat×aA)} (h:Aj fk upd=true) (hw:(upd.all fun x=>x.2.wr)=true):kO fk upd:=fun j b hm=>by
 obtain⟨b0,h1,h2,h3⟩:=nC h j b hm
 exact⟨b0,h1,h2,h3,List.all_eq_true.1 hw _ hm⟩
def RF (σ:Nat→Nat) (k:Nat):List Nat→Bool
 |[]=>true
 |j::r=>(Nat.beq j k|| !(Nat.beq (σ k) (σ j)))&&RF σ k r
theorem Bb {σ:Nat→Nat} {k:Nat}:∀{l:List Nat},RF σ k l=true→∀j∈l,k≠j→σ k≠σ j
 |i::r,h,j,hj,a7=>by
  simp only[RF,Bool.and_eq_true,Bool.or_eq_true,Bool.not_eq_true']at h
  rcases List.mem_cons.1 hj with rfl|hj
  ·rcases h.1 with g|g
   ·exact absurd (Nat.eq_of_beq_eq_true g).symm a7
   ·intro e;rw[e]at g;simp at g
  ·exact Bb h.2 j hj a7
def CP (σ:Nat→Nat) (ks:List Nat):List (Nat×aA)→Bool
 |[]=>true
 |(k,b)::r=>(!b.wr||RF σ k ks)&&CP σ ks r
theorem vx {σ:Nat→Nat} {ks:List Nat}:∀{l:List (Nat×aA)},CP σ ks l=true→∀q b,(q,b)∈l→b.wr=true→∀j∈ks,q≠j→σ q≠σ j
 |(k,b)::r,h,q,c,hm,hw,j,hj,a7=>by
  simp only[CP,Bool.and_eq_true,Bool.or_eq_true,Bool.not_eq_true']at h
  rcases List.mem_cons.1 hm with e|e
  ·cases e
   rcases h.1 with g|g
   ·rw[hw]at g;cases g
   ·exact Bb g j hj a7
  ·exact vx h.2 q c e hw j hj a7
theorem bh.of {fk:List (Nat×aA)} {σ:Nat→Nat} (h:CP σ (ax fk) fk=true):bh fk [] σ:=
 ⟨fun q q' b b' hq qn a7 hw=>vx h q b hq hw q' (aP.2 ⟨b',qn⟩) a7,(fun _ _ h=>by cases h),fun _ _ h=>by cases h⟩
end Go.Sx
namespace Go.Proofs.YtfpagioknjjacaaGreatDoor
open Go.Sx
set_option linter.unusedSimpArgs false
set_option linter.unusedVariables false
set_option maxRecDepth 100000
set_option maxHeartbeats 40000000
theorem qQ {l:List Rat} {j:Nat} {x:Rat} (h:j<l.length):(l.set j x).getD j 0=x:=by simp[List.getD_eq_getElem?_getD,h]
theorem fZ {l:List Rat} {j k:Nat} {x:Rat} (h:k≠j):(l.set j x).getD k 0=l.getD k 0:=by simp[List.getD_eq_getElem?_getD,List.getElem?_set_ne (Ne.symm h)]
theorem kB {o:List Rat} {n:Nat} {F:Nat→Rat} (hl:o.length=n) (h:∀k,k<n→o.getD k 0=F k):o=(List.range n).map F:=by
 refine List.ext_getElem (by simp[hl]) fun k h1 h2=> ?_
 have:=h k aa
 rw[List.getD_eq_getElem?_getD,List.getElem?_eq_getElem h1]at this
 simpa using this
abbrev wvB (r m:Nat) (d:Rat):aA:=⟨269,false,.one [.aK 1002 1 0 r,iv m,.any,.frac d]⟩
abbrev qB (q:Rat):aA:=⟨52,false,.one [.frac q]⟩
abbrev qj (A B:List SV) (n:Nat):List SV:=A++ .aK 1010 5 0 n::B
theorem RG {r i:Nat} (A B:List SV) (m c:Nat) (d q:Rat) (x:List Rat) (F:Nat→Rat) (g:FuncId) (hi:A.length=i) (hA:∀a∈A,a.width=1) (hr:r≤40) (Mp:i<r) (hc:c≤4096) (hx:x.length=c)
  (hR:er (fN (qj A B c)) [1001,1002,1006,1010]=true)
  (hf:∀k,k<c→af Tryz.prog g ([]++([iv (k:Nat),.frac (x.getD k 0)]++[.ptr 1006 0 0 0])) [(1006,qB q)] (.frac (F k)) [] []) (σ:Nat→Nat) (hσ:bh [(1001,wvB r m d),(1002,E3 false (qj A B c)),(1006,qB q),(1010,uN true x)] [] σ):
  af Tryz.prog 346 (kJ σ [.ptr 1001 0 0 0,iv i,.clo g [] [.ptr 1006 0 0 0]]) (jC σ [(1001,wvB r m d),(1002,E3 false (qj A B c)),(1006,qB q),(1010,uN true x)]) (eE σ (.cC [])) (jC σ []) (jC σ [(1010,uN true ((List.range c).map F))]):=by
 refine gw (Z:=[]) aM bB Tryz.func346 rfl aF (bV.of rfl (by exact cv rfl (cv hR (cv rfl (cv rfl uO)))) rfl rfl rfl rfl rfl rfl rfl rfl rfl) rfl σ hσ ?_
 intro W0 w0 ρ0 hE
 have hs:sub 64 (qj A B c) A.length 1=some [.aK 1010 5 0 c]:=wI rfl 64 hA aa
 obtain⟨AA,hAA⟩:∃X,X=A:=⟨A,rfl⟩
 rcases A with _|⟨a,A⟩
 all_goals
  subst hi
  conv=>whnf
  (repeat((first|refine av Q3 ?_|refine cN rfl (ak rfl) rfl (dJ rfl) hs (Nat.succ_ne_zero _) rfl ?_|rw[Int.toNat_natCast]|rw[Nat.zero_add]);conv=>whnf))
  refine s6 hE [0,1,2,14,15,16] (fun m' fr hp=>∃(j:Nat) (o:List Rat),m'=c - j∧j≤c∧o.length=c∧(∀k,k<j→o.getD k 0=F k)∧(∀k,j≤k→o.getD k 0=x.getD k 0)∧
   fr=[(0,.ptr 1001 0 0 0),(1,iv AA.length),(2,.clo g [] [.ptr 1006 0 0 0]),(14,.aK 1010 5 0 c),(15,iv c),(16,iv (j:Nat))]∧hp=[(1001,wvB r m d),(1002,E3 false (qj AA B c)),(1006,qB q),(1010,uN true o)]) c ?_ ?_ ?_
  ·exact kq aF (by exact bq rfl rfl (bq rfl hR (bq rfl rfl (bq rfl rfl ma)))) aF
  ·exact⟨0,x,rfl,Nat.zero_le _,hx,fun k h=>aa,fun k _=>rfl,by subst hAA;rfl,by subst hAA;rfl⟩
  rintro m _ _ ⟨j,o,rfl,hj,hl,ho,hu,rfl,rfl⟩
  subst hAA
  conv=>whnf
  by_cases aI:j<c
  ·have t1:=jD aI
   have t2:=cp (i:=j) aa
   have hk:=hf j aI
   rw[←hu j (Nat.le_refl _)]at hk
   (repeat((first|refine aB aF ?_|refine bg Q3 ?_|refine av Q3 ?_|refine ny (by assumption) rfl ?_|refine aN t1 ?_|refine cN rfl (ak rfl) rfl (dJ rfl) hs (Nat.succ_ne_zero _) rfl ?_|rw[t1]|rw[t2]|rw[Int.toNat_natCast]|rw[Nat.zero_add]);conv=>whnf))
   refine⟨c - (j+1),aa,kq aF (by exact bq rfl rfl (bq rfl hR (bq rfl rfl (bq rfl rfl ma)))) aF,j+1,o.set j (F j),rfl,aI,by rw[List.length_set];exact hl, ?_, ?_,rfl,rfl⟩
   ·intro k h
    by_cases e:k=j
    ·rw[e,qQ aa]
    ·rw[fZ e];exact ho k aa
   ·intro k h
    rw[fZ aa];exact hu k aa
  ·have t1:=jP aI
   obtain rfl:j=c:=aa
   have hx:=kB hl ho
   (repeat(first|(refine aW t1 ?_;conv=>whnf)))
   exact⟨aq.refl _,get_nil,cL (by rw[←hx];rfl) get_nil⟩
theorem fy {n:Nat} (h:sz n≤4398046511104):(ae n).length<274877906944:=by
 have:=Hy (n:=n) (M:=137438953472) aa
 omega
theorem jU:jq 4398046511104 where
 pX:=aH
 cmp a b ha hb:=DR a b (by have:=fy ha;omega) (by have:=fy hb;omega)
 add a b h:=Ux a b (by have:=fy (n:=a) (Nat.le_trans (eJ aa) h);omega) (by have:=fy (n:=b) (Nat.le_trans (eJ aa) h);omega)
 sub a b ha h:=Uy a b (by have:=fy ha;omega) h
 aaS a b hb h:=LK a b (by have:=fy hb;have:=gA (Nat.lt_trans h (bY b));omega) (by have:=fy hb;omega) h
 mul a b h:=UA a b (fy aa) (fy aa)
 div a b ha hb h0:=LX a b (fy ha) (fy hb) h0
 aaT a:=LD a
 gcd a b ha hb:=UG a b (fy ha) (fy hb)
theorem yT (a b:Rat) (h:fs a+fs b≤4398046511104):af Tryz.prog 80 [.frac a,.frac b] [] (.frac (a+b)) [] []:=LS jU a b (by unfold fs at h;omega)
theorem s7 (a b:Rat) (h:fs a+fs b≤4398046511104):af Tryz.prog 81 [.frac a,.frac b] [] (.frac (a*b)) [] []:=F8 jU a b (by unfold fs at h;omega)
theorem E5 (a b:Rat) (hb:b≠0) (h:fs a+fs b≤4398046511104):af Tryz.prog 141 [.frac a,.frac b] [] (.cC [.frac (a/b),.val (.int .i64 0)]) [] []:=LB jU a b hb (by unfold fs at h;omega)
theorem IF (a b:Rat) (h:fs a+fs b≤4398046511104):af Tryz.prog 142 [.frac a,.frac b] [] (.frac (a - b)) [] []:=by
 have k1:=BU b
 have k2:=yT a (-b) (by rw[oX];exact h)
 rw[←Rat.sub_eq_add_neg]at k2
 refine cj [] Tryz.func142 ?_
 intro W0 w0 ρ0 hE
 conv=>whnf
 (repeat(first|(refine aB aF ?_;conv=>whnf)|(refine a8 (by assumption) ?_;conv=>whnf)));exact Q4
theorem N4 (k:Int) (x q:Rat) (hq:q≠0) (h:fs x+fs q≤4398046511104):af Tryz.prog 347 ([]++([iv k,.frac x]++[.ptr 1006 0 0 0])) [(1006,qB q)] (.frac (x/q)) [] []:=by
 have k1:=E5 x q hq h
 refine pf (Z:=[]) aM bB Tryz.func347 rfl aF (bV.of rfl rfl rfl rfl rfl rfl rfl rfl rfl rfl rfl) rfl ?_
 intro W0 w0 ρ0 hE
 conv=>whnf
 (repeat(first|(refine a8 (by assumption) ?_;conv=>whnf)))
 exact⟨aq.refl _,get_nil,get_nil⟩
abbrev wbB:aA:=⟨264,false,.one [.ptr 1001 0 0 0]⟩
abbrev RH (C D:List SV) (n:Nat):List SV:=C++ .aK 1011 5 0 n::D
theorem N5 {r top k:Nat} (C D:List SV) (m c A:Nat) (d x q:Rat) (T o:List Rat) (hi:C.length=top) (hC:∀a∈C,a.width=1) (hr:r≤40) (ht:top<r) (hk:k<c) (hT:T.length=c)
  (hR:er (fN (RH C D c)) [1006,1005,1001,1002,1011,1010]=true) (hx:fs x≤A) (hq:fs q≤A) (hn:fs (T.getD k 0)≤2*A) (hA:4*A≤4398046511104):
  af Tryz.prog 348 ([]++([iv (k:Nat),.frac x]++[.ptr 1006 0 0 0,.ptr 1005 0 0 0,cx [iv top]])) [(1006,qB q),(1005,wbB),(1001,wvB r m d),(1002,E3 false (RH C D c)),(1011,uN false T),(1010,uN false o)] (.frac (x - q*T.getD k 0)) [] []:=by
 have k1:=s7 q (T.getD k 0) aa
 have k2:=IF x (q*T.getD k 0) (by have:=cT q (T.getD k 0);omega)
 refine pf (Z:=[]) aM bB Tryz.func348 rfl aF (bV.of rfl (by exact cv rfl (cv rfl (cv rfl (cv hR (cv rfl (cv rfl uO)))))) rfl rfl rfl rfl rfl rfl rfl rfl rfl) rfl ?_
 intro W0 w0 ρ0 hE
 have hs:sub 64 (RH C D c) C.length 1=some [.aK 1011 5 0 c]:=wI rfl 64 hC aa
 rcases C with _|⟨a,C⟩
 all_goals
  subst hi
  conv=>whnf
  (repeat((first|refine aB aF ?_|refine bg Q3 ?_|refine av Q3 ?_|refine a8 (by assumption) ?_|refine aC Q6 ?_|refine cN rfl (ak rfl) rfl (dJ rfl) hs (Nat.succ_ne_zero _) rfl ?_|rw[Int.toNat_natCast]|rw[Nat.zero_add]);conv=>whnf))
  exact⟨aq.refl _,get_nil,get_nil⟩
end Go.Proofs.YtfpagioknjjacaaGreatDoor
namespace Go.Sx
set_option linter.unusedSimpArgs false
set_option linter.unusedVariables false
section
variable {P:Program} {f:FuncId} {args:List SV} {c:SV} {hp:List (Nat×aA)}
end
end Go.Sx
namespace Go.Proofs.YtfpagioknjjacaaGreatDoor
open Go.Sx
set_option linter.unusedSimpArgs false
set_option linter.unusedVariables false
set_option maxRecDepth 100000
set_option maxHeartbeats 40000000
abbrev acd (top:Nat):List SV:=[.ptr 1006 0 0 0,.ptr 1005 0 0 0,cx [iv top]]
abbrev fk2 (r m c:Nat) (A B:List SV) (d q:Rat) (T x:List Rat) (b:Bool):List (Nat×aA):=[(1006,qB q),(1005,wbB),(1001,wvB r m d),(1002,E3 false (qj A B c)),(1011,uN false T),(1010,uN b x)]
theorem RI {r i top:Nat} (A B:List SV) (m c:Nat) (d q:Rat) (x T:List Rat) (F:Nat→Rat) (g:FuncId) (hi:A.length=i) (hA:∀a∈A,a.width=1) (hr:r≤40) (Mp:i<r) (hc:c≤4096) (hx:x.length=c)
  (hR:er (fN (qj A B c)) [1006,1005,1001,1002,1011,1010]=true)
  (hf:∀k o,k<c→af Tryz.prog g ([]++([iv (k:Nat),.frac (x.getD k 0)]++acd top)) (fk2 r m c A B d q T o false) (.frac (F k)) [] []) (σ:Nat→Nat) (hσ:bh (fk2 r m c A B d q T x true) [] σ):
  af Tryz.prog 346 (kJ σ [.ptr 1001 0 0 0,iv i,.clo g [] (acd top)]) (jC σ (fk2 r m c A B d q T x true)) (eE σ (.cC [])) (jC σ []) (jC σ [(1010,uN true ((List.range c).map F))]):=by
 refine gw (Z:=[]) aM bB Tryz.func346 rfl aF (bV.of rfl (by exact cv rfl (cv rfl (cv rfl (cv hR (cv rfl (cv rfl uO)))))) rfl rfl rfl rfl rfl rfl rfl rfl rfl) rfl σ hσ ?_
 intro W0 w0 ρ0 hE
 have hs:sub 64 (qj A B c) A.length 1=some [.aK 1010 5 0 c]:=wI rfl 64 hA aa
 obtain⟨AA,hAA⟩:∃X,X=A:=⟨A,rfl⟩
 rcases A with _|⟨a,A⟩
 all_goals
  subst hi
  conv=>whnf
  (repeat((first|refine av Q3 ?_|refine cN rfl (ak rfl) rfl (dJ rfl) hs (Nat.succ_ne_zero _) rfl ?_|rw[Int.toNat_natCast]|rw[Nat.zero_add]);conv=>whnf))
  refine s6 hE [0,1,2,14,15,16] (fun m' fr hp=>∃(j:Nat) (o:List Rat),m'=c - j∧j≤c∧o.length=c∧(∀k,k<j→o.getD k 0=F k)∧(∀k,j≤k→o.getD k 0=x.getD k 0)∧
   fr=[(0,.ptr 1001 0 0 0),(1,iv AA.length),(2,.clo g [] (acd top)),(14,.aK 1010 5 0 c),(15,iv c),(16,iv (j:Nat))]∧hp=fk2 r m c AA B d q T o true) c ?_ ?_ ?_
  ·exact kq aF (by exact bq rfl rfl (bq rfl rfl (bq rfl rfl (bq rfl hR (bq rfl rfl (bq rfl rfl ma)))))) aF
  ·exact⟨0,x,rfl,Nat.zero_le _,hx,fun k h=>aa,fun k _=>rfl,by subst hAA;rfl,by subst hAA;rfl⟩
  rintro m _ _ ⟨j,o,rfl,hj,hl,ho,hu,rfl,rfl⟩
  subst hAA
  conv=>whnf
  by_cases aI:j<c
  ·have t1:=jD aI
   have t2:=cp (i:=j) aa
   have hk:=fun b=>hf j b aI
   rw[←hu j (Nat.le_refl _)]at hk
   (repeat((first|refine aB aF ?_|refine bg Q3 ?_|refine av Q3 ?_|refine aN t1 ?_|refine cN rfl (ak rfl) rfl (dJ rfl) hs (Nat.succ_ne_zero _) rfl ?_|refine E4 (hk o) (F0.cons rfl (.same fun h=>h) (F0.cons rfl (.same fun h=>h) (F0.cons rfl (.same fun h=>h) (F0.cons rfl (.same fun h=>h) (F0.cons rfl (.same fun h=>h) (F0.cons rfl (.same F3) .nil)))))) ar ?_|rw[t1]|rw[t2]|rw[Int.toNat_natCast]|rw[Nat.zero_add]);conv=>whnf))
   refine⟨c - (j+1),aa,kq aF (by exact bq rfl rfl (bq rfl rfl (bq rfl rfl (bq rfl hR (bq rfl rfl (bq rfl rfl ma)))))) aF,j+1,o.set j (F j),rfl,aI,by rw[List.length_set];exact hl, ?_, ?_,rfl,rfl⟩
   ·intro k h
    by_cases e:k=j
    ·rw[e,qQ aa]
    ·rw[fZ e];exact ho k aa
   ·intro k h
    rw[fZ aa];exact hu k aa
  ·have t1:=jP aI
   obtain rfl:j=c:=aa
   have hx:=kB hl ho
   (repeat(first|(refine aW t1 ?_;conv=>whnf)))
   exact⟨aq.refl _,get_nil,cL (by rw[←hx];rfl) get_nil⟩
end Go.Proofs.YtfpagioknjjacaaGreatDoor
