/- The texts W7. -/
import Derived.Test.YthaeohlijigplaaGreatQLTopFound6
import Derived.Test.YthaeohlijigplaaGreatQLTopFound7
namespace Go.Proofs.YthaeohlijigplaaGreat
open Go.Sx
set_option linter.unusedSimpArgs false
set_option linter.unusedVariables false
set_option maxRecDepth 100000
set_option maxHeartbeats 64000000
theorem op_eqlE {P:Program} {o:Oper} {ft:List (Nat×SV)} {fk:List (Nat×Blk)} {c c':SV} {t t2:TypeId} {x y:Operand} {l l':List Value} {r:Bool} (ho:o.op= .binOp .eql t x y t2) (hx:EvOK ft x c) (hy:EvOK ft y c') (hl:flatC c=some l) (hl':flatC c'=some l')
  (hr:∀w,(Op.equalIn 10000 t (.agg l.toArray) (.agg l'.toArray)).run P w= .ok r w) (hgd:P.eqGuardType P.depth t=false):OpOK P o ft fk (.val (.bool r)) [] []:=
 ok_pure fun ρ a w hp=>by
  have e1:=flatC_spec hl (hx ρ a hp.hft)
  have e2:=flatC_spec hl' (hy ρ a hp.hft)
  refine⟨_, ?_,has_val rfl⟩
  simp only[execOp,ho,e1,e2,Sem.run_bind,run_eqGuard_agg w .eql t x y _ _ hgd,Result.andThen_ok,run_eql_struct,hr,Sem.run_pure]
theorem SWx_thn {E:Env} {c:Code} {K:Post'} {fr fr1:List (Nat×SV)} {hp hp1:List (Nat×Blk)} (h:∀K':Post',K' .normal fr1 hp1→SWx E c K' fr hp) (hk:K .normal fr1 hp1):SWx E c K fr hp:=h K hk
theorem SWx_thnE {E:Env} {c:Code} {K:Post'} {e} {fr fr1:List (Nat×SV)} {hp hp1:List (Nat×Blk)} (h:∀K':Post',K' e fr1 hp1→SWx E c K' fr hp) (hk:K e fr1 hp1):SWx E c K fr hp:=h K hk
theorem wrap_u8c {n:Int} (h0:0≤n) (h:n<256):IntKind.u8.wrap n=n:=by
 simp only[IntKind.wrap,IntKind.bits,IntKind.signed,Bool.false_and]
 simp;omega
theorem eq_I2 (p q:I2) (w:World):(Op.equalIn 10000 144 (.agg ([.int .i64 p.1,.int .i64 p.2]:List Value).toArray) (.agg ([.int .i64 q.1,.int .i64 q.2]:List Value).toArray)).run Tryz.prog w= .ok (decide (p=q)) w:=by
 have h:=eqArr_run tabOK goodKOK (t:=144) (e:=3) (n:=2) rfl rfl rfl [.int .i64 p.1,.int .i64 p.2] [.int .i64 q.1,.int .i64 q.2] (fun i=>match i with|0=>p.1==q.1|_=>p.2==q.2) (fun i hi=>by
   obtain rfl|rfl:i=0∨i=1:=by omega
   ·rfl
   ·rfl) 10000 w (by decide)
 refine h.trans ?_
 rw[←pair_dec]
 show Result.ok ((p.1==q.1)&&((p.2==q.2)&&true)) w=_
 rw[Bool.and_true]
theorem g_I2:Tryz.prog.eqGuardType Tryz.prog.depth 144=false:=by kernel_rfl
def rotC (t:P3) (r:Nat):I2:=match r with
 |0=>t.1
 |1=>t.2.1
 |_=>t.2.2
def findP (pl:List I2) (p:I2):Nat→Int
 |0=> -1
 |k+1=>if pl.getD k (0,0)=p then(k:Int)else findP pl p k
def addP (pl:List I2) (p:I2):List I2:=if findP pl p pl.length<0 then pl++[p]else pl
def numP (pl:List I2) (p:I2):Int:=if findP pl p pl.length<0 then(pl.length:Int)else findP pl p pl.length
def setT (n:T3) (i:Nat) (v:Int):T3:=match i with
 |0=>(v,n.2.1,n.2.2)
 |1=>(n.1,v,n.2.2)
 |_=>(n.1,n.2.1,v)
def rotI (F t i:Nat):Nat:=(i+F+t*(F/3)) % 3
def corS (F:Nat) (tc:P3) (t:Nat) (pl:List I2):Nat→List I2×T3
 |0=>(pl,(0,0,0))
 |i+1=>(addP (corS F tc t pl i).1 (rotC tc (rotI F t i)),setT (corS F tc t pl i).2 i (numP (corS F tc t pl i).1 (rotC tc (rotI F t i))))
abbrev g3 (l:List P3) (t:Nat):P3:=l.getD t ((0,0),(0,0),(0,0))
def triS (F:Nat) (l:List P3):Nat→List I2×List T3
 |0=>([],[])
 |t+1=>((corS F (g3 l t) t (triS F l t).1 3).1,(triS F l t).2++[(corS F (g3 l t) t (triS F l t).1 3).2])
theorem addP_len (pl:List I2) (p:I2):(addP pl p).length≤pl.length+1:=by unfold addP;split<;>simp
theorem corS_len (F:Nat) (tc:P3) (t:Nat) (pl:List I2):∀i,(corS F tc t pl i).1.length≤pl.length+i
 |0=>Nat.le_refl _
 |i+1=>by
  have:=corS_len F tc t pl i
  have:=addP_len (corS F tc t pl i).1 (rotC tc (rotI F t i))
  simp only[corS];omega
theorem triS_len (F:Nat) (l:List P3):∀t,(triS F l t).1.length≤3*t∧(triS F l t).2.length=t
 |0=>⟨Nat.le_refl _,rfl⟩
 |t+1=>by
  have:=triS_len F l t
  have:=corS_len F (g3 l t) t (triS F l t).1 3
  simp only[triS,List.length_append,List.length_singleton];omega
theorem findP_lt (pl:List I2) (p:I2):∀k, -1≤findP pl p k∧findP pl p k<k
 |0=>by simp[findP]
 |k+1=>by
  have:=findP_lt pl p k
  simp only[findP];split<;>omega
def hasT (t:T3) (p:Int):Bool:=(t.1==p)||((t.2.1==p)||(t.2.2==p))
def cntB (ts:List T3) (a b:Int):Nat→Nat
 |0=>0
 |k+1=>if hasT (gt ts k) a=true∧hasT (gt ts k) b=true then cntB ts a b k+1 else cntB ts a b k
def sidB (F:Nat) (ts:List T3) (a:Nat):Nat→List T3
 |0=>[]
 |j+1=>if cntB ts (a:Nat) (a+1+j:Nat) ts.length=1 then sidB F ts a j++[(((a:Nat):Int),((a+1+j:Nat):Int),(((a+3*(a+1+j)+F) % 5:Nat):Int))]else sidB F ts a j
def sidA (F:Nat) (ts:List T3) (N:Nat):Nat→List T3
 |0=>[]
 |a+1=>sidA F ts N a++sidB F ts a (N - (a+1))
theorem sidB_len (F:Nat) (ts:List T3) (a:Nat):∀j,(sidB F ts a j).length≤j
 |0=>Nat.le_refl _
 |j+1=>by
  have:=sidB_len F ts a j
  simp only[sidB];split
  ·rw[List.length_append,List.length_singleton];omega
  ·omega
theorem sidA_len (F:Nat) (ts:List T3) (N:Nat):∀a,(sidA F ts N a).length≤a*N
 |0=>by simp[sidA]
 |a+1=>by
  have:=sidA_len F ts N a
  have:=sidB_len F ts a (N - (a+1))
  simp only[sidA,List.length_append,Nat.succ_mul];omega
theorem cntB_len (ts:List T3) (a b:Int):∀k,cntB ts a b k≤k
 |0=>Nat.le_refl _
 |k+1=>by
  have:=cntB_len ts a b k
  simp only[cntB];split<;>omega
theorem q_HasT (t:T3) (p:Int):CallOK Tryz.prog 74 [triA t,iv p] [] (.val (.bool (hasT t p))) [] []:=q_Has t.1 t.2.1 t.2.2 p
abbrev p2B (l:List I2):Blk:=⟨144,true,.seq 2 (l.map p2A)⟩
abbrev q2B (l:List I2):Blk:=⟨105,true,.seq 2 (l.map p2A)⟩
abbrev t3B (l:List T3):Blk:=⟨84,true,.seq 3 (l.map triA)⟩
def posOK (p:I2):Prop:=(0≤p.1∧p.1≤100)∧(0≤p.2∧p.2≤100)
def p3OK (t:P3):Prop:=posOK t.1∧posOK t.2.1∧posOK t.2.2
theorem rotC_ok {t:P3} (h:p3OK t) (r:Nat):posOK (rotC t r):=by
 unfold rotC;split
 ·exact h.1
 ·exact h.2.1
 ·exact h.2.2
theorem at_p2 {l:List I2} {k:Nat} (h:k<l.length):(l.map p2A).getD k .any=p2A (l.getD k (0,0)):=by
 rw[List.getD_eq_getElem?_getD,List.getElem?_map,List.getElem?_eq_getElem h,List.getD_eq_getElem?_getD,List.getElem?_eq_getElem h];rfl
theorem sub_rot (t:P3) {r:Nat} (h:r<3):sub 64 [c3A t] ((r:Int).toNat*2) 2=some [p2A (rotC t r)]:=by
 obtain rfl|rfl|rfl:r=0∨r=1∨r=2:=by omega
 all_goals rfl
abbrev wB0:Blk:=⟨102,true,.one [.val (.slice none 0 0),.val (.slice none 0 0),.val (.slice none 0 0)]⟩
theorem app_p2 (q:List I2) (p:I2):p2B (q++[p])=⟨144,true,.seq 2 (List.take q.length (q.map p2A)++List.take 1 (List.drop 0 [p2A p]))⟩:=by
 rw[p2B,List.map_append,List.take_of_length_le (by simp)];rfl
theorem app_q2 (x:M6) (q:List I2) (p:I2):q2B ((q++[p]).map (movP x))=⟨105,true,.seq 2 (List.take q.length ((q.map (movP x)).map p2A)++List.take 1 (List.drop 0 [p2A (movP x p)]))⟩:=by
 rw[q2B,List.map_append,List.map_append,List.take_of_length_le (by simp)];rfl
theorem app_t3 (l:List T3) (t:T3):t3B (l++[t])=⟨84,true,.seq 3 (List.take l.length (l.map triA)++List.take 1 (List.drop 0 [triA t]))⟩:=by
 rw[t3B,List.map_append,List.take_of_length_le (by simp)];rfl
abbrev wB3 (x:M6) (pl:List I2) (ts:List T3) (n:Nat):Blk:=⟨102,true,.one [mvec 2 p2A (pl.map (movP x)),mvec 3 triA ts,.slc 2004 3 0 n]⟩
abbrev xPtr (x:M6):SV:=ptrA [u8v x.nx,u8v x.ny,mvec 1 (iel .u8) x.ce,.agg [i8v x.k0,i8v x.k1,i8v x.k2,i8v x.k3],u8v x.den,u8v x.fi]
theorem m_whole (x:M6) (hx:x.OK) (hL:∀t∈cellsL x,p3OK t) (hl16:(cellsL x).length≤16):
  CallOK Tryz.prog 38 [m6A x] [] (.agg [mvec 2 p2A ((triS x.fi.toNat (cellsL x) (cellsL x).length).1.map (movP x)),mvec 3 triA (triS x.fi.toNat (cellsL x) (cellsL x).length).2,
   mvec 3 triA (sidA x.fi.toNat (triS x.fi.toNat (cellsL x) (cellsL x).length).2 (triS x.fi.toNat (cellsL x) (cellsL x).length).1.length (triS x.fi.toNat (cellsL x) (cellsL x).length).1.length)]) [] []:=by
 have kc:=c_cells x hx
 obtain⟨F,hF⟩:∃F:Nat,x.fi=F:=⟨x.fi.toNat,by have:=hx.fi;omega⟩
 have hF2:F<256:=by have:=hx.fi;omega
 rw[hF,Int.toNat_natCast]
 generalize cellsL x=l at*
 refine callF (Z:=[1,100011,100016,100021,100022,100024,100034,100037,100038]) tabOK mixedOK Tryz.func38 rfl (by kernel_rfl) (by first|rfl|(simp[keylessL,keyless,keylessL_map, *];done)) (by first|rfl|(simp[keylessL,keyless,keylessL_map, *];done)) (by kernel_rfl) rfl ?_
 intro w0 ρ0 hE
 conv=>whnf
 (repeat(first|(refine g_c (by assumption) ?_;conv=>whnf)|(refine g_o (op_loadA rfl (ev_ok rfl) (tgt rfl) rfl (Nat.succ_ne_zero _) rfl) ?_;conv=>whnf)))
 refine SWx_adopt (t:=4) (k:=2001) (s:=2) (blk:=p2B []) rfl rfl rfl ?_
 refine SWx_adoptB (j:=3) (k:=2002) (s:=2) (p:=0) (blk:=q2B []) rfl rfl rfl rfl rfl ?_
 refine SWx_adoptB (j:=3) (k:=2003) (s:=3) (p:=1) (blk:=t3B []) rfl rfl rfl rfl rfl ?_
 refine SW_loopN hE (fun k=>k) [1,2,3,4,5,6] [2,3,2001,2002,2003] (fun M fr hp=>∃t,M=l.length - t∧t≤l.length∧fr=[(1,xPtr x),(2,.ptr 2 0 0 0),(3,.ptr 3 0 0 0),(4,.slc 2001 2 0 (triS F l t).1.length),(5,mvec 6 c3A l),(6,iv (t:Nat))]∧
  hp=[(2,⟨102,true,.one [.val (.slice none 0 0),.val (.slice none 0 0),.val (.slice none 0 0)]⟩),(3,⟨102,true,.one [.slc 2002 2 0 (triS F l t).1.length,.slc 2003 3 0 (triS F l t).2.length,.val (.slice none 0 0)]⟩),(2001,p2B (triS F l t).1),(2002,q2B ((triS F l t).1.map (movP x))),(2003,t3B (triS F l t).2)]) l.length ?_ ?_ ?_
 ·kernel_rfl
 ·exact⟨0,rfl,by omega,rfl,rfl⟩
 rintro M _ _ ⟨t,rfl,ht,rfl,rfl⟩
 by_cases hlt:t<l.length
 ·have s1:=dlt hlt
  have wk:=winc (i:=t) (by omega)
  obtain⟨hp1,hp2⟩:=triS_len F l t
  have hS:triS F l (t+1)=((corS F (g3 l t) t (triS F l t).1 3).1,(triS F l t).2++[(corS F (g3 l t) t (triS F l t).1 3).2]):=rfl
  have hgt:p3OK (g3 l t):=by rw[g3,List.getD_eq_getElem?_getD,List.getElem?_eq_getElem hlt];exact hL _ (List.getElem_mem hlt)
  generalize hpl:(triS F l t).1=pl at*
  generalize hts:(triS F l t).2=ts at*
  have hg:l.getD t ((0,0),(0,0),(0,0))=g3 l t:=rfl
  generalize g3 l t=tc at*
  conv=>whnf
  (repeat(first|(refine tst_tt s1 ?_;conv=>whnf)|(refine g_o (op_lenM rfl rfl rfl (ev_ok rfl) (tgt rfl) rfl) ?_;conv=>whnf)|(rw[s1];conv=>whnf)))
  refine SW_loopN hE (fun k=>k) [1,2,3,4,5,6,7,8] [2,3,7,2001,2002,2003] (fun M fr hp=>∃i q n,M=3 - i∧i≤3∧corS F tc t pl i=(q,n)∧fr=[(1,xPtr x),(2,.ptr 2 0 0 0),(3,.ptr 3 0 0 0),(4,.slc 2001 2 0 q.length),(5,mvec 6 c3A l),(6,iv (t:Nat)),(7,.ptr 7 0 0 0),(8,iv (i:Nat))]∧
   hp=[(2,wB0),(3,⟨102,true,.one [.slc 2002 2 0 q.length,.slc 2003 3 0 ts.length,.val (.slice none 0 0)]⟩),(7,⟨84,true,.one [iv n.1,iv n.2.1,iv n.2.2]⟩),(2001,p2B q),(2002,q2B (q.map (movP x))),(2003,t3B ts)]) 3 ?_ ?_ ?_
  ·kernel_rfl
  ·exact⟨0,pl,(0,0,0),rfl,by omega,rfl,rfl,rfl⟩
  rintro M _ _ ⟨i,q,n,rfl,hi,hcs,rfl,rfl⟩
  have hq:=corS_len F tc t pl i
  rw[hcs]at hq
  simp only at hq
  by_cases hi3:i<3
  ·have s2:decide ((i:Int)<3)=true:=decide_eq_true (by omega)
   have wk2:=winc (i:=i) (by omega)
   have hF4:F/3≤85:=by omega
   have hm1:t*(F/3)≤16*85:=Nat.mul_le_mul (by omega) hF4
   have f0:Hid (IntKind.i64.wrap (F:Int)=F):=show IntKind.i64.wrap (F:Int)=F from wrap_i64 (by omega) (by omega)
   have f1:Hid (IntKind.i64.wrap ((i:Int)+(F:Int))=((i+F:Nat):Int)):=show IntKind.i64.wrap ((i:Int)+(F:Int))=((i+F:Nat):Int)from by rw[wrap_i64 (by omega) (by omega)];omega
   have f2:Hid ((F:Int).tdiv 3=((F/3:Nat):Int)):=show(F:Int).tdiv 3=((F/3:Nat):Int)from rfl
   have f2b:Hid (IntKind.u8.wrap ((F/3:Nat):Int)=((F/3:Nat):Int)):=show IntKind.u8.wrap ((F/3:Nat):Int)=((F/3:Nat):Int)from wrap_u8c (by omega) (by omega)
   have f3:Hid (IntKind.i64.wrap ((F/3:Nat):Int)=((F/3:Nat):Int)):=show IntKind.i64.wrap ((F/3:Nat):Int)=((F/3:Nat):Int)from wrap_i64 (by omega) (by omega)
   have f4:Hid (IntKind.i64.wrap ((t:Int)*((F/3:Nat):Int))=((t*(F/3):Nat):Int)):=show IntKind.i64.wrap ((t:Int)*((F/3:Nat):Int))=((t*(F/3):Nat):Int)from by rw[←Int.natCast_mul];exact wrap_i64 (by omega) (by omega)
   have f5:Hid (IntKind.i64.wrap (((i+F:Nat):Int)+((t*(F/3):Nat):Int))=((i+F+t*(F/3):Nat):Int)):=show IntKind.i64.wrap (((i+F:Nat):Int)+((t*(F/3):Nat):Int))=((i+F+t*(F/3):Nat):Int)from by rw[wrap_i64 (by omega) (by omega)];omega
   have f6:Hid (((i+F+t*(F/3):Nat):Int).tmod 3=((rotI F t i:Nat):Int)):=show((i+F+t*(F/3):Nat):Int).tmod 3=((rotI F t i:Nat):Int)from rfl
   have hr3:rotI F t i<3:=Nat.mod_lt _ (by decide)
   have hsub:=sub_rot tc hr3
   have hpk:=rotC_ok hgt (rotI F t i)
   have hcs1:corS F tc t pl (i+1)=(addP q (rotC tc (rotI F t i)),setT n i (numP q (rotC tc (rotI F t i)))):=by simp only[corS,hcs]
   generalize rotC tc (rotI F t i)=p at*
   generalize rotI F t i=r at*
   conv=>whnf
   (repeat(first|(refine tst_tt s2 ?_;conv=>whnf)|(rw[s2];conv=>whnf)))
   refine SWx_thn (fr1:= ?fr11) (hp1:= ?hp11) (fun K hK=>SWx_go hE ?ra11) ?rb11
   case ra11=>
    conv=>whnf
    (repeat((first|refine step_i (by kernel_rfl) ?_|refine step_oN (by first|omega|decide|(simp only[tl1,dlen,List.length_replicate,List.length_set,List.length_map,List.length_zipWith,List.length_take,List.length_append,List.length_cons,List.length_nil];omega)) ?_|refine g_o (op_loadA rfl (ev_ok rfl) (tgt rfl) rfl (Nat.succ_ne_zero _) rfl) ?_|refine g_o (op_fieldA rfl (ev_ok rfl) (tgt rfl) rfl rfl (Nat.succ_ne_zero _) rfl) ?_|refine g_o (op_indexN (α:=P3) (d:=((0,0),(0,0),(0,0))) rfl (ev_ok rfl) (ev_ok rfl) (tgt rfl) rfl (tgt rfl) rfl (by omega)) ?_|refine g_o (op_indexArrA rfl (ev_ok rfl) (ev_ok rfl) (tgt rfl) rfl (tgt rfl) (by omega) (by omega) (Nat.succ_ne_zero _) hsub) ?_|rw[hF]|rw[f0.out]|rw[f1.out]|rw[f2.out]|rw[f2b.out]|rw[f3.out]|rw[f4.out]|rw[f5.out]|rw[f6.out]|rw[hg]);conv=>whnf))
    exact hK
   conv=>whnf
   skip
   clear f0 f1 f2 f2b f3 f4 f5 f6 hsub hg hm1 hF4
   refine SWx_thnE (e:=.exit 4) (fr1:= ?frl) (hp1:= ?hpl) (fun K hK=> ?ral) ?rbl
   case ral=>
    refine SW_loopN hE (fun k=>k) [1,2,3,4,5,6,7,8,9,10,11] [2,3,7,9,2001,2002,2003] (fun M fr hp=>∃k,M=q.length - k∧k≤q.length∧fr=[(1,xPtr x),(2,.ptr 2 0 0 0),(3,.ptr 3 0 0 0),(4,.slc 2001 2 0 q.length),(5,mvec 6 c3A l),(6,iv (t:Nat)),(7,.ptr 7 0 0 0),(8,iv (i:Nat)),(9,.ptr 9 0 0 0),(10,iv (findP q p k)),(11,iv (k:Nat))]∧
     hp=[(2,wB0),(3,⟨102,true,.one [.slc 2002 2 0 q.length,.slc 2003 3 0 ts.length,.val (.slice none 0 0)]⟩),(7,⟨84,true,.one [iv n.1,iv n.2.1,iv n.2.2]⟩),(9,⟨144,true,.one [iv p.1,iv p.2]⟩),(2001,p2B q),(2002,q2B (q.map (movP x))),(2003,t3B ts)]) q.length ?_ ?_ ?_
    ·kernel_rfl
    ·exact⟨0,rfl,by omega,rfl,rfl⟩
    rintro M _ _ ⟨k,rfl,hk,rfl,rfl⟩
    by_cases hkq:k<q.length
    ·have s3:=dlt hkq
     have wk3:=winc (i:=k) (by omega)
     have hak:=at_p2 hkq
     have u1:0+(k:Int).toNat=k:=by omega
     have hfs:findP q p (k+1)=if q.getD k (0,0)=p then(k:Int)else findP q p k:=rfl
     generalize q.getD k (0,0)=pk at*
     conv=>whnf
     (repeat(first|(refine tst_tt s3 ?_;conv=>whnf)|(rw[s3];conv=>whnf)))
     by_cases hpp:pk=p
     ·rw[if_pos hpp]at hfs
      have t3:decide (pk=p)=true:=decide_eq_true hpp
      refine SWx_thn (fr1:= ?fr16) (hp1:= ?hp16) (fun K hK=>SWx_go hE ?ra16) ?rb16
      case ra16=>
       conv=>whnf
       (repeat((first|refine step_i (by kernel_rfl) ?_|refine step_oL (by first|omega|decide|(simp only[tl1,dlen,List.length_replicate,List.length_set,List.length_map,List.length_zipWith,List.length_take,List.length_append,List.length_cons,List.length_nil];omega)) ?_|refine step_oA (by first|omega|decide|(simp only[tl1,dlen,List.length_replicate,List.length_set,List.length_map,List.length_zipWith,List.length_take,List.length_append,List.length_cons,List.length_nil];omega)) ?_|refine⟨_,op_eqlE rfl (ev_ok rfl) (ev_ok rfl) rfl rfl (eq_I2 pk p) g_I2, ?_⟩|rw[u1]|rw[hak]);conv=>whnf))
       exact hK
      conv=>whnf
      (repeat(first|(refine tst_tt t3 ?_;conv=>whnf)|(rw[t3];conv=>whnf)|(rw[wk3];conv=>whnf)))
      exact⟨q.length - (k+1),fun k=>k,[1,2,3,4,5,6,7,8,9,10,11],[2,3,7,9,2001,2002,2003],by omega,by kernel_rfl,k+1,rfl,by omega,by rw[hfs];rfl,rfl⟩
     ·rw[if_neg hpp]at hfs
      have t3:decide (pk=p)=false:=decide_eq_false hpp
      refine SWx_thn (fr1:= ?fr17) (hp1:= ?hp17) (fun K hK=>SWx_go hE ?ra17) ?rb17
      case ra17=>
       conv=>whnf
       (repeat((first|refine step_i (by kernel_rfl) ?_|refine step_oL (by first|omega|decide|(simp only[tl1,dlen,List.length_replicate,List.length_set,List.length_map,List.length_zipWith,List.length_take,List.length_append,List.length_cons,List.length_nil];omega)) ?_|refine step_oA (by first|omega|decide|(simp only[tl1,dlen,List.length_replicate,List.length_set,List.length_map,List.length_zipWith,List.length_take,List.length_append,List.length_cons,List.length_nil];omega)) ?_|refine⟨_,op_eqlE rfl (ev_ok rfl) (ev_ok rfl) rfl rfl (eq_I2 pk p) g_I2, ?_⟩|rw[u1]|rw[hak]);conv=>whnf))
       exact hK
      conv=>whnf
      (repeat(first|(refine tst_ff t3 ?_;conv=>whnf)|(rw[t3];conv=>whnf)|(rw[wk3];conv=>whnf)))
      exact⟨q.length - (k+1),fun k=>k,[1,2,3,4,5,6,7,8,9,10,11],[2,3,7,9,2001,2002,2003],by omega,by kernel_rfl,k+1,rfl,by omega,by rw[hfs];rfl,rfl⟩
    ·have s3:=dge hkq
     conv=>whnf
     (repeat(first|(refine tst_ff s3 ?_;conv=>whnf)|(rw[s3];conv=>whnf)))
     obtain rfl:k=q.length:=by omega
     exact hK
   conv=>whnf
   have hfr:=findP_lt q p q.length
   by_cases hf0:findP q p q.length<0
   ·have t4:decide (findP q p q.length<0)=true:=decide_eq_true hf0
    have hadd:addP q p=q++[p]:=if_pos hf0
    have hnum:numP q p=(q.length:Int):=if_pos hf0
    have kmv:=c_moved x p hpk.1 hpk.2
    clear hfr hf0
    generalize findP q p q.length=at0 at*
    (repeat(first|(refine step_oA (by first|omega|decide|(simp only[tl1,dlen,List.length_replicate,List.length_set,List.length_map,List.length_zipWith,List.length_take,List.length_append,List.length_cons,List.length_nil];omega)) ?_;conv=>whnf)|(refine tst_tt t4 ?_;conv=>whnf)|(rw[t4];conv=>whnf)))
    refine SWx_thn (fr1:= ?fr21) (hp1:= ?hp21) (fun K hK=>SWx_go hE ?ra21) ?rb21
    case ra21=>
     conv=>whnf
     (repeat((first|refine step_i (by kernel_rfl) ?_|refine step_oA (by first|omega|decide|(simp only[tl1,dlen,List.length_replicate,List.length_set,List.length_map,List.length_zipWith,List.length_take,List.length_append,List.length_cons,List.length_nil];omega)) ?_|refine g_c (by assumption) ?_|refine g_o (op_loadA rfl (ev_ok rfl) (tgt rfl) rfl (Nat.succ_ne_zero _) rfl) ?_|rw[Nat.zero_add]);conv=>whnf))
     exact hK
    conv=>whnf
    skip
    rw[hadd,hnum]at hcs1
    clear hadd hnum kmv
    obtain rfl|rfl|rfl:i=0∨i=1∨i=2:=by omega
    ·refine SWx_go hE ?_
     conv=>whnf
     (repeat((first|refine step_oA (by first|omega|decide|(simp only[tl1,dlen,List.length_replicate,List.length_set,List.length_map,List.length_zipWith,List.length_take,List.length_append,List.length_cons,List.length_nil];omega)) ?_|rw[wk2]|rw[Int.toNat_natCast]|rw[Nat.zero_add]);conv=>whnf))
     refine⟨3 - (0+1),renBy [(66,2001),(73,2002)],[1,2,3,4,5,6,7,8],[2,3,7,66,73,2003],by omega,by kernel_rfl,0+1,q++[p],_,rfl,by omega,hcs1, ?_, ?_⟩
     ·rw[List.length_append];rfl
     ·rw[app_p2,app_q2,List.length_append];rfl
    ·refine SWx_go hE ?_
     conv=>whnf
     (repeat((first|refine step_oA (by first|omega|decide|(simp only[tl1,dlen,List.length_replicate,List.length_set,List.length_map,List.length_zipWith,List.length_take,List.length_append,List.length_cons,List.length_nil];omega)) ?_|rw[wk2]|rw[Int.toNat_natCast]|rw[Nat.zero_add]);conv=>whnf))
     refine⟨3 - (1+1),renBy [(66,2001),(73,2002)],[1,2,3,4,5,6,7,8],[2,3,7,66,73,2003],by omega,by kernel_rfl,1+1,q++[p],_,rfl,by omega,hcs1, ?_, ?_⟩
     ·rw[List.length_append];rfl
     ·rw[app_p2,app_q2,List.length_append];rfl
    ·refine SWx_go hE ?_
     conv=>whnf
     (repeat((first|refine step_oA (by first|omega|decide|(simp only[tl1,dlen,List.length_replicate,List.length_set,List.length_map,List.length_zipWith,List.length_take,List.length_append,List.length_cons,List.length_nil];omega)) ?_|rw[wk2]|rw[Int.toNat_natCast]|rw[Nat.zero_add]);conv=>whnf))
     refine⟨3 - (2+1),renBy [(66,2001),(73,2002)],[1,2,3,4,5,6,7,8],[2,3,7,66,73,2003],by omega,by kernel_rfl,2+1,q++[p],_,rfl,by omega,hcs1, ?_, ?_⟩
     ·rw[List.length_append];rfl
     ·rw[app_p2,app_q2,List.length_append];rfl
   ·have t4:decide (findP q p q.length<0)=false:=decide_eq_false hf0
    have hadd:addP q p=q:=if_neg hf0
    have hnum:numP q p=findP q p q.length:=if_neg hf0
    rw[hadd,hnum]at hcs1
    clear hadd hnum hfr hf0
    generalize findP q p q.length=at0 at*
    (repeat(first|(refine tst_ff t4 ?_;conv=>whnf)|(rw[t4];conv=>whnf)))
    obtain rfl|rfl|rfl:i=0∨i=1∨i=2:=by omega
    ·refine SWx_go hE ?_
     conv=>whnf
     (repeat((first|refine step_oA (by first|omega|decide|(simp only[tl1,dlen,List.length_replicate,List.length_set,List.length_map,List.length_zipWith,List.length_take,List.length_append,List.length_cons,List.length_nil];omega)) ?_|rw[wk2]|rw[Int.toNat_natCast]|rw[Nat.zero_add]);conv=>whnf))
     exact⟨3 - (0+1),fun k=>k,[1,2,3,4,5,6,7,8],[2,3,7,2001,2002,2003],by omega,by kernel_rfl,0+1,q,_,rfl,by omega,hcs1,rfl,rfl⟩
    ·refine SWx_go hE ?_
     conv=>whnf
     (repeat((first|refine step_oA (by first|omega|decide|(simp only[tl1,dlen,List.length_replicate,List.length_set,List.length_map,List.length_zipWith,List.length_take,List.length_append,List.length_cons,List.length_nil];omega)) ?_|rw[wk2]|rw[Int.toNat_natCast]|rw[Nat.zero_add]);conv=>whnf))
     exact⟨3 - (1+1),fun k=>k,[1,2,3,4,5,6,7,8],[2,3,7,2001,2002,2003],by omega,by kernel_rfl,1+1,q,_,rfl,by omega,hcs1,rfl,rfl⟩
    ·refine SWx_go hE ?_
     conv=>whnf
     (repeat((first|refine step_oA (by first|omega|decide|(simp only[tl1,dlen,List.length_replicate,List.length_set,List.length_map,List.length_zipWith,List.length_take,List.length_append,List.length_cons,List.length_nil];omega)) ?_|rw[wk2]|rw[Int.toNat_natCast]|rw[Nat.zero_add]);conv=>whnf))
     exact⟨3 - (2+1),fun k=>k,[1,2,3,4,5,6,7,8],[2,3,7,2001,2002,2003],by omega,by kernel_rfl,2+1,q,_,rfl,by omega,hcs1,rfl,rfl⟩
  ·have s2:decide ((i:Int)<3)=false:=decide_eq_false (by omega)
   obtain rfl:i=3:=by omega
   rw[hcs]at hS
   conv=>whnf
   (repeat((first|refine step_w2 rfl rfl ?_|refine step_oA (by first|omega|decide|(simp only[tl1,dlen,List.length_replicate,List.length_set,List.length_map,List.length_zipWith,List.length_take,List.length_append,List.length_cons,List.length_nil];omega)) ?_|rw[s2]|rw[wk]|rw[Nat.zero_add]);conv=>whnf))
   refine⟨l.length - (t+1),renBy [(82,2003)],[1,2,3,4,5,6],[2,3,2001,2002,82],by omega,by kernel_rfl,t+1,rfl,by omega, ?_, ?_⟩
   ·rw[hS];rfl
   ·rw[hS,app_t3,List.length_append];rfl
 ·have s1:=dge hlt
  obtain rfl:t=l.length:=by omega
  obtain⟨hp1,hp2⟩:=triS_len F l l.length
  generalize (triS F l l.length).1=pl at*
  generalize (triS F l l.length).2=ts at*
  clear hL kc hlt
  conv=>whnf
  (repeat(first|(refine tst_ff s1 ?_;conv=>whnf)|(refine g_o (op_lenM rfl rfl rfl (ev_ok rfl) (tgt rfl) rfl) ?_;conv=>whnf)|(rw[s1];conv=>whnf)))
  refine SWx_freezeM 4 2001 (fun _ h=>h) (fun _=>rfl) rfl rfl rfl ?_
  refine SWx_freezeB 3 0 2002 (fun _ h=>h) rfl (by decide) rfl rfl (keylessL_map (fun _=>rfl) _) (by simp) ?_
  refine SWx_freezeB 3 1 2003 (fun _ h=>h) rfl (by decide) rfl rfl (keylessL_map (fun _=>rfl) _) (by simp) ?_
  refine SWx_adoptB (j:=3) (k:=2004) (s:=3) (p:=2) (blk:=t3B []) rfl rfl rfl rfl rfl ?_
  refine SWx_go hE ?_
  conv=>whnf
  skip
  refine SW_loopN hE (fun k=>k) [1,2,3,4,12] [2,3,2004] (fun M fr hp=>∃a,M=pl.length - a∧a≤pl.length∧fr=[(1,xPtr x),(2,.ptr 2 0 0 0),(3,.ptr 3 0 0 0),(4,mvec 2 p2A pl),(12,iv (a:Nat))]∧
   hp=[(2,wB0),(3,wB3 x pl ts (sidA F ts pl.length a).length),(2004,t3B (sidA F ts pl.length a))]) pl.length ?_ ?_ ?_
  ·kernel_rfl
  ·exact⟨0,rfl,by omega,rfl,rfl⟩
  rintro M _ _ ⟨a,rfl,ha,rfl,rfl⟩
  by_cases hap:a<pl.length
  ·have s2:=dlt hap
   have wa:=winc (i:=a) (by omega)
   conv=>whnf
   (repeat((first|refine tst_tt s2 ?_|refine g_o (op_lenM rfl rfl rfl (ev_ok rfl) (tgt rfl) rfl) ?_|rw[s2]|rw[wa]);conv=>whnf))
   have hsA:sidA F ts pl.length (a+1)=sidA F ts pl.length a++sidB F ts a (pl.length - (a+1)):=rfl
   have hN:pl.length≤48:=by omega
   have hmpl:(pl.map p2A).length=pl.length:=List.length_map ..
   have hSS:(sidA F ts pl.length a).length≤48*48:=Nat.le_trans (sidA_len F ts pl.length a) (Nat.mul_le_mul (by omega) hN)
   generalize sidA F ts pl.length a=SS at*
   refine SWx_thnE (e:=.exit 8) (fr1:= ?fr5) (hp1:= ?hp5) (fun K hK=> ?ra5) ?rb5
   case ra5=>
    refine SW_loopN hE (fun k=>k) [1,2,3,4,12,13] [2,3,2004] (fun M fr hp=>∃j,M=pl.length - (a+1) - j∧j≤pl.length - (a+1)∧fr=[(1,xPtr x),(2,.ptr 2 0 0 0),(3,.ptr 3 0 0 0),(4,mvec 2 p2A pl),(12,iv (a:Nat)),(13,iv (a+1+j:Nat))]∧
     hp=[(2,wB0),(3,wB3 x pl ts (SS++sidB F ts a j).length),(2004,t3B (SS++sidB F ts a j))]) (pl.length - (a+1)) ?_ ?_ ?_
    ·kernel_rfl
    ·exact⟨0,rfl,by omega,rfl,by rw[sidB,List.append_nil];rfl⟩
    rintro M _ _ ⟨j,rfl,hj,rfl,rfl⟩
    have hsB:sidB F ts a (j+1)=if cntB ts (a:Nat) (a+1+j:Nat) ts.length=1 then sidB F ts a j++[(((a:Nat):Int),((a+1+j:Nat):Int),(((a+3*(a+1+j)+F) % 5:Nat):Int))]else sidB F ts a j:=rfl
    by_cases hjp:j<pl.length - (a+1)
    ·have s3:decide (((a+1+j:Nat):Int)<(pl.length:Int))=true:=decide_eq_true (by omega)
     have wb:=winc (i:=a+1+j) (by omega)
     have hb48:a+1+j<48:=by omega
     have hbj:a+1+(j+1)=a+1+j+1:=rfl
     have hSl:(SS++sidB F ts a j).length<100000:=by have:=sidB_len F ts a j;rw[List.length_append];omega
     have hc1:(SS++sidB F ts a (j+1))=if cntB ts (a:Nat) (a+1+j:Nat) ts.length=1 then(SS++sidB F ts a j)++[(((a:Nat):Int),((a+1+j:Nat):Int),(((a+3*(a+1+j)+F) % 5:Nat):Int))]else SS++sidB F ts a j:=by
      rw[hsB];split
      ·rw[List.append_assoc]
      ·rfl
     clear hsB hbj
     generalize SS++sidB F ts a j=R at*
     obtain⟨b,hb⟩:∃b,a+1+j=b:=⟨_,rfl⟩
     rw[hb]at s3 wb hc1 hb48 ⊢
     conv=>whnf
     (repeat(first|(refine tst_tt s3 ?_;conv=>whnf)|(refine g_o (op_lenM rfl rfl rfl (ev_ok rfl) (tgt rfl) rfl) ?_;conv=>whnf)|(rw[s3];conv=>whnf)))
     refine SWx_thnE (e:=.exit 10) (fr1:= ?fr6) (hp1:= ?hp6) (fun K hK=> ?ra6) ?rb6
     case ra6=>
      refine SW_loopN hE (fun k=>k) [1,2,3,4,12,13,14,15] [2,3,2004] (fun M fr hp=>∃k,M=ts.length - k∧k≤ts.length∧fr=[(1,xPtr x),(2,.ptr 2 0 0 0),(3,.ptr 3 0 0 0),(4,mvec 2 p2A pl),(12,iv (a:Nat)),(13,iv (b:Nat)),(14,iv (cntB ts (a:Nat) (b:Nat) k:Nat)),(15,iv (k:Nat))]∧
       hp=[(2,wB0),(3,wB3 x pl ts R.length),(2004,t3B R)]) ts.length ?_ ?_ ?_
      ·kernel_rfl
      ·exact⟨0,rfl,by omega,rfl,rfl⟩
      rintro M _ _ ⟨k,rfl,hk,rfl,rfl⟩
      have hcn:=cntB_len ts (a:Nat) (b:Nat) k
      have hcs:cntB ts (a:Nat) (b:Nat) (k+1)=if hasT (gt ts k) (a:Nat)=true∧hasT (gt ts k) (b:Nat)=true then cntB ts (a:Nat) (b:Nat) k+1 else cntB ts (a:Nat) (b:Nat) k:=rfl
      by_cases hkt:k<ts.length
      ·have s4:=dlt hkt
       have wk4:=winc (i:=k) (by omega)
       have hg:ts.getD k (0,0,0)=gt ts k:=rfl
       have k1:=q_HasT (gt ts k) (a:Nat)
       have k2:=q_HasT (gt ts k) (b:Nat)
       generalize gt ts k=tk at*
       conv=>whnf
       (repeat((first|refine tst_tt s4 ?_|refine g_o (op_lenM rfl rfl rfl (ev_ok rfl) (tgt rfl) rfl) ?_|rw[s4]|rw[Nat.zero_add]);conv=>whnf))
       cases h1:hasT tk (a:Nat)with
       |false=>
        rw[h1]at k1 hcs
        rw[if_neg (by simp)]at hcs
        refine SWx_thn (fr1:= ?fr34) (hp1:= ?hp34) (fun K hK=>SWx_go hE ?ra34) ?rb34
        case ra34=>
         conv=>whnf
         (repeat((first|refine step_w2 rfl rfl ?_|refine g_c (by assumption) ?_|refine g_o (op_pickF rfl (ev_ok rfl) (ev_ok rfl)) ?_|refine g_o (op_loadA rfl (ev_ok rfl) (tgt rfl) rfl (Nat.succ_ne_zero _) rfl) ?_|refine g_o (op_indexN (α:=T3) (d:=(0,0,0)) rfl (ev_ok rfl) (ev_ok rfl) (tgt rfl) rfl (tgt rfl) rfl (by omega)) ?_|rw[hg]|rw[Nat.zero_add]);conv=>whnf))
         exact hK
        conv=>whnf
        (repeat(first|(refine step_w2 rfl rfl ?_;conv=>whnf)|(rw[wk4];conv=>whnf)))
        exact⟨ts.length - (k+1),fun k=>k,[1,2,3,4,12,13,14,15],[2,3,2004],by omega,by kernel_rfl,k+1,rfl,by omega,by rw[hcs];rfl,rfl⟩
       |true=>
        cases h2:hasT tk (b:Nat)with
        |false=>
         rw[h1]at k1 hcs
         rw[h2]at k2 hcs
         rw[if_neg (by simp)]at hcs
         refine SWx_thn (fr1:= ?fr35) (hp1:= ?hp35) (fun K hK=>SWx_go hE ?ra35) ?rb35
         case ra35=>
          conv=>whnf
          (repeat((first|refine step_w1 rfl rfl ?_|refine g_c (by assumption) ?_|refine g_o (op_pickT rfl (ev_ok rfl) (ev_ok rfl)) ?_|refine g_o (op_loadA rfl (ev_ok rfl) (tgt rfl) rfl (Nat.succ_ne_zero _) rfl) ?_|refine g_o (op_indexN (α:=T3) (d:=(0,0,0)) rfl (ev_ok rfl) (ev_ok rfl) (tgt rfl) rfl (tgt rfl) rfl (by omega)) ?_|rw[hg]|rw[Nat.zero_add]);conv=>whnf))
          exact hK
         conv=>whnf
         (repeat(first|(refine step_w2 rfl rfl ?_;conv=>whnf)|(rw[wk4];conv=>whnf)))
         exact⟨ts.length - (k+1),fun k=>k,[1,2,3,4,12,13,14,15],[2,3,2004],by omega,by kernel_rfl,k+1,rfl,by omega,by rw[hcs];rfl,rfl⟩
        |true=>
         rw[h1]at k1 hcs
         rw[h2]at k2 hcs
         rw[if_pos (by simp)]at hcs
         have wc:=winc (i:=cntB ts (a:Nat) (b:Nat) k) (by omega)
         refine SWx_thn (fr1:= ?fr36) (hp1:= ?hp36) (fun K hK=>SWx_go hE ?ra36) ?rb36
         case ra36=>
          conv=>whnf
          (repeat((first|refine step_w1 rfl rfl ?_|refine g_c (by assumption) ?_|refine g_o (op_pickT rfl (ev_ok rfl) (ev_ok rfl)) ?_|refine g_o (op_loadA rfl (ev_ok rfl) (tgt rfl) rfl (Nat.succ_ne_zero _) rfl) ?_|refine g_o (op_indexN (α:=T3) (d:=(0,0,0)) rfl (ev_ok rfl) (ev_ok rfl) (tgt rfl) rfl (tgt rfl) rfl (by omega)) ?_|rw[hg]|rw[Nat.zero_add]);conv=>whnf))
          exact hK
         conv=>whnf
         (repeat(first|(refine step_w1 rfl rfl ?_;conv=>whnf)|(rw[wk4];conv=>whnf)|(rw[wc];conv=>whnf)))
         exact⟨ts.length - (k+1),fun k=>k,[1,2,3,4,12,13,14,15],[2,3,2004],by omega,by kernel_rfl,k+1,rfl,by omega,by rw[hcs];rfl,rfl⟩
      ·have s4:=dge hkt
       obtain rfl:k=ts.length:=by omega
       conv=>whnf
       (repeat((first|refine tst_ff s4 ?_|refine g_o (op_lenM rfl rfl rfl (ev_ok rfl) (tgt rfl) rfl) ?_|rw[s4]|rw[Nat.zero_add]);conv=>whnf))
       exact hK
     conv=>whnf
     by_cases h1:cntB ts (a:Nat) (b:Nat) ts.length=1
     ·have t1:((cntB ts (a:Nat) (b:Nat) ts.length:Int)==1)=true:=by rw[h1];rfl
      rw[if_pos h1]at hc1
      have g1:IntKind.i64.wrap (3*(b:Int))=((3*b:Nat):Int):=by rw[wrap_i64 (by omega) (by omega)];omega
      have g2:IntKind.i64.wrap ((a:Int)+((3*b:Nat):Int))=((a+3*b:Nat):Int):=by rw[wrap_i64 (by omega) (by omega)];omega
      have g3:IntKind.i64.wrap (F:Int)=F:=wrap_i64 (by omega) (by omega)
      have g4:IntKind.i64.wrap (((a+3*b:Nat):Int)+(F:Int))=((a+3*b+F:Nat):Int):=by rw[wrap_i64 (by omega) (by omega)];omega
      have g5:((a+3*b+F:Nat):Int).tmod 5=(((a+3*b+F) % 5:Nat):Int):=rfl
      clear h1
      generalize cntB ts (a:Nat) (b:Nat) ts.length=cn at*
      (repeat(first|(refine tst_tt t1 ?_;conv=>whnf)|(rw[t1];conv=>whnf)))
      refine SWx_thn (fr1:= ?fr37) (hp1:= ?hp37) (fun K hK=>SWx_go hE ?ra37) ?rb37
      case ra37=>
       conv=>whnf
       (repeat((first|refine step_oA (by first|omega|decide|(simp only[tl1,dlen,List.length_replicate,List.length_set,List.length_map,List.length_zipWith,List.length_take,List.length_append,List.length_cons,List.length_nil];omega)) ?_|refine step_oN (by first|omega|decide|(simp only[tl1,dlen,List.length_replicate,List.length_set,List.length_map,List.length_zipWith,List.length_take,List.length_append,List.length_cons,List.length_nil];omega)) ?_|refine g_o (op_loadA rfl (ev_ok rfl) (tgt rfl) rfl (Nat.succ_ne_zero _) rfl) ?_|refine g_o (op_fieldA rfl (ev_ok rfl) (tgt rfl) rfl rfl (Nat.succ_ne_zero _) rfl) ?_|rw[hF]|rw[g1]|rw[g2]|rw[g3]|rw[g4]|rw[g5]|rw[Nat.zero_add]);conv=>whnf))
       exact hK
      conv=>whnf
      (repeat(first|(rw[wb];conv=>whnf)))
      exact⟨pl.length - (a+1) - (j+1),renBy [(140,2004)],[1,2,3,4,12,13],[2,3,140],by omega,by kernel_rfl,j+1,rfl,by omega,by rw[←hb];rfl,by rw[hc1,app_t3,List.length_append];rfl⟩
     ·have t1:((cntB ts (a:Nat) (b:Nat) ts.length:Int)==1)=false:=beq_eq_false_iff_ne.2 (by omega)
      rw[if_neg h1]at hc1
      clear h1
      generalize cntB ts (a:Nat) (b:Nat) ts.length=cn at*
      (repeat(first|(refine tst_ff t1 ?_;conv=>whnf)|(rw[t1];conv=>whnf)|(rw[wb];conv=>whnf)))
      exact⟨pl.length - (a+1) - (j+1),fun k=>k,[1,2,3,4,12,13],[2,3,2004],by omega,by kernel_rfl,j+1,rfl,by omega,by rw[←hb];rfl,by rw[hc1];rfl⟩
    ·have s3:decide (((a+1+j:Nat):Int)<(pl.length:Int))=false:=decide_eq_false (by omega)
     obtain rfl:j=pl.length - (a+1):=by omega
     conv=>whnf
     (repeat(first|(refine tst_ff s3 ?_;conv=>whnf)|(refine g_o (op_lenM rfl rfl rfl (ev_ok rfl) (tgt rfl) rfl) ?_;conv=>whnf)|(rw[s3];conv=>whnf)))
     exact hK
   conv=>whnf
   (repeat(first|(rw[wa];conv=>whnf)))
   exact⟨pl.length - (a+1),fun k=>k,[1,2,3,4,12],[2,3,2004],by omega,by kernel_rfl,a+1,rfl,by omega,rfl,by rw[hsA];rfl⟩
  ·have s2:=dge hap
   obtain rfl:a=pl.length:=by omega
   conv=>whnf
   (repeat(first|(refine tst_ff s2 ?_;conv=>whnf)|(refine g_o (op_lenM rfl rfl rfl (ev_ok rfl) (tgt rfl) rfl) ?_;conv=>whnf)|(rw[s2];conv=>whnf)))
   refine SWx_freezeB 3 2 2004 (fun _ h=>h) rfl (by decide) rfl rfl (keylessL_map (fun _=>rfl) _) (by simp) ?_
   refine SWx_go hE ?_
   conv=>whnf
   skip
   (first|exact Recast.refl _|exact Frz.recast (Recast.refl _) rfl|(refine Frz.one rfl rfl ?_;skip)|(refine Frz.tup ?_;skip))
end Go.Proofs.YthaeohlijigplaaGreat
