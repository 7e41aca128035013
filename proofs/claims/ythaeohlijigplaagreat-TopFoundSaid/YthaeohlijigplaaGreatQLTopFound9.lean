/- The texts G5. -/
import Derived.Test.YthaeohlijigplaaGreatQLTopFound8
namespace Go.Proofs.YthaeohlijigplaaGreat
open Go.Sx
set_option linter.unusedSimpArgs false
set_option linter.unusedVariables false
set_option maxRecDepth 100000
set_option maxHeartbeats 8000000
def twI (a b c:I2):Int:=(b.1 - a.1)*(c.2 - a.2) - (b.2 - a.2)*(c.1 - a.1)
def leftI (p q r:I2):Bool:=decide (0<twI p q r)
def anyI (p q:I2) (u:P3):Bool:=leftI p q u.1||(leftI p q u.2.1||leftI p q u.2.2)
def beyI (t u:P3):Bool:= !anyI t.1 t.2.1 u||(!anyI t.2.1 t.2.2 u|| !anyI t.2.2 t.1 u)
def outI (t:P3) (r:I2):Bool:=decide (twI r t.2.1 t.2.2<0)||(decide (twI t.1 r t.2.2<0)||decide (twI t.1 t.2.1 r<0))
def corI (t:P3) (r:I2):Bool:=decide (r=t.1)||(decide (r=t.2.1)||decide (r=t.2.2))
def cooI (t:P3) (r:I2):Bool:=corI t r||outI t r
def okP (t u:P3):Bool:=(beyI t u||beyI u t)&&(cooI t u.1&&(cooI t u.2.1&&cooI t u.2.2))
def posI (t:P3):Bool:=decide (0<twI t.1 t.2.1 t.2.2)
def rot3 (t:P3) (s:Nat):P3:=(rotC t (s % 3),rotC t ((s+1) % 3),rotC t ((s+2) % 3))
def kl (k:Nat) (X Y:Int):List P3:=match k with
 |0=>[((X,Y),(X+2,Y),(X+2,Y+2)),((X,Y),(X+2,Y+2),(X,Y+2))]
 |1=>[((X,Y),(X+2,Y),(X,Y+2)),((X+2,Y),(X+2,Y+2),(X,Y+2))]
 |2=>[((X,Y),(X+2,Y),(X+1,Y+1)),((X+2,Y),(X+2,Y+2),(X+1,Y+1)),((X+2,Y+2),(X,Y+2),(X+1,Y+1)),((X,Y+2),(X,Y),(X+1,Y+1))]
 |_=>[]
theorem cellF_kl (w:Int) (i:Nat) (X Y:Int):∃k,k<4∧cellF w i X Y=kl k X Y:=by
 unfold cellF
 split
 ·exact⟨0,by decide,rfl⟩
 ·split
  ·exact⟨1,by decide,rfl⟩
  ·split
   ·exact⟨2,by decide,rfl⟩
   ·exact⟨3,by decide,rfl⟩
def cells4:List I2:=[(0,0),(0,2),(2,0),(2,2)]
def three (f:Nat→Bool):Bool:=f 0&&(f 1&&f 2)
def chkA:Bool:=cells4.all fun p=>three fun k=>(kl k p.1 p.2).all fun t=>three fun s=>posI (rot3 t s)
def chkB:Bool:=cells4.all fun p=>cells4.all fun q=>decide (p=q)||three fun k=>three fun k'=>(kl k p.1 p.2).all fun t=>(kl k' q.1 q.2).all fun u=>three fun s=>three fun s'=>okP (rot3 t s) (rot3 u s')
def chkC:Bool:=cells4.all fun p=>three fun k=>(List.range 4).all fun i=>(List.range 4).all fun j=>decide (i=j)||three fun s=>three fun s'=>
 match (kl k p.1 p.2)[i]?,(kl k p.1 p.2)[j]? with
 |some t,some u=>okP (rot3 t s) (rot3 u s')
 |_,_=>true
theorem chkA_ok:chkA=true:=by decide+kernel
theorem chkB_ok:chkB=true:=by decide+kernel
theorem chkC_ok:chkC=true:=by decide+kernel
theorem three_at {f:Nat→Bool} (h:three f=true) {k:Nat} (hk:k<3):f k=true:=by
 simp only[three,Bool.and_eq_true]at h
 obtain rfl|rfl|rfl:k=0∨k=1∨k=2:=by omega
 ·exact h.1
 ·exact h.2.1
 ·exact h.2.2
theorem kl_pos {p:I2} (hp:p∈cells4) {k:Nat} {t:P3} (ht:t∈kl k p.1 p.2) {s:Nat} (hs:s<3):posI (rot3 t s)=true:=by
 have hk:k<3:=by
  rcases Nat.lt_or_ge k 3 with h|h
  ·exact h
  ·match k,h,ht with
   |k+3,_,ht=>exact absurd ht (by simp[kl])
 exact three_at (List.all_eq_true.1 (three_at (List.all_eq_true.1 chkA_ok p hp) hk) t ht) hs
theorem kl_lt {k:Nat} {X Y:Int} {t:P3} (ht:t∈kl k X Y):k<3:=by
 rcases Nat.lt_or_ge k 3 with h|h
 ·exact h
 ·match k,h,ht with
  |k+3,_,ht=>exact absurd ht (by simp[kl])
theorem kl_two {p q:I2} (hp:p∈cells4) (hq:q∈cells4) (hpq:p≠q) {k k':Nat} {t u:P3} (ht:t∈kl k p.1 p.2) (hu:u∈kl k' q.1 q.2) {s s':Nat} (hs:s<3) (hs':s'<3):okP (rot3 t s) (rot3 u s')=true:=by
 have h:=List.all_eq_true.1 (List.all_eq_true.1 chkB_ok p hp) q hq
 rw[decide_eq_false hpq,Bool.false_or]at h
 exact three_at (three_at (List.all_eq_true.1 (List.all_eq_true.1 (three_at (three_at h (kl_lt ht)) (kl_lt hu)) t ht) u hu) hs) hs'
theorem kl_len (k:Nat) (X Y:Int):(kl k X Y).length≤4:=by
 unfold kl;split<;>simp
theorem kl_one {p:I2} (hp:p∈cells4) {k:Nat} {i j:Nat} {t u:P3} (hij:i≠j) (ht:(kl k p.1 p.2)[i]? =some t) (hu:(kl k p.1 p.2)[j]? =some u) {s s':Nat} (hs:s<3) (hs':s'<3):okP (rot3 t s) (rot3 u s')=true:=by
 have hl:=kl_len k p.1 p.2
 have hi:=(List.getElem?_eq_some_iff.1 ht).1
 have hj:=(List.getElem?_eq_some_iff.1 hu).1
 have hk:k<3:=kl_lt (List.mem_of_getElem? ht)
 have h:=List.all_eq_true.1 (List.all_eq_true.1 (three_at (List.all_eq_true.1 chkC_ok p hp) hk) i (List.mem_range.2 (by omega))) j (List.mem_range.2 (by omega))
 rw[decide_eq_false hij,Bool.false_or]at h
 have:=three_at (three_at h hs) hs'
 rw[ht,hu]at this
 exact this
theorem cellA_at (x:M6) (n:Nat):∀N j,j<(cellA x n N).length→∃c r k,c<N∧(kl k (2*((c % n:Nat):Int)) (2*((c/n:Nat):Int)))[r]? =some (g3 (cellA x n N) j)∧j=(cellA x n c).length+r∧cellF (wayF x c) c (2*((c % n:Nat):Int)) (2*((c/n:Nat):Int))=kl k (2*((c % n:Nat):Int)) (2*((c/n:Nat):Int))
 |0,j,h=>by simp[cellA]at h
 |N+1,j,h=>by
  simp only[cellA]at h ⊢
  by_cases hj:j<(cellA x n N).length
  ·obtain⟨c,r,k,h1,h2,h3,h4⟩:=cellA_at x n N j hj
   refine⟨c,r,k,by omega, ?_,h3,h4⟩
   rw[h2,g3,g3,List.getD_eq_getElem?_getD,List.getD_eq_getElem?_getD,List.getElem?_append_left hj]
  ·obtain⟨k,_,hk⟩:=cellF_kl (wayF x N) N (2*((N % n:Nat):Int)) (2*((N/n:Nat):Int))
   rw[List.length_append]at h
   refine⟨N,j - (cellA x n N).length,k,by omega, ?_,by omega,hk⟩
   rw[g3,List.getD_eq_getElem?_getD,List.getElem?_append_right (by omega),hk,List.getElem?_eq_getElem (by rw[←hk];omega)]
   rfl
theorem cell_in {n N c:Nat} (hn:n=1∨n=2) (hN:N≤2*n) (hc:c<N):((2*((c % n:Nat):Int),2*((c/n:Nat):Int)):I2)∈cells4:=by
 have h1:c % n≤1:=by
  have:=Nat.mod_lt c (show 0<n by omega)
  omega
 have h2:c/n≤1:=by
  have:c/n<2:=Nat.div_lt_of_lt_mul (by omega)
  omega
 have h3:∀v:Nat,v≤1→v=0∨v=1:=fun v hv=>by omega
 rcases h3 _ h1 with e1|e1
 all_goals rcases h3 _ h2 with e2|e2
 all_goals rw[e1,e2];decide
theorem grid_pos {x:M6} {n N:Nat} (hn:n=1∨n=2) (hN:N≤2*n) {j:Nat} (hj:j<(cellA x n N).length) {s:Nat} (hs:s<3):posI (rot3 (g3 (cellA x n N) j) s)=true:=by
 obtain⟨c,r,k,h1,h2,_⟩:=cellA_at x n N j hj
 exact kl_pos (p:=(2*((c % n:Nat):Int),2*((c/n:Nat):Int))) (cell_in hn hN h1) (List.mem_of_getElem? h2) hs
theorem grid_two {x:M6} {n N:Nat} (hn:n=1∨n=2) (hN:N≤2*n) {i j:Nat} (hi:i<(cellA x n N).length) (hj:j<(cellA x n N).length) (hij:i≠j) {s s':Nat} (hs:s<3) (hs':s'<3):
  okP (rot3 (g3 (cellA x n N) i) s) (rot3 (g3 (cellA x n N) j) s')=true:=by
 obtain⟨c,r,k,h1,h2,h3,h4⟩:=cellA_at x n N i hi
 obtain⟨c',r',k',h1',h2',h3',h4'⟩:=cellA_at x n N j hj
 by_cases hc:c=c'
 ·subst hc
  have hkk:kl k (2*((c % n:Nat):Int)) (2*((c/n:Nat):Int))=kl k' (2*((c % n:Nat):Int)) (2*((c/n:Nat):Int)):=by rw[←h4,←h4']
  rw[←hkk]at h2'
  exact kl_one (p:=(2*((c % n:Nat):Int),2*((c/n:Nat):Int))) (cell_in hn hN h1) (show r≠r' by omega) h2 h2' hs hs'
 ·refine kl_two (p:=(2*((c % n:Nat):Int),2*((c/n:Nat):Int))) (q:=(2*((c' % n:Nat):Int),2*((c'/n:Nat):Int))) (cell_in hn hN h1) (cell_in hn hN h1') ?_ (List.mem_of_getElem? h2) (List.mem_of_getElem? h2') hs hs'
  intro e
  rw[Prod.mk.injEq]at e
  have e1:c % n=c' % n:=by omega
  have e2:c/n=c'/n:=by omega
  exact hc (by rw[←Nat.div_add_mod c n,←Nat.div_add_mod c' n,e1,e2])
theorem grid_pOK {x:M6} {n N:Nat} (hn:n=1∨n=2) (hN:N≤2*n):∀t∈cellA x n N,p3OK t:=fun t ht=>by
 obtain⟨j,hj,rfl⟩:=List.getElem_of_mem ht
 obtain⟨c,r,k,h1,h2,_⟩:=cellA_at x n N j hj
 have h3:=cell_in hn hN h1
 rw[g3,List.getD_eq_getElem?_getD,List.getElem?_eq_getElem hj,Option.getD_some]at h2
 have h5:=List.mem_of_getElem? h2
 have key:∀(p:I2),p∈cells4→∀t∈kl k p.1 p.2,p3OK t:=by
  intro p hp t ht
  have hb:(0≤p.1∧p.1≤2)∧(0≤p.2∧p.2≤2):=by
   simp only[cells4,List.mem_cons,List.not_mem_nil,or_false]at hp
   rcases hp with rfl|rfl|rfl|rfl<;>decide
  have hk:=kl_lt ht
  obtain rfl|rfl|rfl:k=0∨k=1∨k=2:=by omega
  all_goals simp only[kl,List.mem_cons,List.not_mem_nil,or_false]at ht
  ·rcases ht with rfl|rfl<;>simp only[p3OK,posOK]<;>omega
  ·rcases ht with rfl|rfl<;>simp only[p3OK,posOK]<;>omega
  ·rcases ht with rfl|rfl|rfl|rfl<;>simp only[p3OK,posOK]<;>omega
 exact key _ h3 _ h5
end Go.Proofs.YthaeohlijigplaaGreat
