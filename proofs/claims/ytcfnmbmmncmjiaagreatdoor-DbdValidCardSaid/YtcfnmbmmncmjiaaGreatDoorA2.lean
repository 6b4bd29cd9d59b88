/- An evaluator of the bodies of functions, and that what it says holds: a call of which it says a result returns just this result and leaves all that it does not own as it was. Conditions: none. -/
import Derived.Test.YtcfnmbmmncmjiaaGreatDoorA1
set_option linter.unusedSimpArgs false
set_option linter.unusedVariables false
namespace Go.AE
open Go.RowKit
def relo (f:Pos→Pos) (O:Own):Own:=fun b=>(O b).map f
def F9 (p p' q:Pos):Pos:=if p <+: q then p' ++ q.drop p.length else q
theorem D5 (p p' r:Pos):F9 p p' (p ++ r)=p' ++ r:=by
 unfold F9
 rw [if_pos (List.prefix_append p r)]
 simp
theorem B1 {p p' q:Pos} (h:¬ p <+: q):F9 p p' q=q:=by
 unfold F9
 rw [if_neg h]
def E4:Option Tmp→Pos
 | some d=>[0,d]
 | none=>[3]
def unput (o:Option Tmp) (st:St):St:=match o with
 | some d=>{ st with t:=del d st.t }
 | none=>st
section
variable {P:Program} {G:Glo} {w:World} {E:Bnd} {S F:Sit} {O:Own}
theorem A1 (ho:∀ b p,O b=some p→b < w.heap.size) (f:Pos→Pos):r8 w E O w E (relo f O):=by
 refine ⟨Ext.refl _ _,fun b _ hb=>⟨rfl,rfl,by simp [relo,hb]⟩,rfl,rfl,rfl,fun b p hp=>?_⟩
 unfold relo at hp
 cases hO:O b with
 | none=>rw [hO] at hp; cases hp
 | some q=>exact ho b q hO
theorem W3 (ho:∀ b p,O b=some p→b < w.heap.size) (f:Pos→Pos):∀ b p,relo f O b=some p→b < w.heap.size:=(A1 (E:=fun _=>none) ho f).own
theorem I7 {f:Pos→Pos} {p:Pos} (hf:∀ r,f (p ++ r)=p ++ r):M7 w E O w E (relo f O) p:=
 ⟨fun b q hb=>⟨rfl,rfl,by simp [relo,hb,hf]⟩⟩
theorem Rel.relo {st:St} {a:Act} (h:Rel G F st a w E S O) (f:Pos→Pos) (hf:∀ d v,i6 d st.t=some v→∀ r,f ([0,d] ++ r)=[0,d] ++ r)
  (hg:∀ s y,i6 s st.σ=some y→∀ r,f ([1,s] ++ r)=[1,s] ++ r):Rel G F st a w E S (relo f O):=by
 refine ⟨fun d v hl=>?_,fun s y hl=>(h.sites s y hl).mono (Ext.refl _ _) (fun _ _ h=>h) rfl (I7 (hg s y hl)),h.live,h.size,W3 h.own f,h.defers,h.par,h.glob⟩
 obtain ⟨x,h1,h2⟩:=h.tmps d v hl
 exact ⟨x,h1,h2.mono (Ext.refl _ _) (fun _ _ h=>h) (I7 (hf d v hl))⟩
theorem Rel.lt {st:St} {a:Act} (h:Rel G F st a w E S O) {d:Nat} {v:V} (hl:i6 d st.t=some v):d < st.n:=by
 obtain ⟨x,h1,_⟩:=h.tmps d v hl
 rw [←h.size]
 rcases Nat.lt_or_ge d a.tmps.size with h' | h'
 ·exact h'
 ·rw [Array.getElem?_eq_none h'] at h1; cases h1
theorem dp (tk:List Nat) (d:Nat) (t:List (Nat×V)):i6 d (untake tk t)=(i6 d t).map fun v=>bif tk.elem d then v.strip else v:=
 gD (fun d (v:V)=>bif tk.elem d then v.strip else v) d t
theorem Rel.untake {st:St} {a:Act} (h:Rel G F st a w E S O) (tk:List Nat):Rel G F { st with t:=untake tk st.t } a w E S O:=by
 refine ⟨fun d v hl=>?_,h.sites,h.live,h.size,h.own,h.defers,h.par,h.glob⟩
 simp only [dp] at hl
 cases hd:i6 d st.t with
 | none=>rw [hd] at hl; cases hl
 | some u=>
  rw [hd] at hl
  obtain ⟨x,h1,h2⟩:=h.tmps d u hd
  obtain rfl:=Option.some.inj hl
  cases tk.elem d with
  | false=>exact ⟨x,h1,h2⟩
  | true=>exact ⟨x,h1,h2.strip.rt _ _⟩
theorem tH {a:Act} {d:Nat} {x:Value} (h:a.tmps[d]?=some x):a.eval (.tmp d)=x:=by
 simp [Act.eval,h]
theorem P8 {st:St} {a:Act} (h:Rel G F st a w E S O) {t:TypeId} {x:Operand} {v:V} (ho:opd P st.t [] t x=some v):RF w E S v (a.eval x):=by
 cases x with
 | tmp n=>
  simp only [opd] at ho
  obtain ⟨u,hu,rfl⟩:=map_some ho
  obtain ⟨y,h1,h2⟩:=h.tmps n u hu
  rw [tH h1]
  exact h2.strip
 | const c=>exact .cell (rT ho)
 | global g=>cases ho
 | func f=>
  obtain rfl:=Option.some.inj ho
  exact .cell (.one rfl (.base (.fn rfl (fun i h=>by simp at h) (fun i j h=>by simp at h) rfl (fun i h=>by simp at h))))
theorem rg {st:St} {a:Act} (h:Rel G F st a w E S O) {tk:List Nat} (htk:tk.length≤1) {t:TypeId} {x:Operand} {v:V} (ho:opd P st.t tk t x=some v):
  ∃ n,RT w E S O [0,n] v (a.eval x)∧∀ f:Pos→Pos,(∀ q,¬ [0,n] <+: q→f q=q)→Rel G F { st with t:=AE.untake tk st.t } a w E S (AE.relo f O):=by
 have fresh:RF w E S v (a.eval x)→∃ n,RT w E S O [0,n] v (a.eval x)∧∀ f:Pos→Pos,(∀ q,¬ [0,n] <+: q→f q=q)→Rel G F { st with t:=AE.untake tk st.t } a w E S (AE.relo f O):=by
  intro hr
  refine ⟨st.n,hr.rt _ _,fun f hf=>(h.untake tk).relo f (fun d u hl r=>hf _ (aO ?_ r)) (fun s y hl r=>hf _ (K5 r))⟩
  have:=(h.untake tk).lt hl
  have:d < st.n:=this
  omega
 cases x with
 | tmp n=>
  cases he:tk.elem n with
  | false=>exact fresh (P8 (P:=P) (t:=t) h (by simp only [opd,he,cond_false] at ho; simpa [opd] using ho))
  | true=>
   simp only [opd,he,cond_true] at ho
   obtain ⟨u,hu,rfl⟩:=map_some ho
   obtain ⟨y,h1,h2⟩:=h.tmps n u hu
   refine ⟨n,by rw [tH h1]; exact h2,fun f hf=>?_⟩
   have htk':tk=[n]:=by
    cases tk with
    | nil=>cases he
    | cons m r=>
     cases r with
     | nil=>
      have:n=m:=by simpa using he
      rw [this]
     | cons _ _=>simp at htk
   subst htk'
   refine ⟨fun d v hl=>?_,fun s y hl=>(h.sites s y hl).mono (Ext.refl _ _) (fun _ _ h=>h) rfl (I7 fun r=>hf _ (K5 r)),h.live,h.size,W3 h.own f,h.defers,h.par,h.glob⟩
   simp only [dp] at hl
   cases hd:i6 d st.t with
   | none=>rw [hd] at hl; cases hl
   | some u'=>
    rw [hd] at hl
    obtain ⟨x,g1,g2⟩:=h.tmps d u' hd
    obtain rfl:=Option.some.inj hl
    by_cases e:d=n
    ·subst e
     refine ⟨x,g1,?_⟩
     have:List.elem d [d]=true:=by simp
     simp only [this,cond_true]
     exact g2.strip.rt _ _
    ·have:List.elem d [n]=false:=by simpa using e
     simp only [this,cond_false]
     exact ⟨x,g1,g2.mono (Ext.refl _ _) (fun _ _ h=>h) (I7 fun r=>hf _ (aO e r))⟩
 | const c=>exact fresh (P8 (P:=P) (t:=t) h (by simpa [opd] using ho))
 | global g=>cases ho
 | func f=>exact fresh (P8 (P:=P) (t:=t) h (by simpa [opd] using ho))
def kU (G:Glo) (P:Program) (F:Sit) (o:Oper) (a:Act) (w:World) (E:Bnd) (O:Own) (v:V) (st':St):Prop:=
 ∀ (next:Act→World→Prop) (Q:Exit→Act→World→Prop),
  (∀ x w' E' S' O',r8 w E O w' E' O'→RT w' E' S' O' (E4 o.dst) v x→Rel G F (unput o.dst st') a w' E' S' O'→next (a.put o.dst x) w')→o.wp P a w next Q
theorem Rel.unput {st:St} {a:Act} (h:Rel G F st a w E S O) (dst:Option Tmp):Rel G F (unput dst st) a w E S O:=by
 cases dst with
 | none=>exact h
 | some d=>exact h.drop d
theorem dP {st:St} {a:Act} (h:Rel G F st a w E S O) {o:Oper} {v:V} (hg:yg P o a w E S O v (E4 o.dst)) {st':St}
  (hst:∀ w' E' O',Rel G F st a w' E' S O'→∃ S',(∀ s b,S s=some b→S' s=some b)∧Rel G F (AE.unput o.dst st') a w' E' S' O'):kU G P F o a w E O v st':=by
 intro next Q hn
 refine hg next Q (fun x w' E' O' hnew hr=>?_)
 obtain ⟨S',h1,h2⟩:=hst w' E' O' (h.turn hnew.ext (fun p=>hnew.kept h.own p) hnew.own)
 exact hn x w' E' S' O' hnew.framed (hr.mono (Ext.refl _ _) h1 ⟨fun b q hb=>⟨rfl,rfl,hb⟩⟩) h2
theorem pq {st:St} {a:Act} (h:Rel G F st a w E S O) {o:Oper} {x:Operand} (hop:o.op=.move x∨o.op=.assign x) {tk:List Nat} (htk:tk.length≤1) {t:TypeId} {v:V} (hv:opd P st.t tk t x=some v):
  kU G P F o a w E O v { st with t:=AE.untake tk st.t }:=by
 intro next Q hn
 obtain ⟨n,hr,hf⟩:=rg h htk hv
 have h1:=hf (F9 [0,n] (E4 o.dst)) (fun q hq=>B1 hq)
 have hrun:(execOp a.eval o).run P w=.ok (.value (a.eval x)) w:=by
  rcases hop with hop | hop <;> simp [execOp,hop]
 unfold Oper.wp
 rw [hrun,Oper.upon_value]
 exact hn _ w E S _ (A1 h.own _) (hr.reloc (fun b q hb=>by simp only [AE.relo,hb,Option.map_some,D5])) (h1.unput o.dst)
theorem pa {s:Nat} {st:St} (h:s < st.n):i6 s (AE.dropSite s st).σ=none:=by
 unfold AE.dropSite
 have:Nat.blt s st.n=true:=Nat.ble_eq_true_of_le h
 rw [this]
 exact (ai s st).1
theorem nz {st:St} {a:Act} (h:Rel G F st a w E S O) {o:Oper} {x:Operand} (hop:o.op=.move x∨o.op=.assign x) {t:TypeId} {s n:Nat} (hv:opd P st.t [] t x=some (.aref s 0 n)) {y:u6} (hs:i6 s st.σ=some y) (ha:y.arr=true) (hl:y.es.length=n) (hsn:s < st.n):
  kU G P F o a w E O (.sl 2 y.sz (y.es.map V.strip2)) (AE.dropSite s st):=by
 intro next Q hn
 have hrun:(execOp a.eval o).run P w=.ok (.value (a.eval x)) w:=by rcases hop with hop | hop <;> simp [execOp,hop]
 unfold Oper.wp
 rw [hrun,Oper.upon_value]
 have hr:=B4 (P8 h hv) rfl (by simp)
 obtain ⟨S1,h1⟩:=h.dropSite s
 have h2:=h1.relo (F9 [1,s] (E4 o.dst)) (fun d v _ r=>B1 (bp r)) (fun s' y' hl' r=>B1 (aj (fun e=>by subst e; rw [pa hsn] at hl'; cases hl') r))
 refine hn _ w E S1 _ (A1 h.own _) ?_ (h2.unput o.dst)
 have hok:=h.sites s y hs
 generalize a.eval x=z at hr
 cases hr with
 | base hb=>cases hb
 | arefNil=>
  have:y.es=[]:=List.eq_nil_of_length_eq_zero hl
  rw [this,List.map_nil]
  exact .cell (.one rfl (.free (.base (.slNil 2 y.sz))))
 | @aref _ b sz _ _ cap c e fr hS hb hc hcap=>
  unfold r7 at hok
  rw [hS] at hok
  obtain ⟨k1,k2,c',e',fr',k3,k4,k5,k6,k7,k8,k9,k10⟩:=hok
  rw [hb] at k3
  injection k3 with k3
  injection k3 with q1 q2 q3
  subst q1; subst q2; subst q3
  subst k1
  subst hl
  have e0:(y.es.map V.strip2).length=y.es.length:=List.length_map _
  have hcell:∀ i (hi:i < (y.es.map V.strip2).length),((y.es.map V.strip2)[i]).cells=((y.es[i]'(by rw [←e0]; exact hi)).cells).map V.strip1:=fun i hi=>by rw [List.getElem_map,u0]
  have:=R.own (w:=w) (E:=E) (S:=S1) (O:=AE.relo (F9 [1,s] (E4 o.dst)) O) (p:=E4 o.dst ++ [0]) (o:=2) (sz:=y.sz) (l:=y.es.map V.strip2) (off:=0 * y.sz) (cap:=cap) (.inr rfl) hb (by omega) (by omega) k4 (by rw [k5]; rfl) (fun _=>by omega) (by
   simp only [AE.relo,k6,ha,if_true,Option.map_some]
   exact congrArg some (D5 [1,s] _ [0])) (fun i hi=>by rw [hcell i hi,List.length_map]; exact k8 i (by omega)) (fun i j hi hj x hx=>by
   have hj':j < ((y.es[i]'(by rw [←e0]; exact hi)).cells).length:=by
    rw [hcell i hi,List.length_map] at hj
    exact hj
   have e1:((y.es.map V.strip2)[i]).cells[j]=(((y.es[i]'(by rw [←e0]; exact hi)).cells)[j]'hj').strip1:=by
    simp only [List.getElem_map,u0]
   rw [e1]
   exact (k9 ha i j (by omega) hj' x (by rw [←hx]; congr 1; omega)).strip)
  rw [e0] at this
  exact .cell (.one rfl this)
theorem Rel.setSite {st:St} {a:Act} (h:Rel G F st a w E S O) {w':World} {E':Bnd} {O':Own} {s:Nat} {z:u6} (hx:Ext w E w' E') (hk:D7 w E O w' E' O' [1,s])
  (ho:∀ b p,O' b=some p→b < w'.heap.size) (hz:r7 w' E' S O' s z):Rel G F { st with σ:=put s z st.σ } a w' E' S O':=by
 refine ⟨fun d v hl=>?_,fun s' y hl=>?_,fun s' hl=>?_,h.size,ho,h.defers,h.par,h.glob.mono hx⟩
 ·obtain ⟨x,h1,h2⟩:=h.tmps d v hl
  exact ⟨x,h1,h2.mono hx (fun _ _ h=>h) (hk.kept bp)⟩
 ·simp only [s8] at hl
  split at hl
  ·rename_i e
   subst e
   obtain rfl:=Option.some.inj hl
   exact hz
  ·rename_i e
   exact (h.sites s' y hl).mono hx (fun _ _ h=>h) rfl (hk.kept (aj e))
 ·simp only [s8] at hl
  split at hl
  ·cases hl
  ·exact h.live s' hl
theorem fW {p:Pos} {v:V} {x:Value} (h:RT w E S O p v x) (hf:v.flat=true):v.cells.length=x.cells.size∧v.isAgg=(!Value.single x)∧∀ j (h:j < v.cells.length) (h':j < x.cells.size),R w E S O (p ++ [j]) (v.cells[j]) (x.cells[j]):=by
 cases h with
 | tup=>simp [V.flat] at hf
 | cell h=>cases h with
  | one hv h=>
   have h2:x.cells=#[x]:=by have:=H0 h; cases x <;> simp_all [Value.cells,Value.single]
   refine ⟨by simp [H9 hv,h2],by rw [hv,H0 h]; rfl,fun j hj hj'=>?_⟩
   have:j=0:=by rw [H9 hv] at hj; simpa using hj
   subst this
   simpa [H9 hv,h2] using h
  | @agg cs xs h=>exact ⟨by simpa [V.cells,Value.cells] using h.1,rfl,fun j hj hj'=>by have:=h.2 j hj (by simpa [Value.cells] using hj'); rwa [Array.getElem_toList (xs:=xs)] at this⟩
  | io=>simp [V.flat] at hf
theorem cJ {e e':V} {off:Nat} {vs:List V} (h:setCells e off vs=some e') (hv:∀ v∈vs,v.isAgg=false):
  off+vs.length≤e.cells.length∧e'.cells=e.cells.take off ++ vs ++ e.cells.drop (off+vs.length):=by
 unfold setCells at h
 split at h
 ·rename_i l
  split at h
  ·rename_i hc
   obtain rfl:=Option.some.inj h
   exact ⟨hc,rfl⟩
  ·cases h
 ·rename_i hna
  have he:e.isAgg=false:=by cases e <;> first | rfl | exact absurd rfl (hna _)
  split at h
  ·rename_i v
   obtain rfl:=Option.some.inj h
   rw [H9 he,H9 (hv v (by simp))]
   simp
  ·cases h
theorem S7 {α:Type} {l vs:List α} {off:Nat} (h:off+vs.length≤l.length) (j:Nat) (hj:j < (l.take off ++ vs ++ l.drop (off+vs.length)).length):
  (l.take off ++ vs ++ l.drop (off+vs.length)).length=l.length∧∀ (hj':j < l.length),(l.take off ++ vs ++ l.drop (off+vs.length))[j]=if h1:off≤j∧j < off+vs.length then vs[j - off]'(by omega) else l[j]:=by
 have hlen:(l.take off ++ vs ++ l.drop (off+vs.length)).length=l.length:=by simp; omega
 refine ⟨hlen,fun hj'=>?_⟩
 by_cases h1:j < off
 ·rw [dif_neg (by omega),List.getElem_append_left (by simp; omega),List.getElem_append_left (by simp; omega),List.getElem_take]
 ·by_cases h2:j < off+vs.length
  ·rw [dif_pos (by omega),List.getElem_append_left (by simp; omega),List.getElem_append_right (by simp; omega)]
   simp only [List.length_take]
   congr 1
   omega
  ·rw [dif_neg (by omega),List.getElem_append_right (by simp; omega),List.getElem_drop]
   have e3:(l.take off ++ vs).length=off+vs.length:=by simp; omega
   congr 1
   omega
def fk (n s off:Nat):Pos→Pos
 | 0 :: n' :: j :: r=>if n'=n then 1 :: s :: 1 :: (off+j) :: r else 0 :: n' :: j :: r
 | q=>q
theorem uX {n s off:Nat} {q:Pos} (h:¬ [0,n] <+: q):fk n s off q=q:=by
 unfold fk
 split
 ·rename_i n' j r
  rw [if_neg]
  intro e
  subst e
  exact h (by simp)
 ·rfl
theorem xM {b:Nat} {x:Option Nat} {E:Bnd} (h:E b=x):s9 E b x=E:=by
 funext b'
 unfold s9
 split
 ·rename_i e; subst e; exact h.symm
 ·rfl
theorem Am {p:Pos}:RT w E S O p (.tup []) undef:=.tup rfl (fun j h=>by simp at h)
theorem lq {p:Pos} {v:V} {x:Value} (h:R w E S O p v x) (hf:v.free1 4=true):R0 w E v x:=by
 cases h with
 | free h=>exact gq 4 h hf
 | own ho=>rcases ho with rfl | rfl <;> simp [V.free1] at hf
 | rowNil=>simp [V.free1] at hf
 | row=>simp [V.free1] at hf
 | arr=>simp [V.free1] at hf
theorem eL {v:V} (h:v.free=true):v.flat=true:=by
 cases v <;> first | rfl | simp [V.free,V.cells,V.free1] at h
theorem uu {p:Pos} {v:V} {x:Value} (h:RT w E S O p v x) (hf:v.free=true):∀ j (h:j < v.cells.length) (h':j < x.cells.size),R0 w E (v.cells[j]) (x.cells[j]):=by
 intro j hj hj'
 have h2:∀ c∈v.cells,c.free1 4=true:=List.all_eq_true.1 hf
 exact lq ((fW h (eL hf)).2.2 j hj hj') (h2 _ (List.getElem_mem hj))
theorem R.toRA {p:Pos} {v:V} {x:Value} (h:R w E S O p v x) (hv:v.rowA=true):RA w E O p v x:=by
 cases h with
 | free h=>
  unfold V.rowA at hv
  split at hv
  ·cases h with
   | base h=>exact .free h
  ·exact .free (lq (S:=S) (O:=O) (p:=p) (.free h) hv)
 | @own o sz l b off cap c e fr ho hb hc hl hf hE h0 hO hw he=>
  rcases ho with rfl | rfl
  ·exact .own hb hc hl hf (by rw [hE]; rfl) hO hw he
  ·exact absurd hv (by simp [V.rowA,V.free1])
 | rowNil=>exact absurd hv (by simp [V.rowA,V.free1])
 | row=>exact absurd hv (by simp [V.rowA,V.free1])
 | arr=>exact absurd hv (by simp [V.rowA,V.free1])
theorem ug {st:St} {a:Act} (h:Rel G F st a w E S O) {o:Oper} {t:TypeId} {xa x:Operand} (hop:o.op=.store t xa x) {tk:List Nat} (htk:tk.length≤1) {u v:V}
  (hu:opd P st.t [] 0 xa=some u) (hv:opd P st.t tk t x=some v) {σ':List (Nat×u6)} (hs:jx P st.σ t v u=some σ'):
  kU G P F o a w E O (.tup []) { st with t:=AE.untake tk st.t,σ:=σ' }:=by
 intro next Q hn
 have hru:=P8 h hu
 obtain ⟨n,hr,hf⟩:=rg h htk hv
 unfold jx at hs
 split at hs
 ·rename_i s i off
  obtain ⟨y,hy,hs⟩:=bind_some hs
  obtain ⟨e,he,hs⟩:=bind_some hs
  split at hs
  ·rename_i hc
   obtain ⟨c1,c2,c3,c4,c5⟩:=hc
   obtain ⟨e',he',rfl⟩:=map_some hs
   obtain ⟨r1,r2,r3⟩:=fW hr c1
   have hcells:∀ z∈v.cells,z.isAgg=false:=by
    intro z hz
    obtain ⟨j,hj,rfl⟩:=List.getElem_of_mem hz
    exact (E6 (r3 j hj (by omega))).1
   obtain ⟨l1,l2⟩:=cJ he' hcells
   have hr1:=B4 hru rfl (by simp)
   have hok:=h.sites s y hy
   have hi:i < y.es.length:=by
    rcases Nat.lt_or_ge i y.es.length with h' | h'
    ·exact h'
    ·rw [List.getElem?_eq_none h'] at he; cases he
   rw [List.getElem?_eq_getElem hi] at he
   have hei:=Option.some.inj he
   generalize hptr:a.eval xa=z at hr1
   cases hr1 with
   | base hb=>cases hb
   | @ptr _ b sz _ _ hS=>
    unfold r7 at hok
    rw [hS] at hok
    obtain ⟨k1,k2,c,et,fr,k3,k4,k5,k6,k7,k8,k9,k10⟩:=hok
    have hmul:(i+1) * sz≤y.es.length * sz:=Nat.mul_le_mul_right _ hi
    rw [Nat.add_mul] at hmul
    have hle:=k8 i hi
    rw [hei] at hle
    have hb1:i * sz+off+(a.eval x).cells.toList.length≤c.size:=by simp; omega
    obtain ⟨c',hw⟩:=cK b et fr (a.eval x).cells.toList (i * sz+off) c w k3 hb1
    have hrun:(execOp a.eval o).run P w=.ok .skip (w.setCells b (i * sz+off) (a.eval x).cells.toList):=by
     have:=xY (P:=P) (t:=t) (x:=a.eval x) k3 k4 (by simpa using hb1) c4 (by omega) (fun z hz=>by
      obtain ⟨j,hj,rfl⟩:=List.getElem_of_mem hz
      rw [Array.getElem_toList]
      exact H0 (r3 j (by simp at hj; omega) (by simpa using hj)))
     simp [execOp,hop,hptr,this]
    have hE:s9 E b (some 0)=E:=xM k5
    -- the rights go along
    let f:Pos→Pos:=fk n s (i * sz+off)
    have hfn:∀ q,¬ [0,n] <+: q→f q=q:=by
     intro q hq
     exact uX hq
    have h1:=hf f hfn
    have hfs:∀ r,f ([1,s] ++ r)=[1,s] ++ r:=fun r=>hfn _ (K5 r)
    have hext:Ext w E (w.setCells b (i * sz+off) (a.eval x).cells.toList) E:=by
     have:=hw.ext k3 k5 (Nat.zero_le _) (Nat.le_refl 0)
     rwa [hE] at this
    have hOb:AE.relo f O b=some ([1,s] ++ (if y.arr=true then [0] else [])):=by
     simp only [AE.relo,k6,Option.map_some]
     have:(if y.arr=true then [1,s,0] else [1,s])=[1,s] ++ (if y.arr=true then [0] else []):=by split <;> rfl
     rw [this,hfs]
    have hkb:D7 w E (AE.relo f O) (w.setCells b (i * sz+off) (a.eval x).cells.toList) E (AE.relo f O) [1,s]:=by
     intro b' q hq hp
     have:b'≠b:=by
      intro e
      subst e
      rw [hOb] at hq
      exact hp (by rw [←Option.some.inj hq]; exact List.prefix_append _ _)
     exact ⟨hw.other b' this,rfl,hq⟩
    have hown:∀ b' q,AE.relo f O b'=some q→b' < (w.setCells b (i * sz+off) (a.eval x).cells.toList).heap.size:=by
     rw [hw.heap]; exact W3 h.own f
    have hfr:r8 w E O (w.setCells b (i * sz+off) (a.eval x).cells.toList) E (AE.relo f O):=by
     have g:=hw.framed k3 (W3 h.own f) hOb k5 (Nat.zero_le _) (Nat.le_refl 0)
     rw [hE] at g
     exact (A1 h.own f).trans g
    have hlen':e'.cells.length=sz:=by rw [l2]; rw [(S7 l1 0 (by simp; omega)).1]; exact hle
    have hnew:r7 (w.setCells b (i * sz+off) (a.eval x).cells.toList) E S (AE.relo f O) s { y with es:=y.es.set i e' }:=by
     unfold r7
     rw [hS]
     refine ⟨k1,k2,c',et,fr,hw.at_,by rw [hw.size]; exact k4,k5,by rw [hOb]; cases y.arr <;> rfl,by rw [hw.size]; simpa using k7,?_,?_,?_⟩
     ·intro i' hi'
      simp only [List.getElem_set]
      split
      ·exact hlen'
      ·exact k8 i' (by simpa using hi')
     ·intro ha i' j hi' hj z hz
      simp only [List.length_set] at hi'
      have hmul':(i'+1) * sz≤y.es.length * sz:=Nat.mul_le_mul_right _ hi'
      rw [Nat.add_mul] at hmul'
      have hv0:∀ j (h:j < v.cells.length) (h':j < (a.eval x).cells.size),RA w E O ([0,n] ++ [j]) (v.cells[j]) ((a.eval x).cells[j]):=fun j h h'=>(r3 j h h').toRA (List.all_eq_true.1 (c5 ha) _ (List.getElem_mem h))
      have keptA:∀ (p q:Pos),(∀ r,f (p ++ r)=q ++ r)→(∀ r,¬ q ++ r=[1,s,0])→∀ {u:V} {z':Value},RA w E O p u z'→RA (w.setCells b (i * sz+off) (a.eval x).cells.toList) E (AE.relo f O) q u z':=by
       intro p q hpq hqs u z' hR
       have h1:RA w E (AE.relo f O) q u z':=hR.reloc (fun b' r hb'=>by simp only [AE.relo,hb',Option.map_some,hpq])
       refine h1.mono hext ⟨fun b' r hb'=>?_⟩
       have:b'≠b:=by
        intro e
        subst e
        rw [hOb,ha] at hb'
        have:=Option.some.inj hb'
        exact hqs r (by rw [←this]; rfl)
       exact ⟨hw.other b' this,rfl,hb'⟩
      simp only [List.getElem_set] at hj ⊢
      by_cases e:i=i'
      ·subst e
       simp only [if_true,l2] at hj ⊢
       have hj2:j < e.cells.length:=by rw [←(S7 l1 j hj).1]; exact hj
       rw [(S7 l1 j hj).2 hj2]
       split
       ·rename_i hin
        have:=hw.new (j - off) (by simp; omega)
        rw [show i * sz+off+(j - off)=i * sz+j by omega,hz] at this
        simp only [Array.getElem?_toList] at this
        rw [Array.getElem?_eq_getElem (by omega)] at this
        rw [Option.some.inj this]
        refine keptA ([0,n] ++ [j - off]) _ (fun r=>?_) (fun r=>by simp) (hv0 (j - off) (by omega) (by omega))
        show fk n s (i * sz+off) (0 :: n :: (j - off) :: r)=_
        simp only [fk,if_true]
        rw [show i * sz+off+(j - off)=i * sz+j by omega]
        rfl
       ·rename_i hin
        rw [hw.old _ (by simp; omega)] at hz
        have:=k9 ha i j hi (by rw [hei]; exact hj2) z hz
        simp only [hei] at this
        exact keptA _ _ (fun r=>hfn _ (K5 (1 :: (i * sz+j) :: r))) (fun r=>by simp) this
      ·simp only [if_neg e] at hj ⊢
       have hj2:=k8 i' hi'
       have hdis:i' < i∨i < i':=by omega
       have hz':c[i' * sz+j]?=some z:=by
        rw [←hz]
        symm
        apply hw.old
        rcases hdis with g | g
        ·have:(i'+1) * sz≤i * sz:=Nat.mul_le_mul_right _ g
         rw [Nat.add_mul] at this
         left; omega
        ·have:(i+1) * sz≤i' * sz:=Nat.mul_le_mul_right _ g
         rw [Nat.add_mul] at this
         right; simp; omega
       exact keptA _ _ (fun r=>hfn _ (K5 (1 :: (i' * sz+j) :: r))) (fun r=>by simp) (k9 ha i' j hi' hj z hz')
     ·intro ha
      obtain ⟨g1,g2,g3⟩:=k10 ha
      have hi0:i=0:=by omega
      subst hi0
      refine ⟨by simpa using g1,by rw [hw.size]; exact g2,fun i' j hi' hj z hz=>?_⟩
      simp only [List.length_set] at hi'
      have hi0:i'=0:=by omega
      subst hi0
      simp only [List.getElem_set_self,l2] at hj ⊢
      have hj2:j < e.cells.length:=by rw [←(S7 l1 j hj).1]; exact hj
      rw [(S7 l1 j hj).2 hj2]
      have hfv:f=fk n s off:=by show fk n s (0 * sz+off)=_; rw [Nat.zero_mul,Nat.zero_add]
      have kept:∀ (p q:Pos),(∀ r,f (p ++ r)=q ++ r)→(∀ r,¬ q ++ r=[1,s])→∀ {u:V} {z':Value},R w E S O p u z'→R (w.setCells b (0 * sz+off) (a.eval x).cells.toList) E S (AE.relo f O) q u z':=by
       intro p q hpq hqs u z' hR
       have h1:R w E S (AE.relo f O) q u z':=hR.reloc (fun b' r hb'=>by simp only [AE.relo,hb',Option.map_some,hpq])
       refine h1.mono hext (fun _ _ h=>h) ⟨fun b' r hb'=>?_⟩
       have:b'≠b:=by
        intro e
        subst e
        rw [hOb,ha] at hb'
        have:=Option.some.inj hb'
        exact hqs r (by rw [←this]; rfl)
       exact ⟨hw.other b' this,rfl,hb'⟩
      split
      ·rename_i hin
       have:=hw.new (j - off) (by simp; omega)
       rw [show 0 * sz+off+(j - off)=0 * sz+j by omega,hz] at this
       simp only [Array.getElem?_toList] at this
       rw [Array.getElem?_eq_getElem (by omega)] at this
       rw [Option.some.inj this]
       refine kept ([0,n] ++ [j - off]) ([1,s,1] ++ [j]) (fun r=>?_) (fun r=>by simp) (r3 (j - off) (by omega) (by omega))
       rw [hfv]
       show fk n s off (0 :: n :: (j - off) :: r)=_
       simp only [fk,if_true]
       rw [show off+(j - off)=j by omega]
       rfl
      ·rename_i hin
       rw [hw.old _ (by simp; omega)] at hz
       have:=g3 0 j hi (by rw [hei]; exact hj2) z hz
       simp only [hei] at this
       exact kept _ _ (fun r=>hfn _ (K5 (1 :: j :: r))) (fun r=>by simp) this
    unfold Oper.wp
    rw [hrun,Oper.upon_skip]
    exact hn _ _ E S _ hfr Am ((h1.setSite hext hkb hown hnew).unput o.dst)
  ·cases hs
 ·cases hs
end
section
variable {P:Program} {G:Glo} {w:World} {E:Bnd} {S F:Sit} {O:Own}
theorem sQ {t:TypeId} {b off:Nat} {c:Array Value} {e:TypeId} {fr:Nat×Nat} {vs:List V} {o:Nat} {v:V} (hb:w.heap[b]?=some (.cells c e fr)) (hc:off+vs.length≤c.size) (h:P7 P t vs o=some v)
  (hna:∀ u∈vs,u.isAgg=false) (hsi:∀ j x,j < vs.length→c[off+j]?=some x→Value.single x=true):
  ∃ x,(Instr.loadAt t (.pointer (some ⟨b,off+o,none⟩))).run P w=.ok x w∧o+v.cells.length≤vs.length∧v.isAgg=(L5 P t)∧v.cells.length=x.cells.size∧(v.isAgg=true→∃ xs,x=.agg xs)∧(v.isAgg=false→v.cells=[v]∧c[off+o]?=some x)∧
   (v.isAgg=true→∀ j (h:j < v.cells.length) (h':j < x.cells.size),c[off+o+j]?=some (x.cells[j]))∧∀ j (h:j < v.cells.length) (h':o+j < vs.length),v.cells[j]=vs[o+j]:=by
 unfold P7 at h
 split at h
 ·rename_i ha
  split at h
  ·rename_i hle
   obtain rfl:=Option.some.inj h
   obtain ⟨xs,h1,h2,h3⟩:=sP (P:=P) (off:=off+o) ha hb (by omega)
   refine ⟨_,h1,by simp [V.cells]; omega,by rw [ha]; rfl,by simp [V.cells,Value.cells]; omega,fun _=>⟨xs,rfl⟩,fun hf=>Bool.noConfusion hf,fun _ j hj hj'=>?_,fun j hj hj'=>?_⟩
   ·have h4:=h3 j (by simp [Value.cells] at hj'; omega)
    rw [←h4]
    simp only [Value.cells] at hj' ⊢
    exact Array.getElem?_eq_getElem hj'
   ·simp [V.cells]
  ·cases h
 ·rename_i ha
  split at h
  ·rename_i hu
   have ho:o < vs.length:=by
    rcases Nat.lt_or_ge o vs.length with h' | h'
    ·exact h'
    ·rw [List.getElem?_eq_none h'] at h; cases h
   rw [List.getElem?_eq_getElem ho] at h
   obtain rfl:=Option.some.inj h
   have hx:off+o < c.size:=by omega
   have hna':=hna _ (List.getElem_mem ho)
   have hcs:=H9 hna'
   have key:c[off+o]?=some c[off+o]:=by simp [hx]
   have hxs:=hsi o _ ho key
   have hx2:(c[off+o]).cells=#[c[off+o]]:=by generalize c[off+o]=z at hxs; cases z <;> simp_all [Value.cells,Value.single]
   refine ⟨c[off+o],gW (by simpa using ha) hu hb key,by rw [hcs]; simp; omega,by rw [hna']; simpa using ha,by rw [hcs,hx2]; rfl,fun hf=>absurd hf (by rw [hna']; simp),fun _=>⟨hcs,key⟩,fun hf=>absurd hf (by rw [hna']; simp),fun j hj hj'=>?_⟩
   ·have:j=0:=by rw [hcs] at hj; simpa using hj
    subst this
    simp [hcs]
  ·cases h
def fK (s off len:Nat) (p:Pos):Pos→Pos
 | 1 :: s' :: 1 :: k :: r=>if s'=s∧off≤k∧k < off+len then p ++ (k - off) :: r else 1 :: s' :: 1 :: k :: r
 | q=>q
theorem qc {s off len:Nat} {p q:Pos} (h:¬ [1,s] <+: q):fK s off len p q=q:=by
 unfold fK
 split
 ·rename_i s' k r
  rw [if_neg]
  rintro ⟨e,_⟩
  subst e
  exact h (by simp)
 ·rfl
set_option maxHeartbeats 2000000 in
theorem uh {st:St} {a:Act} (h:Rel G F st a w E S O) {o:Oper} {t:TypeId} {xa:Operand} (hop:o.op=.load t xa) {u v:V}
  (hu:opd P st.t [] 0 xa=some u) {σ':List (Nat×u6)} (hs:Q6 P st.σ t u=some (v,σ')) (harr:∀ s i off y,u=.ptr s i off→i6 s st.σ=some y→y.arr=true):
  kU G P F o a w E O v { st with σ:=σ' }:=by
 intro next Q hn
 have hru:=P8 h hu
 unfold Q6 at hs
 split at hs
 ·rename_i s i off
  obtain ⟨y,hy,hs⟩:=bind_some hs
  have ha:y.arr=true:=harr s i off y rfl hy
  obtain ⟨e,he,hs⟩:=bind_some hs
  obtain ⟨v1,hv,hs⟩:=bind_some hs
  obtain ⟨e',he',hs⟩:=map_some hs
  obtain ⟨rfl,rfl⟩:=Prod.mk.inj hs
  have hr1:=B4 hru rfl (by simp)
  have hok:=h.sites s y hy
  have hi:i < y.es.length:=by
   rcases Nat.lt_or_ge i y.es.length with h' | h'
   ·exact h'
   ·rw [List.getElem?_eq_none h'] at he; cases he
  rw [List.getElem?_eq_getElem hi] at he
  have hei:=Option.some.inj he
  generalize hptr:a.eval xa=z at hr1
  cases hr1 with
  | base hb=>cases hb
  | @ptr _ b sz _ _ hS=>
   unfold r7 at hok
   rw [hS] at hok
   obtain ⟨k1,k2,c,et,fr,k3,k4,k5,k6,k7,k8,k9,k10⟩:=hok
   have hmul:(i+1) * sz≤y.es.length * sz:=Nat.mul_le_mul_right _ hi
   rw [Nat.add_mul] at hmul
   have hle:=k8 i hi
   rw [hei] at hle
   have hRA:∀ j (hj:j < e.cells.length) z,c[i * sz+j]?=some z→RA w E O ([1,s,1] ++ [i * sz+j]) (e.cells[j]) z:=by
    intro j hj z hz
    have:=k9 ha i j hi (by rw [hei]; exact hj) z hz
    simpa only [hei] using this
   have hR:∀ j (hj:j < e.cells.length) z,c[i * sz+j]?=some z→R w E S O ([1,s,1] ++ [i * sz+j]) (e.cells[j]) z:=fun j hj z hz=>(hRA j hj z hz).toR
   have hna:∀ u∈e.cells,u.isAgg=false:=by
    intro u hu
    obtain ⟨j,hj,rfl⟩:=List.getElem_of_mem hu
    exact (E6 (hR j hj (c[i * sz+j]'(by omega)) (by simp))).1
   obtain ⟨x,q1,q2,q3,q4,q5,q6,q7,q8⟩:=sQ (off:=i * sz) (o:=off) k3 (by omega) hv hna (fun j z hj hz=>H0 (hR j hj z hz))
   -- cell by cell
   have hcell:∀ j (hj:j < v1.cells.length) (hj':j < x.cells.size),R w E S O ([1,s,1] ++ [i * sz+(off+j)]) (v1.cells[j]) (x.cells[j]):=by
    intro j hj hj'
    rw [q8 j hj (by omega)]
    cases hag:v1.isAgg with
    | true=>exact hR _ (by omega) _ (by have:=q7 hag j hj hj'; rwa [Nat.add_assoc] at this)
    | false=>
     obtain ⟨m1,m2⟩:=q6 hag
     have hj0:j=0:=by rw [m1] at hj; simpa using hj
     subst hj0
     have:=hR (off+0) (by omega) x m2
     have hx2:x.cells=#[x]:=by have:=H0 this; cases x <;> simp_all [Value.cells,Value.single]
     simpa [hx2] using this
   have hrun:(execOp a.eval o).run P w=.ok (.value x) w:=by
    simp only [execOp,hop,hptr,Sem.run_bind,q1,Result.andThen_ok]
    rfl
   have hflat:v1.flat=true:=by
    cases v1 with
    | io q=>exact absurd rfl ((E6 (hcell 0 (by simp [V.cells]) (by rw [←q4]; simp [V.cells]))).2.2 q)
    | tup q=>exact absurd rfl ((E6 (hcell 0 (by simp [V.cells]) (by rw [←q4]; simp [V.cells]))).2.1 q)
    | _=>rfl
   let f:Pos→Pos:=fK s (i * sz+off) v1.cells.length (E4 o.dst)
   have hfn:∀ q,¬ [1,s] <+: q→f q=q:=fun q hq=>qc hq
   have hfr:=A1 (E:=E) h.own f
   have hfin:∀ j r,j < v1.cells.length→f ([1,s,1] ++ [i * sz+(off+j)] ++ r)=E4 o.dst ++ [j] ++ r:=by
    intro j r hj
    show fK s (i * sz+off) _ _ (1 :: s :: 1 :: (i * sz+(off+j)) :: r)=_
    simp only [fK]
    rw [if_pos ⟨trivial,by omega,by omega⟩,show i * sz+(off+j) - (i * sz+off)=j by omega]
    simp
   have hfout:∀ k r,(k < i * sz+off∨i * sz+off+v1.cells.length≤k)→f ([1,s,1] ++ [k] ++ r)=[1,s,1] ++ [k] ++ r:=by
    intro k r hk
    show fK s (i * sz+off) _ _ (1 :: s :: 1 :: k :: r)=_
    simp only [fK]
    rw [if_neg (by omega)]
    simp
   have hfs:f [1,s]=[1,s]:=rfl
   -- the value
   have hval:RT w E S (AE.relo f O) (E4 o.dst) v1 x:=by
    have hc2:∀ j (hj:j < v1.cells.length) (hj':j < x.cells.size),R w E S (AE.relo f O) (E4 o.dst ++ [j]) (v1.cells[j]) (x.cells[j]):=by
     intro j hj hj'
     exact (hcell j hj hj').reloc (fun b' r hb'=>by simp only [AE.relo,hb',Option.map_some]; rw [hfin j r hj])
    cases hag:v1.isAgg with
    | true=>
     obtain ⟨xs,rfl⟩:=q5 hag
     cases v1 with
     | agg cs=>exact .cell (.agg ⟨by simpa [V.cells,Value.cells] using q4,fun j hj hj'=>by have:=hc2 j hj (by simpa [Value.cells] using hj'); rwa [Array.getElem_toList (xs:=xs)]⟩)
     | _=>simp [V.isAgg] at hag
    | false=>
     obtain ⟨m1,m2⟩:=q6 hag
     have hj0:0 < v1.cells.length:=by rw [m1]; simp
     have h0:=hc2 0 hj0 (by omega)
     have hs0:=hcell 0 hj0 (by omega)
     have hx2:x.cells=#[x]:=by
      have g:=hR (off+0) (by omega) x m2
      have:=H0 g; cases x <;> simp_all [Value.cells,Value.single]
     refine .cell (.one hag ?_)
     simpa [m1,hx2] using h0
   have hstripc:v1.strip.cells=v1.cells.map V.strip1:=by
    cases hag:v1.isAgg with
    | true=>
     cases v1 with
     | agg cs=>rfl
     | _=>simp [V.isAgg] at hag
    | false=>
     obtain ⟨m1,m2⟩:=q6 hag
     have hs0:=E6 (hcell 0 (by rw [m1]; simp) (by rw [←q4,m1]; simp))
     have e0:v1.cells[0]'(by rw [m1]; simp)=v1:=by simp [m1]
     rw [e0] at hs0
     rw [aU hs0,m1,H9 (N8 v1)]
     rfl
   have hmapna:∀ z∈v1.strip.cells,z.isAgg=false:=by
    intro z hz
    rw [hstripc] at hz
    obtain ⟨z',_,rfl⟩:=List.mem_map.1 hz
    exact N8 z'
   obtain ⟨l1,l2⟩:=cJ he' hmapna
   have hlen3:v1.strip.cells.length=v1.cells.length:=by rw [hstripc]; simp
   have hlen':e'.cells.length=sz:=by rw [l2]; rw [(S7 l1 0 (by simp; omega)).1]; exact hle
   have hnew:r7 w E S (AE.relo f O) s { y with es:=y.es.set i e' }:=by
    unfold r7
    rw [hS]
    refine ⟨k1,k2,c,et,fr,k3,k4,k5,by simp only [AE.relo,k6,ha,Option.map_some]; rfl,by simpa using k7,?_,fun _=>?_,fun hf=>absurd (show y.arr=false from hf) (by rw [ha]; simp)⟩
    ·intro i' hi'
     simp only [List.getElem_set]
     split
     ·exact hlen'
     ·exact k8 i' (by simpa using hi')
    ·intro i' j hi' hj z hz
     simp only [List.length_set] at hi'
     simp only [List.getElem_set] at hj ⊢
     by_cases e0:i=i'
     ·subst e0
      simp only [if_true,l2] at hj ⊢
      have hj2:j < e.cells.length:=by rw [←(S7 l1 j hj).1]; exact hj
      rw [(S7 l1 j hj).2 hj2]
      have h0:=hRA j hj2 z hz
      split
      ·rename_i hin
       have e1:v1.strip.cells[j - off]'(by omega)=(e.cells[j]).strip1:=by
        have:v1.strip.cells[j - off]'(by omega)=(v1.cells[j - off]'(by omega)).strip1:=by simp [hstripc]
        rw [this,q8 (j - off) (by omega) (by omega)]
        congr 2
        omega
       rw [e1]
       exact .free h0.strip
      ·rename_i hin
       exact h0.reloc (fun b' r hb'=>by simp only [AE.relo,hb',Option.map_some]; rw [hfout (i * sz+j) r (by omega)])
     ·simp only [if_neg e0] at hj ⊢
      have hj2:=k8 i' hi'
      have hq1:off+v1.cells.length≤sz:=by omega
      have hdis:i * sz+sz≤i' * sz∨i' * sz+sz≤i * sz:=by
       rcases Nat.lt_or_gt_of_ne e0 with g | g
       ·have:(i+1) * sz≤i' * sz:=Nat.mul_le_mul_right _ g
        rw [Nat.add_mul] at this
        left; omega
       ·have:(i'+1) * sz≤i * sz:=Nat.mul_le_mul_right _ g
        rw [Nat.add_mul] at this
        right; omega
      exact (k9 ha i' j hi' hj z hz).reloc (fun b' r hb'=>by simp only [AE.relo,hb',Option.map_some]; rw [hfout (i' * sz+j) r (by omega)])
   have hrel:Rel G F { st with σ:=put s { y with es:=y.es.set i e' } st.σ } a w E S (AE.relo f O):=by
    refine h.setSite (Ext.refl _ _) (fun b' q hq hp=>⟨rfl,rfl,by simp only [AE.relo,hq,Option.map_some]; rw [hfn q hp]⟩) (W3 h.own f) hnew
   unfold Oper.wp
   rw [hrun,Oper.upon_value]
   exact hn x w E S _ hfr hval (hrel.unput o.dst)
 ·cases hs
theorem xj {st:St} {a:Act} (h:Rel G F st a w E S O) {o:Oper} {t:TypeId} {xa:Operand} (hop:o.op=.load t xa) {u v:V}
  (hu:opd P st.t [] 0 xa=some u) {σ':List (Nat×u6)} (hs:Q6 P st.σ t u=some (v,σ')):
  kU G P F o a w E O v { st with σ:=σ' }:=by
 intro next Q hn
 have hru:=P8 h hu
 unfold Q6 at hs
 split at hs
 ·rename_i s i off
  obtain ⟨y,hy,hs⟩:=bind_some hs
  cases ha:y.arr with
  | true=>exact uh h hop hu (by simp only [Q6,hy,Option.bind_some]; exact hs) (fun s' i' off' y' e hy'=>by cases e; rw [hy] at hy'; cases hy'; exact ha) next Q hn
  | false=>
   obtain ⟨e,he,hs⟩:=bind_some hs
   obtain ⟨v1,hv,hs⟩:=bind_some hs
   obtain ⟨e',he',hs⟩:=map_some hs
   obtain ⟨rfl,rfl⟩:=Prod.mk.inj hs
   have hr1:=B4 hru rfl (by simp)
   have hok:=h.sites s y hy
   have hi:i < y.es.length:=by
    rcases Nat.lt_or_ge i y.es.length with h' | h'
    ·exact h'
    ·rw [List.getElem?_eq_none h'] at he; cases he
   rw [List.getElem?_eq_getElem hi] at he
   have hei:=Option.some.inj he
   generalize hptr:a.eval xa=z at hr1
   cases hr1 with
   | base hb=>cases hb
   | @ptr _ b sz _ _ hS=>
    unfold r7 at hok
    rw [hS] at hok
    obtain ⟨k1,k2,c,et,fr,k3,k4,k5,k6,k7,k8,k9,k10⟩:=hok
    obtain ⟨g1,g2,g3⟩:=k10 ha
    have hi0:i=0:=by omega
    subst hi0
    have hle:=k8 0 hi
    rw [hei] at hle
    have hR:∀ j (hj:j < e.cells.length) z,c[j]?=some z→R w E S O ([1,s,1] ++ [j]) (e.cells[j]) z:=by
     intro j hj z hz
     have:=g3 0 j hi (by rw [hei]; exact hj) z (by simpa using hz)
     simpa only [hei] using this
    have hna:∀ u∈e.cells,u.isAgg=false:=by
     intro u hu
     obtain ⟨j,hj,rfl⟩:=List.getElem_of_mem hu
     exact (E6 (hR j hj (c[j]'(by omega)) (by simp))).1
    obtain ⟨x,q1,q2,q3,q4,q5,q6,q7,q8⟩:=sQ (off:=0) (o:=off) k3 (by omega) hv hna (fun j z hj hz=>H0 (hR j hj z (by rwa [Nat.zero_add] at hz)))
    -- cell by cell
    have hcell:∀ j (hj:j < v1.cells.length) (hj':j < x.cells.size),R w E S O ([1,s,1] ++ [off+j]) (v1.cells[j]) (x.cells[j]):=by
     intro j hj hj'
     rw [q8 j hj (by omega)]
     cases hag:v1.isAgg with
     | true=>exact hR _ (by omega) _ (by have:=q7 hag j hj hj'; rwa [Nat.zero_add] at this)
     | false=>
      obtain ⟨m1,m2⟩:=q6 hag
      have hj0:j=0:=by rw [m1] at hj; simpa using hj
      subst hj0
      have:=hR (off+0) (by omega) x (by rwa [Nat.zero_add] at m2)
      have hx2:x.cells=#[x]:=by have:=H0 this; cases x <;> simp_all [Value.cells,Value.single]
      simpa [hx2] using this
    have hrun:(execOp a.eval o).run P w=.ok (.value x) w:=by
     have e1:0 * sz+off=0+off:=by omega
     rw [e1] at hptr
     simp only [execOp,hop,hptr,Sem.run_bind,q1,Result.andThen_ok]
     rfl
    have hflat:v1.flat=true:=by
     cases v1 with
     | io q=>exact absurd rfl ((E6 (hcell 0 (by simp [V.cells]) (by rw [←q4]; simp [V.cells]))).2.2 q)
     | tup q=>exact absurd rfl ((E6 (hcell 0 (by simp [V.cells]) (by rw [←q4]; simp [V.cells]))).2.1 q)
     | _=>rfl
    let f:Pos→Pos:=fK s off v1.cells.length (E4 o.dst)
    have hfn:∀ q,¬ [1,s] <+: q→f q=q:=fun q hq=>qc hq
    have hfr:=A1 (E:=E) h.own f
    have hfin:∀ j r,j < v1.cells.length→f ([1,s,1] ++ [off+j] ++ r)=E4 o.dst ++ [j] ++ r:=by
     intro j r hj
     show fK s off _ _ (1 :: s :: 1 :: (off+j) :: r)=_
     simp only [fK]
     rw [if_pos ⟨trivial,by omega,by omega⟩,show off+j - off=j by omega]
     simp
    have hfout:∀ k r,(k < off∨off+v1.cells.length≤k)→f ([1,s,1] ++ [k] ++ r)=[1,s,1] ++ [k] ++ r:=by
     intro k r hk
     show fK s off _ _ (1 :: s :: 1 :: k :: r)=_
     simp only [fK]
     rw [if_neg (by omega)]
     simp
    have hfs:f [1,s]=[1,s]:=rfl
    -- the value
    have hval:RT w E S (AE.relo f O) (E4 o.dst) v1 x:=by
     have hc2:∀ j (hj:j < v1.cells.length) (hj':j < x.cells.size),R w E S (AE.relo f O) (E4 o.dst ++ [j]) (v1.cells[j]) (x.cells[j]):=by
      intro j hj hj'
      exact (hcell j hj hj').reloc (fun b' r hb'=>by simp only [AE.relo,hb',Option.map_some]; rw [hfin j r hj])
     cases hag:v1.isAgg with
     | true=>
      obtain ⟨xs,rfl⟩:=q5 hag
      cases v1 with
      | agg cs=>exact .cell (.agg ⟨by simpa [V.cells,Value.cells] using q4,fun j hj hj'=>by have:=hc2 j hj (by simpa [Value.cells] using hj'); rwa [Array.getElem_toList (xs:=xs)]⟩)
      | _=>simp [V.isAgg] at hag
     | false=>
      obtain ⟨m1,m2⟩:=q6 hag
      have hj0:0 < v1.cells.length:=by rw [m1]; simp
      have h0:=hc2 0 hj0 (by omega)
      have hs0:=hcell 0 hj0 (by omega)
      have hx2:x.cells=#[x]:=by
       have g:=hR (off+0) (by omega) x (by rwa [Nat.zero_add] at m2)
       have:=H0 g; cases x <;> simp_all [Value.cells,Value.single]
      refine .cell (.one hag ?_)
      simpa [m1,hx2] using h0
    have hstripc:v1.strip.cells=v1.cells.map V.strip1:=by
     cases hag:v1.isAgg with
     | true=>
      cases v1 with
      | agg cs=>rfl
      | _=>simp [V.isAgg] at hag
     | false=>
      obtain ⟨m1,m2⟩:=q6 hag
      have hs0:=E6 (hcell 0 (by rw [m1]; simp) (by rw [←q4,m1]; simp))
      have e0:v1.cells[0]'(by rw [m1]; simp)=v1:=by simp [m1]
      rw [e0] at hs0
      rw [aU hs0,m1,H9 (N8 v1)]
      rfl
    have hmapna:∀ z∈v1.strip.cells,z.isAgg=false:=by
     intro z hz
     rw [hstripc] at hz
     obtain ⟨z',_,rfl⟩:=List.mem_map.1 hz
     exact N8 z'
    obtain ⟨l1,l2⟩:=cJ he' hmapna
    have hlen3:v1.strip.cells.length=v1.cells.length:=by rw [hstripc]; simp
    have hlen':e'.cells.length=sz:=by rw [l2]; rw [(S7 l1 0 (by simp; omega)).1]; exact hle
    have hnew:r7 w E S (AE.relo f O) s { y with es:=y.es.set 0 e' }:=by
     unfold r7
     rw [hS]
     refine ⟨k1,k2,c,et,fr,k3,k4,k5,by simp only [AE.relo,k6,ha,Option.map_some]; rfl,by simpa using k7,?_,fun hf=>absurd (show y.arr=true from hf) (by rw [ha]; simp),fun _=>⟨by simpa using g1,g2,?_⟩⟩
     ·intro i' hi'
      simp only [List.length_set] at hi'
      have:i'=0:=by omega
      subst this
      simpa using hlen'
     ·intro i' j hi' hj z hz
      simp only [List.length_set] at hi'
      have hi0:i'=0:=by omega
      subst hi0
      simp only [List.getElem_set_self,l2] at hj ⊢
      have hj2:j < e.cells.length:=by rw [←(S7 l1 j hj).1]; exact hj
      rw [(S7 l1 j hj).2 hj2]
      rw [show 0 * sz+j=j by omega] at hz
      have h0:=hR j hj2 z hz
      split
      ·rename_i hin
       have e1:v1.strip.cells[j - off]'(by omega)=(e.cells[j]).strip1:=by
        have:v1.strip.cells[j - off]'(by omega)=(v1.cells[j - off]'(by omega)).strip1:=by simp [hstripc]
        rw [this,q8 (j - off) (by omega) (by omega)]
        congr 2
        omega
       rw [e1]
       exact .free h0.strip1
      ·rename_i hin
       exact h0.reloc (fun b' r hb'=>by simp only [AE.relo,hb',Option.map_some]; rw [hfout j r (by omega)])
    have hrel:Rel G F { st with σ:=put s { y with es:=y.es.set 0 e' } st.σ } a w E S (AE.relo f O):=by
     refine h.setSite (Ext.refl _ _) (fun b' q hq hp=>⟨rfl,rfl,by simp only [AE.relo,hq,Option.map_some]; rw [hfn q hp]⟩) (W3 h.own f) hnew
    unfold Oper.wp
    rw [hrun,Oper.upon_value]
    exact hn x w E S _ hfr hval (hrel.unput o.dst)
 ·cases hs
end
section
variable {P:Program} {G:Glo} {w:World} {E:Bnd} {S F:Sit} {O:Own}
structure V5 (w:World) (E:Bnd) (sz:Nat) (l:List V) (get:Nat→Option Value):Prop where
 wid:∀ i (h:i < l.length),(l[i]).cells.length=sz
 val:∀ i j (hi:i < l.length) (hj:j < (l[i]).cells.length) x,get (i * sz+j)=some x→R0 w E ((l[i]).cells[j]) x
theorem V5.mono {w':World} {E':Bnd} (hx:Ext w E w' E') {sz:Nat} {l:List V} {get:Nat→Option Value} (h:V5 w E sz l get):V5 w' E' sz l get:=
 ⟨h.wid,fun i j hi hj x hg=>(h.val i j hi hj x hg).mono hx⟩
theorem V5.append {sz:Nat} {l m:List V} {g1 g2 g:Nat→Option Value} (h:V5 w E sz l g1) (k:V5 w E sz m g2) (e1:∀ i,i < l.length * sz→g i=g1 i) (e2:∀ i,i < m.length * sz→g (l.length * sz+i)=g2 i):
  V5 w E sz (l ++ m) g:=by
 constructor
 ·intro i hi
  by_cases hl:i < l.length
  ·rw [List.getElem_append_left hl]; exact h.wid i hl
  ·rw [List.getElem_append_right (by omega)]; exact k.wid _ _
 ·intro i j hi hj x hx
  by_cases hl:i < l.length
  ·have hw:=h.wid i hl
   have hlt:i * sz+sz≤l.length * sz:=by rw [←Nat.succ_mul]; exact Nat.mul_le_mul_right _ hl
   have ej:(l ++ m)[i]=l[i]:=List.getElem_append_left hl
   simp only [ej] at hj ⊢
   rw [e1 _ (by omega)] at hx
   exact h.val i j hl hj x hx
  ·have ej:(l ++ m)[i]=m[i - l.length]'(by simp at hi; omega):=List.getElem_append_right (by omega)
   simp only [ej] at hj ⊢
   have hi2:i - l.length < m.length:=by simp at hi; omega
   have hw:=k.wid _ hi2
   have hlt:(i - l.length) * sz+sz≤m.length * sz:=by rw [←Nat.succ_mul]; exact Nat.mul_le_mul_right _ hi2
   have e3:i * sz+j=l.length * sz+((i - l.length) * sz+j):=by
    have:i * sz=l.length * sz+(i - l.length) * sz:=by rw [←Nat.add_mul]; congr 1; omega
    omega
   rw [e3,e2 _ (by omega)] at hx
   exact k.val _ j hi2 hj x hx
theorem V5.take {sz:Nat} {l:List V} {g:Nat→Option Value} (h:V5 w E sz l g) (n:Nat):V5 w E sz (l.take n) g:=by
 constructor
 ·intro i hi
  rw [List.getElem_take]; exact h.wid i (by simp at hi; omega)
 ·intro i j hi hj x hx
  simp only [List.getElem_take] at hj ⊢
  exact h.val i j (by simp at hi; omega) hj x hx
theorem qz {sz:Nat} {l:List V} {g:Nat→Option Value} (h:V5 w E sz l g) (k:Nat) (hk:k < l.length * sz) (x:Value) (hx:g k=some x):Value.single x=true:=by
 have hsz:0 < sz:=by
  rcases Nat.eq_zero_or_pos sz with h | h
  ·subst h; simp at hk
  ·exact h
 have hi:k / sz < l.length:=Nat.div_lt_of_lt_mul (by rw [Nat.mul_comm]; exact hk)
 have hj:k % sz < sz:=Nat.mod_lt _ hsz
 have hw:=h.wid _ hi
 exact bZ (h.val (k / sz) (k % sz) hi (by omega) x (by rw [Nat.div_add_mod' k sz]; exact hx))
theorem FQ {σ:List (Nat×u6)} (hσ:∀ s y,i6 s σ=some y→r7 w E S O s y) {T2:TypeId} (hk:(∃ e',P.underlying T2=some (.slice e'))∨P.underlying T2=some .string) {sz:Nat} {b:V} {m:List V} {x:Value}
  (hx:RF w E S b x) (h:rK σ sz (N9 P T2) b=some m):∃ news,Src P sz T2 x m.length news w∧V5 w E sz m (fun k=>news[k]?):=by
 have block:∀ {e':TypeId} (hT:P.underlying T2=some (.slice e')) {bb off cap:Nat} {c:Array Value} {et:TypeId} {fr:Nat×Nat} (hb:w.heap[bb]?=some (.cells c et fr)) (hc:off+m.length * sz≤c.size)
   (he:V5 w E sz m (fun k=>c[off+k]?)),∃ news,Src P sz T2 (.slice (some ⟨bb,off,none⟩) m.length cap) m.length news w∧V5 w E sz m (fun k=>news[k]?):=by
  intro e' hT bb off cap c et fr hb hc he
  have hlen:(c.extract off (off+m.length * sz)).toList.length=m.length * sz:=by simp; omega
  have hget:∀ k,k < m.length * sz→(c.extract off (off+m.length * sz)).toList[k]?=c[off+k]?:=by
   intro k hk
   simp only [Array.getElem?_toList]
   rw [Array.getElem?_eq_getElem (by simp; omega),Array.getElem?_eq_getElem (by omega)]
   simp
  refine ⟨(c.extract off (off+m.length * sz)).toList,Src.ofSlice w hT _ _ _ _ hlen ?_ ?_,⟨he.wid,fun i j hi hj z hz=>he.val i j hi hj z ?_⟩⟩
  ·intro j u hu
   have hj:j < m.length * sz:=by
    rcases Nat.lt_or_ge j (m.length * sz) with h' | h'
    ·exact h'
    ·rw [List.getElem?_eq_none (by omega)] at hu; cases hu
   rw [eA,R7 hb,←hget j hj]; exact hu
  ·intro u hu
   obtain ⟨j,hj,rfl⟩:=List.getElem_of_mem hu
   refine iD (qz he j (by omega) _ ?_)
   show c[off+j]?=_
   rw [←hget j (by omega)]
   exact List.getElem?_eq_getElem hj
  ·have hw:=he.wid i hi
   have hlt:i * sz+sz≤m.length * sz:=by rw [←Nat.succ_mul]; exact Nat.mul_le_mul_right _ hi
   show c[off+(i * sz+j)]?=some z
   rw [←hget _ (by omega)]; exact hz
 cases b <;> simp only [rK] at h <;> first | (cases h; done) | skip
 case str s=>
  cases hT:N9 P T2 with
  | true=>rw [hT] at h; cases h
  | false=>
   rw [hT] at h
   simp only [cond_false] at h
   split at h
   ·rename_i h1
    subst h1
    obtain rfl:=Option.some.inj h
    have hT2:P.underlying T2=some .string:=by
     rcases hk with ⟨e',hk⟩ | hk
     ·simp [N9,hk] at hT
     ·exact hk
    obtain rfl:=ff hx
    have:=Src.ofString (P:=P) w hT2 ⟨s.toArray⟩
    refine ⟨byteCells ⟨s.toArray⟩,by simpa [ByteArray.size] using this,⟨fun i hi=>by simp [V.cells],fun i j hi hj z hz=>?_⟩⟩
    simp only [List.length_map] at hi
    simp only [List.getElem_map,V.cells,List.length_singleton] at hj ⊢
    have hj0:j=0:=by omega
    subst hj0
    simp only [byteCells,Nat.mul_one,Nat.add_zero,List.getElem?_map] at hz
    rw [List.getElem?_eq_getElem hi] at hz
    obtain rfl:=Option.some.inj hz
    exact .int _ _
   ·cases h
 case sl o sz' m'=>
  cases hT:N9 P T2 with
  | false=>rw [hT] at h; cases h
  | true=>
   rw [hT] at h
   simp only [cond_true] at h
   obtain ⟨e',hT2⟩:∃ e',P.underlying T2=some (.slice e'):=by
    rcases hk with hk | hk
    ·exact hk
    ·simp [N9,hk] at hT
   split at h
   ·rename_i hsz
    obtain rfl:=Option.some.inj h
    have hr:=B4 hx rfl (by simp)
    cases hr with
    | base hr=>
     cases hr with
     | slNil=>exact ⟨[],Src.ofNil w hT2 0,⟨fun i hi=>by simp at hi,fun i j hi=>by simp at hi⟩⟩
     | slE _ aa=>
      cases aa with
      | none=>exact ⟨[],Src.ofNil w hT2 0,⟨fun i hi=>by simp at hi,fun i j hi=>by simp at hi⟩⟩
      | some aa=>exact ⟨[],Src.ofSlice (P:=P) (size:=sz) w hT2 aa 0 0 [] (by simp) (by simp) (fun _ h=>by cases h),⟨fun i hi=>by simp at hi,fun i j hi=>by simp at hi⟩⟩
     | @sl _ _ bb off cap c et fr hb hc hl hE hw he=>
      rcases hsz with rfl | rfl
      ·have hmul:m'.length * sz'≤cap * sz':=Nat.mul_le_mul_right _ hl
       exact block hT2 hb (by omega) ⟨hw,fun i j hi hj z hz=>he i j hi hj z (by rw [Nat.add_assoc]; exact hz)⟩
      ·have:=Src.ofSlice (P:=P) (size:=sz) w hT2 ⟨bb,off,none⟩ 0 cap [] (by simp) (by simp) (fun _ h=>by cases h)
       exact ⟨[],this,⟨fun i hi=>by simp at hi,fun i j hi=>by simp at hi⟩⟩
   ·cases h
 case aref s' off n=>
  cases hT:N9 P T2 with
  | false=>rw [hT] at h; cases h
  | true=>
   rw [hT] at h
   simp only [cond_true] at h
   obtain ⟨e',hT2⟩:∃ e',P.underlying T2=some (.slice e'):=by
    rcases hk with hk | hk
    ·exact hk
    ·simp [N9,hk] at hT
   obtain ⟨y,hy,h⟩:=bind_some h
   split at h
   ·rename_i hc
    obtain ⟨c1,c2,c3⟩:=hc
    obtain rfl:=Option.some.inj h
    have hr:=B4 hx rfl (by simp)
    have hok:=hσ s' y hy
    have hml:(((y.es.drop off).take n).map V.strip2).length=n:=by simp; omega
    cases hr with
    | base hr=>cases hr
    | arefNil=>exact ⟨[],by simpa using Src.ofNil w hT2 0,⟨fun i hi=>by simp at hi,fun i j hi=>by simp at hi⟩⟩
    | @aref _ b sz2 _ _ cap c et fr hS hb hcc hcap=>
     unfold r7 at hok
     rw [hS] at hok
     obtain ⟨k1,k2,c',et',fr',k3,k4,k5,k6,k7,k8,k9,k10⟩:=hok
     rw [hb] at k3
     injection k3 with k3
     injection k3 with q1 q2 q3
     subst q1; subst q2; subst q3
     have e1:sz2=sz:=by omega
     subst e1
     have hmul:(off+n) * sz2≤y.es.length * sz2:=Nat.mul_le_mul_right _ c3
     rw [Nat.add_mul] at hmul
     have:=block (cap:=cap) hT2 hb (off:=off * sz2) (by rw [hml]; omega) ⟨fun i hi=>by
       rw [List.getElem_map,List.getElem_take,List.getElem_drop,u0,List.length_map]; exact k8 _ _,fun i j hi hj z hz=>by
       have hj':j < (y.es[off+i]'(by simp at hi; omega)).cells.length:=by
        rw [List.getElem_map,List.getElem_take,List.getElem_drop,u0,List.length_map] at hj
        exact hj
       have e1:((((y.es.drop off).take n).map V.strip2)[i]).cells[j]=((y.es[off+i]'(by simp at hi; omega)).cells[j]'hj').strip1:=by
        simp only [List.getElem_map,List.getElem_take,List.getElem_drop,u0]
       rw [e1]
       exact (k9 c2 (off+i) j (by simp at hi; omega) hj' z (by rw [←hz,Nat.add_mul,Nat.add_assoc])).strip⟩
     simp only [hml] at this ⊢
     exact this
   ·cases h
theorem kY {T T2 ty:TypeId} (hty:N4 P T T2=true) (ho:∀ b p,O b=some p→b < w.heap.size) {p:Pos} {k sz:Nat} {l m:List V} {sv x:Value} (hk:k=1∨k=2) (hsz:sz=S6 P T)
  (hs:R w E S O p (.sl k sz l) sv) {news:List Value} (hx:Src P sz T2 x m.length news w) (hm:V5 w E sz m (fun i=>news[i]?)) (hmax:l.length+m.length≤B7):
  ∃ y w' E' O',(Builtin.append_ #[T,T2] ty #[sv,x]).run P w=.ok y w'∧r8 w E O w' E' O'∧D7 w E O w' E' O' p∧(∀ b,O b≠none→O' b=O b)∧R w' E' S O' p (.sl k sz (l ++ m)) y∧(∀ b off n cap,sv=.slice (some ⟨b,off,none⟩) n cap→∀ b' off' n' cap',y=.slice (some ⟨b',off',none⟩) n' cap'→∀ q,q < l.length * sz→w'.cell? ⟨b',off'+q,none⟩=w.cell? ⟨b,off+q,none⟩):=by
 unfold N4 at hty
 split at hty
 case h_2=>cases hty
 rename_i e hT
 simp only [Bool.and_eq_true] at hty
 obtain ⟨⟨⟨_,hz0⟩,hbytes⟩,hzero⟩:=hty
 rw [nA hT] at hsz
 have hpos:0 < sz:=by
  rw [hsz]
  cases hq:P.cellsOf e with
  | zero=>rw [hq] at hz0; simp at hz0
  | succ n=>omega
 cases hzv:ez P e with
 | none=>rw [hzv] at hzero; cases hzero
 | some zv=>
  rw [hzv] at hzero
  have hzlen:zv.cells.length=P.cellsOf e:=Nat.eq_of_beq_eq_true hzero
  obtain ⟨i,z,hi,hiz,hzr,hzrun⟩:=fu (w:=w) (E:=E) (S:=S) hzv
  have hisz:i.size=sz:=by rw [hsz]; simp [Program.cellsOf,hi]
  have hibytes:i.bytes≤4096:=by have:=Nat.le_of_ble_eq_true hbytes; simpa [Program.bytesOf,hi] using this
  have hzs:z.cells.size=sz:=by rw [←(Z1 hzr).1,hzlen,hsz]
  rw [←hisz] at hx
  unfold B7 at hmax
  -- a new row
  have grow:∀ (base:Option Addr) (cap:Nat) (olds:List Value),sv=.slice base l.length cap→(Builtin.firstCells i.size l.length (.slice base l.length cap)).run P w.drew=.ok olds.toArray w.drew→olds.length=l.length * sz→V5 w E sz l (fun i=>olds[i]?)→(∀ b off,base=some ⟨b,off,none⟩→∀ q,q < l.length * sz→olds[q]?=w.cell? ⟨b,off+q,none⟩)→cap < l.length+m.length→
    ∃ y w' E' O',(Builtin.append_ #[T,T2] ty #[sv,x]).run P w=.ok y w'∧r8 w E O w' E' O'∧D7 w E O w' E' O' p∧(∀ b,O b≠none→O' b=O b)∧R w' E' S O' p (.sl k sz (l ++ m)) y∧(∀ b off n cap,sv=.slice (some ⟨b,off,none⟩) n cap→∀ b' off' n' cap',y=.slice (some ⟨b',off',none⟩) n' cap'→∀ q,q < l.length * sz→w'.cell? ⟨b',off'+q,none⟩=w.cell? ⟨b,off+q,none⟩):=by
   intro base cap olds hsv hold hol helems hcells hcap
   subst hsv
   have hfit:Builtin.nextslicecap (l.length+m.length) cap * i.bytes≤281474976710656:=by
    have h1:=nextslicecap_le hcap
    have:Builtin.nextslicecap (l.length+m.length) cap * i.bytes≤(2 * 4294967296) * 4096:=Nat.mul_le_mul (by omega) hibytes
    omega
   have hrun:=run_append_grow_src (P:=P) w T T2 ty e i z hT hi hiz base l.length cap olds hold x m.length news hx hcap (by omega) hfit
   have hge:=grownCap_ge w (l.length+m.length) cap e
   have hn1:=New.drew (w:=w) (E:=E) (O:=O) ho
   have hn2:=New.alloc (w:=w.drew) (E:=E) (O:=O) ho (.cells ((olds ++ news).toArray ++ Builtin.zeroCells z.cells (grownCap w (l.length+m.length) cap e - (l.length+m.length))) e) (some (if k=1 then (l.length+m.length) * sz else 0)) (some p)
   have hn:=hn1.trans hn2
   refine ⟨_,_,_,_,hrun,hn.framed,hn.keptBut ho p,fun b hb=>?_,?_,?_⟩
   ·cases hO:O b with
    | none=>exact absurd hO hb
    | some q=>rw [(hn.old b (ho b q hO)).2,hO]
   ·have hnl:=hx.newsLen
    rw [hisz] at hnl
    have hcs:((olds ++ news).toArray ++ Builtin.zeroCells z.cells (grownCap w (l.length+m.length) cap e - (l.length+m.length))).size=grownCap w (l.length+m.length) cap e * sz:=by
     simp only [Array.size_append,List.size_toArray,size_zeroCells,hzs,List.length_append,hol,hnl,←Nat.add_mul]
     congr 1
     omega
    have hel:=helems.append hm (g:=fun i=>((olds ++ news).toArray ++ Builtin.zeroCells z.cells (grownCap w (l.length+m.length) cap e - (l.length+m.length)))[i]?) (fun q hq=>by
      show _=olds[q]?
      rw [Array.getElem?_append_left (by simp; omega)]
      simp only [List.getElem?_toArray]
      rw [List.getElem?_append_left (by omega)]) (fun q hq=>by
      show _=news[q]?
      rw [Array.getElem?_append_left (by simp; omega)]
      simp only [List.getElem?_toArray]
      rw [List.getElem?_append_right (by omega),hol]
      congr 1
      omega)
    have hel2:=hel.mono hn.ext
    have hll:(l ++ m).length=l.length+m.length:=List.length_append
    have hE2:s9 E w.drew.heap.size (some (if k=1 then (l.length+m.length) * sz else 0)) w.drew.heap.size=some (if k=1 then 0+(l ++ m).length * sz else 0):=by
     rw [hll,Nat.zero_add]; simp [s9]
    have hO2:s9 O w.drew.heap.size (some p) w.drew.heap.size=some p:=by simp [s9]
    have hown:=R.own (S:=S) hk (bj w.drew (.cells ((olds ++ news).toArray ++ Builtin.zeroCells z.cells (grownCap w (l.length+m.length) cap e - (l.length+m.length))) e)) (by rw [hcs,Nat.zero_add]; exact Nat.le_refl _) (by rw [hll]; exact hge) (fun o _ h=>by simp at h) hE2 (fun _=>rfl) hO2
     hel2.wid (fun q j hq hj y hy=>hel2.val q j hq hj y (by rw [←hy,Nat.zero_add]))
    rw [hll] at hown
    exact hown
   ·intro b off n2 cap2 he2 b' off' n' cap' he3 q hq
    injection he2 with e1 e2 e3
    injection he3 with e4 e5 e6
    injection e4 with e4
    injection e4 with e7 e8 e9
    subst e7; subst e8
    rw [←hcells b off e1 q hq,Nat.zero_add]
    have:=bj w.drew (.cells ((olds ++ news).toArray ++ Builtin.zeroCells z.cells (grownCap w (l.length+m.length) cap e - (l.length+m.length))) e)
    refine (R7 this _).trans ?_
    rw [Array.getElem?_append_left (by simp; omega)]
    simp only [List.getElem?_toArray]
    rw [List.getElem?_append_left (by omega)]
  cases hs with
  | arr=>omega
  | free hs=>
   cases hs with
   | base hs=>
    cases hs with
    | slNil=>
     by_cases hm0:m=[]
     ·subst hm0
      refine ⟨.slice none 0 0,w,E,O,?_,r8.refl ho,D7.refl p,fun _ _=>rfl,.free (.base (.slNil k sz)),fun b off n2 cap2 he2=>by injection he2 with e1; cases e1⟩
      rcases hx.kind with ⟨e',hk'⟩ | hk' <;> simp [Builtin.append_,run_underlying hT,run_underlying hk',sizeOf,typeInfo,hi,hx.len,hx.cells,show (Builtin.firstCells i.size 0 x).run P w=.ok news.toArray w from hx.cells,show ∀ w':World,(Builtin.lenOf x).run P w'=.ok 0 w' from hx.len]
     ·have:=List.length_pos_iff.2 hm0
      exact grow none 0 [] rfl (run_firstCells_none w.drew i.size 0 0 0) (by simp) ⟨fun i h=>by simp at h,fun i j h=>by simp at h⟩ (fun b off hb=>by cases hb) (by simpa using this)
    | slE=>omega
    | sl=>omega
  | @own _ _ _ b off cap c et fr ho' hb hc hl hf hE h0 hO hw he=>
   by_cases hroom:l.length+m.length≤cap
   ·have hnl:=hx.newsLen
    rw [hisz] at hnl
    have hmul:(l.length+m.length) * sz≤cap * sz:=Nat.mul_le_mul_right _ hroom
    rw [Nat.add_mul] at hmul
    have hb1:off+l.length * i.size+news.length≤c.size:=by rw [hisz]; omega
    obtain ⟨c',hwr⟩:=cK b et fr news (off+l.length * i.size) c w hb hb1
    have hrun:=run_append_room_src (P:=P) w T T2 ty e i hT hi b off l.length cap x m.length news hx hroom (fun j hj=>by
      rw [R7 hb]; simp; omega) (fun j hj=>by
      have:=hf (off+l.length * i.size+j) (by omega)
      simp only [World.frozen?,hb]
      cases hh:(decide (fr.1≤off+l.length * i.size+j) && decide (off+l.length * i.size+j < fr.2)) with
      | false=>rfl
      | true=>simp at hh; simp at this; omega)
    have hkk:(if k=1 then off+l.length * sz else 0)≤off+l.length * i.size:=by rw [hisz]; split <;> omega
    have hkk2:(if k=1 then off+l.length * sz else 0)≤(if k=1 then off+(l.length+m.length) * sz else 0):=by
     rw [Nat.add_mul]
     split <;> omega
    have hfr:=hwr.framed hb ho hO hE hkk hkk2
    refine ⟨_,_,_,_,hrun,hfr,fun b' q hq hp=>hwr.keptBut (p:=p) hO _ b' q hq (fun e=>hp (by rw [e]; exact List.prefix_refl p)),fun _ _=>rfl,?_,?_⟩
    rotate_left
    ·intro b1 off1 n1 cap1 he1 b2 off2 n2 cap2 he2 q hq
     injection he1 with e1 e2 e3
     injection e1 with e1
     injection e1 with e4 e5 e6
     injection he2 with f1 f2 f3
     injection f1 with f1
     injection f1 with f4 f5 f6
     subst e4; subst e5; subst f4; subst f5
     rw [R7 hb,R7 hwr.at_]
     exact hwr.old _ (.inl (by rw [hisz]; omega))
    have hll:(l ++ m).length=l.length+m.length:=List.length_append
    have hel:V5 w E sz l (fun i=>c[off+i]?):=⟨hw,fun i j hi hj z hz=>he i j hi hj z (by rw [Nat.add_assoc]; exact hz)⟩
    have hel2:=(hel.append hm (g:=fun i=>c'[off+i]?) (fun q hq=>by
      show c'[off+q]?=c[off+q]?
      exact hwr.old _ (.inl (by rw [hisz]; omega))) (fun q hq=>by
      show c'[off+(l.length * sz+q)]?=news[q]?
      rw [←hwr.new q (by omega),hisz,Nat.add_assoc])).mono hfr.ext
    have hown:=R.own (S:=S) hk hwr.at_ (by rw [hwr.size]; exact hc) (by rw [hll]; exact hroom) (by rw [hwr.size]; exact hf) (by simp [s9,hll]) h0 hO hel2.wid
     (fun q j hq hj y hy=>hel2.val q j hq hj y (by rw [←hy,Nat.add_assoc]))
    rw [hll] at hown
    exact hown
   ·have hmul:l.length * sz≤cap * sz:=Nat.mul_le_mul_right _ hl
    have hlen:(c.extract off (off+l.length * sz)).toList.length=l.length * sz:=by simp; omega
    have hget:∀ q,q < l.length * sz→(c.extract off (off+l.length * sz)).toList[q]?=c[off+q]?:=by
     intro q hq
     simp only [Array.getElem?_toList]
     rw [Array.getElem?_eq_getElem (by simp; omega),Array.getElem?_eq_getElem (by omega)]
     simp
    refine grow (some ⟨b,off,none⟩) cap (c.extract off (off+l.length * sz)).toList rfl (run_firstCells_some w.drew i.size _ _ _ _ _ (by rw [hisz]; exact hlen) (fun j u hu=>?_)) hlen
     ⟨hw,fun i j hi hj z hz=>he i j hi hj z ?_⟩ (fun b1 off1 hb1 q hq=>by
      injection hb1 with hb1
      injection hb1 with e4 e5 e6
      subst e4; subst e5
      rw [hget q hq,R7 hb]) (by omega)
    ·have hj:j < l.length * sz:=by
      rcases Nat.lt_or_ge j (l.length * sz) with h' | h'
      ·exact h'
      ·rw [List.getElem?_eq_none (by omega)] at hu; cases hu
     rw [eA]
     show w.cell? _=_
     rw [R7 hb,←hget j hj]; exact hu
    ·have hw1:=hw i hi
     have hlt:i * sz+sz≤l.length * sz:=by rw [←Nat.succ_mul]; exact Nat.mul_le_mul_right _ hi
     have hz':(c.extract off (off+l.length * sz)).toList[i * sz+j]?=some z:=hz
     rw [hget _ (by omega)] at hz'
     rw [Nat.add_assoc]; exact hz'
theorem uJ {dst:Option Tmp} {d:Nat} (h:∀ d',dst=some d'→d≠d') (r:Pos):¬ E4 dst <+: [0,d] ++ r:=by
 cases dst with
 | none=>
  simp only [E4,List.cons_append,List.nil_append,List.cons_prefix_cons]
  intro hh
  exact absurd hh.1 (by decide)
 | some d'=>exact aO (h d' rfl) r
theorem mO {dst:Option Tmp} {s:Nat} (r:Pos):¬ E4 dst <+: [1,s] ++ r:=by
 cases dst with
 | none=>
  simp only [E4,List.cons_append,List.nil_append,List.cons_prefix_cons]
  intro hh
  exact absurd hh.1 (by decide)
 | some d'=>exact K5 r
theorem Rel.turnBut {st:St} {a:Act} {dst:Option Tmp} (h:Rel G F (AE.unput dst st) a w E S O) {w':World} {E':Bnd} {O':Own} (hx:Ext w E w' E') (hk:D7 w E O w' E' O' (E4 dst)) (ho:∀ b p,O' b=some p→b < w'.heap.size):
  Rel G F (AE.unput dst st) a w' E' S O':=by
 refine ⟨fun d v hl=>?_,fun s y hl=>(h.sites s y hl).mono hx (fun _ _ h=>h) rfl (hk.kept mO),h.live,h.size,ho,h.defers,h.par,h.glob.mono hx⟩
 obtain ⟨x,h1,h2⟩:=h.tmps d v hl
 refine ⟨x,h1,h2.mono hx (fun _ _ h=>h) (hk.kept (uJ ?_))⟩
 intro d' e
 subst e
 intro e
 subst e
 have hl':i6 d (del d st.t)=some v:=hl
 rw [L9,if_pos rfl] at hl'
 cases hl'
theorem D7.up {w':World} {E':Bnd} {O':Own} {p r:Pos} (h:D7 w E O w' E' O' (p ++ r)):D7 w E O w' E' O' p:=
 fun b q hb hq=>h b q hb (fun hp=>hq ((List.prefix_append p r).trans hp))
theorem tV {T T2 ty:TypeId} (hty:N4 P T T2=true) (ho:∀ b p,O b=some p→b < w.heap.size) {p:Pos} {sz:Nat} {l m:List V} {sv x:Value} (hsz:sz=S6 P T) (hpos:0 < sz)
  (hs:R w E S O p (.sl 3 sz l) sv) {news:List Value} (hx:Src P sz T2 x m.length news w) (hm:V5 w E sz m (fun i=>news[i]?)) (hmax:l.length+m.length≤B7):
  ∃ y w' E' O',(Builtin.append_ #[T,T2] ty #[sv,x]).run P w=.ok y w'∧r8 w E O w' E' O'∧D7 w E O w' E' O' p∧R w' E' S O' p (.sl 3 sz (l ++ m)) y:=by
 have hll:(l.map V.strip2).length=l.length:=List.length_map _
 have hsl:R w E S O (p ++ [0]) (.sl 2 sz (l.map V.strip2)) sv∧(l=[]∨∃ b cap c et fr,sv=.slice (some ⟨b,0,none⟩) l.length cap∧w.heap[b]?=some (.cells c et fr)∧(∀ i (h:i < l.length),(l[i]).cells.length=sz)∧
   ∀ i j (hi:i < l.length) (hj:j < (l[i]).cells.length) z,c[i * sz+j]?=some z→RA w E O (p ++ ([1] ++ [i * sz+j])) ((l[i]).cells[j]) z):=by
  cases hs with
  | free hs=>cases hs with
   | base hs=>cases hs with
    | slNil=>exact ⟨.free (.base (.slNil 2 sz)),.inl rfl⟩
  | own ho'=>omega
  | arr hs' hb hc hl hf hE hO hw he=>
   exact ⟨fb hb hc hl hf hE hO hw (fun i j hi hj z hz=>⟨_,he i j hi hj z hz⟩),.inr ⟨_,_,_,_,_,rfl,hb,hw,he⟩⟩
 obtain ⟨hsl,hold⟩:=hsl
 obtain ⟨y,w',E',O',g1,g2,g3,g4,g5,g6⟩:=kY (ty:=ty) hty ho (.inr rfl) hsz hsl hx hm (by rw [hll]; exact hmax)
 refine ⟨y,w',E',O',g1,g2,D7.up (r:=[0]) g3,?_⟩
 have hlen0:(l.map V.strip2 ++ m).length=l.length+m.length:=by rw [List.length_append,hll]
 have hlen:(l ++ m).length=l.length+m.length:=List.length_append
 cases g5 with
 | free g5=>
  cases g5 with
  | base g5=>
   generalize hq:l.map V.strip2 ++ m=q at g5 hlen0
   cases g5 with
   | slNil=>
    have h0:l.length+m.length=0:=by simpa using hlen0.symm
    have he0:l ++ m=[]:=List.eq_nil_of_length_eq_zero (by omega)
    rw [he0]
    exact .free (.base (.slNil 3 sz))
 | @own _ _ _ b off cap c' et fr ho' hb' hc' hl' hf' hE' h0' hO' hw' he'=>
  have hoff:=h0' rfl
  subst hoff
  have hlt:∀ i,i < (l ++ m).length→i < (l.map V.strip2 ++ m).length:=fun i hi=>by omega
  have hone:∀ i (hi:i < l.length) (h1:i < (l ++ m).length),(l ++ m)[i]=l[i]:=fun i hi h1=>List.getElem_append_left hi
  have htwo:∀ i (hi:¬ i < l.length) (h1:i < (l ++ m).length) (h2:i < (l.map V.strip2 ++ m).length),(l ++ m)[i]=(l.map V.strip2 ++ m)[i]:=fun i hi h1 h2=>by
   rw [List.getElem_append_right (by omega),List.getElem_append_right (by omega)]
   simp only [hll]
  have hold1:∀ i (hi:i < l.length),(l[i]).cells.length=sz:=fun i hi=>by
   have:=hw' i (by omega)
   rw [List.getElem_append_left (by omega),List.getElem_map,u0,List.length_map] at this
   exact this
  have hR:=R.arr (w:=w') (E:=E') (S:=S) (O:=O') (p:=p) (sz:=sz) (l:=l ++ m) (b:=b) (cap:=cap) hpos hb' (by omega) (by omega) hf' (by rw [hE']; rfl) hO'
   (fun i hi=>by
    by_cases hin:i < l.length
    ·rw [hone i hin hi]
     exact hold1 i hin
    ·rw [htwo i hin hi (hlt i hi)]
     exact hw' i (hlt i hi))
   (fun i j hi hj z hz=>by
    by_cases hin:i < l.length
    ·rcases hold with h0 | ⟨b0,cap0,c0,et0,fr0,f1,f2,f4,f5⟩
     ·subst h0; simp at hin
     ·have e1:=hone i hin hi
      have hj':j < (l[i]).cells.length:=by rw [←e1]; exact hj
      have hjs:j < sz:=by rw [hold1 i hin] at hj'; exact hj'
      have hk:i * sz+j < l.length * sz:=by
       have:(i+1) * sz≤l.length * sz:=Nat.mul_le_mul_right _ hin
       rw [Nat.add_mul] at this
       omega
      have hcell:=g6 b0 0 l.length cap0 f1 b 0 _ cap rfl (i * sz+j) (by rw [hll]; exact hk)
      rw [Nat.zero_add,R7 hb',R7 f2,hz] at hcell
      have e2:((l ++ m)[i]).cells[j]=(l[i]).cells[j]'hj':=by simp only [e1]
      rw [e2]
      exact (f5 i j hin hj' z hcell.symm).mono g2.ext ⟨fun b' q hb0=>by
       obtain ⟨z1,z2,z3⟩:=g3 b' _ hb0 (fun hp=>by
        rw [List.append_assoc] at hp
        have:=(List.prefix_append_right_inj p).1 hp
        simp at this)
       exact ⟨z1,z2,z3⟩⟩
    ·have e1:=htwo i hin hi (hlt i hi)
     have hj':j < ((l.map V.strip2 ++ m)[i]'(hlt i hi)).cells.length:=by rw [←e1]; exact hj
     have e2:((l ++ m)[i]).cells[j]=((l.map V.strip2 ++ m)[i]'(hlt i hi)).cells[j]'hj':=by simp only [e1]
     rw [e2]
     exact .free (he' i j (hlt i hi) hj' z (by rw [←hz]; congr 1; omega)))
  rw [hlen] at hR
  rw [hlen0]
  exact hR
theorem R0.up5 {v:V} {x:Value} (h:R0 w E v x):R0 w E (AE.up5 v) x:=by
 unfold AE.up5
 split
 ·rename_i o sz l
  cases hc:(Nat.beq o 5 && l.isEmpty) with
  | false=>exact h
  | true=>
   rw [Bool.and_eq_true] at hc
   obtain rfl:=Nat.eq_of_beq_eq_true hc.1
   obtain rfl:l=[]:=List.isEmpty_iff.1 hc.2
   cases h with
   | slNil=>exact .slNil 1 sz
 ·exact h
theorem jy (v:V):(cY v).cells.length=v.cells.length∧∀ j (h:j < (cY v).cells.length) (h':j < v.cells.length),(cY v).cells[j]=v.cells[j]∨(cY v).cells[j]=AE.up5 v.cells[j]:=by
 cases v with
 | agg cs=>exact ⟨by simp [cY,V.cells],fun j h h'=>.inr (by simp [cY,V.cells])⟩
 | _=>exact ⟨rfl,fun j h h'=>.inl rfl⟩
theorem V5.up5 {sz:Nat} {m:List V} {f:Nat→Option Value} (h:V5 w E sz m f):V5 w E sz (m.map cY) f:=by
 refine ⟨fun i hi=>?_,fun i j hi hj z hz=>?_⟩
 ·rw [List.getElem_map,(jy _).1]
  exact h.wid i (by simpa using hi)
 ·have hi':i < m.length:=by simpa using hi
  have e1:(m.map cY)[i]=cY m[i]:=List.getElem_map _
  have hj1:j < (cY m[i]).cells.length:=by rw [←e1]; exact hj
  have hj2:j < (m[i]).cells.length:=by rw [←(jy _).1]; exact hj1
  have hv:=h.val i j hi' hj2 z hz
  have e2:((m.map cY)[i]).cells[j]=(cY m[i]).cells[j]'hj1:=by simp only [e1]
  rw [e2]
  rcases (jy m[i]).2 j hj1 hj2 with q | q
  ·rw [q]; exact hv
  ·rw [q]; exact hv.up5
theorem sd {st:St} {a:Act} (h:Rel G F st a w E S O) {o:Oper} {c:Call} (hop:o.op=.call c) (hc:c.callee=.builtin .append) {tk:List Nat} (htk:tk.length≤1) {v:V} {st':St} (hv:T5 P st tk c=some (v,st')):
  kU G P F o a w E O v st':=by
 intro next Q hn
 unfold T5 at hv
 split at hv
 case h_2=>cases hv
 rename_i s x T T2 hargs htys
 obtain ⟨av,ha,hv⟩:=bind_some hv
 obtain ⟨bv,hb,hv⟩:=bind_some hv
 cases hty:N4 P T T2 with
 | false=>rw [hty] at hv; cases hv
 | true=>
  rw [hty] at hv
  simp only [cond_true] at hv
  obtain ⟨m,hm,hv⟩:=bind_some hv
  have hk:(∃ e',P.underlying T2=some (.slice e'))∨P.underlying T2=some .string:=by
   have hty':=hty
   unfold N4 at hty'
   split at hty'
   ·simp only [Bool.and_eq_true] at hty'
    obtain ⟨⟨⟨h1,_⟩,_⟩,_⟩:=hty'
    split at h1
    ·rename_i e' he; exact .inl ⟨e',he⟩
    ·rename_i he; exact .inr he
    ·cases h1
   ·cases hty'
  obtain ⟨news,hsrc,hel⟩:=FQ h.sites hk (P8 h hb) hm
  have hargs':c.args=#[s,x]:=by rw [←Array.toList_inj]; exact hargs
  have htys':c.argTypes=#[T,T2]:=by rw [←Array.toList_inj]; exact htys
  have hgo:∀ {y w'},(Builtin.append_ #[T,T2] o.type #[a.eval s,a.eval x]).run P w=.ok y w'→(execOp a.eval o).run P w=.ok (.value y) w':=by
   intro y w' hrun
   cases c with
   | mk callee args argTypes=>
    simp only at hc hargs' htys'
    subst hc; subst hargs'; subst htys'
    simp [execOp,hop,resolve,invoke,builtin,hrun,Result.andThen]
  cases av with
  | sl k sz' l=>
   simp only at hv
   cases h3:Nat.beq k 3 with
   | true=>
    have hv2:=hv
    rw [h3,cond_true] at hv2
    obtain rfl:=Nat.eq_of_beq_eq_true h3
    have hel5:=hel.up5
    have hl5:(m.map cY).length=m.length:=List.length_map _
    rw [←hl5] at hsrc
    rw [←hl5] at hv2
    clear hv
    generalize m.map cY=m5 at hv2 hel5 hsrc
    split at hv2
    ·rename_i hcond
     obtain ⟨c2,cp,c3⟩:=hcond
     obtain ⟨rfl,rfl⟩:=Prod.mk.inj (Option.some.inj hv2)
     obtain ⟨n,hr,hf⟩:=rg h htk ha
     have h1:=hf (F9 [0,n] (E4 o.dst)) (fun q hq=>B1 hq)
     have hr2:RT w E S (AE.relo (F9 [0,n] (E4 o.dst)) O) (E4 o.dst) (.sl 3 sz' l) (a.eval s):=hr.reloc (fun b q hb=>by simp only [AE.relo,hb,Option.map_some,D5])
     have hr3:=hr2.of_tmp rfl (by simp) (by simp)
     subst c2
     obtain ⟨y,w',E',O',g1,g2,g3,g5⟩:=tV (ty:=o.type) hty h1.own rfl cp hr3 hsrc hel5 c3
     unfold Oper.wp
     rw [hgo g1,Oper.upon_value]
     exact hn y w' E' S O' ((A1 h.own _).trans g2) (.cell (.one rfl g5)) ((h1.unput o.dst).turnBut g2.ext g3.up g2.own)
    ·cases hv2
   | false=>
   rw [h3,cond_false] at hv
   split at hv
   ·rename_i hcond
    obtain ⟨c1,c2,c3⟩:=hcond
    obtain ⟨rfl,rfl⟩:=Prod.mk.inj (Option.some.inj hv)
    obtain ⟨n,hr,hf⟩:=rg h htk ha
    have h1:=hf (F9 [0,n] (E4 o.dst)) (fun q hq=>B1 hq)
    have hr2:RT w E S (AE.relo (F9 [0,n] (E4 o.dst)) O) (E4 o.dst) (.sl k sz' l) (a.eval s):=hr.reloc (fun b q hb=>by simp only [AE.relo,hb,Option.map_some,D5])
    have hr3:=hr2.of_tmp rfl (by simp) (by simp)
    subst c2
    obtain ⟨y,w',E',O',g1,g2,g3,g4,g5,_⟩:=kY (ty:=o.type) hty h1.own c1 rfl hr3 hsrc hel c3
    unfold Oper.wp
    rw [hgo g1,Oper.upon_value]
    exact hn y w' E' S O' ((A1 h.own _).trans g2) (.cell (.one rfl g5)) ((h1.unput o.dst).turnBut g2.ext g3.up g2.own)
   ·cases hv
  | aref d off n=>
   simp only at hv
   obtain ⟨y,hy,hv⟩:=bind_some hv
   have hel5:=hel.up5
   have hl5:(m.map cY).length=m.length:=List.length_map _
   rw [←hl5] at hsrc
   clear hel hm hl5
   generalize m.map cY=m at hv hel5 hsrc
   have hel:=hel5
   unfold mV at hv
   split at hv
   ·rename_i hcond
    obtain ⟨c1,c2,c3,c4,c5,c6,c7⟩:=hcond
    obtain ⟨rfl,rfl⟩:=Prod.mk.inj (Option.some.inj hv)
    subst c1
    subst c6
    have hr:=B4 (P8 h ha) rfl (by simp)
    have hok:=h.sites d y hy
    -- the array as a slice of its own
    have hsl:R w E S O [1,d,0] (.sl 2 y.sz ((y.es.take n).map V.strip2)) (a.eval s)∧((y.es.take n).map V.strip2).length=n∧
      (n=0∨∃ b cap c et fr,a.eval s=.slice (some ⟨b,0,none⟩) n cap∧w.heap[b]?=some (.cells c et fr)∧n * y.sz≤c.size∧(∀ i (h:i < y.es.length),(y.es[i]).cells.length=y.sz)∧
       ∀ i j (hi:i < y.es.length) (hj:j < (y.es[i]).cells.length) z,c[i * y.sz+j]?=some z→RA w E O ([1,d,1] ++ [i * y.sz+j]) ((y.es[i]).cells[j]) z):=by
     have hn2:((y.es.take n).map V.strip2).length=n:=by simp; omega
     generalize a.eval s=z at hr
     cases hr with
     | base hb=>cases hb
     | arefNil=>exact ⟨by rw [List.take_zero,List.map_nil]; exact .free (.base (.slNil 2 y.sz)),by simp,.inl rfl⟩
     | @aref _ b sz _ _ cap c' et fr hS hb' hc' hl'=>
      unfold r7 at hok
      rw [hS] at hok
      obtain ⟨k1,k2,c'',et',fr',k3,k4,k5,k6,k7,k8,k9,k10⟩:=hok
      rw [hb'] at k3
      injection k3 with k3
      injection k3 with q1 q2 q3
      subst q1; subst q2; subst q3
      subst k1
      have hmul:n * y.sz≤cap * y.sz:=Nat.mul_le_mul_right _ hl'
      have hown:=R.own (E:=E) (S:=S) (O:=O) (p:=[1,d,0]) (o:=2) (l:=(y.es.take n).map V.strip2) (.inr rfl) hb' (by omega) (by rw [hn2]; exact hl') k4 (by rw [k5]; rfl) (fun _=>by omega) (by rw [k6,c5]; rfl)
       (fun i hi=>by rw [List.getElem_map,List.getElem_take,u0,List.length_map]; exact k8 i (by simp at hi; omega))
       (fun i j hi hj x hx=>by
        have hj':j < (y.es[i]'(by simp at hi; omega)).cells.length:=by
         rw [List.getElem_map,List.getElem_take,u0,List.length_map] at hj
         exact hj
        have e1:(((y.es.take n).map V.strip2)[i]).cells[j]=((y.es[i]'(by simp at hi; omega)).cells[j]'hj').strip1:=by
         simp only [List.getElem_map,List.getElem_take,u0]
        rw [e1]
        exact (k9 c5 i j (by simp at hi; omega) hj' x (by rw [←hx]; congr 1; omega)).strip)
      rw [hn2] at hown
      exact ⟨hown,hn2,.inr ⟨b,cap,c',et,fr,by rw [Nat.zero_mul],hb',by omega,k8,k9 c5⟩⟩
    obtain ⟨hsl,hn2,hold⟩:=hsl
    obtain ⟨x',w',E',O',g1,g2,g3,g4,g5,g6⟩:=kY (ty:=o.type) hty h.own (.inr rfl) c2 hsl (x:=a.eval x) (news:=news) (by rw [c2]; exact hsrc) (by rw [c2]; exact hel) (by rw [hn2]; exact c4)
    obtain ⟨t1,t2⟩:=h.killRefs d
    have hkb:D7 w E O w' E' O' [1,d]:=D7.up (r:=[0]) g3
    -- the new site
    have hnew:∃ S',(∀ s b,s9 S d none s=some b→S' s=some b)∧(∀ s,s≠d→S' s=S s)∧r7 w' E' S' O' d { y with es:=y.es.take n ++ m }∧R1 w' E' S' (.aref d 0 (n+m.length)) x':=by
     have hlen0:((y.es.take n).map V.strip2 ++ m).length=n+m.length:=by rw [List.length_append,hn2]
     have htk:(y.es.take n).length=n:=by rw [List.length_map] at hn2; exact hn2
     have hlen:(y.es.take n ++ m).length=n+m.length:=by rw [List.length_append,htk]
     cases g5 with
     | free g5=>
      cases g5 with
      | base g5=>
       generalize hq:(y.es.take n).map V.strip2 ++ m=q at g5 hlen0
       cases g5 with
       | slNil=>
        have h0:n+m.length=0:=by simpa using hlen0.symm
        have he0:y.es.take n ++ m=[]:=List.eq_nil_of_length_eq_zero (by omega)
        refine ⟨s9 S d none,fun _ _ h=>h,fun s hs=>by simp [s9,hs],?_,?_⟩
        ·unfold r7
         simp [s9,c5,he0]
        ·rw [h0]
         exact .arefNil
     | @own _ _ _ b off cap c' et fr ho' hb' hc' hl' hf' hE' h0' hO' hw' he'=>
      have hoff:=h0' rfl
      subst hoff
      have hmul:((y.es.take n).map V.strip2 ++ m).length * y.sz≤cap * y.sz:=Nat.mul_le_mul_right _ hl'
      rw [hlen0] at hmul
      have hpos:0 < y.sz:=by
       unfold N4 at hty
       split at hty
       ·rename_i e hT
        simp only [Bool.and_eq_true] at hty
        obtain ⟨⟨⟨_,hz0⟩,_⟩,_⟩:=hty
        rw [c2,nA hT]
        cases hq:P.cellsOf e with
        | zero=>rw [hq] at hz0; simp at hz0
        | succ n=>omega
       ·cases hty
      refine ⟨s9 S d (some (b,y.sz)),fun s q hs=>?_,fun s hs=>by simp [s9,hs],?_,?_⟩
      ·unfold s9 at hs ⊢
       split at hs
       ·cases hs
       ·rename_i e; rw [if_neg e]; exact hs
      ·unfold r7
       have:s9 S d (some (b,y.sz)) d=some (b,y.sz):=by simp [s9]
       rw [this]
       have hlt:∀ i,i < (y.es.take n ++ m).length→i < ((y.es.take n).map V.strip2 ++ m).length:=fun i hi=>by omega
       have hone:∀ i (hi:i < n) (h1:i < (y.es.take n ++ m).length),(y.es.take n ++ m)[i]=y.es[i]'(by omega):=fun i hi h1=>by
        rw [List.getElem_append_left (by omega),List.getElem_take]
       have htwo:∀ i (hi:¬ i < n) (h1:i < (y.es.take n ++ m).length) (h2:i < ((y.es.take n).map V.strip2 ++ m).length),(y.es.take n ++ m)[i]=((y.es.take n).map V.strip2 ++ m)[i]:=fun i hi h1 h2=>by
        rw [List.getElem_append_right (by omega),List.getElem_append_right (by omega)]
        simp only [htk,hn2]
       have hold1:∀ i (hi:i < n),(y.es[i]'(by omega)).cells.length=y.sz:=fun i hi=>by
        have:=hw' i (by omega)
        rw [List.getElem_append_left (by omega),List.getElem_map,List.getElem_take,u0,List.length_map] at this
        exact this
       refine ⟨rfl,hpos,c',et,fr,hb',hf',by rw [hE']; rfl,by rw [hO']; simp [c5],by show (y.es.take n ++ m).length * y.sz≤_; rw [hlen]; omega,fun i hi=>?_,fun _ i j hi hj z hz=>?_,fun hf=>absurd (show y.arr=true from c5) (by rw [show y.arr=false from hf]; simp)⟩
       ·by_cases hin:i < n
        ·show ((y.es.take n ++ m)[i]).cells.length=_
         rw [hone i hin hi]
         exact hold1 i hin
        ·show ((y.es.take n ++ m)[i]).cells.length=_
         rw [htwo i hin hi (hlt i hi)]
         exact hw' i (hlt i hi)
       ·change j < ((y.es.take n ++ m)[i]).cells.length at hj
        show RA w' E' O' _ (((y.es.take n ++ m)[i]).cells[j]) z
        by_cases hin:i < n
        ·rcases hold with h0 | ⟨b0,cap0,c0,et0,fr0,f1,f2,f3,f4,f5⟩
         ·omega
         ·have e1:=hone i hin hi
          have hj':j < (y.es[i]'(by omega)).cells.length:=by rw [←e1]; exact hj
          have hjs:j < y.sz:=by rw [hold1 i hin] at hj'; exact hj'
          have hk:i * y.sz+j < n * y.sz:=by
           have:(i+1) * y.sz≤n * y.sz:=Nat.mul_le_mul_right _ hin
           rw [Nat.add_mul] at this
           omega
          have hcell:=g6 b0 0 n cap0 f1 b 0 _ cap rfl (i * y.sz+j) (by rw [hn2]; exact hk)
          rw [Nat.zero_add,R7 hb',R7 f2,hz] at hcell
          have e2:((y.es.take n ++ m)[i]).cells[j]=(y.es[i]'(by omega)).cells[j]'hj':=by simp only [e1]
          rw [e2]
          exact (f5 i j (by omega) hj' z hcell.symm).mono g2.ext ⟨fun b' q hb0=>by
           obtain ⟨z1,z2,z3⟩:=g3 b' _ hb0 (fun hp=>by simp at hp)
           exact ⟨z1,z2,z3⟩⟩
        ·have e1:=htwo i hin hi (hlt i hi)
         have hj':j < (((y.es.take n).map V.strip2 ++ m)[i]'(hlt i hi)).cells.length:=by rw [←e1]; exact hj
         have e2:((y.es.take n ++ m)[i]).cells[j]=(((y.es.take n).map V.strip2 ++ m)[i]'(hlt i hi)).cells[j]'hj':=by simp only [e1]
         rw [e2]
         exact .free (he' i j (hlt i hi) hj' z (by rw [←hz]; congr 1; omega))
      ·have:=R1.aref (w:=w') (E:=E') (S:=s9 S d (some (b,y.sz))) (s:=d) (b:=b) (sz:=y.sz) (off:=0) (len:=n+m.length) (cap:=cap) (by simp [s9]) hb' (by omega) (by rw [←hlen0]; exact hl')
       rw [Nat.zero_mul] at this
       rw [hlen0]
       exact this
    obtain ⟨S',s1,s2,s3,s4⟩:=hnew
    have hrel:Rel G F { killRefs d st with σ:=put d { y with es:=y.es.take n ++ m } (killRefs d st).σ } a w' E' S' O':=by
     refine ⟨fun d' v' hl=>?_,fun s' y' hl=>?_,fun s' hl=>?_,h.size,g2.own,h.defers,fun s' q hq=>?_,h.glob.mono g2.ext⟩
     ·obtain ⟨x',q1,q2⟩:=t1 d' v' hl
      exact ⟨x',q1,q2.mono g2.ext s1 (hkb.kept bp)⟩
     ·simp only [s8] at hl
      split at hl
      ·rename_i e
       subst e
       obtain rfl:=Option.some.inj hl
       exact s3
      ·rename_i e
       exact (t2 s' y' e hl).mono g2.ext s1 (by rw [s2 s' e]; simp [s9,e]) (hkb.kept (aj e))
     ·simp only [s8] at hl
      split at hl
      ·cases hl
      ·rename_i e
       rw [s2 s' e]
       rw [aM] at hl
       cases hd:i6 s' st.σ with
       | none=>exact h.live s' hd
       | some u=>rw [hd] at hl; cases hl
     ·obtain ⟨q1,q2⟩:=h.par s' q hq
      have hne:s'≠d:=by intro e; subst e; have:st.n≤s':=q2; omega
      exact ⟨by rw [s2 s' hne]; exact q1,q2⟩
    unfold Oper.wp
    rw [hgo g1,Oper.upon_value]
    exact hn x' w' E' S' O' g2 (.cell (.one rfl (.free s4))) (hrel.unput o.dst)
   ·cases hv
  | _=>cases hv
end
section
variable {P:Program} {G:Glo} {w:World} {E:Bnd} {S F:Sit} {O:Own}
theorem Rel.congr {st st':St} {a:Act} (h:Rel G F st a w E S O) (h1:∀ d,i6 d st'.t=i6 d st.t) (h2:∀ d,i6 d st'.σ=i6 d st.σ) (h3:st'.n=st.n):Rel G F st' a w E S O:=
 ⟨fun d v hl=>h.tmps d v (by rw [←h1]; exact hl),fun s y hl=>h.sites s y (by rw [←h2]; exact hl),fun s hl=>h.live s (by rw [←h2]; exact hl),by rw [h3]; exact h.size,h.own,h.defers,(fun s q hq=>by rw [h3]; exact h.par s q hq),h.glob⟩
theorem rz {α:Type} (d k:Nat) (v:α) (l:List (Nat×α)):i6 d (put k v l)=i6 d (put k v (del k l)):=by
 rw [s8,s8,L9]
 split
 ·rfl
 ·rfl
theorem ef {st:St} {a:Act} (h:Rel G F st a w E S O) {d:Nat} (hd:i6 d st.σ=none) (q:Nat×Nat):∀ s b,S s=some b→s9 S d (some q) s=some b:=by
 intro s b hs
 have:s≠d:=by intro e; subst e; rw [h.live s hd] at hs; cases hs
 simp [s9,this,hs]
theorem Rel.newSiteF {st:St} {a:Act} {d:Nat} (f:Pos→Pos) (hfn:∀ q,¬ [0,d] <+: q→f q=q) (h:Rel G F { st with t:=del d st.t } a w E S O) (hn:d < st.n) (hd:i6 d st.σ=none) {u:V} {x:Value} {z:u6} {S':Sit} (hS:∀ s b,S s=some b→S' s=some b) (hS2:∀ s,s≠d→S' s=S s)
  (hu:RT w E S' (AE.relo f O) [0,d] u x) (hz:r7 w E S' (AE.relo f O) d z):
  Rel G F { st with t:=put d u st.t,σ:=put d z st.σ } (a.put (some d) x) w E S' (AE.relo f O):=by
 refine ⟨fun d' v' hl=>?_,fun s y hl=>?_,fun s hl=>?_,?_,W3 h.own _,h.defers,fun s q hq=>?_,h.glob⟩
 ·simp only [s8] at hl
  split at hl
  ·rename_i e
   subst e
   obtain rfl:=Option.some.inj hl
   exact ⟨x,by show (a.tmps.setIfInBounds _ _)[_]?=_; have:=h.size; simp at this; simp [this,hn],hu⟩
  ·rename_i e
   obtain ⟨x',h1,h2⟩:=h.tmps d' v' (by simp only [L9]; rw [if_neg e]; exact hl)
   exact ⟨x',by show (a.tmps.setIfInBounds _ _)[_]?=_; rw [Array.getElem?_setIfInBounds_ne (fun h=>e h.symm)]; exact h1,h2.mono (Ext.refl _ _) hS (I7 fun r=>hfn _ (aO e r))⟩
 ·simp only [s8] at hl
  split at hl
  ·rename_i e
   subst e
   obtain rfl:=Option.some.inj hl
   exact hz
  ·rename_i e
   exact (h.sites s y hl).mono (Ext.refl _ _) hS (hS2 s e) (I7 fun r=>hfn _ (K5 r))
 ·simp only [s8] at hl
  split at hl
  ·cases hl
  ·rename_i e
   rw [hS2 s e]
   exact h.live s hl
 ·show (a.tmps.setIfInBounds _ _).size=_
  simpa using h.size
 ·obtain ⟨q1,q2⟩:=h.par s q hq
  exact ⟨hS s q q1,q2⟩
theorem Rel.newSite {st:St} {a:Act} {d:Nat} (h:Rel G F { st with t:=del d st.t } a w E S O) (hn:d < st.n) (hd:i6 d st.σ=none) {u:V} {x:Value} {z:u6} {S':Sit} (hS:∀ s b,S s=some b→S' s=some b) (hS2:∀ s,s≠d→S' s=S s)
  (hu:RT w E S' (AE.relo (F9 [0,d] [1,d]) O) [0,d] u x) (hz:r7 w E S' (AE.relo (F9 [0,d] [1,d]) O) d z):
  Rel G F { st with t:=put d u st.t,σ:=put d z st.σ } (a.put (some d) x) w E S' (AE.relo (F9 [0,d] [1,d]) O):=
 Rel.newSiteF _ (fun _ hq=>B1 hq) h hn hd hS hS2 hu hz
theorem iC {d j:Nat} {q:Pos} (h:¬ [0,d] <+: q):¬ ([0,d] ++ [j]) <+: q:=fun h2=>h ((List.prefix_append [0,d] [j]).trans h2)
theorem Rel.cellSite {st:St} {a:Act} {d j sz:Nat} {cs es:List V} {x:Value} (h:Rel G F { st with t:=del d st.t } a w E S O) (hlt:d < st.n) (hlk:i6 d st.σ=none) (hr:RT w E S O [0,d] (.agg cs) x) (ho:oh j cs=some (sz,es)):
  ∃ S',Rel G F { st with t:=put d (.agg (cs.set j (.aref d 0 es.length))) st.t,σ:=put d ⟨true,sz,es⟩ st.σ } (a.put (some d) x) w E S' (AE.relo (F9 ([0,d] ++ [j]) [1,d,0]) O):=by
 unfold oh at ho
 split at ho
 ·rename_i sz' es' hj
  split at ho
  ·rename_i hc
   obtain ⟨rfl,rfl⟩:=Prod.mk.inj (Option.some.inj ho)
   obtain ⟨hpos,ht,hd⟩:=hc
   have hjl:j < cs.length:=by
    rcases Nat.lt_or_ge j cs.length with h' | h'
    ·exact h'
    ·rw [List.getElem?_eq_none h'] at hj; cases hj
   have hcj:cs[j]=.sl 2 sz' es':=by rw [List.getElem?_eq_getElem hjl] at hj; exact Option.some.inj hj
   have hfree:∀ i (hi:i < cs.length),i≠j→(cs[i]).free1 4=true:=by
    intro i hi hne
    rw [List.all_eq_true] at ht hd
    rcases Nat.lt_or_ge i j with h' | h'
    ·exact ht _ (by rw [List.mem_take_iff_getElem]; exact ⟨i,by omega,rfl⟩)
    ·exact hd _ (by
      rw [List.mem_iff_getElem]
      exact ⟨i - (j+1),by rw [List.length_drop]; omega,by rw [List.getElem_drop]; congr 1; omega⟩)
   cases hr with
   | cell hr=>
    cases hr with
    | one hv _=>cases hv
    | @agg _ xs hrc=>
     obtain ⟨hlen,hcell⟩:=hrc
     have hjx:j < xs.toList.length:=by omega
     have hR:=hcell j hjl hjx
     rw [hcj] at hR
     obtain ⟨y,hy⟩:∃ y,xs.toList[j]=y:=⟨_,rfl⟩
     rw [hy] at hR
     have rest:∀ {S':Sit},(∀ s b,S s=some b→S' s=some b)→R1 w E S' (.aref d 0 es'.length) y→RT w E S' (AE.relo (F9 ([0,d] ++ [j]) [1,d,0]) O) [0,d] (.agg (cs.set j (.aref d 0 es'.length))) (.agg xs):=by
      intro S' hS ha
      refine .cell (.agg ⟨by rw [List.length_set]; exact hlen,fun i hi hi'=>?_⟩)
      by_cases e:i=j
      ·subst e
       rw [List.getElem_set_self,hy]
       exact .free ha
      ·rw [List.getElem_set_ne (fun e2=>e e2.symm)]
       have hi2:i < cs.length:=by rw [List.length_set] at hi; exact hi
       exact .free (.base (lq (hcell i hi2 hi') (hfree i hi2 e)))
     cases hR with
     | free hR=>
      cases hR with
      | base hR=>
       cases hR with
       | slNil=>
        refine ⟨S,h.newSiteF _ (fun q hq=>B1 (iC hq)) hlt hlk (fun _ _ h=>h) (fun _ _=>rfl) (rest (fun _ _ h=>h) .arefNil) ?_⟩
        unfold r7
        rw [h.live d hlk]
        exact ⟨rfl,rfl⟩
     | @own _ _ _ b off cap c et fr ho' hb' hc' hl' hf' hE' h0' hO' hw' he'=>
      have hoff:=h0' rfl
      subst hoff
      have hmul:es'.length * sz'≤cap * sz':=Nat.mul_le_mul_right _ hl'
      have hS:=ef h hlk (b,sz')
      refine ⟨s9 S d (some (b,sz')),h.newSiteF _ (fun q hq=>B1 (iC hq)) hlt hlk hS (fun s hs=>by simp [s9,hs]) (rest hS ?_) ?_⟩
      ·have:=R1.aref (w:=w) (E:=E) (S:=s9 S d (some (b,sz'))) (s:=d) (b:=b) (sz:=sz') (off:=0) (len:=es'.length) (cap:=cap) (by simp [s9]) hb' (by omega) hl'
       rw [Nat.zero_mul] at this
       exact this
      ·unfold r7
       have:s9 S d (some (b,sz')) d=some (b,sz'):=by simp [s9]
       rw [this]
       refine ⟨rfl,hpos,c,et,fr,hb',hf',by rw [hE']; rfl,?_,by show es'.length * sz'≤_; omega,hw',fun _ i k hi hk z hz=>.free (he' i k hi hk z (by rw [←hz]; congr 1; omega)),fun hc=>Bool.noConfusion hc⟩
       simp only [AE.relo,hO',Option.map_some,if_true]
       have:=D5 ([0,d] ++ [j]) [1,d,0] []
       simp only [List.append_nil] at this
       exact congrArg some this
  ·cases ho
 ·cases ho
theorem Rel.ioSite {st:St} {a:Act} {d:Nat} (h:Rel G F { st with t:=del d st.t } a w E S O) (hlt:d < st.n) (hlk:i6 d st.σ=none) {e:V} {x:Value} (hr:RT1 w E S O [0,d] (.io e) x):
  ∃ S',Rel G F { st with t:=put d (.ptr d 0 0) st.t,σ:=put d ⟨false,e.cells.length,[e]⟩ st.σ } (a.put (some d) x) w E S' (AE.relo (F9 [0,d] [1,d]) O):=by
 cases hr with
 | one hv hr=>exact absurd rfl ((E6 hr).2.2 _)
 | @io _ b c et fr hb hfr hE hO hc hn=>
  have hsz:e.cells.length=c.size:=by simpa using hc.1
  refine ⟨s9 S d (some (b,e.cells.length)),h.newSite hlt hlk (ef h hlk _) (fun s hs=>by simp [s9,hs]) ?_ ?_⟩
  ·have:=R1.ptr (w:=w) (E:=E) (S:=s9 S d (some (b,e.cells.length))) (s:=d) (b:=b) (sz:=e.cells.length) (i:=0) (off:=0) (by simp [s9])
   rw [Nat.zero_mul] at this
   exact .cell (.one rfl (.free this))
  ·unfold r7
   have:s9 S d (some (b,e.cells.length)) d=some (b,e.cells.length):=by simp [s9]
   rw [this]
   refine ⟨rfl,by omega,c,et,fr,hb,hfr,hE,?_,by simp; omega,fun i hi=>?_,fun hc=>Bool.noConfusion hc,fun _=>⟨rfl,hsz.symm,fun i j hi hj y hy=>?_⟩⟩
   ·simp only [AE.relo,hO,Option.map_some]
    exact congrArg some (D5 [0,d] [1,d] [])
   ·have:i=0:=by simpa using hi
    subst this; rfl
   ·have:i=0:=by simpa using hi
    subst this
    rw [Nat.zero_mul,Nat.zero_add] at hy
    have hj':j < c.size:=by
     rcases Nat.lt_or_ge j c.size with h' | h'
     ·exact h'
     ·rw [Array.getElem?_eq_none h'] at hy; cases hy
    rw [Array.getElem?_eq_getElem hj'] at hy
    obtain rfl:=Option.some.inj hy
    have:=hc.2 j hj (by simpa using hj')
    rw [Array.getElem_toList (xs:=c)] at this
    exact (this.mono (Ext.refl _ _) (ef h hlk _) ⟨fun b q hb=>⟨rfl,rfl,hb⟩⟩).reloc (fun b' q hb'=>by
     simp only [AE.relo,hb',Option.map_some]
     exact congrArg some (D5 [0,d] [1,d] ([1] ++ [j] ++ q)))
theorem pt {st st2:St} {a:Act} {oa:A7} {dst:Option Tmp} {v:V} {x:Value} (h:Rel G F (AE.unput dst st) a w E S O) (hr:RT w E S O (E4 dst) v x) (hf:H6 oa dst v st=some st2):
  ∃ E' S' O',r8 w E O w E' O'∧Rel G F st2 (a.put dst x) w E' S' O':=by
 cases dst with
 | none=>
  obtain rfl:=Option.some.inj hf
  exact ⟨E,S,O,r8.refl h.own,h⟩
 | some d=>
  have hfit:∀ (hd:d < st.n),∃ E' S' O',r8 w E O w E' O'∧Rel G F { st with t:=put d (fit oa.keep v) st.t } (a.put (some d) x) w E' S' O':=by
   intro hd
   obtain ⟨E',h1,h2⟩:=qM oa.keep hr
   refine ⟨E',S,O,h1.framed h.own,?_⟩
   exact (Rel.setTmp (st:={ st with t:=del d st.t }) h h1.ext h1.keptBut h.own h2 hd).congr (fun d'=>rz d' d _ st.t) (fun _=>rfl) rfl
  simp only [H6] at hf
  cases hd:Nat.blt d st.n with
  | false=>rw [hd] at hf; cases hf
  | true=>
   rw [hd] at hf
   simp only [cond_true] at hf
   have hlt:d < st.n:=Nat.le_of_ble_eq_true hd
   split at hf
   ·rename_i e
    cases hno:oa.noio with
    | true=>rw [hno] at hf; cases hf
    | false=>
    rw [hno] at hf
    simp only [cond_false] at hf
    cases hlk:i6 d st.σ with
    | some y=>rw [hlk] at hf; cases hf
    | none=>
     rw [hlk] at hf
     obtain rfl:=Option.some.inj hf
     cases hr with
     | cell hr=>
      cases hr with
      | one hv hr=>exact absurd rfl ((E6 hr).2.2 _)
      | @io _ b c et fr hb hfr hE hO hc hn=>
       obtain ⟨S',g1⟩:=h.ioSite hlt hlk (.io hb hfr hE hO hc hn)
       exact ⟨E,S',_,A1 h.own (F9 [0,d] [1,d]),g1⟩
   ·rename_i sz es
    cases hst:(oa.site && Nat.blt 0 sz) with
    | false=>
     rw [hst] at hf
     obtain rfl:=Option.some.inj hf
     exact hfit hlt
    | true=>
     rw [hst] at hf
     simp only [cond_true] at hf
     simp only [Bool.and_eq_true] at hst
     have hpos:0 < sz:=Nat.le_of_ble_eq_true hst.2
     cases hlk:i6 d st.σ with
     | some y=>rw [hlk] at hf; cases hf
     | none=>
      rw [hlk] at hf
      obtain rfl:=Option.some.inj hf
      have hr':=hr.of_tmp rfl (by simp) (by simp)
      cases hr' with
      | free hr'=>
       cases hr' with
       | base hr'=>
        cases hr' with
        | slNil=>
         refine ⟨E,S,_,A1 h.own (F9 [0,d] [1,d]),h.newSite hlt hlk (fun _ _ h=>h) (fun _ _=>rfl) (.cell (.one rfl (.free .arefNil))) ?_⟩
         unfold r7
         rw [h.live d hlk]
         exact ⟨rfl,rfl⟩
      | @own _ _ _ b off cap c et fr ho' hb' hc' hl' hf' hE' h0' hO' hw' he'=>
       have hoff:=h0' rfl
       subst hoff
       have hmul:es.length * sz≤cap * sz:=Nat.mul_le_mul_right _ hl'
       refine ⟨E,s9 S d (some (b,sz)),_,A1 h.own (F9 [0,d] [1,d]),h.newSite hlt hlk (ef h hlk _) (fun s hs=>by simp [s9,hs]) ?_ ?_⟩
       ·have:=R1.aref (w:=w) (E:=E) (S:=s9 S d (some (b,sz))) (s:=d) (b:=b) (sz:=sz) (off:=0) (len:=es.length) (cap:=cap) (by simp [s9]) hb' (by omega) hl'
        rw [Nat.zero_mul] at this
        exact .cell (.one rfl (.free this))
       ·unfold r7
        have:s9 S d (some (b,sz)) d=some (b,sz):=by simp [s9]
        rw [this]
        refine ⟨rfl,hpos,c,et,fr,hb',hf',by rw [hE']; rfl,?_,by show es.length * sz≤_; omega,hw',fun _ i j hi hj z hz=>.free (he' i j hi hj z (by rw [←hz]; congr 1; omega)),fun hc=>Bool.noConfusion hc⟩
        simp only [AE.relo,hO',Option.map_some,if_true]
        exact congrArg some (D5 [0,d] [1,d] [0])
   ·rename_i cs
    cases hst:oa.site with
    | false=>
     rw [hst] at hf
     obtain rfl:=Option.some.inj hf
     exact hfit hlt
    | true=>
     rw [hst] at hf
     simp only [cond_true] at hf
     obtain ⟨⟨sz,es⟩,ho,hf⟩:=bind_some hf
     cases hlk:i6 d st.σ with
     | some y=>rw [hlk] at hf; cases hf
     | none=>
      rw [hlk] at hf
      obtain rfl:=Option.some.inj hf
      obtain ⟨S',g1⟩:=h.cellSite hlt hlk hr ho
      exact ⟨E,S',_,A1 h.own _,g1⟩
   ·obtain rfl:=Option.some.inj hf
    exact hfit hlt
end
section
variable {P:Program} {G:Glo} {w:World} {E:Bnd} {S F:Sit} {O:Own}
theorem fD {s j d:Nat} (r:Pos):¬ ([1,s,1] ++ [j]) <+: [0,d] ++ r:=by
 simp only [List.cons_append,List.nil_append,List.cons_prefix_cons]
 intro hh
 exact absurd hh.1 (by decide)
theorem ei {s s' j:Nat} (h:s'≠s) (r:Pos):¬ ([1,s,1] ++ [j]) <+: [1,s'] ++ r:=by
 simp only [List.cons_append,List.nil_append,List.cons_prefix_cons]
 intro hh
 exact h hh.2.1.symm
theorem eh {s i j:Nat} (h:i≠j) (r:Pos):¬ ([1,s,1] ++ [j]) <+: [1,s,1] ++ [i] ++ r:=by
 simp only [List.cons_append,List.nil_append,List.cons_prefix_cons]
 intro hh
 exact h hh.2.2.2.1.symm
theorem oc {d d':Nat} (r:Pos):¬ [1,d] <+: [0,d'] ++ r:=by
 simp only [List.cons_append,List.nil_append,List.cons_prefix_cons]
 intro hh
 exact absurd hh.1 (by decide)
theorem bE {d s:Nat} (h:s≠d) (r:Pos):¬ [1,d] <+: [1,s] ++ r:=by
 simp only [List.cons_append,List.nil_append,List.cons_prefix_cons]
 intro hh
 exact h hh.2.1.symm
theorem dx {s:Nat} {x:u6} {cs:List V} (h:r7 w E S O s x) (ha:x.arr=false) (he:x.es=[.agg cs]):
  ∃ b c e fr,S s=some (b,x.sz)∧0 < x.sz∧w.heap[b]?=some (.cells c e fr)∧jd fr c.size∧E b=some 0∧O b=some [1,s]∧cs.length=x.sz∧c.size=x.sz∧∀ j (hj:j < cs.length) y,c[j]?=some y→R w E S O ([1,s,1] ++ [j]) (cs[j]) y:=by
 unfold r7 at h
 cases hS:S s with
 | none=>
  rw [hS] at h
  rw [ha] at h
  cases h.2
 | some q=>
  obtain ⟨b,sz⟩:=q
  rw [hS] at h
  obtain ⟨h1,h2,c,e,fr,h3,h4,h5,h6,h7,h8,h9,h10⟩:=h
  subst h1
  obtain ⟨g1,g2,g3⟩:=h10 ha
  have hl:cs.length=x.sz:=by
   have:=h8 0 (by rw [he]; simp)
   simpa [he,V.cells] using this
  refine ⟨b,c,e,fr,rfl,h2,h3,h4,h5,by rw [h6,ha]; rfl,hl,g2,fun j hj y hy=>?_⟩
  have:=g3 0 j (by rw [he]; simp) (by simpa [he,V.cells] using hj) y (by rw [←hy]; congr 1; omega)
  simpa [he,V.cells] using this
theorem gQ {s b sz:Nat} {cs:List V} {c:Array Value} {e:TypeId} {fr:Nat×Nat} (hS:S s=some (b,sz)) (h0:0 < sz) (hb:w.heap[b]?=some (.cells c e fr)) (hf:jd fr c.size) (hE:E b=some 0) (hO:O b=some [1,s]) (hl:cs.length=sz) (hc:c.size=sz)
  (h:∀ j (hj:j < cs.length) y,c[j]?=some y→R w E S O ([1,s,1] ++ [j]) (cs[j]) y):r7 w E S O s ⟨false,sz,[.agg cs]⟩:=by
 unfold r7
 rw [hS]
 refine ⟨rfl,h0,c,e,fr,hb,hf,hE,hO,by simp; omega,fun i hi=>?_,fun hc=>Bool.noConfusion hc,fun _=>⟨rfl,hc,fun i j hi hj y hy=>?_⟩⟩
 ·have:i=0:=by simpa using hi
  subst this
  simpa [V.cells] using hl
 ·have:i=0:=by simpa using hi
  subst this
  simp only [List.getElem_cons_zero,V.cells] at hj ⊢
  exact h j hj y (by rw [←hy]; congr 1; omega)
theorem Rel.openG {st st2:St} {a:Act} {s j d:Nat} (h:Rel G F st a w E S O) (ho:AE.openG s j d st=some st2):∃ S' O',r8 w E O w E O'∧Rel G F st2 a w E S' O':=by
 unfold AE.openG at ho
 obtain ⟨x,hx,ho⟩:=bind_some ho
 split at ho
 ·rename_i cs harr hes
  split at ho
  ·rename_i sz l hj
   cases hlt:Nat.blt d st.n with
   | false=>rw [hlt] at ho; cases ho
   | true=>
   rw [hlt] at ho
   simp only [cond_true] at ho
   cases hd:i6 d st.σ with
   | some y=>rw [hd] at ho; cases ho
   | none=>
   rw [hd] at ho
   obtain rfl:=Option.some.inj ho
   have hdn:d < st.n:=Nat.le_of_ble_eq_true hlt
   have hds:s≠d:=by intro e; subst e; rw [hd] at hx; cases hx
   have hjl:j < cs.length:=by
    rcases Nat.lt_or_ge j cs.length with h' | h'
    ·exact h'
    ·rw [List.getElem?_eq_none h'] at hj; cases hj
   have hcj:cs[j]=.sl 3 sz l:=by rw [List.getElem?_eq_getElem hjl] at hj; exact Option.some.inj hj
   obtain ⟨b,c,e,fr,g1,g2,g3,g4,g5,g6,g7,g8,g9⟩:=dx (h.sites s x hx) harr hes
   obtain ⟨y,hy⟩:∃ y,c[j]?=some y:=⟨c[j]'(by omega),Array.getElem?_eq_getElem (by omega)⟩
   have hR:=g9 j hjl y hy
   rw [hcj] at hR
   have main:∀ (S':Sit),(∀ s b,S s=some b→S' s=some b)→(∀ s,s≠d→S' s=S s)→R1 w E S' (.aref d 0 l.length) y→r7 w E S' (AE.relo (F9 ([1,s,1] ++ [j]) [1,d]) O) d ⟨true,sz,l⟩→
     Rel G F { st with σ:=put d ⟨true,sz,l⟩ (put s { x with es:=[.agg (cs.set j (.aref d 0 l.length))] } st.σ) } a w E S' (AE.relo (F9 ([1,s,1] ++ [j]) [1,d]) O):=by
    intro S' hS hS2 ha hz
    refine ⟨fun d' v hl=>?_,fun s' y' hl=>?_,fun s' hl=>?_,h.size,W3 h.own _,h.defers,fun s' q hq=>?_,h.glob⟩
    ·obtain ⟨x',k1,k2⟩:=h.tmps d' v hl
     exact ⟨x',k1,k2.mono (Ext.refl _ _) hS (I7 fun r=>B1 (fD r))⟩
    ·simp only [s8] at hl
     split at hl
     ·rename_i e1
      subst e1
      obtain rfl:=Option.some.inj hl
      exact hz
     ·split at hl
      ·rename_i e1 e2
       subst e2
       obtain rfl:=Option.some.inj hl
       have hxe:({ x with es:=[.agg (cs.set j (.aref d 0 l.length))] }:u6)=⟨false,x.sz,[.agg (cs.set j (.aref d 0 l.length))]⟩:=by
        cases x
        simp only at harr
        rw [harr]
       rw [hxe]
       refine gQ (hS _ _ g1) g2 g3 g4 g5 ?_ (by rw [List.length_set]; exact g7) g8 (fun i hi z hz'=>?_)
       ·simp only [AE.relo,g6,Option.map_some]
        refine congrArg some (B1 ?_)
        simp [List.cons_prefix_cons]
       ·by_cases e3:i=j
        ·subst e3
         rw [List.getElem_set_self]
         rw [hy] at hz'
         obtain rfl:=Option.some.inj hz'
         exact .free ha
        ·rw [List.getElem_set_ne (fun e=>e3 e.symm)]
         have hi2:i < cs.length:=by rw [List.length_set] at hi; exact hi
         exact (g9 i hi2 z hz').mono (Ext.refl _ _) hS (I7 fun r=>B1 (eh e3 r))
      ·rename_i e1 e2
       exact (h.sites s' y' hl).mono (Ext.refl _ _) hS (hS2 s' e1) (I7 fun r=>B1 (ei e2 r))
    ·simp only [s8] at hl
     split at hl
     ·cases hl
     ·split at hl
      ·cases hl
      ·rename_i e1 e2
       rw [hS2 s' e1]
       exact h.live s' hl
    ·obtain ⟨q1,q2⟩:=h.par s' q hq
     exact ⟨hS s' q q1,q2⟩
   cases hR with
   | free hR=>
    cases hR with
    | base hR=>cases hR with
     | slNil=>
      refine ⟨S,_,A1 h.own _,main S (fun _ _ h=>h) (fun _ _=>rfl) .arefNil ?_⟩
      unfold r7
      rw [h.live d hd]
      exact ⟨rfl,rfl⟩
   | own ho'=>omega
   | @arr _ _ b' cap c' et fr' hs' hb' hc' hl' hf' hE' hO' hw' he'=>
    have hS:=ef h hd (b',sz)
    have hmul:l.length * sz≤cap * sz:=Nat.mul_le_mul_right _ hl'
    refine ⟨s9 S d (some (b',sz)),_,A1 h.own _,main _ hS (fun s' e=>by simp [s9,e]) ?_ ?_⟩
    ·have:=R1.aref (w:=w) (E:=E) (S:=s9 S d (some (b',sz))) (s:=d) (b:=b') (sz:=sz) (off:=0) (len:=l.length) (cap:=cap) (by simp [s9]) hb' (by omega) hl'
     rw [Nat.zero_mul] at this
     exact this
    ·unfold r7
     have:s9 S d (some (b',sz)) d=some (b',sz):=by simp [s9]
     rw [this]
     refine ⟨rfl,hs',c',et,fr',hb',hf',hE',?_,by show l.length * sz≤_; omega,hw',fun _ i k hi hk z hz=>?_,fun hc=>Bool.noConfusion hc⟩
     ·simp only [AE.relo,hO',Option.map_some,if_true]
      exact congrArg some (D5 _ _ [0])
     ·exact (he' i k hi hk z hz).reloc (fun b2 q hb2=>by
       simp only [AE.relo,hb2,Option.map_some]
       have:=D5 ([1,s,1] ++ [j]) [1,d] ([1] ++ [i * sz+k] ++ q)
       simp only [List.append_assoc,List.cons_append,List.nil_append] at this ⊢
       exact congrArg some this)
  ·cases ho
 ·cases ho
theorem Rel.shutG {st st2:St} {a:Act} {s j d:Nat} (h:Rel G F st a w E S O) (ho:AE.shutG s j d st=some st2):∃ S' O',r8 w E O w E O'∧Rel G F st2 a w E S' O':=by
 unfold AE.shutG at ho
 obtain ⟨x,hx,ho⟩:=bind_some ho
 obtain ⟨y,hy,ho⟩:=bind_some ho
 split at ho
 ·rename_i cs harr hes
  split at ho
  ·rename_i d' n hj
   split at ho
   ·rename_i hc
    obtain ⟨rfl,hya,hyl,hdn,hsd,hysz⟩:=hc
    obtain ⟨x1,hx1,ho⟩:=bind_some ho
    have h1:=h.dropAny d' (h.notPar hdn)
    have hnd:=(ai d' st).1
    split at ho
    ·rename_i cs1 harr1 hes1
     obtain rfl:=Option.some.inj ho
     have hjl:j < cs.length:=by
      rcases Nat.lt_or_ge j cs.length with h' | h'
      ·exact h'
      ·rw [List.getElem?_eq_none h'] at hj; cases hj
     have hcj:cs[j]=.aref d' 0 n:=by rw [List.getElem?_eq_getElem hjl] at hj; exact Option.some.inj hj
     obtain ⟨b,c,e,fr,g1,g2,g3,g4,g5,g6,g7,g8,g9⟩:=dx (h.sites s x hx) harr hes
     obtain ⟨b1,c1,e1,fr1,k1,k2,k3,k4,k5,k6,k7,k8,k9⟩:=dx (h1.sites s x1 hx1) harr1 hes1
     have hSs:s9 S d' none s=S s:=by simp [s9,hsd]
     have hq:=k1
     rw [hSs,g1] at hq
     obtain ⟨rfl,hsz⟩:=Prod.mk.inj (Option.some.inj hq)
     rw [g3] at k3
     obtain ⟨rfl,rfl,rfl⟩:c=c1∧e=e1∧fr=fr1:=by
      injection k3 with k3
      injection k3 with q1 q2 q3
      exact ⟨q1,q2,q3⟩
     obtain ⟨z,hz⟩:∃ z,c[j]?=some z:=⟨c[j]'(by omega),Array.getElem?_eq_getElem (by omega)⟩
     have hR:=g9 j hjl z hz
     rw [hcj] at hR
     have hcell:R w E (s9 S d' none) (AE.relo (F9 [1,d'] ([1,s,1] ++ [j])) O) ([1,s,1] ++ [j]) (.sl 3 y.sz y.es) z:=by
      have hok:=h.sites d' y hy
      unfold r7 at hok
      cases hR with
      | free hR=>cases hR with
       | base hR=>cases hR
       | arefNil=>
        have:y.es=[]:=List.length_eq_zero_iff.1 hyl
        rw [this]
        exact .free (.base (.slNil _ _))
       | @aref _ b2 sz2 _ _ cap c2 e2 fr2 m1 m2 m3 m4=>
        rw [m1] at hok
        obtain ⟨n1,n2,c3,e3,fr3,n3,n4,n5,n6,n7,n8,n9,_⟩:=hok
        rw [m2] at n3
        obtain ⟨rfl,rfl,rfl⟩:c2=c3∧e2=e3∧fr2=fr3:=by
         injection n3 with n3
         injection n3 with q1 q2 q3
         exact ⟨q1,q2,q3⟩
        subst n1
        subst hyl
        rw [Nat.zero_mul]
        refine .arr n2 m2 (by omega) m4 n4 n5 ?_ n8 (fun i k hi hk u hu=>?_)
        ·rw [hya] at n6
         simp only [AE.relo,n6,if_true,Option.map_some]
         exact congrArg some (D5 [1,d'] _ [0])
        ·exact (n9 hya i k hi hk u hu).reloc (fun b3 q hb3=>by
          simp only [AE.relo,hb3,Option.map_some]
          have:=D5 [1,d'] ([1,s,1] ++ [j]) ([1] ++ [i * y.sz+k] ++ q)
          simp only [List.append_assoc,List.cons_append,List.nil_append] at this ⊢
          exact congrArg some this)
     refine ⟨s9 S d' none,AE.relo (F9 [1,d'] ([1,s,1] ++ [j])) O,A1 h.own _,fun d2 v hl=>?_,fun s' y' hl=>?_,fun s' hl=>?_,h1.size,W3 h.own _,h1.defers,h1.par,h1.glob⟩
     ·obtain ⟨x',m1,m2⟩:=h1.tmps d2 v hl
      exact ⟨x',m1,m2.mono (Ext.refl _ _) (fun _ _ h=>h) (I7 fun r=>B1 (oc r))⟩
     ·simp only [s8] at hl
      split at hl
      ·rename_i e2
       subst e2
       obtain rfl:=Option.some.inj hl
       have hxe:({ x1 with es:=[.agg (cs1.set j (.sl 3 y.sz y.es))] }:u6)=⟨false,x1.sz,[.agg (cs1.set j (.sl 3 y.sz y.es))]⟩:=by
        cases x1
        simp only at harr1
        rw [harr1]
       rw [hxe]
       refine gQ k1 k2 g3 g4 g5 ?_ (by rw [List.length_set]; exact k7) k8 (fun i hi u hu=>?_)
       ·simp only [AE.relo,g6,Option.map_some]
        refine congrArg some (B1 ?_)
        have:=bE (d:=d') hsd []
        simpa using this
       ·by_cases e3:i=j
        ·subst e3
         rw [List.getElem_set_self]
         rw [hz] at hu
         obtain rfl:=Option.some.inj hu
         exact hcell
        ·rw [List.getElem_set_ne (fun e=>e3 e.symm)]
         have hi2:i < cs1.length:=by rw [List.length_set] at hi; exact hi
         exact (k9 i hi2 u hu).mono (Ext.refl _ _) (fun _ _ h=>h) (I7 fun r=>B1 (by
          have:=bE (d:=d') hsd ([1] ++ [i] ++ r)
          simpa using this))
      ·rename_i e2
       have hne:s'≠d':=by intro e3; subst e3; rw [hnd] at hl; cases hl
       exact (h1.sites s' y' hl).mono (Ext.refl _ _) (fun _ _ h=>h) rfl (I7 fun r=>B1 (bE hne r))
     ·simp only [s8] at hl
      split at hl
      ·cases hl
      ·exact h1.live s' hl
    ·cases ho
   ·cases ho
  ·cases ho
 ·cases ho
theorem Rel.dullG {st st2:St} {a:Act} {s j:Nat} (h:Rel G F st a w E S O) (ho:AE.dullG s j st=some st2):∃ E',r8 w E O w E' O∧Rel G F st2 a w E' S O:=by
 unfold AE.dullG at ho
 obtain ⟨x,hx,ho⟩:=bind_some ho
 split at ho
 ·rename_i cs harr hes
  split at ho
  ·rename_i v hj
   obtain rfl:=Option.some.inj ho
   have hjl:j < cs.length:=by
    rcases Nat.lt_or_ge j cs.length with h' | h'
    ·exact h'
    ·rw [List.getElem?_eq_none h'] at hj; cases hj
   have hcj:cs[j]=v:=by rw [List.getElem?_eq_getElem hjl] at hj; exact Option.some.inj hj
   obtain ⟨b,c,e,fr,g1,g2,g3,g4,g5,g6,g7,g8,g9⟩:=dx (h.sites s x hx) harr hes
   obtain ⟨y,hy⟩:∃ y,c[j]?=some y:=⟨c[j]'(by omega),Array.getElem?_eq_getElem (by omega)⟩
   have hR:=g9 j hjl y hy
   rw [hcj] at hR
   obtain ⟨E',r1,r2⟩:=hR.lower (k:=0) (by omega)
   have hEb:E' b=some 0:=by
    rw [r1.other b (fun q hq hp=>?_)]
    ·exact g5
    ·rw [g6] at hq
     obtain rfl:=Option.some.inj hq
     have:=hp.length_le
     simp at this
   refine ⟨E',r1.framed h.own,fun d v' hl=>?_,fun s' y' hl=>?_,fun s' hl=>?_,h.size,h.own,h.defers,h.par,h.glob.mono r1.ext⟩
   ·obtain ⟨x',k1,k2⟩:=h.tmps d v' hl
    exact ⟨x',k1,k2.mono r1.ext (fun _ _ h=>h) (r1.kept fun r=>fD r)⟩
   ·simp only [s8] at hl
    split at hl
    ·rename_i e2
     subst e2
     obtain rfl:=Option.some.inj hl
     have hxe:({ x with es:=[.agg (cs.set j (v.lower 0))] }:u6)=⟨false,x.sz,[.agg (cs.set j (v.lower 0))]⟩:=by
      cases x
      simp only at harr
      rw [harr]
     rw [hxe]
     refine gQ g1 g2 g3 g4 hEb g6 (by rw [List.length_set]; exact g7) g8 (fun i hi z hz'=>?_)
     by_cases e3:i=j
     ·subst e3
      rw [List.getElem_set_self]
      rw [hy] at hz'
      obtain rfl:=Option.some.inj hz'
      exact r2
     ·rw [List.getElem_set_ne (fun e=>e3 e.symm)]
      have hi2:i < cs.length:=by rw [List.length_set] at hi; exact hi
      exact (g9 i hi2 z hz').mono r1.ext (fun _ _ h=>h) (r1.kept fun r=>eh e3 r)
    ·rename_i e2
     exact (h.sites s' y' hl).mono r1.ext (fun _ _ h=>h) rfl (r1.kept fun r=>ei e2 r)
   ·simp only [s8] at hl
    split at hl
    ·cases hl
    ·exact h.live s' hl
  ·cases ho
 ·cases ho
theorem Rel.ghostG {late:Bool}:∀ (gl:List (Nat×Nat×Nat×Nat)) {st st2:St} {a:Act} {E:Bnd} {S:Sit} {O:Own},Rel G F st a w E S O→AE.ghostG late gl st=some st2→∃ E' S' O',r8 w E O w E' O'∧Rel G F st2 a w E' S' O'
 | [],st,st2,a,E,S,O,h,hg=>by
  obtain rfl:=Option.some.inj hg
  exact ⟨E,S,O,r8.refl h.own,h⟩
 | (k,s,j,d) :: r,st,st2,a,E,S,O,h,hg=>by
  unfold AE.ghostG at hg
  obtain ⟨st1,h1,h2⟩:=bind_some hg
  have step:∃ E' S' O',r8 w E O w E' O'∧Rel G F st1 a w E' S' O':=by
   cases hc:(Nat.beq k 1 == late) with
   | false=>
    rw [hc] at h1
    obtain rfl:=Option.some.inj h1
    exact ⟨E,S,O,r8.refl h.own,h⟩
   | true=>
    rw [hc,cond_true] at h1
    cases hk:Nat.beq k 0 with
    | true=>
     rw [hk,cond_true] at h1
     obtain ⟨S',O',g⟩:=h.openG h1
     exact ⟨E,S',O',g⟩
    | false=>
     rw [hk,cond_false] at h1
     cases hk3:Nat.beq k 3 with
     | true=>
      rw [hk3,cond_true] at h1
      obtain ⟨E',g⟩:=h.dullG h1
      exact ⟨E',S,O,g⟩
     | false=>
      rw [hk3,cond_false] at h1
      obtain ⟨S',O',g⟩:=h.shutG h1
      exact ⟨E,S',O',g⟩
  obtain ⟨E1,S1,O1,f1,r1⟩:=step
  obtain ⟨E2,S2,O2,f2,r2⟩:=Rel.ghostG r r1 h2
  exact ⟨E2,S2,O2,f1.trans f2,r2⟩
end
section
variable {P:Program} {G:Glo} {w:World} {E:Bnd} {S F:Sit} {O:Own}
theorem sO {σ:List (Nat×u6)} {d:Nat} {v v':V} {l:Bool} (h:L8 σ d v=some (v',l)):v'.isOut=false:=by
 rcases uF h with h | ⟨c,rfl⟩ | ⟨z,l,rfl⟩ | ⟨f,a,b,rfl⟩
 ·cases v' with
  | io e=>simp [V.free,V.cells,V.free1] at h
  | sl o sz es=>
   simp only [V.free,V.cells,List.all_cons,List.all_nil,Bool.and_true,V.free1,Bool.or_eq_true,Bool.and_eq_true] at h
   rcases h with h | ⟨h,_⟩
   ·have:=Nat.eq_of_beq_eq_true h
    subst this
    rfl
   ·have:=Nat.eq_of_beq_eq_true h
    subst this
    rfl
  | _=>rfl
 ·rfl
 ·rfl
 ·rfl
theorem pT {s:Nat} {e e':V} (h:Bl s e=some e'):∃ t r l,e=.agg [.tp s t,.row r l]∧e'=.agg [.tp 0 t,.row r l]:=by
 unfold Bl at h
 split at h
 ·rename_i k t r l
  cases hb:Nat.beq s k with
  | false=>rw [hb] at h; cases h
  | true=>
   rw [hb] at h
   obtain rfl:=Nat.eq_of_beq_eq_true hb
   exact ⟨t,r,l,rfl,(Option.some.inj h).symm⟩
 ·cases h
theorem R.row_any {S':Sit} {p:Pos} {r:Nat} {l:List UInt8} {x:Value} (h:R w E S O p (.row r l) x):R w E S' O p (.row r l) x:=by
 cases h with
 | free h=>cases h with
  | base h=>cases h
 | rowNil=>exact .rowNil
 | row hb hf hl hm hc hE hO ht=>exact .row hb hf hl hm hc hE hO ht
theorem R.tp_of {p:Pos} {s t:Nat} {x:Value} (h:R w E S O p (.tp s t) x):∃ b sz c fr,S s=some (b,sz)∧w.heap[b]?=some (.cells c t fr)∧(x=.pointer none∨x=.pointer (some ⟨b,0,none⟩)):=by
 cases h with
 | free h=>cases h with
  | base h=>cases h
  | tp h1 h2 h3=>exact ⟨_,_,_,_,h1,h2,h3⟩
theorem Ad {p:Pos} {e:V} {xs:List Value} (h:RC w E noS O p e.cells xs) (s:Nat):fE s e=e:=by
 unfold fE
 split
 ·exfalso
  have h1:=h.1
  have:=h.2 0 (by simp [V.cells]) (by rw [←h1]; simp [V.cells])
  simp only [V.cells,List.getElem_cons_zero] at this
  obtain ⟨_,_,_,_,h2,_⟩:=this.tp_of
  cases h2
 ·rfl
theorem RTA.take {p:Pos} {e:V} {s b sz:Nat} (h:RTA w E O p (.io e) (.pointer (some ⟨b,0,none⟩))) (hS:S s=some (b,sz)):
  ∃ c et fr,w.heap[b]?=some (.cells c et fr)∧jd fr c.size∧E b=some 0∧O b=some p∧0 < c.size∧(fE s e).cells.length=e.cells.length∧RC w E S O (p ++ [1]) (fE s e).cells c.toList:=by
 cases h with
 | rt h=>
  cases h with
  | cell h=>cases h with
   | one hv h=>exact absurd rfl ((E6 h).2.2 _)
   | @io _ _ c et fr hb hf hE hO hrc hn=>
    rw [Ad hrc s]
    exact ⟨c,et,fr,hb,hf,hE,hO,hn,rfl,hrc.mono (Ext.refl _ _) (fun _ _ h=>by cases h) ⟨fun b q hb=>⟨rfl,rfl,hb⟩⟩⟩
 | bld h=>
  cases h with
  | cell h=>cases h with
   | one hv h=>exact absurd rfl ((E6 h).2.2 _)
   | @io _ _ c et fr hb hf hE hO hrc hn=>
    refine ⟨c,et,fr,hb,hf,hE,hO,hn,rfl,?_⟩
    obtain ⟨h1,h2⟩:=hrc
    refine ⟨h1,fun j hj hj'=>?_⟩
    match j,hj with
    | 0,_=>
     obtain ⟨b',sz',c',fr',k1,k2,k3⟩:=(h2 0 (by simp [V.cells]) hj').tp_of
     have:b'=b:=by simp [zV] at k1; exact k1.1.symm
     subst this
     exact .free (.tp hS k2 k3)
    | 1,_=>exact (h2 1 (by simp [V.cells]) hj').row_any
theorem RTA.give {p q:Pos} {s b sz t r:Nat} {l:List UInt8} {O':Own} {c:Array Value} {et:TypeId} {fr:Nat×Nat} (hS:S s=some (b,sz)) (hb:w.heap[b]?=some (.cells c et fr)) (hf:jd fr c.size) (hE:E b=some 0) (hO:O' b=some p) (hn:c.size=2)
  (hc:∀ j (hj:j < [V.tp s t,V.row r l].length) z,c[j]?=some z→R w E S O (q ++ [1] ++ [j]) [V.tp s t,V.row r l][j] z) (hk:∀ b q',O b=some (q ++ q')→O' b=some (p ++ q')):
  RTA w E O' p (.io (.agg [.tp 0 t,.row r l])) (.pointer (some ⟨b,0,none⟩)):=by
 refine .bld (.cell (.io hb hf hE hO ⟨by simp [V.cells,hn],fun j hj hj'=>?_⟩ (by omega)))
 rw [Array.getElem_toList (xs:=c)]
 have hj2:j < c.size:=by simpa using hj'
 match j,hj,hj2 with
 | 0,_,hj2=>
  obtain ⟨b',sz',c',fr',k1,k2,k3⟩:=(hc 0 (by simp) c[0] (Array.getElem?_eq_getElem hj2)).tp_of
  rw [hS] at k1
  obtain ⟨rfl,rfl⟩:=Prod.mk.inj (Option.some.inj k1)
  exact .free (.tp (s:=0) (sz:=2) rfl k2 k3)
 | 1,_,hj2=>
  have:=hc 1 (by simp) c[1] (Array.getElem?_eq_getElem hj2)
  exact (R.row_any this).reloc (fun b' q' hb'=>by
   have:=hk b' ([1] ++ [1] ++ q') (by simpa using hb')
   simpa using this)
def iL (σ:List (Nat×u6)) (v v':V) (s:Nat):Prop:=
 (∃ e y,v=.ptr s 0 0∧v'=.io e∧i6 s σ=some y∧y.arr=false∧y.es=[e]∧e.handy=true)∨(∃ y n,v=.aref s 0 n∧v'=.sl 2 y.sz (y.es.map V.strip2)∧i6 s σ=some y∧y.arr=true∧y.es.length=n)∨
  (∃ t r l y,v=.ptr s 0 0∧v'=.io (.agg [.tp 0 t,.row r l])∧i6 s σ=some y∧y.arr=false∧y.es=[.agg [.tp s t,.row r l]])
theorem iL.out {σ:List (Nat×u6)} {v v':V} {s:Nat} (h:iL σ v v' s):v'.isOut=true:=by
 rcases h with ⟨e,y,_,rfl,_⟩ | ⟨y,n,_,rfl,_⟩ | ⟨t,r,l,y,_,rfl,_⟩ <;> rfl
theorem nf {σ:List (Nat×u6)}:∀ (vs vs':List V) (l:Bool),R8 σ vs=some (vs',[],l)→D8 σ vs=some (vs',l)
 | [],vs',l,h=>by
  simp only [R8,Option.some.injEq,Prod.mk.injEq] at h
  obtain ⟨rfl,_,rfl⟩:=h
  rfl
 | v :: r,vs',l,h=>by
  have hptr:∀ s i off,v=.ptr s i off→False:=by
   intro s i off e
   subst e
   simp only [R8] at h
   cases hc:(Nat.beq i 0 && Nat.beq off 0) with
   | false=>rw [hc] at h; cases h
   | true=>
    rw [hc] at h
    simp only [cond_true] at h
    obtain ⟨y,hy,h⟩:=bind_some h
    split at h
    ·split at h
     ·obtain ⟨xs,hxs,h⟩:=bind_some h
      split at h
      ·cases h
      ·have h2:=(Prod.mk.inj (Prod.mk.inj (Option.some.inj h)).2).1
       cases h2
     ·obtain ⟨e',he',h⟩:=bind_some h
      obtain ⟨xs,hxs,h⟩:=bind_some h
      split at h
      ·cases h
      ·have h2:=(Prod.mk.inj (Prod.mk.inj (Option.some.inj h)).2).1
       cases h2
    ·cases h
  have haref:∀ s off n,v=.aref s off n→False:=by
   intro s off n e
   subst e
   simp only [R8] at h
   cases hc:Nat.beq off 0 with
   | false=>rw [hc] at h; cases h
   | true=>
    rw [hc] at h
    simp only [cond_true] at h
    obtain ⟨y,hy,h⟩:=bind_some h
    split at h
    ·obtain ⟨xs,hxs,h⟩:=bind_some h
     split at h
     ·cases h
     ·have h2:=(Prod.mk.inj (Prod.mk.inj (Option.some.inj h)).2).1
      cases h2
    ·cases h
  have h1:R8 σ (v :: r)=(L8 σ 4 v).bind fun x=>(R8 σ r).map fun xs=>(x.1 :: xs.1,xs.2.1,x.2 || xs.2.2):=by
   cases v <;> first | rfl | exact absurd rfl (fun e=>hptr _ _ _ e) | exact absurd rfl (fun e=>haref _ _ _ e)
  have h2:D8 σ (v :: r)=(L8 σ 4 v).bind fun x=>(D8 σ r).map fun xs=>(x.1 :: xs.1,x.2 || xs.2):=by
   cases v <;> first | rfl | exact absurd rfl (fun e=>hptr _ _ _ e)
  rw [h1] at h
  rw [h2]
  obtain ⟨x,hx,h⟩:=bind_some h
  obtain ⟨xs,hxs,h⟩:=map_some h
  obtain ⟨q1,q2⟩:=Prod.mk.inj h
  obtain ⟨q2,q3⟩:=Prod.mk.inj q2
  obtain ⟨a,b,c⟩:=xs
  simp only at q1 q2 q3
  subst q2
  rw [hx,Option.bind_some,nf r a c hxs]
  simp only [Option.map_some]
  rw [←q1,←q3]
theorem pD {v:V} (h:v.isOut=true) (i:Nat) (r:List V):S8 i (v :: r)=i :: S8 (i+1) r:=by simp [S8,h]
theorem sH {v:V} (h:v.isOut=false) (i:Nat) (r:List V):S8 i (v :: r)=S8 (i+1) r:=by simp [S8,h]
theorem nd {σ:List (Nat×u6)}:∀ (vs vs':List V) (hand:List Nat) (l:Bool) (k:Nat),R8 σ vs=some (vs',hand,l)→
  ∃ ps:List (Nat×Nat),ps.map (·.1)=hand∧ps.map (·.2)=S8 k vs'∧hand.Nodup∧vs'.length=vs.length∧
   (∀ i (h:i < vs.length) (h':i < vs'.length),(∃ s,iL σ (vs[i]) (vs'[i]) s∧(s,k+i)∈ps)∨(∃ l',L8 σ 4 (vs[i])=some (vs'[i],l')∧(l'=true→l=true)))∧
   (∀ p∈ps,∃ i,p.2=k+i∧∃ (h:i < vs.length) (h':i < vs'.length),iL σ (vs[i]) (vs'[i]) p.1)
 | [],vs',hand,l,k,h=>by
  simp only [R8,Option.some.injEq,Prod.mk.injEq] at h
  obtain ⟨rfl,rfl,rfl⟩:=h
  exact ⟨[],rfl,rfl,List.nodup_nil,rfl,fun i h=>by simp at h,fun p hp=>by cases hp⟩
 | v :: r,vs',hand,l,k,h=>by
  have step:∀ {u:V} {s:Nat} {us:List V} {hs:List Nat} {lr:Bool},R8 σ r=some (us,hs,lr)→List.elem s hs=false→iL σ v u s→vs'=u :: us→hand=s :: hs→l=lr→
    ∃ ps:List (Nat×Nat),ps.map (·.1)=hand∧ps.map (·.2)=S8 k vs'∧hand.Nodup∧vs'.length=(v :: r).length∧
   (∀ i (h:i < (v :: r).length) (h':i < vs'.length),(∃ s,iL σ ((v :: r)[i]) (vs'[i]) s∧(s,k+i)∈ps)∨(∃ l',L8 σ 4 ((v :: r)[i])=some (vs'[i],l')∧(l'=true→l=true)))∧
   (∀ p∈ps,∃ i,p.2=k+i∧∃ (h:i < (v :: r).length) (h':i < vs'.length),iL σ ((v :: r)[i]) (vs'[i]) p.1):=by
   intro u s us hs lr hxs hel hok q1 q2 q3
   obtain ⟨ps,g1,g2,g3,g4,g5,g6⟩:=nd r us hs lr (k+1) hxs
   subst q1; subst q2; subst q3
   refine ⟨(s,k) :: ps,by simp [g1],by rw [pD hok.out]; simp [g2],List.nodup_cons.2 ⟨by simpa using hel,g3⟩,by simp [g4],fun j hj hj'=>?_,fun p hp=>?_⟩
   ·cases j with
    | zero=>exact .inl ⟨s,hok,by simp⟩
    | succ j=>
     simp only [List.getElem_cons_succ]
     rcases g5 j (by simpa using hj) (by simpa using hj') with ⟨s',m1,m2⟩ | m
     ·exact .inl ⟨s',m1,List.mem_cons_of_mem _ (by rw [show k+(j+1)=k+1+j by omega]; exact m2)⟩
     ·exact .inr m
   ·cases hp with
    | head=>exact ⟨0,rfl,by simp,by simp,hok⟩
    | tail _ hp=>
     obtain ⟨j,m1,m2,m3,m4⟩:=g6 p hp
     exact ⟨j+1,by omega,by simpa using m2,by simpa using m3,by simpa using m4⟩
  by_cases hp:(∃ s i off,v=.ptr s i off)∨(∃ s off n,v=.aref s off n)
  ·rcases hp with ⟨s,i,off,rfl⟩ | ⟨s,off,n,rfl⟩
   ·simp only [R8] at h
    cases hc:(Nat.beq i 0 && Nat.beq off 0) with
    | false=>rw [hc] at h; cases h
    | true=>
     rw [hc] at h
     simp only [cond_true] at h
     simp only [Bool.and_eq_true] at hc
     have hi:i=0:=Nat.eq_of_beq_eq_true hc.1
     have ho:off=0:=Nat.eq_of_beq_eq_true hc.2
     subst hi; subst ho
     obtain ⟨y,hy,h⟩:=bind_some h
     split at h
     ·rename_i e harr hes
      split at h
      ·rename_i hfree
       obtain ⟨⟨us,hs,lr⟩,hxs,h⟩:=bind_some h
       split at h
       ·cases h
       ·rename_i hel
        obtain ⟨q1,q2⟩:=Prod.mk.inj (Option.some.inj h)
        obtain ⟨q2,q3⟩:=Prod.mk.inj q2
        exact step hxs (by simpa using hel) (.inl ⟨e,y,rfl,rfl,hy,harr,hes,hfree⟩) q1.symm q2.symm q3.symm
      ·obtain ⟨e',he',h⟩:=bind_some h
       obtain ⟨⟨us,hs,lr⟩,hxs,h⟩:=bind_some h
       split at h
       ·cases h
       ·rename_i hel
        obtain ⟨q1,q2⟩:=Prod.mk.inj (Option.some.inj h)
        obtain ⟨q2,q3⟩:=Prod.mk.inj q2
        obtain ⟨t,r',l',rfl,rfl⟩:=pT he'
        exact step hxs (by simpa using hel) (.inr (.inr ⟨t,r',l',y,rfl,rfl,hy,harr,hes⟩)) q1.symm q2.symm q3.symm
     ·cases h
   ·simp only [R8] at h
    cases hc:Nat.beq off 0 with
    | false=>rw [hc] at h; cases h
    | true=>
     rw [hc] at h
     simp only [cond_true] at h
     have ho:off=0:=Nat.eq_of_beq_eq_true hc
     subst ho
     obtain ⟨y,hy,h⟩:=bind_some h
     split at h
     ·rename_i hcond
      obtain ⟨⟨us,hs,lr⟩,hxs,h⟩:=bind_some h
      split at h
      ·cases h
      ·rename_i hel
       obtain ⟨q1,q2⟩:=Prod.mk.inj (Option.some.inj h)
       obtain ⟨q2,q3⟩:=Prod.mk.inj q2
       exact step hxs (by simpa using hel) (.inr (.inl ⟨y,n,rfl,rfl,hy,hcond.1,hcond.2⟩)) q1.symm q2.symm q3.symm
     ·cases h
  ·have h1:R8 σ (v :: r)=(L8 σ 4 v).bind fun x=>(R8 σ r).map fun xs=>(x.1 :: xs.1,xs.2.1,x.2 || xs.2.2):=by
    cases v <;> first | rfl | exact absurd (Or.inl ⟨_,_,_,rfl⟩) hp | exact absurd (Or.inr ⟨_,_,_,rfl⟩) hp
   rw [h1] at h
   obtain ⟨⟨u',lu⟩,hu,h⟩:=bind_some h
   obtain ⟨⟨us,hs,lr⟩,hxs,h⟩:=map_some h
   obtain ⟨q1,q2⟩:=Prod.mk.inj h
   obtain ⟨q2,q3⟩:=Prod.mk.inj q2
   simp only at q1 q2 q3
   obtain ⟨ps,g1,g2,g3,g4,g5,g6⟩:=nd r us hs lr (k+1) hxs
   subst q1; subst q2; subst q3
   refine ⟨ps,g1,by rw [sH (sO hu),g2],g3,by simp [g4],fun j hj hj'=>?_,fun p hp=>?_⟩
   ·cases j with
    | zero=>exact .inr ⟨lu,hu,fun h=>by simp [h]⟩
    | succ j=>
     simp only [List.getElem_cons_succ]
     rcases g5 j (by simpa using hj) (by simpa using hj') with ⟨s',m1,m2⟩ | ⟨l',m1,m2⟩
     ·exact .inl ⟨s',m1,by rw [show k+(j+1)=k+1+j by omega]; exact m2⟩
     ·exact .inr ⟨l',m1,fun h=>by simp [m2 h]⟩
   ·obtain ⟨j,m1,m2,m3,m4⟩:=g6 p hp
    exact ⟨j+1,by omega,by simpa using m2,by simpa using m3,by simpa using m4⟩
theorem ob {α:Type} {k:Nat} {v:α}:∀ {l:List (Nat×α)},i6 k l=some v→(k,v)∈l
 | [],h=>by cases h
 | (k',v') :: r,h=>by
  simp only [i6] at h
  cases hb:Nat.beq k k' with
  | true=>
   rw [hb] at h
   have e:k=k':=Nat.eq_of_beq_eq_true hb
   obtain rfl:=Option.some.inj h
   subst e
   exact List.mem_cons_self
  | false=>rw [hb] at h; exact List.mem_cons_of_mem _ (ob h)
theorem kp {α:Type} {k:Nat} {v:α}:∀ {l:List (Nat×α)},(l.map (·.1)).Nodup→(k,v)∈l→i6 k l=some v
 | [],_,h=>by cases h
 | (k',v') :: r,hn,h=>by
  simp only [List.map_cons,List.nodup_cons] at hn
  simp only [i6]
  cases h with
  | head=>simp
  | tail _ h=>
   have:k≠k':=by
    intro e
    subst e
    exact hn.1 (List.mem_map.2 ⟨_,h,rfl⟩)
   rw [iM this]
   exact kp hn.2 h
theorem zl {f:FuncId} {first caps:List V} {z:Value} (hf:RF w E S (.fn f first caps) z):
  ∃ fv cv:Array Value,z=.func (.func f) fv cv∧first.length=fv.size∧(∀ i (h:i < first.length) (h':i < fv.size),RF1 w E S (first[i]) (fv[i]))∧
   caps.length=cv.size∧(∀ i (h:i < caps.length) (h':i < cv.size),RF1 w E S (caps[i]) (cv[i])):=by
 have hf1:=B4 hf rfl (by simp)
 have firstOk:∀ {fv:Array Value},first.length=fv.size→(∀ i (h:i < first.length) (h':i < fv.size),(first[i]).cells.length=(fv[i]).cells.size∧((first[i]).isAgg=!Value.single fv[i]))→
   (∀ i j (h:i < first.length) (h':i < fv.size) (hj:j < (first[i]).cells.length) (hj':j < (fv[i]).cells.size),R0 w E ((first[i]).cells[j]) ((fv[i]).cells[j]))→
   ∀ i (h:i < first.length) (h':i < fv.size),RF1 w E S (first[i]) (fv[i]):=fun g1 g2 g3 i h h'=>RZ.rf1 ⟨(g2 i h h').1,(g2 i h h').2,fun j hj hj'=>g3 i j h h' hj hj'⟩ S
 cases hf1 with
 | base hb=>cases hb with
  | fn g1 g2 g3 g4 g5=>exact ⟨_,_,rfl,g1,firstOk g1 g2 g3,g4,fun i h h'=>.one (cM (g5 i h h')).1 (.base (g5 i h h'))⟩
 | fn g1 g2 g3 g4 g5=>exact ⟨_,_,rfl,g1,firstOk g1 g2 g3,g4,fun i h h'=>.one (en (g5 i h h')).1 (g5 i h h')⟩
theorem oW {e:V} (h:e.strip.free=true):e.handy=true:=by
 unfold V.handy
 rw [h,Bool.or_true]
theorem mg {e:V} (hf:e.handy=true):∀ j (hj:j < e.cells.length),(e.cells[j]).handy1=true:=by
 have one:∀ {v:V},v.strip1.free1 4=true→v.handy1=true:=by
  intro v h
  unfold V.handy1
  split
  ·rfl
  ·exact h
 intro j hj
 unfold V.handy at hf
 rw [Bool.or_eq_true] at hf
 rcases hf.symm with m6 | hf
 ·have hf:∀ c∈e.strip.cells,c.free1 4=true:=List.all_eq_true.1 m6
  have hstr:e.strip.cells=e.cells.map V.strip1:=by
   cases e with
   | agg cs=>rfl
   | tup us=>simp [V.free,V.strip,V.cells,V.free1] at m6
   | io c=>simp [V.free,V.strip,V.strip2,V.strip1,V.cells,V.free1] at m6
   | sl o z l=>by_cases hq:o≤1 <;> cases l <;> by_cases h5:o=5 <;> simp [V.strip,V.strip2,V.strip1,V.cells,hq,h5]
   | _=>simp [V.strip,V.strip2,V.strip1,V.cells]
  exact one (hf _ (by rw [hstr]; exact List.mem_map.2 ⟨_,List.getElem_mem hj,rfl⟩))
 ·cases e with
  | agg cs=>exact List.all_eq_true.1 hf _ (List.getElem_mem hj)
  | _=>cases hf
theorem R.toNoS {p:Pos} {v:V} {x:Value} (h:R w E S O p v x) (hf:v.handy1=true):R w E noS O p v x:=by
 cases h with
 | own ho hb hc hl hf' hE h0 hO hw he=>exact .own ho hb hc hl hf' hE h0 hO hw he
 | rowNil=>exact .rowNil
 | row hb hf2 hl hm hc hE hO ht=>exact .row hb hf2 hl hm hc hE hO ht
 | arr hs hb hc hl hf' hE hO hw he=>exact .arr hs hb hc hl hf' hE hO hw he
 | free h=>
  refine .free (.base ?_)
  cases v with
  | sl o sz l=>cases h with
   | base h=>exact h
  | io c=>simp [V.handy1,V.strip1,V.free1] at hf
  | agg c=>simp [V.handy1,V.strip1,V.free1] at hf
  | tup c=>simp [V.handy1,V.strip1,V.free1] at hf
  | _=>exact gq 4 h hf
theorem gS:∀ (hand:List Nat) (outs:List V) (σ σ':List (Nat×u6)),cm σ hand outs=some σ'→hand.Nodup→
  hand.length=outs.length∧(∀ s,s ∉ hand→i6 s σ'=i6 s σ)∧
   (∀ (k s:Nat),hand[k]?=some s→∃ y e y',i6 s σ=some y∧outs[k]?=some e∧lZ s y e=some y'∧i6 s σ'=some y')
 | [],[],σ,σ',h,_=>by
  obtain rfl:=Option.some.inj h
  exact ⟨rfl,fun _ _=>rfl,fun k s h=>by simp at h⟩
 | [],_ :: _,σ,σ',h,_=>by cases h
 | _ :: _,[],σ,σ',h,_=>by cases h
 | s :: hand,e :: outs,σ,σ',h,hn=>by
  simp only [cm] at h
  obtain ⟨y,hy,h⟩:=bind_some h
  obtain ⟨y',hy',h⟩:=bind_some h
  simp only [List.nodup_cons] at hn
  obtain ⟨g1,g2,g3⟩:=gS hand outs _ σ' h hn.2
  refine ⟨by simp [g1],fun s' hs'=>?_,fun k s' hk=>?_⟩
  ·simp only [List.mem_cons,not_or] at hs'
   rw [g2 s' hs'.2,s8,if_neg hs'.1]
  ·cases k with
   | zero=>
    obtain rfl:=Option.some.inj hk
    exact ⟨y,e,y',hy,rfl,hy',by rw [g2 s hn.1,s8,if_pos rfl]⟩
   | succ k=>
    simp only [List.getElem?_cons_succ] at hk ⊢
    obtain ⟨y1,e1,y2,m1,m2,m3,m4⟩:=g3 k s' hk
    have hne:s'≠s:=by
     intro e
     subst e
     exact hn.1 (List.mem_of_getElem? hk)
    rw [s8,if_neg hne] at m1
    exact ⟨y1,e1,y2,m1,m2,m3,m4⟩
theorem wZ {s:Nat} {y y':u6} {e:V} (h:lZ s y e=some y') (ha:y.arr=false):∃ e1 e0,e=.io e1∧y.es=[e0]∧e1.cells.length=e0.cells.length∧y'={ y with es:=[fE s e1] }:=by
 unfold lZ at h
 split at h
 ·rename_i e1
  split at h
  ·rename_i e0 h1 h2
   split at h
   ·rename_i hl
    exact ⟨e1,e0,rfl,h2,hl,(Option.some.inj h).symm⟩
   ·cases h
  ·cases h
 ·split at h
  ·rename_i hc; rw [ha] at hc; cases hc.1
  ·cases h
 ·cases h
theorem wY {s:Nat} {y y':u6} {e:V} (h:lZ s y e=some y') (ha:y.arr=true):∃ es,e=.sl 2 y.sz es∧es.length=y.es.length∧y'={ y with es:=es }:=by
 unfold lZ at h
 split at h
 ·split at h
  ·rename_i e0 h1 h2; rw [ha] at h1; cases h1
  ·cases h
 ·rename_i sz es
  split at h
  ·rename_i hc
   obtain ⟨_,rfl,hl⟩:=hc
   exact ⟨es,rfl,hl,(Option.some.inj h).symm⟩
  ·cases h
 ·cases h
def uI:Value→Bool
 | .slice none _ _=>false
 | _=>true
def dl (ps:List (Nat×Nat)) (O:Own):Own:=fun b=>match O b with
 | some (1 :: s :: q)=>(i6 s ps).map fun i=>0 :: i :: q
 | _=>none
theorem cw {ps:List (Nat×Nat)} {b s i:Nat} {q:Pos} (h:O b=some ([1,s] ++ q)) (hp:i6 s ps=some i):dl ps O b=some ([0,i] ++ q):=by
 unfold dl
 rw [h]
 simp [hp]
theorem nL {ps:List (Nat×Nat)} {b s:Nat} {q:Pos} (h:O b=some ([1,s] ++ q)) (hp:i6 s ps=none):dl ps O b=none:=by
 unfold dl
 rw [h]
 simp [hp]
theorem xn {ps:List (Nat×Nat)} {b d:Nat} {q:Pos} (h:O b=some ([0,d] ++ q)):dl ps O b=none:=by
 unfold dl
 rw [h]
 rfl
theorem iY {ps:List (Nat×Nat)} {b:Nat} (h:O b=none):dl ps O b=none:=by
 unfold dl
 rw [h]
def iu (size:Nat) (ps:List (Nat×Nat)) (hand:List Nat) (p:Pos) (O O':Own):Own:=fun b=>
 if b < size∧dl ps O b=none then O b else match O' b with
  | some (2 :: k :: q)=>(hand[k]?).map fun s=>1 :: s :: q
  | some (1 :: q)=>some (p ++ q)
  | _=>none
theorem xi {callH:O8} (hcall:∀ f args r outs,callH f args=some (r,outs)→Z3 G P f args r outs) {st:St} {a:Act} (h:Rel G F st a w E S O) {o:Oper} {c:Call} {fop:Operand} (hop:o.op=.call c) (hc:c.callee=.value fop)
  {v:V} {st':St} (hv:rS P callH st c=some (v,st')):kU G P F o a w E O v st':=by
 unfold rS at hv
 rw [hc] at hv
 simp only at hv
 obtain ⟨fv0,hf0,hv⟩:=bind_some hv
 cases fv0 with
 | fn f first caps=>
  simp only at hv
  obtain ⟨vs,hvs,hv⟩:=bind_some hv
  obtain ⟨⟨vs',hand,l⟩,hargs,hv⟩:=bind_some hv
  split at hv
  ·cases hv
  rename_i hlh
  simp only at hlh
  obtain ⟨⟨r,outs⟩,hr,hv⟩:=bind_some hv
  simp only at hr hv
  split at hv
  ·rename_i hpl
   obtain ⟨σ',hσ',hv⟩:=map_some hv
   obtain ⟨rfl,rfl⟩:=Prod.mk.inj hv
   obtain ⟨n1,n2⟩:=eY (Q:=fun u x=>RF w E S u x) (eval:=a.eval) (fun t x u hu=>P8 h hu) c.argTypes 0 c.args.toList vs hvs
   have hvl:vs.length=c.args.size:=by simpa using n1
   have hvr:∀ i (h:i < vs.length) (h':i < c.args.size),RF w E S (vs[i]) (a.eval (c.args[i])):=fun i h h'=>by have:=n2 i h (by simpa using h'); rwa [Array.getElem_toList (xs:=c.args)] at this
   have hfr0:=P8 h hf0
   cases hand with
   | nil=>
    have hout:outs=[]:=by cases outs with | nil=>rfl | cons _ _=>cases hσ'
    subst hout
    obtain rfl:=Option.some.inj hσ'
    refine dP h (fun next Q hn=>mc hcall h.sites h.own h.glob hop hc hfr0 hvl hvr (nf _ _ _ hargs) hr rfl hpl _ hn) (fun w' E' O' hrel=>⟨S,fun _ _ h=>h,hrel.unput o.dst⟩)
   | cons s0 hand0=>
    have hl:l=false:=by cases l with | false=>rfl | true=>simp at hlh
    subst hl
    generalize hhand:s0 :: hand0=hand at *
    obtain ⟨ps,g1,g2,g3,g4,g5,g6⟩:=nd _ _ _ _ 0 hargs
    obtain ⟨⟨fn,k1,k2,k3⟩,hFn⟩:=hcall f vs' r outs hr
    obtain ⟨fv,cv,hev,hfl,hf1',hcl,hcc⟩:=zl hfr0
    have hnd:(ps.map (·.1)).Nodup:=by rw [g1]; exact g3
    -- all arguments
    have hnt:∀ u∈first ++ vs ++ caps,∀ us,u≠.tup us:=by
     intro u hu us e
     obtain ⟨j,hj,rfl⟩:=List.getElem_of_mem hu
     rcases g5 j hj (by omega) with ⟨s,m,_⟩ | ⟨l',m,_⟩
     ·rcases m with ⟨e',y,m,_⟩ | ⟨y,n,m,_⟩ | ⟨t,r',l',y,m,_⟩ <;> (rw [e] at m; cases m)
     ·exact mj m us e
    have hall:∀ i (h:i < (first ++ vs ++ caps).length) (h':i < (fv ++ c.args.map a.eval ++ cv).toList.length),RF1 w E S ((first ++ vs ++ caps)[i]) ((fv ++ c.args.map a.eval ++ cv).toList[i]):=by
     have e:(fv ++ c.args.map a.eval ++ cv).toList=fv.toList ++ (c.args.map a.eval).toList ++ cv.toList:=by simp
     simp only [e]
     refine de (by simp [hfl,hvl]) (de (by simp [hfl]) ?_ ?_) ?_
     ·intro i h h'; rw [Array.getElem_toList (xs:=fv)]; exact hf1' i h (by simpa using h')
     ·intro i h h'
      rw [Array.getElem_toList (xs:=c.args.map a.eval),Array.getElem_map]
      exact T3 (hvr i h (by omega)) (hnt _ (by simp))
     ·intro i h h'; rw [Array.getElem_toList (xs:=cv)]; exact hcc i h (by simpa using h')
    have hsize:(first ++ vs ++ caps).length=(fv ++ c.args.map a.eval ++ cv).size:=by simp [hfl,hvl,hcl]
    generalize hys:fv ++ c.args.map a.eval ++ cv=ys at hall hsize
    -- of an array that is nil there is nothing to hand over
    obtain ⟨px,hpx⟩:∃ px,px=ps.filter (fun p=>uI (ys.getD p.2 undef)):=⟨_,rfl⟩
    have hpxn:(px.map (·.1)).Nodup:=by
     rw [hpx]
     exact List.Nodup.sublist (List.Sublist.map _ List.filter_sublist) hnd
    have hpx_in:∀ {s i:Nat},(s,i)∈ps→uI (ys.getD i undef)=true→i6 s px=some i:=fun hm hn=>kp hpxn (by rw [hpx]; exact List.mem_filter.2 ⟨hm,hn⟩)
    have hpx_out:∀ {s i:Nat},(s,i)∈ps→uI (ys.getD i undef)=false→i6 s px=none:=by
     intro s i hm hn
     cases hq:i6 s px with
     | none=>rfl
     | some i'=>
      have h1:=ob hq
      rw [hpx] at h1
      obtain ⟨h2,h3⟩:=List.mem_filter.1 h1
      have h4:=kp hnd hm
      have h5:=kp hnd h2
      rw [h4] at h5
      obtain rfl:=Option.some.inj h5
      simp only at h3
      rw [hn] at h3; cases h3
    have hpx_no:∀ {s:Nat},s ∉ hand→i6 s px=none:=by
     intro s hs
     cases hq:i6 s px with
     | none=>rfl
     | some i'=>
      have h1:=ob hq
      rw [hpx] at h1
      exact absurd (by rw [←g1]; exact List.mem_map.2 ⟨_,(List.mem_filter.1 h1).1,rfl⟩) hs
    have hget:∀ {i:Nat} (hi:i < ys.size),ys.getD i undef=ys[i]:=fun hi=>by unfold Array.getD; rw [dif_pos hi]; rfl
    -- a variable that is handed over
    have hsite:∀ (i s:Nat) (e:V) (y:u6) (hi:i < (first ++ vs ++ caps).length) (hi':i < ys.size),(first ++ vs ++ caps)[i]=.ptr s 0 0→i6 s st.σ=some y→y.arr=false→y.es=[e]→
      ∃ b sz c et fr,ys[i]=.pointer (some ⟨b,0,none⟩)∧S s=some (b,sz)∧sz=y.sz∧0 < sz∧w.heap[b]?=some (.cells c et fr)∧jd fr c.size∧E b=some 0∧O b=some ([1,s] ++ [])∧e.cells.length=sz∧c.size=sz∧
       ∀ j (hj:j < e.cells.length) z,c[j]?=some z→R w E S O ([1,s,1] ++ [j]) (e.cells[j]) z:=by
     intro i s e y hi hi' hptr hy harr hes
     have hr1:=hall i hi (by simpa using hi')
     rw [hptr,Array.getElem_toList (xs:=ys)] at hr1
     have hok:=h.sites s y hy
     generalize ys[i]=z at hr1
     cases hr1 with
     | one _ hr1=>
      cases hr1 with
      | base hb=>cases hb
      | @ptr _ b sz _ _ hS=>
       unfold r7 at hok
       rw [hS] at hok
       obtain ⟨k1,k2,c,et,fr,k3,k4,k5,k6,k7,k8,k9,k10⟩:=hok
       obtain ⟨q1,q2,q3⟩:=k10 harr
       refine ⟨b,sz,c,et,fr,by simp,hS,k1,k2,k3,k4,k5,by rw [k6,harr]; rfl,by have:=k8 0 (by omega); simpa [hes] using this,q2,fun j hj z hz=>?_⟩
       have:=q3 0 j (by omega) (by simpa [hes] using hj) z (by simpa using hz)
       simpa [hes] using this
    -- an array that is handed over
    have harrs:∀ (i s n:Nat) (y:u6) (hi:i < (first ++ vs ++ caps).length) (hi':i < ys.size),(first ++ vs ++ caps)[i]=.aref s 0 n→i6 s st.σ=some y→y.arr=true→y.es.length=n→
      (ys[i]=.slice none 0 0∧y.es=[])∨∃ b sz c et fr cap,ys[i]=.slice (some ⟨b,0,none⟩) y.es.length cap∧S s=some (b,sz)∧sz=y.sz∧0 < sz∧w.heap[b]?=some (.cells c et fr)∧jd fr c.size∧E b=some 0∧O b=some ([1,s] ++ [0])∧cap * sz≤c.size∧y.es.length≤cap∧
       (∀ i (h:i < (y.es.map V.strip2).length),((y.es.map V.strip2)[i]).cells.length=sz)∧(∀ i j (hi:i < (y.es.map V.strip2).length) (hj:j < ((y.es.map V.strip2)[i]).cells.length) z,c[i * sz+j]?=some z→R0 w E (((y.es.map V.strip2)[i]).cells[j]) z):=by
     intro i s n y hi hi' hptr hy harr hlen
     have hr1:=hall i hi (by simpa using hi')
     rw [hptr,Array.getElem_toList (xs:=ys)] at hr1
     have hok:=h.sites s y hy
     generalize ys[i]=z at hr1
     cases hr1 with
     | one _ hr1=>
      cases hr1 with
      | base hb=>cases hb
      | arefNil=>exact .inl ⟨rfl,List.eq_nil_of_length_eq_zero hlen⟩
      | @aref _ b sz _ _ cap c et fr hS hb hc hcap=>
       unfold r7 at hok
       rw [hS] at hok
       obtain ⟨k1,k2,c',et',fr',k3,k4,k5,k6,k7,k8,k9,k10⟩:=hok
       rw [hb] at k3
       injection k3 with k3
       injection k3 with q1 q2 q3
       subst q1; subst q2; subst q3
       subst hlen
       exact .inr ⟨b,sz,c,et,fr,cap,by simp,hS,k1,k2,hb,k4,k5,by rw [k6,harr]; rfl,by omega,hcap,fun i hi=>by rw [List.getElem_map,u0,List.length_map]; exact k8 i (by simpa using hi),fun i j hi hj z hz=>by
        have hj':j < (y.es[i]'(by simpa using hi)).cells.length:=by
         rw [List.getElem_map,u0,List.length_map] at hj
         exact hj
        have e1:((y.es.map V.strip2)[i]).cells[j]=((y.es[i]'(by simpa using hi)).cells[j]'hj').strip1:=by
         simp only [List.getElem_map,u0]
        rw [e1]
        exact (k9 harr i j (by simpa using hi) hj' z hz).strip⟩
    have hz:∀ i (h:i < vs'.length) (h':i < ys.size),RTA w E (dl px O) [0,i] (vs'[i]) (ys[i]):=by
     intro i hi hi'
     rcases g5 i (by omega) hi with ⟨s,hok,m7⟩ | ⟨l',m1,m2⟩
     ·rw [Nat.zero_add] at m7
      rcases hok with ⟨e,y,m1,m2,m3,m4,m5,m6⟩ | ⟨y,n,m1,m2,m3,m4,m5⟩ | ⟨t,r',l',y,m1,m2,m3,m4,m5⟩
      ·obtain ⟨b,sz,c',et,fr,q1,q2,q3,q4,q5,q6,q7,q8,q9,q10,q11⟩:=hsite i s e y (by omega) hi' m1 m3 m4 m5
       have hlk:=hpx_in m7 (by rw [hget hi',q1]; rfl)
       rw [m2,q1]
       refine .rt <| .cell (.io q5 q6 q7 (by rw [cw q8 hlk]; rfl) ⟨by simp; omega,fun j hj hj'=>?_⟩ (by omega))
       rw [Array.getElem_toList (xs:=c')]
       have hR:=q11 j hj (c'[j]'(by simpa using hj')) (Array.getElem?_eq_getElem _)
       have hfree:=mg m6 j hj
       exact (hR.toNoS hfree).reloc (fun b' q hb'=>cw (q:=[1] ++ [j] ++ q) (by simpa using hb') hlk)
      ·rw [m2]
       rcases harrs i s n y (by omega) hi' m1 m3 m4 m5 with ⟨q1,q2⟩ | ⟨b,sz,c',et,fr,cap,q1,q2,q3,q4,q5,q6,q7,q8,q9,q10,q11,q12⟩
       ·rw [q1,q2,List.map_nil]; exact .rt (.cell (.one rfl (.free (.base (.slNil 2 y.sz)))))
       ·have hlk:=hpx_in m7 (by rw [hget hi',q1]; rfl)
        rw [q1]
        subst q3
        have e0:(y.es.map V.strip2).length=y.es.length:=List.length_map _
        have:=R.own (w:=w) (E:=E) (S:=noS) (O:=dl px O) (p:=[0,i] ++ [0]) (o:=2) (l:=y.es.map V.strip2) (off:=0) (cap:=cap) (.inr rfl) q5 (by omega) (by rw [e0]; exact q10) q6 (by rw [q7]; rfl) (fun _=>rfl) (by rw [cw q8 hlk]) q11 (fun i j hi hj z hz=>q12 i j hi hj z (by rw [←hz]; congr 1; omega))
        rw [e0] at this
        exact .rt (.cell (.one rfl this))
      ·obtain ⟨b,sz,c',et,fr,q1,q2,q3,q4,q5,q6,q7,q8,q9,q10,q11⟩:=hsite i s _ y (by omega) hi' m1 m3 m4 m5
       have hlk:=hpx_in m7 (by rw [hget hi',q1]; rfl)
       rw [m2,q1]
       exact RTA.give (q:=[1,s]) q2 q5 q6 q7 (by rw [cw q8 hlk]; rfl) (by rw [q10,←q9]; rfl) (fun j hj z hz=>q11 j hj z hz) (fun b' q hb'=>cw hb' hlk)
     ·have hl':l'=false:=by cases l' with | false=>rfl | true=>exact absurd (m2 rfl) (by simp)
      subst hl'
      have hr1:=hall i (by omega) (by simpa using hi')
      rw [Array.getElem_toList (xs:=ys)] at hr1
      obtain ⟨z1,_⟩:=wo h.sites 4 _ _ _ _ m1 hr1
      exact .rt ((RF.cell ((z1 rfl).rf1 noS)).rt _ _)
    have hC:=hFn w E (dl px O) ys h.glob (by omega) (fun b p hb=>by
     cases hO:O b with
     | none=>rw [iY hO] at hb; cases hb
     | some q=>exact h.own b q hO) hz
    intro next Q hn
    unfold Oper.wp
    have hrun:(execOp a.eval o).run P w=.ok (.enter f ys) w:=by
     rw [←hys]
     simp only [execOp,hop,Sem.run_bind,resolve,hc,hev,Deferred.ofValue,Sem.run_pure,Result.andThen_ok]
     exact nk k1 k2 k3
    rw [hrun,Oper.upon_enter]
    refine hC.mono ?_
    rintro e w' ⟨x,E',O',rfl,hfr,hres,hlen,houts⟩
    have hback:∀ b q,O' b=some q→¬ (b < w.heap.size∧dl px O b=none):=by
     intro b q hb hc
     have:=(hfr.free b hc.1 hc.2).2.2
     rw [this] at hb
     cases hb
    have hkeep:∀ b q,O b=some q→dl px O b=none→w'.heap[b]?=w.heap[b]?∧E' b=E b∧iu w.heap.size px hand (E4 o.dst) O O' b=some q:=by
     intro b q hb hn
     have hlt:=h.own b q hb
     obtain ⟨m1,m2,m3⟩:=hfr.free b hlt hn
     refine ⟨m1,m2,?_⟩
     unfold iu
     rw [if_pos ⟨hlt,hn⟩,hb]
    have hown:∀ b p,iu w.heap.size px hand (E4 o.dst) O O' b=some p→b < w'.heap.size:=by
     intro b p hb
     unfold iu at hb
     split at hb
     ·rename_i hc
      have:=hfr.ext.size
      omega
     ·cases hO:O' b with
      | none=>rw [hO] at hb; cases hb
      | some q=>exact hfr.own b q hO
    obtain ⟨wb1,wb2,wb3⟩:=gS _ _ _ _ hσ' g3
    refine hn x w' E' S (iu w.heap.size px hand (E4 o.dst) O O') ⟨hfr.ext,fun b hb hO=>?_,hfr.os,hfr.tape,hfr.output,hown⟩ ?_ (Rel.unput ?_ o.dst)
    ·obtain ⟨m1,m2,m3⟩:=hfr.free b hb (iY hO)
     refine ⟨m1,m2,?_⟩
     unfold iu
     rw [if_pos ⟨hb,iY hO⟩,hO]
    ·refine (RT.otherS hres).reloc (fun b q hb=>?_)
     unfold iu
     rw [if_neg (hback b _ hb),hb]
     rfl
    ·refine ⟨fun d u hl=>?_,fun s y hl=>?_,fun s hl=>?_,h.size,hown,h.defers,h.par,h.glob.mono hfr.ext⟩
     ·obtain ⟨x',q1,q2⟩:=h.tmps d u hl
      exact ⟨x',q1,q2.mono hfr.ext (fun _ _ h=>h) ⟨fun b q hb=>hkeep b _ hb (xn hb)⟩⟩
     ·by_cases hs:s∈hand
      ·obtain ⟨k,hk,rfl⟩:=List.getElem_of_mem hs
       obtain ⟨y0,e,y',m1,m3,m4,m5⟩:=wb3 k _ (List.getElem?_eq_getElem hk)
       simp only at hl
       rw [m5] at hl
       obtain rfl:=Option.some.inj hl
       -- its argument
       have hkp:k < ps.length:=by
        have:(ps.map (·.1)).length=hand.length:=by rw [g1]
        simp at this; omega
       have hpk:(ps[k]).1=hand[k]:=by simp [←g1]
       have hpk2:∀ (h2:k < (S8 0 vs').length),(S8 0 vs')[k]=(ps[k]).2:=fun h2=>by simp [←g2]
       obtain ⟨i,p1,p2,p2',hok⟩:=g6 (ps[k]) (List.getElem_mem hkp)
       rw [hpk] at hok
       rw [Nat.zero_add] at p1
       have hpmem:(hand[k],i)∈ps:=by
        have:=List.getElem_mem hkp
        rw [show ps[k]=(hand[k],i) from Prod.ext hpk p1] at this
        exact this
       have hiy:i < ys.size:=by omega
       have hko:k < outs.length:=by omega
       have hki:k < (S8 0 vs').length:=by omega
       have hro:=houts k hko hki
       rw [hpk2 hki,p1,hget hiy] at hro
       have hok2:outs[k]=e:=by
        rw [List.getElem?_eq_getElem hko] at m3
        exact Option.some.inj m3
       rw [hok2] at hro
       have hposk:∀ b' q,O' b'=some ([2,k] ++ q)→iu w.heap.size px hand (E4 o.dst) O O' b'=some ([1,hand[k]] ++ q):=by
        intro b' q hb'
        unfold iu
        rw [if_neg (hback b' _ hb'),hb']
        simp [List.getElem?_eq_getElem hk]
       have hvar:∀ (ev:V) (y1:u6),(first ++ vs ++ caps)[i]=.ptr (hand[k]) 0 0→i6 hand[k] st.σ=some y1→y1.arr=false→y1.es=[ev]→r7 w' E' S (iu w.heap.size px hand (E4 o.dst) O O') (hand[k]) y':=by
        intro ev y1 r1 r3 r4 r5
        rw [m1] at r3
        obtain rfl:=Option.some.inj r3
        obtain ⟨e1,e0,rfl,m6,m7,rfl⟩:=wZ m4 r4
        rw [r5] at m6
        obtain rfl:=List.head_eq_of_cons_eq m6
        obtain ⟨b,sz,c',et,fr,q1,q2,q3,q4,q5,q6,q7,q8,q9,q10,q11⟩:=hsite i (hand[k]) ev y0 p2 hiy r1 m1 r4 r5
        rw [q1] at hro
        obtain ⟨cc,et',fr',hb1,hf1,hE1,hO1,hn1,hsl,hrc⟩:=hro.take q2
        have hcl1:(fE hand[k] e1).cells.length=cc.size:=by simpa using hrc.1
        unfold r7
        rw [q2]
        refine ⟨q3,q4,cc,et',fr',hb1,hf1,hE1,?_,by simp; omega,fun j hj=>?_,fun hf=>?_,fun _=>⟨rfl,by omega,fun j j' hj hj' z hz=>?_⟩⟩
        ·rw [hposk b [] (by simpa using hO1)]
         simp only [r4]
         rfl
        ·have:j=0:=by simpa using hj
         subst this
         show (fE hand[k] e1).cells.length=sz
         omega
        ·exact absurd (show y0.arr=true from hf) (by rw [r4]; simp)
        ·have:j=0:=by simpa using hj
         subst this
         rw [Nat.zero_mul,Nat.zero_add] at hz
         have hj2:j' < cc.size:=by
          rcases Nat.lt_or_ge j' cc.size with h' | h'
          ·exact h'
          ·rw [Array.getElem?_eq_none h'] at hz; cases hz
         rw [Array.getElem?_eq_getElem hj2] at hz
         obtain rfl:=Option.some.inj hz
         have hR:=hrc.2 j' hj' (by simpa using hj2)
         rw [Array.getElem_toList (xs:=cc)] at hR
         exact hR.reloc (fun b' q hb'=>by
          have:=hposk b' ([1] ++ [j'] ++ q) (by simpa using hb')
          simpa using this)
       rcases hok with ⟨ev,y1,r1,r2,r3,r4,r5,r6⟩ | ⟨y1,n,r1,r2,r3,r4,r5⟩ | ⟨t,r',l',y1,r1,r2,r3,r4,r5⟩
       ·exact hvar ev y1 r1 r3 r4 r5
       ·rw [m1] at r3
        obtain rfl:=Option.some.inj r3
        obtain ⟨es,rfl,hel,rfl⟩:=wY m4 r4
        rcases harrs i (hand[k]) n y0 p2 hiy r1 m1 r4 r5 with ⟨q1,q2⟩ | ⟨b,sz,c',et,fr,cap,q1,q2,q3,q4,q5,q6,q7,q8,q9,q10,q11,q12⟩
        ·-- nil: as it was
         have he0:es=[]:=List.eq_nil_of_length_eq_zero (by rw [hel,q2]; rfl)
         have hsame:({ y0 with es:=es }:u6)=y0:=by
          cases y0
          simp only at q2 ⊢
          rw [he0,q2]
         rw [hsame]
         have hps:i6 hand[k] px=none:=hpx_out hpmem (by rw [hget hiy,q1]; rfl)
         exact (h.sites _ y0 m1).mono hfr.ext (fun _ _ h=>h) rfl ⟨fun b q hb=>hkeep b _ hb (nL hb hps)⟩
        ·rw [q1] at hro
         have hro1:=(hro.up (by simp)).of_tmp rfl (by simp) (by simp)
         rw [←hel] at hro1
         cases hro1 with
         | free hro1=>cases hro1 with
          | base hro1=>cases hro1
         | @own _ _ _ b2 off2 cap2 cc et' fr' ho' hb1 hc1 hl1 hf1 hE1 h01 hO1 hw1 he1=>
          unfold r7
          rw [q2]
          subst q3
          have hmul:es.length * y0.sz≤cap * y0.sz:=Nat.mul_le_mul_right _ hl1
          refine ⟨rfl,q4,cc,et',fr',hb1,hf1,by rw [hE1]; rfl,?_,by show es.length * y0.sz≤_; omega,hw1,fun _ i j hi hj z hz=>.free (he1 i j hi hj z (by rw [←hz]; congr 1; omega)),fun hf=>?_⟩
          ·rw [hposk b [0] (by simpa using hO1)]
           simp only [r4]
           rfl
          ·exact absurd (show y0.arr=true from r4) (by rw [show y0.arr=false from hf]; simp)
       ·exact hvar _ y1 r1 r3 r4 r5
      ·have hl':i6 s st.σ=some y:=by rw [←wb2 s hs]; exact hl
       have hps:i6 s px=none:=hpx_no hs
       exact (h.sites s y hl').mono hfr.ext (fun _ _ h=>h) rfl ⟨fun b q hb=>hkeep b _ hb (nL hb hps)⟩
     ·by_cases hs:s∈hand
      ·obtain ⟨k,hk,rfl⟩:=List.getElem_of_mem hs
       obtain ⟨y0,e,y',m1,m3,m4,m5⟩:=wb3 k _ (List.getElem?_eq_getElem hk)
       have hl':i6 hand[k] σ'=none:=hl
       rw [m5] at hl'
       cases hl'
      ·exact h.live s (by rw [←wb2 s hs]; exact hl)
  ·cases hv
 | _=>cases hv
end
section
variable {P:Program} {G:Glo} {w:World} {E:Bnd} {S F:Sit} {O:Own}
theorem Y2 {ops:Array Oper} {st:St} {a:Act} (h:Rel G F st a w E S O) {o:Oper} {b:Bool} (hw:B0 ops st.t o=some b):Region.wanted o (yielded ops a.tmps)=b:=by
 unfold B0 at hw
 unfold Region.wanted
 cases hg:o.guard with
 | none=>rw [hg] at hw; exact Option.some.inj hw
 | some q=>
  obtain ⟨j,want⟩:=q
  rw [hg] at hw
  simp only at hw ⊢
  unfold yielded
  cases hd:(ops[j]?).bind (·.dst) with
  | none=>rw [hd] at hw; cases hw
  | some d=>
   rw [hd] at hw
   simp only [Option.bind_some] at hw ⊢
   cases hl:i6 d st.t with
   | none=>rw [hl] at hw; cases hw
   | some v=>
    rw [hl] at hw
    obtain ⟨x,h1,h2⟩:=h.tmps d v hl
    cases v with
    | bool t=>
     obtain rfl:=Option.some.inj hw
     have:=kG (by simpa [V.strip,V.strip2,V.strip1] using h2.strip)
     rw [h1,this]
     cases t <;> cases want <;> rfl
    | tup us=>
     obtain rfl:=Option.some.inj hw
     rw [h1]
     cases h2 with
     | cell h2=>cases h2 with
      | one hv h2=>exact absurd rfl ((E6 h2).2.1 _)
     | tup=>cases want <;> rfl
    | _=>cases hw
variable {callH:O8}
theorem filter_some {α:Type} {o:Option α} {p:α→Bool} {b:α} (h:o.filter p=some b):o=some b∧p b=true:=by
 cases o with
 | none=>cases h
 | some a=>
  simp only [Option.filter_some] at h
  split at h
  ·rename_i hp
   obtain rfl:=Option.some.inj h
   exact ⟨rfl,hp⟩
  ·cases h
theorem Bi {S':Sit} {v:V} {x:Value} (h:RF w E S v x) (hf:v.free=true):RF w E S' v x:=by
 have h1:=T3 h (ak hf)
 exact .cell ((RZ.of_free h1 hf).rf1 S')
theorem rr {σ:List (Nat×u6)} {ρ:TypeId→Operand→Option V} {o:Oper} (h:M5 o=true):l4 P callH [] (fun t x=>(ρ t x).filter V.free) o=l4 P callH σ ρ o:=by
 unfold M5 at h
 split at h
 ·rename_i t hop
  simp [l4,hop]
 ·rename_i t x hop
  simp only [l4,hop]
  cases hr:ρ t x with
  | none=>rfl
  | some v=>
   cases hf:v.free with
   | true=>simp [Option.filter_some,hf]
   | false=>simp [Option.filter_some,hf]
 ·cases h
theorem sa {st st':St} {a:Act} {d:Nat} {t:TypeId} {v:V} (h:Rel G F st a w E S O) {o:Oper} (hop:o.op=.alloc t) (hd:o.dst=some d) (hb:tR P d t st=some (v,st')):kU G P F o a w E O v st':=by
 unfold tR at hb
 split at hb
 ·rename_i fs hz hu
  split at hb
  ·rename_i f hf
   split at hb
   ·rename_i e he
    split at hb
    ·rename_i hlk
     obtain ⟨rfl,rfl⟩:=Prod.mk.inj (Option.some.inj hb)
     intro next Q hn
     obtain ⟨i,zz,hi,hiz,hrz,hzrun⟩:=fu (w:=w) (E:=E) (S:=S) hz
     have hcells:zz.cells=#[.pointer none,.slice none 0 0]:=by
      cases hrz with
      | one hv _=>cases hv
      | @agg _ xs h1 h2=>
       have hs:xs.size=2:=by simpa using h1.symm
       have a0:=h2 0 (by simp) (by omega)
       have a1:=h2 1 (by simp) (by omega)
       simp only [List.getElem_cons_zero,List.getElem_cons_succ] at a0 a1
       have e0:xs[0]=.pointer none:=by
        generalize xs[0]=y at a0
        cases a0 with
        | base a0=>cases a0; rfl
       have e1:xs[1]=.slice none 0 0:=R1.nil_slice a1 (by decide)
       show xs=_
       apply Array.ext
       ·simp [hs]
       ·intro k hk hk'
        match k,hk with
        | 0,_=>simpa using e0
        | 1,_=>simpa using e1
        | k+2,hk=>omega
     have hrun:(execOp a.eval o).run P w=.ok (.value (.pointer (some ⟨w.heap.size,0,none⟩))) (w.alloc (.cells zz.cells t)):=by
      simp only [execOp,hop,Sem.run_bind,Instr.alloc,hzrun,Result.andThen_ok,newVar,newRow,newObj,Sem.run_pure]
      rfl
     have hnew:=New.alloc (E:=E) h.own (.cells zz.cells t) (some 0) (some [1,d])
     have hS:=ef h hlk (w.heap.size,2)
     have h2:=h.turn hnew.ext (fun p=>hnew.kept h.own p) hnew.own
     unfold Oper.wp
     rw [hrun,Oper.upon_value]
     refine hn _ _ _ (s9 S d (some (w.heap.size,2))) _ hnew.framed ?_ ?_
     ·have:=R1.ptr (w:=w.alloc (.cells zz.cells t)) (E:=s9 E w.heap.size (some 0)) (S:=s9 S d (some (w.heap.size,2))) (s:=d) (b:=w.heap.size) (sz:=2) (i:=0) (off:=0) (by simp [s9])
      rw [Nat.zero_mul] at this
      exact .cell (.one rfl (.free this))
     ·rw [hd]
      refine ⟨fun d' v' hl=>?_,fun s y hl=>?_,fun s hl=>?_,h2.size,h2.own,h2.defers,fun s q hq=>?_,h2.glob⟩
      ·simp only [AE.unput,L9] at hl
       split at hl
       ·cases hl
       ·obtain ⟨x',q1,q2⟩:=h2.tmps d' v' hl
        exact ⟨x',q1,q2.mono (Ext.refl _ _) hS ⟨fun b q hb=>⟨rfl,rfl,hb⟩⟩⟩
      ·simp only [AE.unput,s8] at hl
       split at hl
       ·rename_i e
        subst e
        obtain rfl:=Option.some.inj hl
        unfold r7
        have:s9 S s (some (w.heap.size,2)) s=some (w.heap.size,2):=by simp [s9]
        rw [this]
        refine ⟨rfl,by omega,zz.cells,t,(0,0),bj w _,fun o _ h=>by simp at h,by simp [s9],by simp [s9],by simp [hcells],fun i hi=>?_,fun hc=>Bool.noConfusion hc,fun _=>⟨rfl,by simp [hcells],fun i j hi hj y hy=>?_⟩⟩
        ·have:i=0:=by simpa using hi
         subst this; rfl
        ·have:i=0:=by simpa using hi
         subst this
         rw [Nat.zero_mul,Nat.zero_add,hcells] at hy
         match j,hj with
         | 0,_=>
          obtain rfl:=Option.some.inj hy
          exact .free (.tp this (bj w _) (.inl rfl))
         | 1,_=>
          obtain rfl:=Option.some.inj hy
          exact .rowNil
       ·rename_i e
        refine (h2.sites s y hl).mono (Ext.refl _ _) hS ?_ ⟨fun b q hb=>⟨rfl,rfl,hb⟩⟩
        simp [s9,e]
      ·simp only [AE.unput,s8] at hl
       split at hl
       ·cases hl
       ·rename_i e
        simp only [s9,if_neg e]
        exact h2.live s hl
      ·obtain ⟨q1,q2⟩:=h2.par s q hq
       exact ⟨hS s q q1,q2⟩
    ·cases hb
   ·cases hb
  ·cases hb
 ·cases hb
theorem R1.empty1 {v:V} {x:Value} (o:Nat) (h:R1 w E S v x):R1 w E S (AE.empty1 o v) x:=by
 unfold AE.empty1
 split
 ·rename_i sz
  cases h with
  | base h=>cases h with
   | slNil=>
    cases Nat.beq o 3 with
    | true=>cases Nat.blt 0 sz <;> exact .base (.slNil _ _)
    | false=>exact .base (.slNil _ _)
 ·exact h
theorem nB (keep:List Nat):∀ (k:Nat) (vs:List V),(eI keep k vs).length=vs.length∧∀ j (h:j < (eI keep k vs).length) (h':j < vs.length),∃ o,(eI keep k vs)[j]=AE.empty1 o vs[j]
 | _,[]=>⟨rfl,fun j h=>by simp [eI] at h⟩
 | k,v :: r=>by
  obtain ⟨h1,h2⟩:=nB keep (k+1) r
  refine ⟨by simp [eI,h1],fun j h h'=>?_⟩
  cases j with
  | zero=>exact ⟨_,rfl⟩
  | succ j=>
   obtain ⟨o,ho⟩:=h2 j (by simpa [eI] using h) (by simpa using h')
   exact ⟨o,by simpa [eI] using ho⟩
theorem RF1.emptyZ {z:V} {x:Value} (keep:List Nat) (h:RF1 w E S z x):RF1 w E S (AE.emptyZ keep z) x:=by
 unfold AE.emptyZ
 split
 ·rename_i cs
  cases h with
  | one hv h=>cases hv
  | agg h1 h2=>
   obtain ⟨g1,g2⟩:=nB keep 0 cs
   refine .agg (by rw [g1]; exact h1) (fun j hj hj'=>?_)
   have hj2:j < cs.length:=by rw [←g1]; exact hj
   obtain ⟨o,ho⟩:=g2 j hj hj2
   rw [ho]
   exact (h2 j hj2 hj').empty1 o
 ·exact h
theorem qA (keep:List Nat) (z:V):(AE.emptyZ keep z).cells.isEmpty=z.cells.isEmpty:=by
 unfold AE.emptyZ
 split
 ·rename_i cs
  simp only [V.cells]
  cases cs with
  | nil=>rfl
  | cons c r=>rfl
 ·rfl
theorem uw {o:Oper} {a:Act} {t:TypeId} {z:V} {p:Pos} (hop:o.op=.alloc t) (ho:∀ b q,O b=some q→b < w.heap.size) (hz:ez P t=some z) (hne:¬ z.cells.isEmpty=true) (keep:List Nat):yg P o a w E S O (.io (AE.emptyZ keep z)) p:=by
 obtain ⟨i,zz,hi,hiz,hrz,hzrun⟩:=fu (w:=w) (E:=E) (S:=S) hz
 refine gt ⟨_,_,_,_,?_,New.alloc ho (.cells zz.cells t) (some 0) (some p),uH ho (hrz.emptyZ keep) (by rw [qA]; simpa using hne) p⟩
 simp only [execOp,hop,Sem.run_bind,Instr.alloc,hzrun,Result.andThen_ok,newVar,newRow,newObj,Sem.run_pure]
 rfl
theorem rZ (hcall:∀ f args r outs,callH f args=some (r,outs)→Z3 G P f args r outs) {st st2:St} {a:Act} (h:Rel G F st a w E S O) {oa:A7} {o:Oper} (hs:((G7 P callH oa st o).bind fun r=>H6 oa o.dst r.1 r.2)=some st2)
  {next:Act→World→Prop} {Q:Exit→Act→World→Prop} (hn:∀ a' w' E' S' O',r8 w E O w' E' O'→Rel G F st2 a' w' E' S' O'→next a' w'):o.wp P a w next Q:=by
 have fin:∀ {v:V} {st':St},H6 oa o.dst v st'=some st2→kU G P F o a w E O v st'→o.wp P a w next Q:=by
  intro v st' hf he
  refine he next Q (fun x w' E' S' O' hfr hr hrel=>?_)
  obtain ⟨E2,S2,O2,g1,g2⟩:=pt hrel hr hf
  exact hn _ _ E2 S2 O2 (hfr.trans g1) g2
 have pure:∀ {v:V},l4 P callH st.σ (opd P st.t []) o=some v→kU G P F o a w E O v st:=fun hp=>
  dP h (U4 hcall (fun t x u hu=>P8 h hu) h.sites h.own h.glob hp (E4 o.dst)) (fun w' E' O' hrel=>⟨S,fun _ _ h=>h,hrel.unput o.dst⟩)
 obtain ⟨⟨v,st'⟩,hv,hf⟩:=bind_some hs
 refine fin hf ?_
 unfold G7 at hv
 cases htk:Nat.blt 1 oa.tk.length with
 | true=>rw [htk] at hv; cases hv
 | false=>
  rw [htk] at hv
  simp only [cond_false] at hv
  have htk':oa.tk.length≤1:=by
   rcases Nat.lt_or_ge 1 oa.tk.length with g | g
   ·have:Nat.blt 1 oa.tk.length=true:=Nat.ble_eq_true_of_le g
    rw [this] at htk; cases htk
   ·exact g
  have alloc:M5 o=true→∀ {v:V} {st':St} (hv':(match o.dst with | some d=>(l4 P callH st.σ (opd P st.t []) o).map fun v=>(v,AE.killOne d st) | none=>none)=some (v,st')),kU G P F o a w E O v st':=by
   intro hal v st' hv'
   cases hd:o.dst with
   | none=>rw [hd] at hv'; cases hv'
   | some d=>
    rw [hd] at hv'
    obtain ⟨u,hu,hq⟩:=map_some hv'
    obtain ⟨rfl,rfl⟩:=Prod.mk.inj hq
    obtain ⟨S',hk⟩:=h.killOne d
    have hp:=U4 (S:=S') (σ:=[]) (ρ:=fun t x=>(opd P st.t [] t x).filter V.free) (o:=o) (v:=u) hcall (fun t x u hu=>by
      obtain ⟨g1,g2⟩:=filter_some hu
      exact Bi (P8 h g1) g2) (fun s y hs=>by cases hs) h.own h.glob (by rw [←hu]; exact rr hal) (E4 o.dst)
    exact dP hk (by rw [hd] at hp; rw [hd]; exact hp) (fun w' E' O' hrel=>⟨S',fun _ _ h=>h,hrel.unput o.dst⟩)
  split at hv
  ·rename_i x hop
   cases hcl:oa.close with
   | true=>
    rw [hcl] at hv
    simp only [cond_true] at hv
    obtain ⟨u,hu,hv⟩:=bind_some hv
    split at hv
    ·obtain ⟨y,hy,hv⟩:=bind_some hv
     split at hv
     ·rename_i hcond
      obtain ⟨rfl,rfl⟩:=Prod.mk.inj (Option.some.inj hv)
      exact nz h (.inr hop) hu hy hcond.1 hcond.2.1 hcond.2.2
     ·cases hv
    ·cases hv
   | false=>
    rw [hcl] at hv
    obtain ⟨u,hu,hq⟩:=map_some hv
    obtain ⟨rfl,rfl⟩:=Prod.mk.inj hq
    exact pq h (.inr hop) htk' hu
  ·rename_i x hop
   cases hcl:oa.close with
   | true=>
    rw [hcl] at hv
    simp only [cond_true] at hv
    obtain ⟨u,hu,hv⟩:=bind_some hv
    split at hv
    ·obtain ⟨y,hy,hv⟩:=bind_some hv
     split at hv
     ·rename_i hcond
      obtain ⟨rfl,rfl⟩:=Prod.mk.inj (Option.some.inj hv)
      exact nz h (.inl hop) hu hy hcond.1 hcond.2.1 hcond.2.2
     ·cases hv
    ·cases hv
   | false=>
    rw [hcl] at hv
    obtain ⟨u,hu,hq⟩:=map_some hv
    obtain ⟨rfl,rfl⟩:=Prod.mk.inj hq
    exact pq h (.inl hop) htk' hu
  ·rename_i t xa x hop
   obtain ⟨u,hu,hv⟩:=bind_some hv
   obtain ⟨u2,hu2,hv⟩:=bind_some hv
   obtain ⟨σ',hs',hq⟩:=map_some hv
   obtain ⟨rfl,rfl⟩:=Prod.mk.inj hq
   exact ug h hop htk' hu hu2 hs'
  ·rename_i t xa hop
   obtain ⟨u,hu,hv⟩:=bind_some hv
   obtain ⟨⟨u2,σ'⟩,hs',hq⟩:=map_some hv
   obtain ⟨rfl,rfl⟩:=Prod.mk.inj hq
   exact xj h hop hu hs'
  ·rename_i c hop
   split at hv
   ·rename_i hcc
    exact sd h hop hcc htk' hv
   ·rename_i fop hcc
    exact xi hcall h hop hcc hv
   ·cases hv
  ·rename_i t hop
   cases hd:o.dst with
   | none=>rw [hd] at hv; cases hv
   | some d=>
    rw [hd] at hv
    cases hsi:oa.site with
    | true=>
     rw [hsi] at hv
     obtain ⟨S',hk⟩:=h.killOne d
     exact sa hk hop hd hv
    | false=>
     rw [hsi] at hv
     simp only [cond_false] at hv
     obtain ⟨u,hu,hq⟩:=map_some hv
     obtain ⟨rfl,rfl⟩:=Prod.mk.inj hq
     have hu2:=hu
     simp only [l4,hop] at hu2
     obtain ⟨z,hz,hu2⟩:=bind_some hu2
     split at hu2
     ·cases hu2
     ·rename_i hne
      obtain rfl:=Option.some.inj hu2
      cases hk:oa.keep.isEmpty with
      | true=>
       have:AE.nC oa.keep (.io z)=.io z:=by simp only [AE.nC,hk,cond_true]
       rw [this]
       exact alloc (by simp [M5,hop]) (by rw [hd]; simp only [hu,Option.map_some])
      | false=>
       have:AE.nC oa.keep (.io z)=.io (AE.emptyZ oa.keep z):=by simp only [AE.nC,hk,cond_false]
       rw [this]
       obtain ⟨S',hk'⟩:=h.killOne d
       exact dP hk' (by rw [hd]; exact uw hop hk'.own hz hne oa.keep) (fun w' E' O' hrel=>⟨S',fun _ _ h=>h,hrel.unput o.dst⟩)
  ·rename_i hop
   exact alloc (v:=v) (st':=st') (by simp [M5,hop]) hv
  ·obtain ⟨u,hu,hq⟩:=map_some hv
   obtain ⟨rfl,rfl⟩:=Prod.mk.inj hq
   exact pure hu
theorem eu (hcall:∀ f args r outs,callH f args=some (r,outs)→Z3 G P f args r outs) {st st2:St} {a:Act} (h:Rel G F st a w E S O) {oa:A7} {o:Oper} (hs:F0 P callH oa o st=some st2)
  {next:Act→World→Prop} {Q:Exit→Act→World→Prop} (hn:∀ a' w' E' S' O',r8 w E O w' E' O'→Rel G F st2 a' w' E' S' O'→next a' w'):o.wp P a w next Q:=by
 unfold F0 at hs
 cases hc:(J6 oa o && !M5 o) with
 | true=>
  rw [hc] at hs
  simp only [cond_true] at hs
  obtain ⟨v,hv,hf⟩:=bind_some hs
  have he:kU G P F o a w E O v st:=dP h (U4 hcall (fun t x u hu=>P8 h hu) h.sites h.own h.glob hv (E4 o.dst)) (fun w' E' O' hrel=>⟨S,fun _ _ h=>h,hrel.unput o.dst⟩)
  refine he next Q (fun x w' E' S' O' hfr hr hrel=>?_)
  obtain ⟨E2,S2,O2,g1,g2⟩:=pt hrel hr hf
  exact hn _ _ E2 S2 O2 (hfr.trans g1) g2
 | false=>
  rw [hc] at hs
  simp only [cond_false] at hs
  cases hg:oa.gh.isEmpty with
  | true=>
   rw [hg,cond_true] at hs
   exact rZ hcall h hs hn
  | false=>
   rw [hg,cond_false] at hs
   obtain ⟨st1,h1,hs⟩:=bind_some hs
   obtain ⟨st3,h2,h3⟩:=bind_some hs
   obtain ⟨E1,S1,O1,f1,r1⟩:=h.ghostG _ h1
   refine rZ hcall r1 h2 (fun a' w' E' S' O' f2 r2=>?_)
   obtain ⟨E3,S3,O3,f3,r3⟩:=r2.ghostG _ h3
   exact hn a' w' E3 S3 O3 ((f1.trans f2).trans f3) r3
theorem ri (hcall:∀ f args r outs,callH f args=some (r,outs)→Z3 G P f args r outs) {ops:Array Oper} {b7:List (Nat×A7)} {Q:Exit→Act→World→Prop}:∀ (r:List Oper) (i:Nat) (st st2:St) (a:Act) (w:World) (E:Bnd) (S:Sit) (O:Own),
  ops.toList.drop i=r→T0 P callH ops b7 i r st=some st2→Rel G F st a w E S O→(∀ a' w' E' S' O',r8 w E O w' E' O'→Rel G F st2 a' w' E' S' O'→Q .normal a' w')→wpOps P ops Q (List.range' i r.length) a w
 | [],i,st,st2,a,w,E,S,O,hd,hs,h,hn=>by
  obtain rfl:=Option.some.inj hs
  exact hn a w E S O (r8.refl h.own) h
 | o :: r,i,st,st2,a,w,E,S,O,hd,hs,h,hn=>by
  have ho:ops[i]?=some o:=by
   have:=congrArg (·[0]?) hd
   simpa using this
  have hd':ops.toList.drop (i+1)=r:=by
   have:=congrArg (List.drop 1) hd
   simpa [Nat.add_comm] using this
  simp only [T0] at hs
  obtain ⟨b,hb,hs⟩:=bind_some hs
  have hw:=Y2 h hb
  rw [List.length_cons,List.range'_succ,wpOps_cons]
  unfold wpOp
  rw [ho]
  simp only [hw]
  cases b with
  | true=>
   simp only [cond_true] at hs
   obtain ⟨st1,h1,hs⟩:=bind_some hs
   refine .inl (eu hcall h h1 (fun a' w' E' S' O' hfr hrel=>?_))
   exact ri hcall r (i+1) st1 st2 a' w' E' S' O' hd' hs hrel (fun a2 w2 E2 S2 O2 hfr2 hrel2=>hn a2 w2 E2 S2 O2 (hfr.trans hfr2) hrel2)
  | false=>
   simp only [cond_false] at hs
   obtain ⟨S',h'⟩:=h.unset o.dst
   exact ri hcall r (i+1) (AE.unset o.dst st) st2 _ w E S' O hd' hs h' hn
theorem Rel.drew {st:St} {a:Act} (h:Rel G F st a w E S O):Rel G F st a { w with drawn:=w.drawn+1 } E S O:=by
 have hn:=New.drew (w:=w) (E:=E) (O:=O) h.own
 exact h.turn hn.ext (fun p=>hn.kept h.own p) hn.own
end
section
variable {P:Program} {G:Glo} {w:World} {E:Bnd} {S F:Sit} {O:Own} {callH:O8}
theorem eX {ρ ρ':TypeId→Operand→Option V} (ts:Array TypeId):∀ (xs:List Operand) (k:Nat),(∀ t,∀ x∈xs,ρ t x=ρ' t x)→eW ρ ts k xs=eW ρ' ts k xs
 | [],_,_=>rfl
 | x :: xs,k,h=>by
  simp only [eW]
  rw [h _ x (by simp),eX ts xs (k+1) (fun t y hy=>h t y (by simp [hy]))]
theorem gH {ρ ρ':TypeId→Operand→Option V} (ty:Nat→TypeId):∀ (xs:List (Nat×Operand)),(∀ t,∀ x∈xs.map (·.2),ρ t x=ρ' t x)→bF ρ ty xs=bF ρ' ty xs
 | [],_=>rfl
 | (i,x) :: xs,h=>by
  simp only [bF]
  rw [h _ x (by simp),gH ty xs (fun t y hy=>h t y (by simp at hy ⊢; exact .inr hy))]
theorem U3 {σ:List (Nat×u6)} {ρ ρ':TypeId→Operand→Option V} (o:Oper) (h:∀ t,∀ x∈o.op.operands.toList,ρ t x=ρ' t x):l4 P callH σ ρ o=l4 P callH σ ρ' o:=by
 cases hop:o.op <;> rw [hop] at h <;> simp only [l4,hop] <;> simp only [Op.operands] at h
 case move x=>exact h _ x (by simp)
 case assign x=>exact h _ x (by simp)
 case pick c x y=>rw [h _ c (by simp),h _ x (by simp),h _ y (by simp)]
 case box t x=>rw [h _ x (by simp)]
 case build t ps=>rw [gH _ ps.toList (fun t x hx=>h t x (by simpa using hx))]
 case buildSlice t l ps=>rw [gH _ ps.toList (fun t x hx=>h t x (by simpa using hx))]
 case load t x=>rw [h _ x (by simp)]
 case nilCheck x=>rw [h _ x (by simp)]
 case binOp op xt x y yt=>rw [h _ x (by simp),h _ y (by simp)]
 case unOp op t x=>rw [h _ x (by simp)]
 case convert s d x=>rw [h _ x (by simp)]
 case slice t x l hi m=>
  have h1:=h t x (by simp)
  cases l with
  | none=>cases hi with
   | none=>simp only [h1]
   | some y=>
    have h3:=h 0 y (by simp)
    simp only [h1,h3]
  | some z=>
   have h2:=h 0 z (by simp)
   cases hi with
   | none=>simp only [h1,h2]
   | some y=>
    have h3:=h 0 y (by simp)
    simp only [h1,h2,h3]
 case fieldAddr s x f=>rw [h _ x (by simp)]
 case field s x f=>rw [h _ x (by simp)]
 case indexAddr t x i=>rw [h _ x (by simp),h _ i (by simp)]
 case index t x i=>rw [h _ x (by simp),h _ i (by simp)]
 case extract x i=>rw [h _ x (by simp)]
 case makeSlice t l c=>rw [h _ l (by simp),h _ c (by simp)]
 case makeFunc c first caps=>
  cases c with
  | func f=>
   simp only
   rw [eX _ first.toList 0 (fun t x hx=>h t x (by simp at hx ⊢; exact .inl hx)),eX _ caps.toList 0 (fun t x hx=>h t x (by simp at hx ⊢; exact .inr hx))]
  | _=>rfl
 case call c=>
  have h1:eW ρ c.argTypes 0 c.args.toList=eW ρ' c.argTypes 0 c.args.toList:=eX _ _ _ (fun t x hx=>h t x (by simp [Call.operands] at hx ⊢; exact .inr hx))
  cases hcc:c.callee with
  | builtin b=>
   cases b <;> simp only [h1]
   case len=>
    split
    ·rename_i x hx
     rw [h _ x (by simp only [Call.operands,Array.toList_append,List.mem_append]; exact .inr (by rw [hx]; simp))]
    ·rfl
  | value f=>
   have h2:=h 0 f (by simp [Call.operands,hcc])
   simp only [h1,h2]
  | invoke r m=>rfl
theorem pj (acc:List Nat) (k:Nat):∀ (es:List Edge) (s:Nat),(es.foldl (fun s e=>if Region.binds .any e then s ||| 2 ^ e.on ||| acc.getD e.on 0 else s) s).testBit k=true ↔
  s.testBit k=true∨∃ e∈es,Region.binds .any e=true∧(e.on=k∨(acc.getD e.on 0).testBit k=true)
 | [],s=>by simp
 | e :: es,s=>by
  rw [List.foldl_cons,pj acc k es]
  cases hb:Region.binds .any e with
  | false=>
   simp only [Bool.false_eq_true,if_false]
   constructor
   ·rintro (h | ⟨x,h1,h2⟩)
    ·exact .inl h
    ·exact .inr ⟨x,List.mem_cons_of_mem _ h1,h2⟩
   ·rintro (h | ⟨x,h1,h2⟩)
    ·exact .inl h
    ·cases h1 with
     | head=>rw [hb] at h2; simp at h2
     | tail _ h1=>exact .inr ⟨x,h1,h2⟩
  | true=>
   simp only [if_true,Nat.testBit_or,Bool.or_eq_true,Nat.testBit_two_pow,decide_eq_true_eq]
   constructor
   ·rintro (((h | h) | h) | ⟨x,h1,h2⟩)
    ·exact .inl h
    ·exact .inr ⟨e,List.mem_cons_self,hb,.inl h⟩
    ·exact .inr ⟨e,List.mem_cons_self,hb,.inr h⟩
    ·exact .inr ⟨x,List.mem_cons_of_mem _ h1,h2⟩
   ·rintro (h | ⟨x,h1,h2,h3⟩)
    ·exact .inl (.inl (.inl h))
    ·cases h1 with
     | head=>exact .inl (h3.elim (fun h=>.inl (.inr h)) .inr)
     | tail _ h1=>exact .inr ⟨x,h1,h2,h3⟩
theorem fT:∀ (r:List Oper) (acc:List Nat),∃ l,dL r acc=acc ++ l∧l.length=r.length∧∀ k (h:k < r.length),l.getD k 0=jC (acc ++ l.take k) (r[k])
 | [],acc=>⟨[],by simp [dL],rfl,fun k h=>by simp at h⟩
 | o :: r,acc=>by
  obtain ⟨l,h1,h2,h3⟩:=fT r (acc ++ [jC acc o])
  refine ⟨jC acc o :: l,by simp [dL,h1],by simp [h2],fun k hk=>?_⟩
  cases k with
  | zero=>simp
  | succ k=>
   have:=h3 k (by simpa using hk)
   simpa using this
theorem vZ {ops:Array Oper} {i k:Nat} (hi:i < ops.size):((A4 ops.toList).getD i 0).testBit k=true ↔
  ∃ e∈(ops[i]).after.toList,Region.binds .any e=true∧(e.on=k∨(e.on < i∧((A4 ops.toList).getD e.on 0).testBit k=true)):=by
 obtain ⟨l,h1,h2,h3⟩:=fT ops.toList []
 have hb:A4 ops.toList=l:=by unfold A4; simpa using h1
 rw [hb]
 have:=h3 i (by simpa using hi)
 simp only [List.nil_append,Array.getElem_toList] at this
 rw [this]
 unfold jC
 rw [pj]
 have key:∀ e:Edge,((l.take i).getD e.on 0).testBit k=true ↔ e.on < i∧(l.getD e.on 0).testBit k=true:=by
  intro e
  by_cases he:e.on < i
  ·simp [List.getD,List.getElem?_take,he]
  ·simp [List.getD,List.getElem?_take,he]
 simp only [Nat.zero_testBit,Bool.false_eq_true,false_or,key]
def upd (d:Option Tmp) (r:Option V) (t:List (Nat×V)):List (Nat×V):=match d with
 | none=>t
 | some d=>match r with | some v=>put d v t | none=>del d t
theorem sR (d d':Nat) (r:Option V) (t:List (Nat×V)):i6 d' (upd (some d) r t)=if d'=d then r else i6 d' t:=by
 cases r with
 | none=>simp only [upd,L9]
 | some v=>simp only [upd,s8]
def C5 (L:Nat→Bool):Nat→List Oper→List (Option V)→List (Nat×V)→List (Nat×V)
 | i,o :: r,x :: rs,t=>C5 L (i+1) r rs (bif L i then upd o.dst x t else t)
 | _,_,_,t=>t
theorem jc {L:Nat→Bool}:∀ (r:List Oper) (rs:List (Option V)) (i:Nat) (t:List (Nat×V)),(∀ k,k < r.length→L (i+k)=false)→C5 L i r rs t=t
 | [],_,_,_,_=>rfl
 | _ :: _,[],_,_,_=>rfl
 | o :: r,x :: rs,i,t,h=>by
  have h0:=h 0 (by simp)
  simp only [Nat.add_zero] at h0
  simp only [C5,h0,cond_false]
  exact jc r rs (i+1) t (fun k hk=>by rw [show i+1+k=i+(k+1) by omega]; exact h (k+1) (by simpa using hk))
theorem dq {L L':Nat→Bool}:∀ (r:List Oper) (rs:List (Option V)) (i:Nat) (t:List (Nat×V)),(∀ k,k < r.length→L (i+k)=L' (i+k))→C5 L i r rs t=C5 L' i r rs t
 | [],_,_,_,_=>rfl
 | _ :: _,[],_,_,_=>rfl
 | o :: r,x :: rs,i,t,h=>by
  have h0:=h 0 (by simp)
  simp only [Nat.add_zero] at h0
  simp only [C5,h0]
  exact dq r rs (i+1) _ (fun k hk=>by rw [show i+1+k=i+(k+1) by omega]; exact h (k+1) (by simpa using hk))
theorem C1 {L:Nat→Bool} {d:Nat}:∀ (r:List Oper) (rs:List (Option V)) (i:Nat) (t:List (Nat×V)),(∀ k (h:k < r.length),L (i+k)=true→(r[k]).dst≠some d)→i6 d (C5 L i r rs t)=i6 d t
 | [],_,_,_,_=>rfl
 | _ :: _,[],_,_,_=>rfl
 | o :: r,x :: rs,i,t,h=>by
  simp only [C5]
  rw [C1 r rs (i+1) _ (fun k hk hl=>by have:=h (k+1) (by simpa using hk) (by rw [show i+(k+1)=i+1+k by omega]; exact hl); simpa using this)]
  cases hL:L i with
  | false=>rfl
  | true=>
   have h0:=h 0 (by simp) (by simpa using hL)
   simp only [List.getElem_cons_zero] at h0
   cases hd:o.dst with
   | none=>rfl
   | some d'=>
    rw [cond_true,sR,if_neg]
    intro e
    subst e
    exact h0 hd
theorem B6 {L:Nat→Bool} {d:Nat}:∀ (r:List Oper) (rs:List (Option V)) (i:Nat) (t:List (Nat×V)),rs.length=r.length→(∀ j k (h:j < r.length) (h':k < r.length),j≠k→(r[j]).dst≠(r[k]).dst)→
  ∀ k (h:k < r.length) (h':k < rs.length),(r[k]).dst=some d→L (i+k)=true→i6 d (C5 L i r rs t)=rs[k]
 | [],_,_,_,_,_,k,h,_,_,_=>by simp at h
 | _ :: _,[],_,_,hl,_,_,_,_,_,_=>by simp at hl
 | o :: r,x :: rs,i,t,hl,hd,k,hk,hk',hdk,hLk=>by
  simp only [C5]
  cases k with
  | zero=>
   simp only [List.getElem_cons_zero,Nat.add_zero] at hdk hLk ⊢
   rw [C1 r rs (i+1) _ (fun j hj _ e=>hd 0 (j+1) (by simp) (by simpa using hj) (by omega) (by simp [hdk,e]))]
   rw [hLk,cond_true,hdk,sR,if_pos rfl]
  | succ k=>
   simp only [List.getElem_cons_succ] at hdk ⊢
   exact B6 r rs (i+1) _ (by simpa using hl) (fun a b ha hb hab=>by have:=hd (a+1) (b+1) (by simpa using ha) (by simpa using hb) (by omega); simpa using this) k (by simpa using hk) (by simpa using hk') hdk
    (by rw [show i+1+k=i+(k+1) by omega]; exact hLk)
theorem kw {ops:Array Oper} {b7:List (Nat×A7)} {σ:List (Nat×u6)} {n:Nat}:∀ (r:List Oper) (i:Nat) (t t':List (Nat×V)),O0 P callH ops b7 σ n i r t=some t'→
  ∃ rs:List (Option V),rs.length=r.length∧t'=C5 (fun _=>true) i r rs t∧∀ k (hk:k < r.length) (hk':k < rs.length),∃ d,(r[k]).dst=some d∧d < n∧∃ b,B0 ops (C5 (fun j=>decide (j < i+k)) i r rs t) (r[k])=some b∧
   (b=true→∃ v,l4 P callH σ (opd P (C5 (fun j=>decide (j < i+k)) i r rs t) []) (r[k])=some v∧rs[k]=some (fit (r9 b7 (i+k)).keep v))∧(b=false→rs[k]=some (.tup []))
 | [],i,t,t',h=>by
  obtain rfl:=Option.some.inj h
  exact ⟨[],rfl,rfl,fun k hk=>by simp at hk⟩
 | o :: r,i,t,t',h=>by
  simp only [O0] at h
  obtain ⟨b,hb,h⟩:=bind_some h
  cases hd:o.dst with
  | none=>rw [hd] at h; cases h
  | some d=>
   rw [hd] at h
   simp only at h
   cases hn:Nat.blt d n with
   | false=>rw [hn] at h; cases h
   | true=>
    rw [hn] at h
    simp only [cond_true] at h
    have hlt:d < n:=Nat.le_of_ble_eq_true hn
    -- the head
    obtain ⟨x,t1,ht1,hx1,hx2,h⟩:∃ (x:Option V) (t1:List (Nat×V)),t1=upd o.dst x t∧(b=true→∃ v,l4 P callH σ (opd P t []) o=some v∧x=some (fit (r9 b7 i).keep v))∧(b=false→x=some (.tup []))∧O0 P callH ops b7 σ n (i+1) r t1=some t':=by
     cases b with
     | true=>
      simp only [cond_true] at h
      obtain ⟨v,hv,h⟩:=bind_some h
      exact ⟨some (fit (r9 b7 i).keep v),upd o.dst (some (fit (r9 b7 i).keep v)) t,rfl,fun _=>⟨v,hv,rfl⟩,fun e=>Bool.noConfusion e,by rw [hd]; exact h⟩
     | false=>
      simp only [cond_false] at h
      exact ⟨some (.tup []),upd o.dst (some (.tup [])) t,rfl,fun e=>Bool.noConfusion e,fun _=>rfl,by rw [hd]; exact h⟩
    obtain ⟨rs,l1,l2,l3⟩:=kw r (i+1) t1 t' h
    refine ⟨x :: rs,by simp [l1],by simp only [C5,cond_true]; rw [l2,ht1],fun k hk hk'=>?_⟩
    cases k with
    | zero=>
     have e0:C5 (fun j=>decide (j < i+0)) i (o :: r) (x :: rs) t=t:=jc _ _ _ _ (fun k _=>by simp)
     simp only [List.getElem_cons_zero]
     rw [e0]
     exact ⟨d,hd,hlt,b,hb,hx1,hx2⟩
    | succ k=>
     simp only [List.getElem_cons_succ]
     have e1:C5 (fun j=>decide (j < i+(k+1))) i (o :: r) (x :: rs) t=C5 (fun j=>decide (j < i+1+k)) (i+1) r rs t1:=by
      simp only [C5]
      have:decide (i < i+(k+1))=true:=by simp
      rw [this,cond_true,←ht1]
      exact dq _ _ _ _ (fun q _=>by rw [show i+(k+1)=i+1+k by omega])
     rw [e1]
     have:=l3 k (by simpa using hk) (by simpa using hk')
     rw [show i+(k+1)=i+1+k by omega]
     exact this
def cnt (L:Nat→Bool):Nat→Nat
 | 0=>0
 | n+1=>cnt L n+(bif L n then 0 else 1)
theorem cq {L L':Nat→Bool}:∀ n,(∀ i,i < n→L i=L' i)→cnt L n=cnt L' n
 | 0,_=>rfl
 | n+1,h=>by simp only [cnt]; rw [cq n (fun i hi=>h i (by omega)),h n (by omega)]
theorem jF {L L':Nat→Bool} {i:Nat} (hi:L i=false) (hi':L' i=true) (ho:∀ j,j≠i→L' j=L j):∀ n,i < n→cnt L' n+1=cnt L n
 | 0,h=>by omega
 | n+1,h=>by
  simp only [cnt]
  by_cases e:i=n
  ·subst e
   rw [hi,hi',cq i (fun j hj=>ho j (by omega))]
   rfl
  ·have:=jF hi hi' ho n (by omega)
   rw [ho n (by omega)]
   omega
theorem fX {L:Nat→Bool}:∀ n,cnt L n=0→∀ i,i < n→L i=true
 | 0,_,i,hi=>by omega
 | n+1,h,i,hi=>by
  simp only [cnt] at h
  cases hL:L n with
  | false=>rw [hL] at h; simp at h
  | true=>
   by_cases e:i=n
   ·subst e; exact hL
   ·exact fX n (by omega) i (by omega)
theorem cf {L:Nat→Bool} {k:Nat} (h:∀ j,L j=decide (j < k)):∀ n,k≤n→cnt L n=n - k
 | 0,_=>by simp [cnt]
 | n+1,hk=>by
  simp only [cnt]
  by_cases e:k=n+1
  ·have:cnt L n=0:=by
    have:∀ m,m≤n→cnt L m=0:=by
     intro m
     induction m with
     | zero=>intro _; rfl
     | succ m ih=>
      intro hm; simp only [cnt,ih (by omega),h m]; have:decide (m < k)=true:=by simp; omega
      rw [this]; rfl
    exact this n (Nat.le_refl n)
   rw [this,h n]
   have:decide (n < k)=true:=by simp; omega
   rw [this]
   simp; omega
  ·rw [cf h n (by omega),h n]
   have:decide (n < k)=false:=by simp; omega
   rw [this]
   simp; omega
end
section
variable {P:Program} {G:Glo} {w:World} {E:Bnd} {S F:Sit} {O:Own} {callH:O8}
structure F5 (ops:Array Oper) (p q:Nat):Prop where
 le:p≤ops.size
 back:∀ i,i < ops.size→∀ k,((A4 ops.toList).getD i 0).testBit k=true→k < i
 barrier:∀ i,i < ops.size→p≤i→∀ k,k < i→((A4 ops.toList).getD i 0).testBit k=true
 dep:∀ j,j < p→∀ o,ops[j]?=some o→∀ t∈A3 ops o,∀ i,i < q→∀ x,ops[i]?=some x→x.dst=some t→((A4 ops.toList).getD j 0).testBit i=true
 dist:∀ i j,i < q→j < q→i≠j→(ops[i]?).bind (·.dst)≠(ops[j]?).bind (·.dst)
theorem F5.weak {ops:Array Oper} {p q r:Nat} (h:F5 ops p q) (hr:r≤q):F5 ops p r:=
 ⟨h.le,h.back,h.barrier,fun j hj o ho t ht i hi=>h.dep j hj o ho t ht i (by omega),fun i j hi hj=>h.dist i j (by omega) (by omega)⟩
theorem lj {ops:Array Oper} {p:Nat} (h:iV ops p=true):F5 ops p p:=by
 unfold iV at h
 simp only [Bool.and_eq_true,List.all_eq_true,List.mem_range,Bool.or_eq_true] at h
 obtain ⟨⟨⟨⟨h1,h2⟩,h3⟩,h4⟩,h5⟩:=h
 refine ⟨Nat.le_of_ble_eq_true h1,fun i hi k hk=>?_,fun i hi hp k hk=>?_,fun j hj o ho t ht i hi x hx hd=>?_,fun i j hi hj hij=>?_⟩
 ·have h2':(A4 ops.toList).getD i 0 < 2 ^ i:=Nat.le_of_ble_eq_true (h2 i hi)
  rcases Nat.lt_or_ge k i with h' | h'
  ·exact h'
  ·rw [Nat.testBit_lt_two_pow (Nat.lt_of_lt_of_le h2' (Nat.pow_le_pow_right (by omega) h'))] at hk
   cases hk
 ·rcases h3 i hi with h3 | h3
  ·have:i < p:=Nat.le_of_ble_eq_true h3
   omega
  ·rw [Nat.eq_of_beq_eq_true h3,Nat.testBit_two_pow_sub_one]
   simpa using hk
 ·have:=h4 j hj
  rw [ho] at this
  have:=this t ht i hi
  rw [hx] at this
  rcases this with h | h
  ·simp [hd] at h
  ·exact h
 ·rcases h5 j hj i hi with h | h
  ·exact absurd (Nat.eq_of_beq_eq_true h) hij
  ·simpa using h
theorem ue {ops:Array Oper} {p:Nat} (h:qy ops p=true):F5 ops (p+1) p:=by
 unfold qy at h
 simp only [Bool.and_eq_true,List.all_eq_true,List.mem_range,Bool.or_eq_true] at h
 obtain ⟨⟨⟨⟨h1,h2⟩,h3⟩,h4⟩,h5⟩:=h
 refine ⟨Nat.le_of_ble_eq_true h1,fun i hi k hk=>?_,fun i hi hp k hk=>?_,fun j hj o ho t ht i hi x hx hd=>?_,fun i j hi hj hij=>?_⟩
 ·have h2':(A4 ops.toList).getD i 0 < 2 ^ i:=Nat.le_of_ble_eq_true (h2 i hi)
  rcases Nat.lt_or_ge k i with h' | h'
  ·exact h'
  ·rw [Nat.testBit_lt_two_pow (Nat.lt_of_lt_of_le h2' (Nat.pow_le_pow_right (by omega) h'))] at hk
   cases hk
 ·rcases h3 i hi with h3 | h3
  ·have:i < p+1:=Nat.le_of_ble_eq_true h3
   omega
  ·rw [Nat.eq_of_beq_eq_true h3,Nat.testBit_two_pow_sub_one]
   simpa using hk
 ·have:=h4 j hj
  rw [ho] at this
  have:=this t ht i hi
  rw [hx] at this
  rcases this with h | h
  ·simp [hd] at h
  ·exact h
 ·rcases h5 j hj i hi with h | h
  ·exact absurd (Nat.eq_of_beq_eq_true h) hij
  ·simpa using h
def Lf (listed:Array Bool) (j:Nat):Bool:=listed.getD j true
theorem U6 {ops:Array Oper} {listed:Array Bool} {i:Nat}:i∈Region.ready .any ops listed ↔ ∃ hi:i < ops.size,Lf listed i=false∧∀ e∈(ops[i]).after.toList,Region.binds .any e=true→listed.getD e.on false=true:=by
 simp only [Region.ready,List.mem_filter,List.mem_range,Bool.and_eq_true,Lf]
 constructor
 ·rintro ⟨hi,h1,h2⟩
  refine ⟨hi,by simpa using h1,fun e he hb=>?_⟩
  rw [Array.getElem?_eq_getElem hi] at h2
  simp only [Option.map_some,Option.getD_some,Array.all_eq_true] at h2
  obtain ⟨j,hj,rfl⟩:=List.getElem_of_mem he
  have:=h2 j (by simpa using hj)
  rw [Array.getElem_toList] at hb ⊢
  rw [hb] at this
  simpa using this
 ·rintro ⟨hi,h1,h2⟩
  refine ⟨hi,by simpa using h1,?_⟩
  rw [Array.getElem?_eq_getElem hi]
  simp only [Option.map_some,Option.getD_some,Array.all_eq_true]
  intro j hj
  cases hb:Region.binds .any ((ops[i]).after[j]) with
  | false=>rfl
  | true=>
   have:=h2 _ (List.getElem_mem (l:=(ops[i]).after.toList) (n:=j) (by simpa using hj)) (by rw [Array.getElem_toList]; exact hb)
   rw [Array.getElem_toList] at this
   simpa using this
theorem wi {listed:Array Bool} {j:Nat} (h:j < listed.size):listed.getD j false=Lf listed j:=by
 unfold Lf Array.getD
 rw [dif_pos h,dif_pos h]
theorem kV {listed:Array Bool} {i j:Nat} (h:i < listed.size):Lf (listed.setIfInBounds i true) j=if j=i then true else Lf listed j:=by
 unfold Lf Array.getD
 by_cases e:j=i
 ·subst e
  simp [h]
 ·simp only [Array.size_setIfInBounds,e,if_false]
  split
  ·simp [Array.getInternal_eq_getElem,Array.getElem_setIfInBounds,show ¬ i=j from fun h=>e h.symm]
   exact Array.getElem_setIfInBounds_ne (by assumption) (fun h=>e h.symm)
  ·rfl
section
variable {ops:Array Oper} {p:Nat}
theorem rY {i:Nat} (hi:i < ops.size) {e:Edge} (he:e∈(ops[i]).after.toList) (hb:Region.binds .any e=true):((A4 ops.toList).getD i 0).testBit e.on=true:=
 (vZ hi).2 ⟨e,he,hb,.inl rfl⟩
theorem gJ {q:Nat} (hf:F5 ops p q) {listed:Array Bool} (hs:listed.size=ops.size) (h:Region.ready .any ops listed=[]):∀ i,i < ops.size→Lf listed i=true:=by
 intro i
 induction i using Nat.strongRecOn with
 | _ i ih=>
  intro hi
  cases hL:Lf listed i with
  | true=>rfl
  | false=>
   have:i∈Region.ready .any ops listed:=U6.2 ⟨hi,hL,fun e he hb=>by
    have hlt:=hf.back i hi _ (rY hi he hb)
    rw [wi (by omega)]
    exact ih _ hlt (by omega)⟩
   rw [h] at this
   cases this
def fR (ops:Array Oper) (listed:Array Bool):Prop:=∀ i,i < ops.size→Lf listed i=true→∀ k,((A4 ops.toList).getD i 0).testBit k=true→Lf listed k=true
theorem U5 {q:Nat} (hf:F5 ops p q) {listed:Array Bool} (hs:listed.size=ops.size) (hc:fR ops listed) {i:Nat} (h:i∈Region.ready .any ops listed):∀ k,((A4 ops.toList).getD i 0).testBit k=true→Lf listed k=true:=by
 obtain ⟨hi,h1,h2⟩:=U6.1 h
 intro k hk
 obtain ⟨e,he,hb,h3⟩:=(vZ hi).1 hk
 have hlt:=hf.back i hi _ (rY hi he hb)
 have hL:Lf listed e.on=true:=by rw [←wi (by omega)]; exact h2 e he hb
 rcases h3 with rfl | ⟨_,h3⟩
 ·exact hL
 ·exact hc _ (by omega) hL k h3
theorem eD {q:Nat} (hf:F5 ops p q) {listed:Array Bool} (hs:listed.size=ops.size) (hc:fR ops listed) {i:Nat} (h:i∈Region.ready .any ops listed):fR ops (listed.setIfInBounds i true):=by
 obtain ⟨hi,h1,h2⟩:=U6.1 h
 intro j hj hL k hk
 rw [kV (by omega)] at hL ⊢
 split
 ·rfl
 ·split at hL
  ·rename_i e
   subst e
   exact U5 hf hs hc h k hk
  ·exact hc j hj hL k hk
theorem X0 (hcall:∀ f args r outs,callH f args=some (r,outs)→Z3 G P f args r outs) {qq:Nat} (hf:F5 ops p qq) {b7:List (Nat×A7)} {Q:Exit→Act→World→Prop} {st2:St}:∀ (fuel:Nat) (listed:Array Bool) (k:Nat) (st:St) (a:Act) (w:World) (E:Bnd) (S:Sit) (O:Own),
  listed.size=ops.size→(∀ j,j < ops.size→Lf listed j=decide (j < k))→p≤k→k≤ops.size→fuel=ops.size - k→T0 P callH ops b7 k (ops.toList.drop k) st=some st2→Rel G F st a w E S O→
  (∀ a' w' E' S' O',r8 w E O w' E' O'→Rel G F st2 a' w' E' S' O'→Q .normal a' w')→wpAny P .any ops Q fuel listed a w
 | 0,listed,k,st,a,w,E,S,O,hs,hL,hp,hk,hfu,he,h,hn=>by
  have hkk:k=ops.size:=by omega
  subst hkk
  have hd:ops.toList.drop ops.size=[]:=by simp
  rw [hd] at he
  obtain rfl:=Option.some.inj he
  refine ⟨?_,hn a w E S O (r8.refl h.own) h⟩
  cases hr:Region.ready .any ops listed with
  | nil=>rfl
  | cons i r=>
   have hi:i∈Region.ready .any ops listed:=by rw [hr]; simp
   obtain ⟨h1,h2,_⟩:=U6.1 hi
   rw [hL i h1] at h2
   simp at h2
   omega
 | fuel+1,listed,k,st,a,w,E,S,O,hs,hL,hp,hk,hfu,he,h,hn=>by
  have hlt:k < ops.size:=by omega
  refine ⟨fun hr=>?_,fun i hi=>?_⟩
  ·have:=gJ hf hs hr k hlt
   rw [hL k hlt] at this
   simp at this
  ·obtain ⟨hi1,hi2,hi3⟩:=U6.1 hi
   have hge:k≤i:=by
    rw [hL i hi1] at hi2
    simpa using hi2
   have hclosed:fR ops listed:=by
    intro j hj hLj q hq
    have:=hf.back j hj q hq
    rw [hL j hj] at hLj
    rw [hL q (by omega)]
    simp at hLj ⊢
    omega
   have hik:i=k:=by
    rcases Nat.lt_or_ge k i with h' | h'
    ·have:=U5 hf hs hclosed hi k (hf.barrier i hi1 (by omega) k h')
     rw [hL k hlt] at this
     simp at this
    ·omega
   subst hik
   have hd:ops.toList.drop i=ops[i] :: ops.toList.drop (i+1):=by rw [←Array.getElem_toList (xs:=ops)]; exact List.drop_eq_getElem_cons (by simpa using hi1)
   rw [hd] at he
   simp only [T0] at he
   obtain ⟨b,hb,he⟩:=bind_some he
   have hw:=Y2 h hb
   have hL':∀ j,j < ops.size→Lf (listed.setIfInBounds i true) j=decide (j < i+1):=by
    intro j hj
    rw [kV (by omega)]
    split
    ·rename_i e; subst e; simp
    ·rename_i e
     rw [hL j hj]
     by_cases q:j < i
     ·simp [q]; omega
     ·simp [q]; omega
   unfold wpOp
   rw [Array.getElem?_eq_getElem hi1]
   simp only [hw]
   cases b with
   | true=>
    simp only [cond_true] at he
    obtain ⟨st1,h1,he⟩:=bind_some he
    refine .inl (eu hcall h h1 (fun a' w' E' S' O' hfr hrel=>?_))
    exact X0 hcall hf fuel _ (i+1) st1 a' w' E' S' O' (by simpa using hs) hL' (by omega) hi1 (by omega) he hrel (fun a2 w2 E2 S2 O2 hfr2 hrel2=>hn a2 w2 E2 S2 O2 (hfr.trans hfr2) hrel2)
   | false=>
    simp only [cond_false] at he
    obtain ⟨S',h'⟩:=h.unset (ops[i]).dst
    exact X0 hcall hf fuel _ (i+1) _ _ w E S' O (by simpa using hs) hL' (by omega) hi1 (by omega) he h' hn
theorem sZ {a:Act} {d:Nat} {x:Value} (h:a.tmps[d]?=some x):a.put (some d) x=a:=by
 have:a.tmps.setIfInBounds d x=a.tmps:=by
  apply Array.ext_getElem?
  intro i
  by_cases e:d=i
  ·subst e
   rw [Array.getElem?_setIfInBounds]
   have hlt:d < a.tmps.size:=by
    rcases Nat.lt_or_ge d a.tmps.size with h' | h'
    ·exact h'
    ·rw [Array.getElem?_eq_none h'] at h; cases h
   simp [hlt,h.symm]
  ·rw [Array.getElem?_setIfInBounds_ne e]
 show ({ a with tmps:=a.tmps.setIfInBounds d x }:Act)=a
 rw [this]
theorem cz {a:Act}:∀ (l:List Nat) {st st':St} {S:Sit} {O:Own},G1 l st=some st'→Rel G F st a w E S O→∃ S' O',r8 w E O w E O'∧Rel G F st' a w E S' O'
 | [],st,st',S,O,hi,h=>by
  obtain rfl:=Option.some.inj hi
  exact ⟨S,O,r8.refl h.own,h⟩
 | d :: r,st,st',S,O,hi,h=>by
  simp only [G1] at hi
  split at hi
  ·rename_i e hl
   cases hlk:i6 d st.σ with
   | some y=>rw [hlk] at hi; cases hi
   | none=>
    rw [hlk] at hi
    simp only at hi
    obtain ⟨x,hx,hr⟩:=h.tmps d _ hl
    cases hr with
    | cell hr=>
     obtain ⟨S1,g1⟩:=(h.drop d).ioSite (h.lt hl) hlk hr
     rw [sZ hx] at g1
     obtain ⟨S2,O2,g2,g3⟩:=cz r hi g1
     exact ⟨S2,O2,(A1 h.own _).trans g2,g3⟩
  ·exact cz r hi h
theorem Rel.unsetAll {a:Act}:∀ (l:List Oper) {st:St} {S:Sit},Rel G F st a w E S O→∃ S',Rel G F (AE.unsetAll l st) a w E S' O
 | [],st,S,h=>⟨S,h⟩
 | o :: r,st,S,h=>by
  simp only [AE.unsetAll]
  cases hd:o.dst with
  | none=>exact Rel.unsetAll r h
  | some d=>
   obtain ⟨S',h'⟩:=h.killOne d
   exact Rel.unsetAll r h'
theorem N1 {t t':List (Nat×V)} {ty:TypeId} {x:Operand} (h:∀ n,x=.tmp n→i6 n t=i6 n t'):opd P t [] ty x=opd P t' [] ty x:=by
 cases x with
 | tmp n=>simp only [opd,h n rfl]
 | _=>rfl
theorem bi {t t':List (Nat×V)} {o:Oper} (h:∀ n∈A3 ops o,i6 n t=i6 n t'):B0 ops t o=B0 ops t' o:=by
 unfold B0
 cases hg:o.guard with
 | none=>rfl
 | some q=>
  obtain ⟨j,b⟩:=q
  simp only
  cases hd:(ops[j]?).bind (·.dst) with
  | none=>rfl
  | some d=>
   simp only [Option.bind_some]
   rw [h d (by unfold A3; simp [hg,hd])]
structure vW (P:Program) (ops:Array Oper) (p i:Nat):Prop where
 lt:i < p
 op:∃ o t xa d,ops[i]?=some o∧o.op=.load t xa∧L5 P t=false∧(P.underlying t).isSome=true∧o.guard=none∧o.dst=some d
structure tP (P:Program) (ops:Array Oper) (i:Nat) (a:Act) (w:World):Prop where
 same:∃ o t xa d b off c e fr x,ops[i]?=some o∧o.op=.load t xa∧o.dst=some d∧L5 P t=false∧(P.underlying t).isSome=true∧a.eval xa=.pointer (some ⟨b,off,none⟩)∧
  w.heap[b]?=some (.cells c e fr)∧c[off]?=some x∧a.tmps[d]?=some x
theorem pJ {o:Oper} {t:TypeId} {xa:Operand} {a:Act} {b off:Nat} {c:Array Value} {e:TypeId} {fr:Nat×Nat} {x:Value} (hop:o.op=.load t xa) (ha:L5 P t=false) (hu:(P.underlying t).isSome=true)
  (hp:a.eval xa=.pointer (some ⟨b,off,none⟩)) (hb:w.heap[b]?=some (.cells c e fr)) (hx:c[off]?=some x):(execOp a.eval o).run P w=.ok (.value x) w:=by
 simp only [execOp,hop,hp,Sem.run_bind,gW ha hu hb hx,Result.andThen_ok]
 rfl
theorem uv {st:St} {a:Act} (h:Rel G F st a w E S O) {o:Oper} {t:TypeId} {xa:Operand} {v:V} (hop:o.op=.load t xa) (ha:L5 P t=false) (hu:(P.underlying t).isSome=true)
  (hv:l4 P callH st.σ (opd P st.t []) o=some v):∃ b off c e fr x,a.eval xa=.pointer (some ⟨b,off,none⟩)∧w.heap[b]?=some (.cells c e fr)∧c[off]?=some x∧RF w E S v x:=by
 simp only [l4,hop] at hv
 obtain ⟨u,hu1,hv⟩:=bind_some hv
 obtain ⟨v0,hv0,rfl⟩:=map_some hv
 have hru:=P8 h hu1
 obtain ⟨y,hrun,hrf⟩:=qV (P:=P) h.sites hru hv0
 have fin:∀ b off c e fr,a.eval xa=.pointer (some ⟨b,off,none⟩)→w.heap[b]?=some (.cells c e fr)→off < c.size→∃ b off c e fr x,a.eval xa=.pointer (some ⟨b,off,none⟩)∧w.heap[b]?=some (.cells c e fr)∧c[off]?=some x∧RF w E S v0.strip x:=by
  intro b off c e fr h1 h2 h3
  have hx:c[off]?=some c[off]:=Array.getElem?_eq_getElem h3
  have hl:=gW (P:=P) ha hu h2 hx
  rw [h1,hl] at hrun
  injection hrun with hrun
  exact ⟨b,off,c,e,fr,_,h1,h2,hx,by rw [hrun]; exact hrf⟩
 unfold kf at hv0
 split at hv0
 ·rename_i s i off
  obtain ⟨y',hy,hv0⟩:=bind_some hv0
  obtain ⟨e',he,hv0⟩:=bind_some hv0
  have hr1:=B4 hru rfl (by simp)
  have hok:=h.sites s y' hy
  have hi:i < y'.es.length:=by
   rcases Nat.lt_or_ge i y'.es.length with h' | h'
   ·exact h'
   ·rw [List.getElem?_eq_none h'] at he; cases he
  have hei:y'.es[i]=e':=by rw [List.getElem?_eq_getElem hi] at he; exact Option.some.inj he
  unfold P7 at hv0
  rw [ha] at hv0
  simp only [Bool.false_eq_true,if_false] at hv0
  rw [if_pos hu] at hv0
  have hoff:off < e'.cells.length:=by
   rcases Nat.lt_or_ge off e'.cells.length with h' | h'
   ·exact h'
   ·rw [List.getElem?_eq_none h'] at hv0; cases hv0
  generalize hptr:a.eval xa=z at hr1
  cases hr1 with
  | base hb=>cases hb
  | @ptr _ b sz _ _ hS=>
   unfold r7 at hok
   rw [hS] at hok
   obtain ⟨k1,k2,c,et,fr,k3,k4,k5,k6,k7,k8,_⟩:=hok
   have hle:=k8 i hi
   rw [hei] at hle
   have h2:(i+1) * sz≤y'.es.length * sz:=Nat.mul_le_mul_right _ hi
   rw [Nat.add_mul] at h2
   rw [←hptr]
   exact fin b (i * sz+off) c et fr hptr k3 (by omega)
 ·rename_i c0
  split at hv0
  ·rename_i hc
   have hr1:=B4 hru rfl (by simp)
   generalize hptr:a.eval xa=z at hr1
   cases hr1 with
   | base hb=>
    cases hb with
    | @pro _ b off c e fr hb hcs hE he=>
     have hone:c0.cells.length=1:=by
      have:c0.isAgg=false:=by rw [hc.1,ha]
      cases c0 <;> first | rfl | simp [V.isAgg] at this
     rw [←hptr]
     exact fin b off c e fr hptr hb (by omega)
  ·cases hv0
 ·cases hv0
theorem sj {a:Act} {d:Nat} {x:Value} {y:Operand} (h:∀ n,y=.tmp n→n≠d):(a.put (some d) x).eval y=a.eval y:=by
 cases y with
 | tmp n=>
  have hne:=h n rfl
  show (a.tmps.setIfInBounds d x).getD n undef=a.tmps.getD n undef
  simp only [Array.getD_eq_getD_getElem?]
  rw [Array.getElem?_setIfInBounds_ne (fun e=>hne e.symm)]
 | _=>rfl
theorem tP.put {i:Nat} {a:Act} {w w':World} (h:tP P ops i a w) (hb:∀ b,b < w.heap.size→w'.heap[b]?=w.heap[b]?) {dj:Nat} {x:Value} (h1:∀ o,ops[i]?=some o→∀ n,.tmp n∈o.op.operands.toList→n≠dj) (h2:∀ o d,ops[i]?=some o→o.dst=some d→d≠dj):
  tP P ops i (a.put (some dj) x) w':=by
 obtain ⟨o,t,xa,d,b,off,c,e,fr,y,g1,g2,g3,g4,g5,g6,g7,g8,g9⟩:=h.same
 refine ⟨o,t,xa,d,b,off,c,e,fr,y,g1,g2,g3,g4,g5,?_,?_,g8,?_⟩
 ·rw [sj (fun n e=>h1 o g1 n (by rw [g2]; subst e; simp [Op.operands]))]
  exact g6
 ·rw [hb b (G2 g7)]; exact g7
 ·show (a.tmps.setIfInBounds dj x)[d]?=some y
  rw [Array.getElem?_setIfInBounds_ne (fun e=>h2 o d g1 g3 e.symm)]
  exact g9
theorem lv (hcall:∀ f args r outs,callH f args=some (r,outs)→Z3 G P f args r outs) {b7:List (Nat×A7)} {a:Act}:∀ (gl:List Nat) {st st':St} {E:Bnd} {S:Sit} {O:Own},bC P callH ops b7 gl st=some st'→(∀ i∈gl,tP P ops i a w)→Rel G F st a w E S O→
  ∃ E' S' O',r8 w E O w E' O'∧Rel G F st' a w E' S' O'
 | [],st,st',E,S,O,hg,_,h=>by
  obtain rfl:=Option.some.inj hg
  exact ⟨E,S,O,r8.refl h.own,h⟩
 | i :: r,st,st',E,S,O,hg,hs,h=>by
  simp only [bC] at hg
  obtain ⟨o,t,xa,d,b,off,c,e,fr,x,g1,g2,g3,g4,g5,g6,g7,g8,g9⟩:=(hs i (by simp)).same
  rw [g1] at hg
  obtain ⟨st1,hst,hg⟩:=bind_some hg
  have hwp:=eu (w:=w) hcall h hst (next:=fun a' w'=>a'=a→w'=w→∃ E' S' O',r8 w E O w' E' O'∧Rel G F st1 a' w' E' S' O') (Q:=fun _ _ _=>False) (fun a' w' E' S' O' hfr hrel _ _=>⟨E',S',O',hfr,hrel⟩)
  unfold Oper.wp at hwp
  rw [pJ g2 g4 g5 g6 g7 g8,Oper.upon_value,g3] at hwp
  rw [sZ g9] at hwp
  obtain ⟨E1,S1,O1,f1,r1⟩:=hwp rfl rfl
  obtain ⟨E2,S2,O2,f2,r2⟩:=lv hcall r hg (fun j hj=>hs j (by simp [hj])) r1
  exact ⟨E2,S2,O2,f1.trans f2,r2⟩
theorem tU (hcall:∀ f args r outs,callH f args=some (r,outs)→Z3 G P f args r outs) (hf:F5 ops p p) {b7:List (Nat×A7)} {Q:Exit→Act→World→Prop} {st st1 st2:St} {t':List (Nat×V)} {rs:List (Option V)}
  (hlen:rs.length=(ops.toList.take p).length) (ht':t'=C5 (fun _=>true) 0 (ops.toList.take p) rs st.t)
  (hspec:∀ k (hk:k < (ops.toList.take p).length) (hk':k < rs.length),∃ d,((ops.toList.take p)[k]).dst=some d∧d < st.n∧∃ b,B0 ops (C5 (fun j=>decide (j < 0+k)) 0 (ops.toList.take p) rs st.t) ((ops.toList.take p)[k])=some b∧
   (b=true→∃ v,l4 P callH st.σ (opd P (C5 (fun j=>decide (j < 0+k)) 0 (ops.toList.take p) rs st.t) []) ((ops.toList.take p)[k])=some v∧rs[k]=some (fit (r9 b7 (0+k)).keep v))∧(b=false→rs[k]=some (.tup [])))
  {il:List Nat} (hins:G1 il { st with t:=t' }=some st1) {gl:List Nat} {stg:St} (hgl:∀ i∈gl,vW P ops p i) (hgh:bC P callH ops b7 gl st1=some stg) (hops:T0 P callH ops b7 p (ops.toList.drop p) stg=some st2):
  ∀ (fuel:Nat) (listed:Array Bool) (a:Act) (w:World) (E:Bnd) (S:Sit) (O:Own),listed.size=ops.size→cnt (Lf listed) ops.size=fuel→(∀ j,j < ops.size→Lf listed j=true→j < p)→fR ops listed→
  Rel G F { st with t:=C5 (Lf listed) 0 (ops.toList.take p) rs st.t } a w E S O→(∀ i∈gl,Lf listed i=true→tP P ops i a w)→(∀ a' w' E' S' O',r8 w E O w' E' O'→Rel G F st2 a' w' E' S' O'→Q .normal a' w')→wpAny P .any ops Q fuel listed a w:=by
 have hpl:(ops.toList.take p).length=p:=by have:=hf.le; simp; omega
 have hdist:∀ j k (h:j < (ops.toList.take p).length) (h':k < (ops.toList.take p).length),j≠k→((ops.toList.take p)[j]).dst≠((ops.toList.take p)[k]).dst:=by
  intro j k hj hk hjk
  have:=hf.dist j k (by omega) (by omega) hjk
  have hle:=hf.le
  rw [Array.getElem?_eq_getElem (by omega),Array.getElem?_eq_getElem (by omega)] at this
  simpa using this
 intro fuel
 induction fuel with
 | zero=>
  intro listed a w E S O hs hcnt hpre hcl h hsm hn
  have hall:=fX _ hcnt
  have hpe:p=ops.size:=by
   have hle:=hf.le
   rcases Nat.lt_or_ge p ops.size with h' | h'
   ·have:=hpre (ops.size - 1) (by omega) (hall _ (by omega)); omega
   ·omega
  have e1:C5 (Lf listed) 0 (ops.toList.take p) rs st.t=t':=by
   rw [ht']
   exact dq _ _ _ _ (fun k hk=>by rw [Nat.zero_add]; exact hall k (by omega))
  rw [e1] at h
  obtain ⟨S1,O1,g1,g2⟩:=cz _ hins h
  obtain ⟨Eg,Sg,Og,q1,q2⟩:=lv hcall gl hgh (fun i hi=>hsm i hi (hall i (by have:=(hgl i hi).lt; have:=hf.le; omega))) g2
  refine X0 hcall hf 0 listed p stg a w Eg Sg Og hs (fun j hj=>?_) (Nat.le_refl p) hf.le (by omega) hops q2 (fun a2 w2 E2 S2 O2 hfr2 hrel2=>hn a2 w2 E2 S2 O2 ((g1.trans q1).trans hfr2) hrel2)
  rw [hall j hj]; simp; omega
 | succ fuel ih=>
  intro listed a w E S O hs hcnt hpre hcl h hsm hn
  by_cases hdone:∀ j,j < p→Lf listed j=true
  ·have hLp:∀ j,j < ops.size→Lf listed j=decide (j < p):=by
    intro j hj
    by_cases hjp:j < p
    ·rw [hdone j hjp]; simp [hjp]
    ·cases hL:Lf listed j with
     | true=>exact absurd (hpre j hj hL) hjp
     | false=>simp [hjp]
   have e1:C5 (Lf listed) 0 (ops.toList.take p) rs st.t=t':=by
    rw [ht']
    exact dq _ _ _ _ (fun k hk=>by rw [Nat.zero_add]; exact hdone k (by omega))
   rw [e1] at h
   obtain ⟨S1,O1,g1,g2⟩:=cz _ hins h
   have hfu:fuel+1=ops.size - p:=by
    rw [←hcnt,cq (L':=fun j=>decide (j < p)) ops.size hLp]
    exact cf (fun _=>rfl) _ hf.le
   obtain ⟨Eg,Sg,Og,q1,q2⟩:=lv hcall gl hgh (fun i hi=>hsm i hi (hdone i (hgl i hi).lt)) g2
   exact X0 hcall hf (fuel+1) listed p stg a w Eg Sg Og hs hLp (Nat.le_refl p) hf.le hfu hops q2 (fun a2 w2 E2 S2 O2 hfr2 hrel2=>hn a2 w2 E2 S2 O2 ((g1.trans q1).trans hfr2) hrel2)
  ·refine ⟨fun hr=>absurd (fun j hj=>gJ hf hs hr j (by have:=hf.le; omega)) hdone,fun i hi=>?_⟩
   obtain ⟨hi1,hi2,hi3⟩:=U6.1 hi
   have hrc:=U5 hf hs hcl hi
   have hip:i < p:=by
    rcases Nat.lt_or_ge i p with h' | h'
    ·exact h'
    ·exact absurd (fun j hj=>hrc j (hf.barrier i hi1 h' j (by omega))) hdone
   have hil:i < (ops.toList.take p).length:=by omega
   have hoi:(ops.toList.take p)[i]=ops[i]:=by simp
   obtain ⟨d,hd,hdn,b,hb,hb1,hb2⟩:=hspec i hil (by omega)
   rw [hoi] at hd hb hb1
   have hoi?:ops[i]?=some ops[i]:=Array.getElem?_eq_getElem hi1
   -- what it looks at is there already
   have hag:∀ n∈A3 ops ops[i],i6 n (C5 (Lf listed) 0 (ops.toList.take p) rs st.t)=i6 n (C5 (fun j=>decide (j < 0+i)) 0 (ops.toList.take p) rs st.t):=by
    intro n hn
    by_cases hex:∃ j,∃ (hj:j < p),((ops.toList.take p)[j]'(by omega)).dst=some n
    ·obtain ⟨j,hj,hdj⟩:=hex
     have hjs:j < ops.size:=by have:=hf.le; omega
     have hbit:=hf.dep i hip _ hoi? n hn j hj _ (Array.getElem?_eq_getElem hjs) (by simpa using hdj)
     have hji:=hf.back i hi1 j hbit
     rw [B6 _ _ 0 _ hlen hdist j (by omega) (by omega) hdj (by rw [Nat.zero_add]; exact hrc j hbit),B6 _ _ 0 _ hlen hdist j (by omega) (by omega) hdj (by simp; omega)]
    ·have hno:∀ k (hk:k < (ops.toList.take p).length),((ops.toList.take p)[k]).dst≠some n:=fun k hk e=>hex ⟨k,by omega,e⟩
     rw [C1 _ _ 0 _ (fun k hk _=>hno k hk),C1 _ _ 0 _ (fun k hk _=>hno k hk)]
   have hb':B0 ops (C5 (Lf listed) 0 (ops.toList.take p) rs st.t) ops[i]=some b:=by rw [bi hag]; exact hb
   have hw:=Y2 h hb'
   -- what comes next
   have hLset:∀ j,Lf (listed.setIfInBounds i true) j=if j=i then true else Lf listed j:=fun j=>kV (by omega)
   have hlook:∀ d',i6 d' (C5 (Lf (listed.setIfInBounds i true)) 0 (ops.toList.take p) rs st.t)=if d'=d then rs[i]'(by omega) else i6 d' (C5 (Lf listed) 0 (ops.toList.take p) rs st.t):=by
    intro d'
    split
    ·rename_i e
     subst e
     exact B6 _ _ 0 _ hlen hdist i hil (by omega) (by rw [hoi]; exact hd) (by rw [Nat.zero_add,hLset]; simp)
    ·rename_i e
     by_cases hex:∃ j,∃ (hj:j < p),((ops.toList.take p)[j]'(by omega)).dst=some d'∧Lf listed j=true
     ·obtain ⟨j,hj,hdj,hLj⟩:=hex
      rw [B6 _ _ 0 _ hlen hdist j (by omega) (by omega) hdj (by rw [Nat.zero_add,hLset]; split <;> first | rfl | exact hLj),B6 _ _ 0 _ hlen hdist j (by omega) (by omega) hdj (by rw [Nat.zero_add]; exact hLj)]
     ·rw [C1 _ _ 0 _ (fun k hk hL e2=>?_),C1 _ _ 0 _ (fun k hk hL e2=>hex ⟨k,by omega,e2,by rwa [Nat.zero_add] at hL⟩)]
      rw [Nat.zero_add,hLset] at hL
      split at hL
      ·rename_i ek
       subst ek
       rw [hoi,hd] at e2
       exact e (Option.some.inj e2).symm
      ·exact hex ⟨k,by omega,e2,hL⟩
   have hcnt':cnt (Lf (listed.setIfInBounds i true)) ops.size=fuel:=by
    have:=jF (L:=Lf listed) (L':=Lf (listed.setIfInBounds i true)) hi2 (by rw [hLset]; simp) (fun j hj=>by rw [hLset,if_neg hj]) ops.size hi1
    omega
   have hpre':∀ j,j < ops.size→Lf (listed.setIfInBounds i true) j=true→j < p:=by
    intro j hj hL
    rw [hLset] at hL
    split at hL
    ·omega
    ·exact hpre j hj hL
   have hcl':=eD hf hs hcl hi
   have hs':(listed.setIfInBounds i true).size=ops.size:=by simpa using hs
   have hsm':∀ (x:Value) (w':World),(∀ b,b < w.heap.size→w'.heap[b]?=w.heap[b]?)→∀ q∈gl,q≠i→Lf (listed.setIfInBounds i true) q=true→tP P ops q (a.put (some d) x) w':=by
    intro x w' hbl q hq hqi hLq
    rw [hLset,if_neg hqi] at hLq
    have hqp:=(hgl q hq).lt
    have hqs:q < ops.size:=by have:=hf.le; omega
    refine (hsm q hq hLq).put hbl (fun o ho n hn2 e=>?_) (fun o d2 ho hd2 e=>?_)
    ·subst e
     have hbit:=hf.dep q hqp o ho n (by unfold A3; exact List.mem_append.2 (.inl (List.mem_filterMap.2 ⟨.tmp n,hn2,rfl⟩))) i hip _ hoi? hd
     rw [hcl q hqs hLq i hbit] at hi2
     cases hi2
    ·subst e
     have:=hf.dist q i hqp hip hqi
     rw [ho,hoi?] at this
     simp [hd2,hd] at this
   unfold wpOp
   rw [hoi?]
   simp only [hw]
   cases b with
   | true=>
    obtain ⟨v,hv,hrs⟩:=hb1 rfl
    have hv':l4 P callH st.σ (opd P (C5 (Lf listed) 0 (ops.toList.take p) rs st.t) []) ops[i]=some v:=by
     rw [←hv]
     refine U3 _ (fun t x hx=>N1 (fun n e=>?_))
     subst e
     exact hag n (by
      unfold A3
      refine List.mem_append.2 (.inl (List.mem_filterMap.2 ⟨.tmp n,hx,rfl⟩)))
    have key:∀ x w' E' O',New w E O w' E' O'→RT w' E' S O' [0,d] v x→(i∈gl→tP P ops i (a.put (some d) x) w')→wpAny P .any ops Q fuel (listed.setIfInBounds i true) (a.put (ops[i]).dst x) w':=by
     intro x w' E' O' hnew hr hsi
     obtain ⟨E2,k1,k2⟩:=qM (r9 b7 (0+i)).keep hr
     have hturn:=h.turn hnew.ext (fun q=>hnew.kept h.own q) hnew.own
     have hset:=(hturn.setTmp k1.ext k1.keptBut hnew.own k2 hdn).congr (st':={ st with t:=C5 (Lf (listed.setIfInBounds i true)) 0 (ops.toList.take p) rs st.t }) (fun d'=>by
      simp only [s8]
      rw [hlook d',hrs]) (fun _=>rfl) rfl
     rw [hd]
     refine ih _ _ w' E2 S O' hs' hcnt' hpre' hcl' hset (fun q hq hLq=>?_) (fun a2 w2 E3 S2 O2 hfr2 hrel2=>hn a2 w2 E3 S2 O2 ((hnew.framed.trans (k1.framed hnew.own)).trans hfr2) hrel2)
     by_cases hqi:q=i
     ·subst hqi; exact hsi hq
     ·exact hsm' x w' hnew.below.block q hq hqi hLq
    by_cases hgi:i∈gl
    ·obtain ⟨o,t,xa,d2,m1,m2,m3,m4,m5,m6⟩:=(hgl i hgi).op
     obtain rfl:ops[i]=o:=by rw [hoi?] at m1; exact Option.some.inj m1
     obtain ⟨bb,off,c,e,fr,x,n1,n2,n3,n4⟩:=uv h m2 m3 m4 hv'
     refine .inl ?_
     unfold Oper.wp
     rw [pJ m2 m3 m4 n1 n2 n3,Oper.upon_value]
     refine key x w E O (New.refl h.own) (n4.rt _ _) (fun _=>?_)
     have hdt:d < a.tmps.size:=by rw [h.size]; exact hdn
     refine ⟨ops[i],t,xa,d,bb,off,c,e,fr,x,hoi?,m2,hd,m3,m4,?_,n2,n3,?_⟩
     ·rw [sj (fun n e2=>?_)]
      ·exact n1
      ·intro e3
       subst e3
       have hbit:=hf.dep i hip _ hoi? n (by unfold A3; exact List.mem_append.2 (.inl (List.mem_filterMap.2 ⟨.tmp n,by rw [m2]; subst e2; simp [Op.operands],rfl⟩))) i hip _ hoi? hd
       have:=hf.back i hi1 i hbit
       omega
     ·show (a.tmps.setIfInBounds d x)[d]?=some x
      simp [Array.getElem?_setIfInBounds,hdt]
    ·exact .inl (U4 hcall (fun t x u hu=>P8 h hu) h.sites h.own h.glob hv' [0,d] _ _ (fun x w' E' O' hnew hr=>key x w' E' O' hnew hr (fun h2=>absurd h2 hgi)))
   | false=>
    have hrs:=hb2 rfl
    have hset:=(h.setTmp (v:=.tup []) (x:=undef) (Ext.refl _ _) (D7.refl _) h.own (.tup rfl (fun j hj=>by simp at hj)) hdn).congr (st':={ st with t:=C5 (Lf (listed.setIfInBounds i true)) 0 (ops.toList.take p) rs st.t }) (fun d'=>by
     simp only [s8]
     rw [hlook d',hrs]) (fun _=>rfl) rfl
    rw [hd]
    refine ih _ _ w E S O hs' hcnt' hpre' hcl' hset (fun q hq hLq=>?_) hn
    by_cases hqi:q=i
    ·subst hqi
     obtain ⟨o,t,xa,d2,m1,m2,m3,m4,m5,m6⟩:=(hgl q hq).op
     obtain rfl:ops[q]=o:=by rw [hoi?] at m1; exact Option.some.inj m1
     unfold B0 at hb
     rw [m5] at hb
     cases hb
    ·exact hsm' _ w (fun _ _=>rfl) q hq hqi hLq
end
structure Agr (U:Nat→Bool) (s s':St):Prop where
 t:∀ d,i6 d s'.t=if U d=true then none else i6 d s.t
 σ:s'.σ=s.σ
 n:s'.n=s.n
theorem bm {U:Nat→Bool}:∀ (l:List Nat) {s s' s1:St},Agr U s s'→(∀ d,U d=true→∀ e,i6 d s.t≠some (.io e))→G1 l s=some s1→∃ s1',G1 l s'=some s1'∧Agr U s1 s1'
 | [],s,s',s1,h,_,hi=>by
  obtain rfl:=Option.some.inj hi
  exact ⟨s',rfl,h⟩
 | d :: r,s,s',s1,h,hu,hi=>by
  simp only [G1] at hi ⊢
  cases hU:U d with
  | true=>
   have e1:i6 d s'.t=none:=by rw [h.t,if_pos hU]
   rw [e1]
   simp only
   have hi':G1 r s=some s1:=by
    cases hl:i6 d s.t with
    | none=>rw [hl] at hi; exact hi
    | some v=>
     rw [hl] at hi
     cases v <;> first | exact hi | exact absurd hl (hu d hU _)
   exact bm r h hu hi'
  | false=>
   have e1:i6 d s'.t=i6 d s.t:=by rw [h.t,hU]; simp
   rw [e1,h.σ,h.n]
   cases hl:i6 d s.t with
   | none=>
    rw [hl] at hi
    exact bm r h hu hi
   | some v=>
    rw [hl] at hi
    cases v with
    | io e=>
     simp only at hi ⊢
     cases hlk:i6 d s.σ with
     | some y=>rw [hlk] at hi; cases hi
     | none=>
      rw [hlk] at hi
      simp only at hi ⊢
      refine bm r (s:={ s with t:=put d (.ptr d 0 0) s.t,σ:=put d ⟨false,e.cells.length,[e]⟩ s.σ }) ⟨fun q=>?_,by rfl,by rfl⟩ (fun q hq e2=>?_) hi
      ·simp only [s8]
       by_cases eq:q=d
       ·subst eq; rw [if_pos rfl,if_pos rfl,hU]; simp
       ·rw [if_neg eq,if_neg eq]; exact h.t q
      ·simp only [s8]
       by_cases eq:q=d
       ·subst eq; rw [hU] at hq; cases hq
       ·rw [if_neg eq]; exact hu q hq e2
    | _=>exact bm r h hu hi
theorem T9:∀ (l:List Nat) {s s1:St},G1 l s=some s1→∀ n,(∀ e,i6 n s.t≠some (.io e))→i6 n s1.t=i6 n s.t∧i6 n s1.σ=i6 n s.σ
 | [],s,s1,hi,n,_=>by
  obtain rfl:=Option.some.inj hi
  exact ⟨rfl,rfl⟩
 | d :: r,s,s1,hi,n,hn=>by
  simp only [G1] at hi
  split at hi
  ·rename_i e hl
   cases hlk:i6 d s.σ with
   | some y=>rw [hlk] at hi; cases hi
   | none=>
    rw [hlk] at hi
    simp only at hi
    have hne:n≠d:=by intro e2; subst e2; exact hn e hl
    have:=T9 r hi n (by simp only [s8,if_neg hne]; exact hn)
    simp only [s8,if_neg hne] at this
    exact this
  ·exact T9 r hi n hn
theorem gE {t:List (Nat×V)} {n:Nat} (h:U8 t n=true):∀ e,i6 n t≠some (.io e):=by
 intro e he
 unfold U8 at h
 rw [he] at h
 cases h
theorem Rel.sub {st st':St} {a:Act} (h:Rel G F st a w E S O) (h1:∀ d v,i6 d st'.t=some v→i6 d st.t=some v) (h2:st'.σ=st.σ) (h3:st'.n=st.n):Rel G F st' a w E S O:=
 ⟨fun d v hl=>h.tmps d v (h1 d v hl),fun s y hl=>h.sites s y (by rw [←h2]; exact hl),fun s hl=>h.live s (by rw [←h2]; exact hl),by rw [h3]; exact h.size,h.own,h.defers,(fun s q hq=>by rw [h3]; exact h.par s q hq),h.glob⟩
theorem lw {σ σ':List (Nat×u6)} {ty:TypeId} {v j:V} (h:∀ s i off,v=.aref s i off→i6 s σ'=i6 s σ):J0 P σ' ty v j=J0 P σ ty v j:=by
 unfold J0
 split
 ·rfl
 ·rw [h _ _ _ rfl]
 ·rfl
 ·rfl
theorem uO {t:List (Nat×V)} {sw:Nat} {o:Oper} {σ σ':List (Nat×u6)} (hq:oo P t sw o=true) (hσ:∀ s,s≠sw→U8 t s=true→i6 s σ'=i6 s σ):l4 P callH σ' (opd P t []) o=l4 P callH σ (opd P t []) o:=by
 have key:∀ v,rb t sw v=true→(∀ s i off,v=.ptr s i off→i6 s σ'=i6 s σ)∧(∀ s i off,v=.aref s i off→i6 s σ'=i6 s σ):=by
  intro v hv
  refine ⟨fun s i off e=>?_,fun s i off e=>?_⟩ <;> subst e <;> simp only [rb,Bool.and_eq_true,Bool.not_eq_true'] at hv <;> exact hσ s (fun e=>by subst e; simp at hv) hv.2
 unfold oo at hq
 split at hq
 ·rename_i x hop; simp only [l4,hop]
 ·rename_i hop; simp only [l4,hop]
 ·rename_i ty a hop
  simp only [l4,hop]
  cases ha:opd P t [] 0 a with
  | none=>rfl
  | some v=>
   rw [ha] at hq
   simp only [Option.bind_some]
   have k:=(key v hq).1
   cases v with
   | ptr s i off=>simp only [kf]; rw [k s i off rfl]
   | _=>rfl
 ·rename_i ty x i hop
  simp only [l4,hop]
  cases ha:opd P t [] ty x with
  | none=>rfl
  | some v=>
   rw [ha] at hq
   simp only [Option.bind_some]
   cases hi:opd P t [] 0 i with
   | none=>rfl
   | some j=>
    simp only [Option.bind_some]
    exact lw (key v hq).2
 ·rename_i hop; simp only [l4,hop]
 ·rename_i hop; simp only [l4,hop]
 ·rename_i hop; simp only [l4,hop]
 ·rename_i hop; simp only [l4,hop]
 ·rename_i hop; simp only [l4,hop]
 ·rename_i hop; simp only [l4,hop]
 ·rename_i c hop
  split at hq
  ·rename_i hc; simp only [l4,hop,hc]
  ·rename_i hc; simp only [l4,hop,hc]
  ·rename_i hc; simp only [l4,hop,hc]
  ·cases hq
 ·cases hq
section
variable {ops:Array Oper} {p:Nat}
def ir (ops:Array Oper) (p:Nat) (L:Nat→Bool) (d:Nat):Bool:=(List.range p).any fun k=>!L k && (match ops[k]? with | some x=>x.dst == some d | none=>false)
theorem W7 {L:Nat→Bool} {d:Nat}:ir ops p L d=true ↔ ∃ k,k < p∧L k=false∧∃ x,ops[k]?=some x∧x.dst=some d:=by
 unfold ir
 simp only [List.any_eq_true,List.mem_range,Bool.and_eq_true,Bool.not_eq_true']
 constructor
 ·rintro ⟨k,h1,h2,h3⟩
  cases hx:ops[k]? with
  | none=>rw [hx] at h3; cases h3
  | some x=>
   rw [hx] at h3
   exact ⟨k,h1,h2,x,hx,by simpa using h3⟩
 ·rintro ⟨k,h1,h2,x,hx,h3⟩
  exact ⟨k,h1,h2,by rw [hx]; simpa using h3⟩
theorem pz (U:Nat→Bool) (d:Nat):∀ t:List (Nat×V),i6 d (t.filter (fun q=>!U q.1))=if U d=true then none else i6 d t
 | []=>by simp [i6]
 | (k,v) :: r=>by
  have ih:=pz U d r
  simp only [List.filter_cons]
  cases hU:U k with
  | true=>
   simp only [Bool.not_true,Bool.false_eq_true,if_false,ih,i6]
   by_cases e:U d=true
   ·rw [if_pos e,if_pos e]
   ·rw [if_neg e,if_neg e]
    have:Nat.beq k d=false:=by
     cases hb:Nat.beq k d with
     | false=>rfl
     | true=>obtain rfl:=Nat.eq_of_beq_eq_true hb; exact absurd hU e
    have h2:Nat.beq d k=false:=by
     cases hb:Nat.beq d k with
     | false=>rfl
     | true=>obtain rfl:=Nat.eq_of_beq_eq_true hb; exact absurd hU e
    first | rw [this] | rw [h2] | skip
    try rfl
  | false=>
   simp only [Bool.not_false,if_true,i6,ih]
   by_cases e:U d=true
   ·rw [if_pos e,if_pos e]
    have:Nat.beq k d=false:=by
     cases hb:Nat.beq k d with
     | false=>rfl
     | true=>obtain rfl:=Nat.eq_of_beq_eq_true hb; rw [e] at hU; cases hU
    have h2:Nat.beq d k=false:=by
     cases hb:Nat.beq d k with
     | false=>rfl
     | true=>obtain rfl:=Nat.eq_of_beq_eq_true hb; rw [e] at hU; cases hU
    first | rw [this] | rw [h2] | skip
    try rfl
   ·rw [if_neg e,if_neg e]
theorem wW (hcall:∀ f args r outs,callH f args=some (r,outs)→Z3 G P f args r outs) (hf:F5 ops (p+1) p) {b7:List (Nat×A7)} {Q:Exit→Act→World→Prop} {sB st2:St}
  (hops:T0 P callH ops b7 (p+1) (ops.toList.drop (p+1)) sB=some st2)
  (hspec:∀ k,k < p→((A4 ops.toList).getD p 0).testBit k=false→∀ x,ops[k]?=some x→∃ d,x.dst=some d∧d < sB.n∧∃ b,B0 ops sB.t x=some b∧
   (b=true→∃ v,l4 P callH sB.σ (opd P sB.t []) x=some v∧i6 d sB.t=some (fit (r9 b7 k).keep v))∧(b=false→i6 d sB.t=some (.tup []))):
  ∀ (fuel:Nat) (listed:Array Bool) (s':St) (a:Act) (w:World) (E:Bnd) (S:Sit) (O:Own),listed.size=ops.size→cnt (Lf listed) ops.size=fuel→(∀ j,j < ops.size→Lf listed j=true→j < p+1)→Lf listed p=true→fR ops listed→
  Agr (ir ops p (Lf listed)) sB s'→Rel G F s' a w E S O→(∀ a' w' E' S' O',r8 w E O w' E' O'→Rel G F st2 a' w' E' S' O'→Q .normal a' w')→wpAny P .any ops Q fuel listed a w:=by
 have hle:=hf.le
 intro fuel
 induction fuel with
 | zero=>
  intro listed s' a w E S O hs hcnt hpre hp1 hcl hagr h hn
  have hall:=fX _ hcnt
  have hpe:p+1=ops.size:=by
   rcases Nat.lt_or_ge (p+1) ops.size with h' | h'
   ·have:=hpre (ops.size - 1) (by omega) (hall _ (by omega)); omega
   ·omega
  have h':Rel G F sB a w E S O:=h.congr (fun d=>by
   rw [hagr.t,if_neg]
   rw [W7]
   rintro ⟨k,hk,hL,_⟩
   rw [hall k (by omega)] at hL; cases hL) (fun d=>by rw [hagr.σ]) hagr.n.symm
  exact X0 hcall hf 0 listed (p+1) sB a w E S O hs (fun j hj=>by rw [hall j hj]; simp; omega) (Nat.le_refl _) hle (by omega) hops h' hn
 | succ fuel ih=>
  intro listed s' a w E S O hs hcnt hpre hp1 hcl hagr h hn
  by_cases hdone:∀ j,j < p→Lf listed j=true
  ·have hLp:∀ j,j < ops.size→Lf listed j=decide (j < p+1):=by
    intro j hj
    by_cases hjp:j < p+1
    ·have:Lf listed j=true:=by
      by_cases e:j=p
      ·subst e; exact hp1
      ·exact hdone j (by omega)
     rw [this]; simp [hjp]
    ·cases hL:Lf listed j with
     | true=>exact absurd (hpre j hj hL) hjp
     | false=>simp [hjp]
   have h':Rel G F sB a w E S O:=h.congr (fun d=>by
    rw [hagr.t,if_neg]
    rw [W7]
    rintro ⟨k,hk,hL,_⟩
    rw [hdone k hk] at hL; cases hL) (fun d=>by rw [hagr.σ]) hagr.n.symm
   have hfu:fuel+1=ops.size - (p+1):=by
    rw [←hcnt,cq (L':=fun j=>decide (j < p+1)) ops.size hLp]
    exact cf (fun _=>rfl) _ hle
   exact X0 hcall hf (fuel+1) listed (p+1) sB a w E S O hs hLp (Nat.le_refl _) hle hfu hops h' hn
  ·refine ⟨fun hr=>absurd (fun j hj=>gJ hf hs hr j (by omega)) hdone,fun i hi=>?_⟩
   obtain ⟨hi1,hi2,hi3⟩:=U6.1 hi
   have hrc:=U5 hf hs hcl hi
   have hip:i < p:=by
    rcases Nat.lt_or_ge i (p+1) with h' | h'
    ·rcases Nat.lt_or_ge i p with h2 | h2
     ·exact h2
     ·have:i=p:=by omega
      subst this
      rw [hp1] at hi2; cases hi2
    ·exact absurd (fun j hj=>hrc j (hf.barrier i hi1 h' j (by omega))) hdone
   have hlate:((A4 ops.toList).getD p 0).testBit i=false:=by
    cases hb:((A4 ops.toList).getD p 0).testBit i with
    | false=>rfl
    | true=>rw [hcl p (by omega) hp1 i hb] at hi2; cases hi2
   have hoi?:ops[i]?=some ops[i]:=Array.getElem?_eq_getElem hi1
   obtain ⟨d,hd,hdn,b,hb,hb1,hb2⟩:=hspec i hip hlate _ hoi?
   have hag:∀ n∈A3 ops ops[i],i6 n s'.t=i6 n sB.t:=by
    intro n hnm
    rw [hagr.t,if_neg]
    rw [W7]
    rintro ⟨k,hk,hL,x,hx,hxd⟩
    have hbit:=hf.dep i (by omega) _ hoi? n hnm k (by omega) x hx hxd
    rw [hrc k hbit] at hL; cases hL
   have hb':B0 ops s'.t ops[i]=some b:=by rw [bi hag]; exact hb
   have hw:=Y2 h hb'
   have hLset:∀ j,Lf (listed.setIfInBounds i true) j=if j=i then true else Lf listed j:=fun j=>kV (by omega)
   have hcnt':cnt (Lf (listed.setIfInBounds i true)) ops.size=fuel:=by
    have:=jF (L:=Lf listed) (L':=Lf (listed.setIfInBounds i true)) hi2 (by rw [hLset]; simp) (fun j hj=>by rw [hLset,if_neg hj]) ops.size hi1
    omega
   have hpre':∀ j,j < ops.size→Lf (listed.setIfInBounds i true) j=true→j < p+1:=by
    intro j hj hL
    rw [hLset] at hL
    split at hL
    ·omega
    ·exact hpre j hj hL
   have hp1':Lf (listed.setIfInBounds i true) p=true:=by
    rw [hLset]; split
    ·rfl
    ·exact hp1
   have hcl':=eD hf hs hcl hi
   have hs':(listed.setIfInBounds i true).size=ops.size:=by simpa using hs
   -- what is left to do
   have htodo:∀ d',ir ops p (Lf (listed.setIfInBounds i true)) d'=(ir ops p (Lf listed) d' && !(d' == d)):=by
    intro d'
    rw [Bool.eq_iff_iff]
    simp only [Bool.and_eq_true,W7,Bool.not_eq_true',beq_eq_false_iff_ne,ne_eq]
    constructor
    ·rintro ⟨k,hk,hL,x,hx,hxd⟩
     rw [hLset] at hL
     split at hL
     ·cases hL
     ·rename_i hki
      refine ⟨⟨k,hk,hL,x,hx,hxd⟩,fun e=>?_⟩
      subst e
      have:=hf.dist k i (by omega) (by omega) hki
      rw [hx,hoi?] at this
      simp [hxd,hd] at this
    ·rintro ⟨⟨k,hk,hL,x,hx,hxd⟩,hne⟩
     refine ⟨k,hk,?_,x,hx,hxd⟩
     rw [hLset,if_neg]
     ·exact hL
     ·intro e
      subst e
      rw [hoi?] at hx
      obtain rfl:=Option.some.inj hx
      rw [hd] at hxd
      exact hne (Option.some.inj hxd).symm
   have hput:∀ (v:V),i6 d sB.t=some v→Agr (ir ops p (Lf (listed.setIfInBounds i true))) sB { s' with t:=put d v s'.t }:=by
    intro v hv
    refine ⟨fun d'=>?_,hagr.σ,hagr.n⟩
    simp only [s8]
    rw [htodo]
    by_cases e:d'=d
    ·subst e
     rw [if_pos rfl,if_neg (by simp)]
     exact hv.symm
    ·rw [if_neg e,hagr.t]
     have:(d' == d)=false:=by simpa using e
     rw [this]
     simp
   unfold wpOp
   rw [hoi?]
   simp only [hw]
   cases b with
   | true=>
    obtain ⟨v,hv,hrs⟩:=hb1 rfl
    have hv':l4 P callH s'.σ (opd P s'.t []) ops[i]=some v:=by
     rw [←hv,hagr.σ]
     refine U3 _ (fun t x hx=>N1 (fun n e=>?_))
     subst e
     exact hag n (by
      unfold A3
      refine List.mem_append.2 (.inl (List.mem_filterMap.2 ⟨.tmp n,hx,rfl⟩)))
    refine .inl (U4 hcall (fun t x u hu=>P8 h hu) h.sites h.own h.glob hv' [0,d] _ _ (fun x w' E' O' hnew hr=>?_))
    obtain ⟨E2,k1,k2⟩:=qM (r9 b7 i).keep hr
    have hturn:=h.turn hnew.ext (fun q=>hnew.kept h.own q) hnew.own
    have hset:=hturn.setTmp k1.ext k1.keptBut hnew.own k2 (by rw [hagr.n]; exact hdn)
    rw [hd]
    exact ih _ _ _ w' E2 S O' hs' hcnt' hpre' hp1' hcl' (hput _ hrs) hset (fun a2 w2 E3 S2 O2 hfr2 hrel2=>hn a2 w2 E3 S2 O2 ((hnew.framed.trans (k1.framed hnew.own)).trans hfr2) hrel2)
   | false=>
    have hrs:=hb2 rfl
    have hset:=h.setTmp (d:=d) (v:=.tup []) (x:=undef) (Ext.refl _ _) (D7.refl _) h.own (.tup rfl (fun j hj=>by simp at hj)) (by rw [hagr.n]; exact hdn)
    rw [hd]
    exact ih _ _ _ w E S O hs' hcnt' hpre' hp1' hcl' (hput _ hrs) hset hn
theorem pH {b7:List (Nat×A7)} {st sB:St} {t':List (Nat×V)} {rs:List (Option V)} (hf:F5 ops (p+1) p) (hlen:rs.length=(ops.toList.take p).length) (ht':t'=C5 (fun _=>true) 0 (ops.toList.take p) rs st.t)
  (hspec:∀ k (hk:k < (ops.toList.take p).length) (hk':k < rs.length),∃ d,((ops.toList.take p)[k]).dst=some d∧d < st.n∧∃ b,B0 ops (C5 (fun j=>decide (j < 0+k)) 0 (ops.toList.take p) rs st.t) ((ops.toList.take p)[k])=some b∧
   (b=true→∃ v,l4 P callH st.σ (opd P (C5 (fun j=>decide (j < 0+k)) 0 (ops.toList.take p) rs st.t) []) ((ops.toList.take p)[k])=some v∧rs[k]=some (fit (r9 b7 (0+k)).keep v))∧(b=false→rs[k]=some (.tup [])))
  {bad:Nat→Bool} (h1t:∀ n,U8 t' n=true→bad n=false→i6 n sB.t=i6 n t') {sw:Nat} (h1σ:∀ s,s≠sw→U8 t' s=true→i6 s sB.σ=i6 s st.σ) (h1n:sB.n=st.n)
  (hq:∀ k,k < p→((A4 ops.toList).getD p 0).testBit k=false→∀ x,ops[k]?=some x→oo P t' sw x=true∧(∀ n∈A3 ops x,U8 t' n=true∧bad n=false)∧∀ d,x.dst=some d→U8 t' d=true∧bad d=false):
  ∀ k,k < p→((A4 ops.toList).getD p 0).testBit k=false→∀ x,ops[k]?=some x→∃ d,x.dst=some d∧d < sB.n∧∃ b,B0 ops sB.t x=some b∧
   (b=true→∃ v,l4 P callH sB.σ (opd P sB.t []) x=some v∧i6 d sB.t=some (fit (r9 b7 k).keep v))∧(b=false→i6 d sB.t=some (.tup [])):=by
 intro k hk hb x hx
 have hle:=hf.le
 have hpl:(ops.toList.take p).length=p:=by simp; omega
 have hks:k < ops.size:=by omega
 have hox:ops[k]=x:=by rw [Array.getElem?_eq_getElem hks] at hx; exact Option.some.inj hx
 have hok:(ops.toList.take p)[k]'(by omega)=x:=by rw [←hox]; simp
 obtain ⟨q1,q2,q3⟩:=hq k hk hb x hx
 obtain ⟨d,hd,hdn,b,hw,hb1,hb2⟩:=hspec k (by omega) (by omega)
 rw [hok] at hd hw hb1
 have hdist:∀ j k (h:j < (ops.toList.take p).length) (h':k < (ops.toList.take p).length),j≠k→((ops.toList.take p)[j]).dst≠((ops.toList.take p)[k]).dst:=by
  intro j k hj hk hjk
  have:=hf.dist j k (by omega) (by omega) hjk
  rw [Array.getElem?_eq_getElem (by omega),Array.getElem?_eq_getElem (by omega)] at this
  simpa using this
 have hag0:∀ n∈A3 ops x,i6 n t'=i6 n (C5 (fun j=>decide (j < 0+k)) 0 (ops.toList.take p) rs st.t):=by
  intro n hn
  rw [ht']
  by_cases hex:∃ j,∃ (hj:j < p),((ops.toList.take p)[j]'(by omega)).dst=some n
  ·obtain ⟨j,hj,hdj⟩:=hex
   have hbit:=hf.dep k (by omega) x hx n hn j (by omega) _ (Array.getElem?_eq_getElem (by omega)) (by simpa using hdj)
   have hjk:=hf.back k hks j hbit
   rw [B6 _ _ 0 _ hlen hdist j (by omega) (by omega) hdj rfl,B6 _ _ 0 _ hlen hdist j (by omega) (by omega) hdj (by simp; omega)]
  ·have hno:∀ k (hk:k < (ops.toList.take p).length),((ops.toList.take p)[k]).dst≠some n:=fun k hk e=>hex ⟨k,by omega,e⟩
   rw [C1 _ _ 0 _ (fun k hk _=>hno k hk),C1 _ _ 0 _ (fun k hk _=>hno k hk)]
 have hagB:∀ n∈A3 ops x,i6 n sB.t=i6 n (C5 (fun j=>decide (j < 0+k)) 0 (ops.toList.take p) rs st.t):=fun n hn=>(h1t n (q2 n hn).1 (q2 n hn).2).trans (hag0 n hn)
 have hres:i6 d sB.t=rs[k]'(by omega):=by
  rw [h1t d (q3 d hd).1 (q3 d hd).2,ht']
  exact B6 _ _ 0 _ hlen hdist k (by omega) (by omega) (by rw [hok]; exact hd) rfl
 have hops:∀ (t:TypeId) (y:Operand),y∈x.op.operands.toList→∀ n,y=.tmp n→n∈A3 ops x:=by
  intro t y hy n e
  subst e
  unfold A3
  exact List.mem_append.2 (.inl (List.mem_filterMap.2 ⟨.tmp n,hy,rfl⟩))
 refine ⟨d,hd,by rw [h1n]; exact hdn,b,by rw [bi hagB]; exact hw,fun e=>?_,fun e=>by rw [hres]; exact hb2 e⟩
 obtain ⟨v,hv,hrs⟩:=hb1 e
 refine ⟨v,?_,by rw [hres,hrs,Nat.zero_add]⟩
 have e1:l4 P callH sB.σ (opd P sB.t []) x=l4 P callH sB.σ (opd P t' []) x:=U3 _ (fun t y hy=>N1 (fun n e=>by
  have:=hops t y hy n e
  exact h1t n (q2 n this).1 (q2 n this).2))
 have e2:l4 P callH st.σ (opd P t' []) x=l4 P callH st.σ (opd P (C5 (fun j=>decide (j < 0+k)) 0 (ops.toList.take p) rs st.t) []) x:=U3 _ (fun t y hy=>N1 (fun n e=>hag0 n (hops t y hy n e)))
 rw [e1,uO q1 h1σ,e2]
 exact hv
theorem pB:∀ (l:List Nat) {s s1:St},G1 l s=some s1→s1.n=s.n:=by
 intro l
 induction l with
 | nil=>intro s s1 hi; obtain rfl:=Option.some.inj hi; rfl
 | cons d r ih=>
  intro s s1 hi
  simp only [G1] at hi
  split at hi
  ·cases hlk:i6 d s.σ with
   | some y=>rw [hlk] at hi; cases hi
   | none=>rw [hlk] at hi; exact (ih hi).trans rfl
  ·exact ih hi
theorem U0 (t:List (Nat×V)) (n:Nat):i6 n (untake [] t)=i6 n t:=by
 unfold untake
 rw [gD (fun (q:Nat) (v:V)=>bif ([]:List Nat).elem q then v.strip else v)]
 cases i6 n t with
 | none=>rfl
 | some v=>rfl
theorem gv {ops:Array Oper} {o:Oper} {y:Operand} (hy:y∈o.op.operands.toList):∀ n,y=.tmp n→n∈A3 ops o:=by
 intro n e
 subst e
 unfold A3
 exact List.mem_append.2 (.inl (List.mem_filterMap.2 ⟨.tmp n,hy,rfl⟩))
theorem uE {b7:List (Nat×A7)} {st st1 sB:St} {t':List (Nat×V)} {il:List Nat} (hins:G1 il { st with t:=t' }=some st1) {o:Oper} {ty:TypeId} {ad vx:Operand} (hst:o.op=.store ty ad vx) (hod:o.dst=none) (htk:(r9 b7 p).tk=[]) (hgh:(r9 b7 p).gh=[])
  {sw:Nat} {i0 off0:Nat} (hsw:opd P st1.t [] 0 ad=some (.ptr sw i0 off0)) (hstep:F0 P callH (r9 b7 p) o st1=some sB):
  (∀ U s1',Agr U st1 s1'→(∀ n∈A3 ops o,U n=false)→(∀ d,o.dst=some d→U d=false)→∃ sB',F0 P callH (r9 b7 p) o s1'=some sB'∧Agr U sB sB')∧
  (∀ n,U8 t' n=true→i6 n sB.t=i6 n t')∧(∀ s,s≠sw→U8 t' s=true→i6 s sB.σ=i6 s st.σ)∧sB.n=st.n:=by
 -- the store, of the whole state
 have hstore:∃ va vv σ',opd P st1.t [] 0 ad=some va∧opd P st1.t [] ty vx=some vv∧jx P st1.σ ty vv va=some σ'∧sB={ st1 with t:=untake [] st1.t,σ:=σ' }:=by
  have hnp:J6 (r9 b7 p) o=false:=by unfold J6; rw [hst]; simp
  unfold F0 at hstep
  rw [hnp] at hstep
  simp only [Bool.false_and,cond_false,hgh,List.isEmpty_nil,cond_true,G7,htk,hst,List.length_nil,show Nat.blt 1 0=false from rfl] at hstep
  obtain ⟨r,hr,hstep⟩:=bind_some hstep
  obtain ⟨va,h1,hr⟩:=bind_some hr
  obtain ⟨vv,h2,hr⟩:=bind_some hr
  obtain ⟨σ',h3,rfl⟩:=map_some hr
  simp only [H6,hod] at hstep
  exact ⟨va,vv,σ',h1,h2,h3,(Option.some.inj hstep).symm⟩
 obtain ⟨va,vv,σ',g1,g2,g3,g4⟩:=hstore
 obtain rfl:va=.ptr sw i0 off0:=by rw [g1] at hsw; exact Option.some.inj hsw
 have hσw:∀ s,s≠sw→i6 s σ'=i6 s st1.σ:=by
  intro s hs
  unfold jx at g3
  obtain ⟨y,hy,g3⟩:=bind_some g3
  obtain ⟨e,he,g3⟩:=bind_some g3
  split at g3
  ·obtain ⟨e',he',rfl⟩:=map_some g3
   rw [s8,if_neg hs]
  ·cases g3
 refine ⟨fun U s1' hag hU _=>?_,fun n hn=>?_,fun s hs hn=>?_,?_⟩
 ·have hopd:∀ n∈A3 ops o,i6 n s1'.t=i6 n st1.t:=by
   intro n hnm
   rw [hag.t,if_neg (by rw [hU n hnm]; simp)]
  have ha':opd P s1'.t [] 0 ad=some (.ptr sw i0 off0):=by
   rw [←g1]
   exact N1 (fun n e=>hopd n (gv (by rw [hst]; simp [Op.operands]) n e))
  have hv':opd P s1'.t [] ty vx=some vv:=by
   rw [←g2]
   exact N1 (fun n e=>hopd n (gv (by rw [hst]; simp [Op.operands]) n e))
  refine ⟨{ s1' with t:=untake [] s1'.t,σ:=σ' },?_,⟨fun d=>?_,by rw [g4],by rw [g4]; exact hag.n⟩⟩
  ·have hnp:J6 (r9 b7 p) o=false:=by unfold J6; rw [hst]; simp
   unfold F0
   rw [hnp]
   simp only [Bool.false_and,cond_false,hgh,List.isEmpty_nil,cond_true,G7,htk,hst,List.length_nil,show Nat.blt 1 0=false from rfl,ha',hv',Option.bind_some,hag.σ,g3,Option.map_some,H6,hod]
  ·rw [g4]
   show i6 d (untake [] s1'.t)=if _ then none else i6 d (untake [] st1.t)
   rw [U0,U0,hag.t]
 ·rw [g4]
  show i6 n (untake [] st1.t)=_
  rw [U0]
  exact (T9 il hins n (gE hn)).1
 ·rw [g4]
  show i6 s σ'=_
  rw [hσw s hs]
  exact (T9 il hins s (gE hn)).2
 ·rw [g4]; exact (pB il hins).trans rfl
theorem zD {b7:List (Nat×A7)} {st st1 sB:St} {t':List (Nat×V)} {il:List Nat} (hins:G1 il { st with t:=t' }=some st1) {o:Oper} {x:Operand} {d:Nat} {v:V} (hst:o.op=.assign x) (hod:o.dst=some d) (htk:(r9 b7 p).tk=[]) (hgh:(r9 b7 p).gh=[]) (hcl:(r9 b7 p).close=false) (he:(r9 b7 p).eff=true)
  (hv:opd P st1.t [] o.type x=some v) (hpl:X9 v=true) (hstep:F0 P callH (r9 b7 p) o st1=some sB):
  (∀ U s1',Agr U st1 s1'→(∀ n∈A3 ops o,U n=false)→(∀ d,o.dst=some d→U d=false)→∃ sB',F0 P callH (r9 b7 p) o s1'=some sB'∧Agr U sB sB')∧
  (∀ n,U8 t' n=true→Nat.beq n d=false→i6 n sB.t=i6 n t')∧(∀ s,s≠d→U8 t' s=true→i6 s sB.σ=i6 s st.σ)∧sB.n=st.n:=by
 have hnp:J6 (r9 b7 p) o=false:=by unfold J6; rw [he]; simp
 have hfin:∀ s:St,H6 (r9 b7 p) (some d) v s=bif Nat.blt d s.n then some { s with t:=put d v s.t } else none:=by
  intro s
  cases v with
  | int k n=>rfl
  | bool b=>rfl
  | str s=>rfl
  | _=>cases hpl
 have hgen:∀ s:St,opd P s.t [] o.type x=some v→F0 P callH (r9 b7 p) o s=bif Nat.blt d s.n then some { s with t:=put d v (untake [] s.t) } else none:=by
  intro s hs
  unfold F0
  rw [hnp]
  simp only [Bool.false_and,cond_false,hgh,List.isEmpty_nil,cond_true,G7,htk,hst,hcl,List.length_nil,show Nat.blt 1 0=false from rfl,hs,Option.map_some,Option.bind_some,hod,hfin]
 rw [hgen st1 hv] at hstep
 cases hlt:Nat.blt d st1.n with
 | false=>rw [hlt] at hstep; cases hstep
 | true=>
  rw [hlt] at hstep
  obtain rfl:=(Option.some.inj hstep).symm
  refine ⟨fun U s1' hag hU hUd=>?_,fun n hn hnd=>?_,fun s hs hn=>(T9 il hins s (gE hn)).2,(pB il hins).trans rfl⟩
  ·have hv':opd P s1'.t [] o.type x=some v:=by
    rw [←hv]
    refine N1 (fun n e=>?_)
    rw [hag.t,if_neg (by rw [hU n (gv (by rw [hst]; simp [Op.operands]) n e)]; simp)]
   refine ⟨{ s1' with t:=put d v (untake [] s1'.t) },by rw [hgen s1' hv',hag.n,hlt]; rfl,⟨fun e=>?_,hag.σ,hag.n⟩⟩
   show i6 e (put d v (untake [] s1'.t))=if _ then none else i6 e (put d v (untake [] st1.t))
   rw [s8,s8,U0,U0,hag.t]
   by_cases hed:e=d
   ·subst hed
    rw [if_pos rfl,if_pos rfl,if_neg (by rw [hUd e hod]; simp)]
   ·rw [if_neg hed,if_neg hed]
  ·show i6 n (put d v (untake [] st1.t))=_
   rw [s8,if_neg (fun e=>by subst e; simp at hnd),U0]
   exact (T9 il hins n (gE hn)).1
theorem ph (hcall:∀ f args r outs,callH f args=some (r,outs)→Z3 G P f args r outs) (hf:F5 ops (p+1) p) {b7:List (Nat×A7)} {Q:Exit→Act→World→Prop} {st st1 sB st2:St} {t':List (Nat×V)} {rs:List (Option V)}
  (hlen:rs.length=(ops.toList.take p).length) (ht':t'=C5 (fun _=>true) 0 (ops.toList.take p) rs st.t)
  (hspec:∀ k (hk:k < (ops.toList.take p).length) (hk':k < rs.length),∃ d,((ops.toList.take p)[k]).dst=some d∧d < st.n∧∃ b,B0 ops (C5 (fun j=>decide (j < 0+k)) 0 (ops.toList.take p) rs st.t) ((ops.toList.take p)[k])=some b∧
   (b=true→∃ v,l4 P callH st.σ (opd P (C5 (fun j=>decide (j < 0+k)) 0 (ops.toList.take p) rs st.t) []) ((ops.toList.take p)[k])=some v∧rs[k]=some (fit (r9 b7 (0+k)).keep v))∧(b=false→rs[k]=some (.tup [])))
  {il:List Nat} (hins:G1 il { st with t:=t' }=some st1) {o:Oper} (hop:ops[p]?=some o) (hog:o.guard=none)
  (hstepA:∀ U s1',Agr U st1 s1'→(∀ n∈A3 ops o,U n=false)→(∀ d,o.dst=some d→U d=false)→∃ sB',F0 P callH (r9 b7 p) o s1'=some sB'∧Agr U sB sB') (hops:T0 P callH ops b7 (p+1) (ops.toList.drop (p+1)) sB=some st2)
  (hspecB:∀ k,k < p→((A4 ops.toList).getD p 0).testBit k=false→∀ x,ops[k]?=some x→∃ d,x.dst=some d∧d < sB.n∧∃ b,B0 ops sB.t x=some b∧
   (b=true→∃ v,l4 P callH sB.σ (opd P sB.t []) x=some v∧i6 d sB.t=some (fit (r9 b7 k).keep v))∧(b=false→i6 d sB.t=some (.tup [])))
  (hnio:∀ k,k < p→((A4 ops.toList).getD p 0).testBit k=false→∀ x,ops[k]?=some x→∀ d,x.dst=some d→U8 t' d=true∧∀ e,o.dst=some e→e≠d):
  ∀ (fuel:Nat) (listed:Array Bool) (a:Act) (w:World) (E:Bnd) (S:Sit) (O:Own),listed.size=ops.size→cnt (Lf listed) ops.size=fuel→(∀ j,j < ops.size→Lf listed j=true→j < p)→fR ops listed→
  Rel G F { st with t:=C5 (Lf listed) 0 (ops.toList.take p) rs st.t } a w E S O→(∀ a' w' E' S' O',r8 w E O w' E' O'→Rel G F st2 a' w' E' S' O'→Q .normal a' w')→wpAny P .any ops Q fuel listed a w:=by
 have hle:=hf.le
 have hpl:(ops.toList.take p).length=p:=by simp; omega
 have hdist:∀ j k (h:j < (ops.toList.take p).length) (h':k < (ops.toList.take p).length),j≠k→((ops.toList.take p)[j]).dst≠((ops.toList.take p)[k]).dst:=by
  intro j k hj hk hjk
  have:=hf.dist j k (by omega) (by omega) hjk
  rw [Array.getElem?_eq_getElem (by omega),Array.getElem?_eq_getElem (by omega)] at this
  simpa using this
 intro fuel
 induction fuel with
 | zero=>
  intro listed a w E S O hs hcnt hpre hcl h hn
  have:=hpre p (by omega) (fX _ hcnt p (by omega))
  omega
 | succ fuel ih=>
  intro listed a w E S O hs hcnt hpre hcl h hn
  have hpn:Lf listed p=false:=by
   cases hL:Lf listed p with
   | false=>rfl
   | true=>have:=hpre p (by omega) hL; omega
  refine ⟨fun hr=>?_,fun i hi=>?_⟩
  ·have:=gJ hf hs hr p (by omega)
   rw [hpn] at this; cases this
  ·obtain ⟨hi1,hi2,hi3⟩:=U6.1 hi
   have hrc:=U5 hf hs hcl hi
   have hip:i < p+1:=by
    rcases Nat.lt_or_ge i (p+1) with h' | h'
    ·exact h'
    ·have:=hrc p (hf.barrier i hi1 h' p (by omega))
     rw [hpn] at this; cases this
   have hoi?:ops[i]?=some ops[i]:=Array.getElem?_eq_getElem hi1
   have hLset:∀ j,Lf (listed.setIfInBounds i true) j=if j=i then true else Lf listed j:=fun j=>kV (by omega)
   have hcnt':cnt (Lf (listed.setIfInBounds i true)) ops.size=fuel:=by
    have:=jF (L:=Lf listed) (L':=Lf (listed.setIfInBounds i true)) hi2 (by rw [hLset]; simp) (fun j hj=>by rw [hLset,if_neg hj]) ops.size hi1
    omega
   have hcl':=eD hf hs hcl hi
   have hs':(listed.setIfInBounds i true).size=ops.size:=by simpa using hs
   by_cases hep:i=p
   ·-- the store
    subst hep
    obtain rfl:ops[i]=o:=by rw [hoi?] at hop; exact Option.some.inj hop
    have hnolate:∀ d,ir ops i (Lf listed) d=true→∀ e,i6 d t'≠some (.io e):=by
     intro d hd
     obtain ⟨k,hk,hL,x,hx,hxd⟩:=W7.1 hd
     have hbit:((A4 ops.toList).getD i 0).testBit k=false:=by
      cases hb:((A4 ops.toList).getD i 0).testBit k with
      | false=>rfl
      | true=>rw [hrc k hb] at hL; cases hL
     exact gE (hnio k hk hbit x hx d hxd).1
    -- what is not done is hidden
    have hagr0:Agr (ir ops i (Lf listed)) { st with t:=t' } { st with t:=t'.filter (fun q=>!ir ops i (Lf listed) q.1) }:=⟨fun d=>pz _ d t',rfl,rfl⟩
    have hrel0:Rel G F { st with t:=t'.filter (fun q=>!ir ops i (Lf listed) q.1) } a w E S O:=by
     refine h.sub (fun d v hl=>?_) rfl rfl
     have hl2:=hagr0.t d
     rw [hl] at hl2
     by_cases htd:ir ops i (Lf listed) d=true
     ·rw [if_pos htd] at hl2; cases hl2
     ·rw [if_neg htd] at hl2
      show i6 d (C5 (Lf listed) 0 (ops.toList.take i) rs st.t)=some v
      rw [hl2]
      show _=i6 d t'
      rw [ht']
      by_cases hex:∃ j,∃ (hj:j < i),((ops.toList.take i)[j]'(by omega)).dst=some d
      ·obtain ⟨j,hj,hdj⟩:=hex
       have hLj:Lf listed j=true:=by
        cases hL:Lf listed j with
        | true=>rfl
        | false=>exact absurd (W7.2 ⟨j,hj,hL,_,Array.getElem?_eq_getElem (by omega),by simpa using hdj⟩) htd
       rw [B6 _ _ 0 _ hlen hdist j (by omega) (by omega) hdj (by rw [Nat.zero_add]; exact hLj),B6 _ _ 0 _ hlen hdist j (by omega) (by omega) hdj rfl]
      ·have hno:∀ k (hk:k < (ops.toList.take i).length),((ops.toList.take i)[k]).dst≠some d:=fun k hk e=>hex ⟨k,by omega,e⟩
       rw [C1 _ _ 0 _ (fun k hk _=>hno k hk),C1 _ _ 0 _ (fun k hk _=>hno k hk)]
    obtain ⟨s1',hins',hagr1⟩:=bm il hagr0 hnolate hins
    obtain ⟨S1,O1,hfr1,hrel1⟩:=cz il hins' hrel0
    have hopu:∀ n∈A3 ops ops[i],ir ops i (Lf listed) n=false:=by
     intro n hnm
     cases htd:ir ops i (Lf listed) n with
     | false=>rfl
     | true=>
      obtain ⟨k,hk,hL,x,hx,hxd⟩:=W7.1 htd
      have hbit:=hf.dep i (by omega) _ hoi? n hnm k (by omega) x hx hxd
      rw [hrc k hbit] at hL; cases hL
    obtain ⟨sB',hstep',hagrB⟩:=hstepA _ s1' hagr1 hopu (fun d hd=>by
     cases htd:ir ops i (Lf listed) d with
     | false=>rfl
     | true=>
      obtain ⟨k,hk,hL,x,hx,hxd⟩:=W7.1 htd
      have hbit:((A4 ops.toList).getD i 0).testBit k=false:=by
       cases hb:((A4 ops.toList).getD i 0).testBit k with
       | false=>rfl
       | true=>rw [hrc k hb] at hL; cases hL
      exact absurd rfl ((hnio k hk hbit x hx d hxd).2 d hd))
    have hw:B0 ops s1'.t ops[i]=some true:=by unfold B0; rw [hog]
    have hwt:=Y2 hrel1 hw
    unfold wpOp
    rw [hoi?]
    simp only [hwt]
    refine .inl (eu hcall hrel1 hstep' (fun a' w' E' S' O' hfr hrel=>?_))
    refine wW (p:=i) hcall hf hops hspecB fuel _ _ a' w' E' S' O' hs' hcnt' (fun j hj hL=>?_) (by rw [hLset,if_pos rfl]) hcl' ?_ hrel (fun a2 w2 E2 S2 O2 hfr2 hrel2=>hn a2 w2 E2 S2 O2 ((hfr1.trans hfr).trans hfr2) hrel2)
    ·rw [hLset] at hL
     split at hL
     ·omega
     ·have:=hpre j hj hL; omega
    ·refine ⟨fun d=>?_,hagrB.σ,hagrB.n⟩
     rw [hagrB.t]
     have:ir ops i (Lf (listed.setIfInBounds i true)) d=ir ops i (Lf listed) d:=by
      rw [Bool.eq_iff_iff,W7,W7]
      constructor
      ·rintro ⟨k,hk,hL,x,hx,hxd⟩
       rw [hLset,if_neg (by omega)] at hL
       exact ⟨k,hk,hL,x,hx,hxd⟩
      ·rintro ⟨k,hk,hL,x,hx,hxd⟩
       exact ⟨k,hk,by rw [hLset,if_neg (by omega)]; exact hL,x,hx,hxd⟩
     rw [this]
   ·have hip:i < p:=by omega
    have hil:i < (ops.toList.take p).length:=by omega
    have hoi:(ops.toList.take p)[i]=ops[i]:=by simp
    obtain ⟨d,hd,hdn,b,hb,hb1,hb2⟩:=hspec i hil (by omega)
    rw [hoi] at hd hb hb1
    -- what it looks at is there already
    have hag:∀ n∈A3 ops ops[i],i6 n (C5 (Lf listed) 0 (ops.toList.take p) rs st.t)=i6 n (C5 (fun j=>decide (j < 0+i)) 0 (ops.toList.take p) rs st.t):=by
     intro n hn
     by_cases hex:∃ j,∃ (hj:j < p),((ops.toList.take p)[j]'(by omega)).dst=some n
     ·obtain ⟨j,hj,hdj⟩:=hex
      have hjs:j < ops.size:=by have:=hf.le; omega
      have hbit:=hf.dep i (by omega) _ hoi? n hn j (by omega) _ (Array.getElem?_eq_getElem hjs) (by simpa using hdj)
      have hji:=hf.back i hi1 j hbit
      rw [B6 _ _ 0 _ hlen hdist j (by omega) (by omega) hdj (by rw [Nat.zero_add]; exact hrc j hbit),B6 _ _ 0 _ hlen hdist j (by omega) (by omega) hdj (by simp; omega)]
     ·have hno:∀ k (hk:k < (ops.toList.take p).length),((ops.toList.take p)[k]).dst≠some n:=fun k hk e=>hex ⟨k,by omega,e⟩
      rw [C1 _ _ 0 _ (fun k hk _=>hno k hk),C1 _ _ 0 _ (fun k hk _=>hno k hk)]
    have hb':B0 ops (C5 (Lf listed) 0 (ops.toList.take p) rs st.t) ops[i]=some b:=by rw [bi hag]; exact hb
    have hw:=Y2 h hb'
    -- what comes next
    have hlook:∀ d',i6 d' (C5 (Lf (listed.setIfInBounds i true)) 0 (ops.toList.take p) rs st.t)=if d'=d then rs[i]'(by omega) else i6 d' (C5 (Lf listed) 0 (ops.toList.take p) rs st.t):=by
     intro d'
     split
     ·rename_i e
      subst e
      exact B6 _ _ 0 _ hlen hdist i hil (by omega) (by rw [hoi]; exact hd) (by rw [Nat.zero_add,hLset]; simp)
     ·rename_i e
      by_cases hex:∃ j,∃ (hj:j < p),((ops.toList.take p)[j]'(by omega)).dst=some d'∧Lf listed j=true
      ·obtain ⟨j,hj,hdj,hLj⟩:=hex
       rw [B6 _ _ 0 _ hlen hdist j (by omega) (by omega) hdj (by rw [Nat.zero_add,hLset]; split <;> first | rfl | exact hLj),B6 _ _ 0 _ hlen hdist j (by omega) (by omega) hdj (by rw [Nat.zero_add]; exact hLj)]
      ·rw [C1 _ _ 0 _ (fun k hk hL e2=>?_),C1 _ _ 0 _ (fun k hk hL e2=>hex ⟨k,by omega,e2,by rwa [Nat.zero_add] at hL⟩)]
       rw [Nat.zero_add,hLset] at hL
       split at hL
       ·rename_i ek
        subst ek
        rw [hoi,hd] at e2
        exact e (Option.some.inj e2).symm
       ·exact hex ⟨k,by omega,e2,hL⟩
    have hpre':∀ j,j < ops.size→Lf (listed.setIfInBounds i true) j=true→j < p:=by
     intro j hj hL
     rw [hLset] at hL
     split at hL
     ·omega
     ·exact hpre j hj hL
    unfold wpOp
    rw [hoi?]
    simp only [hw]
    cases b with
    | true=>
     obtain ⟨v,hv,hrs⟩:=hb1 rfl
     have hv':l4 P callH st.σ (opd P (C5 (Lf listed) 0 (ops.toList.take p) rs st.t) []) ops[i]=some v:=by
      rw [←hv]
      refine U3 _ (fun t x hx=>N1 (fun n e=>?_))
      subst e
      exact hag n (by
       unfold A3
       refine List.mem_append.2 (.inl (List.mem_filterMap.2 ⟨.tmp n,hx,rfl⟩)))
     refine .inl (U4 hcall (fun t x u hu=>P8 h hu) h.sites h.own h.glob hv' [0,d] _ _ (fun x w' E' O' hnew hr=>?_))
     obtain ⟨E2,k1,k2⟩:=qM (r9 b7 (0+i)).keep hr
     have hturn:=h.turn hnew.ext (fun q=>hnew.kept h.own q) hnew.own
     have hset:=(hturn.setTmp k1.ext k1.keptBut hnew.own k2 hdn).congr (st':={ st with t:=C5 (Lf (listed.setIfInBounds i true)) 0 (ops.toList.take p) rs st.t }) (fun d'=>by
      simp only [s8]
      rw [hlook d',hrs]) (fun _=>rfl) rfl
     rw [hd]
     exact ih _ _ w' E2 S O' hs' hcnt' hpre' hcl' hset (fun a2 w2 E3 S2 O2 hfr2 hrel2=>hn a2 w2 E3 S2 O2 ((hnew.framed.trans (k1.framed hnew.own)).trans hfr2) hrel2)
    | false=>
     have hrs:=hb2 rfl
     have hset:=(h.setTmp (v:=.tup []) (x:=undef) (Ext.refl _ _) (D7.refl _) h.own (.tup rfl (fun j hj=>by simp at hj)) hdn).congr (st':={ st with t:=C5 (Lf (listed.setIfInBounds i true)) 0 (ops.toList.take p) rs st.t }) (fun d'=>by
      simp only [s8]
      rw [hlook d',hrs]) (fun _=>rfl) rfl
     rw [hd]
     exact ih _ _ w E S O hs' hcnt' hpre' hcl' hset hn
end
end
end Go.AE
