/- The functions as functions on lists, and what they come to: no program in sight. Conditions: those that each theorem names. -/
import Derived.Test.YtcfnmbmmncmjiaaGreatDoorB1
set_option linter.unusedSimpArgs false
set_option linter.unusedVariables false
namespace Go.Sh
open Go.AE
theorem Bw {s:Str} (hl:s.length≤9):∀ (d i m:Nat) (n:Int),i+d=s.length→d < m→0≤n→n < 10 ^ i→E6 s (fun y14 _=>some (y14,0)) m n (i:Int)=some (fb (s.drop i) n)
 | 0,i,m,n,hi,hm,n0,n1=>by
  obtain ⟨m,rfl⟩:∃ q,m=q+1:=⟨m - 1,by omega⟩
  simp only [E6,decide_eq_false (show ¬ (i:Int) < (s.length:Int) by omega),cond_false]
  rw [List.drop_of_length_le (by omega)]
  rfl
 | d+1,i,m,n,hi,hm,n0,n1=>by
  obtain ⟨m,rfl⟩:∃ q,m=q+1:=⟨m - 1,by omega⟩
  have hi':i < s.length:=by omega
  rw [List.drop_eq_getElem_cons hi',fb]
  have hb:=s[i].toNat_lt
  have h9:(10:Int) ^ i≤10 ^ 8:=by
   have:=Nat.pow_le_pow_right (n:=10) (by omega) (show i≤8 by omega)
   have e1:((10 ^ i:Nat):Int)=10 ^ i:=Int.natCast_pow 10 i
   have e2:((10 ^ 8:Nat):Int)=10 ^ 8:=Int.natCast_pow 10 8
   rw [←e1,←e2]
   exact Int.ofNat_le.2 this
  have h8:(10:Int) ^ 8=100000000:=by decide
  have hp:(10:Int) ^ (i+1)=10 ^ i * 10:=by rw [Int.pow_succ]
  have hw:Go.IntKind.wrap .i64 ((i:Int)+1)=((i+1:Nat):Int):=by rw [O7 (by omega) (by omega)]; omega
  simp only [E6,decide_eq_true (show (i:Int) < (s.length:Int) by omega),cond_true,kP hi',Option.bind_some,hw]
  by_cases h1:s[i].toNat < 48
  ·rw [if_pos (Or.inl h1),decide_eq_true (show (s[i].toNat:Int) < 48 by omega)]
   rfl
  ·rw [decide_eq_false (show ¬ (s[i].toNat:Int) < 48 by omega)]
   by_cases h2:57 < s[i].toNat
   ·rw [if_pos (Or.inr h2),decide_eq_true (show (s[i].toNat:Int) > 57 by omega)]
    rfl
   ·rw [if_neg (by omega),decide_eq_false (show ¬ (s[i].toNat:Int) > 57 by omega)]
    have w1:Go.IntKind.wrap .i64 (10 * n)=10 * n:=O7 (by omega) (by omega)
    have w2:Go.IntKind.wrap .u8 ((s[i].toNat:Int) - 48)=(s[i].toNat:Int) - 48:=by
     show ((s[i].toNat:Int) - 48) % 256=_
     exact Int.emod_eq_of_lt (by omega) (by omega)
    have w3:Go.IntKind.wrap .i64 ((s[i].toNat:Int) - 48)=(s[i].toNat:Int) - 48:=O7 (by omega) (by omega)
    have w4:Go.IntKind.wrap .i64 (10 * n+((s[i].toNat:Int) - 48))=10 * n+((s[i].toNat:Int) - 48):=O7 (by omega) (by omega)
    simp only [cond_false,Option.bind_some,w1,w2,w3,w4]
    exact Bw hl d (i+1) m _ (by omega) (by omega) (by omega) (by rw [hp]; omega)
theorem zm {k:Nat} {s:Str} (hk:20≤k):H7 k s=some (fdS s):=by
 obtain ⟨k,rfl⟩:∃ q,k=q+1:=⟨k - 1,by omega⟩
 unfold fdS
 by_cases h1:s.length < 1
 ·rw [if_pos (Or.inl h1)]
  simp only [H7,decide_eq_true (show (s.length:Int) < 1 by omega),cond_true,Option.bind_some]
 ·by_cases h2:9 < s.length
  ·rw [if_pos (Or.inr h2)]
   simp only [H7,decide_eq_false (show ¬ (s.length:Int) < 1 by omega),decide_eq_true (show (s.length:Int) > 9 by omega),cond_true,cond_false,Option.bind_some]
  ·rw [if_neg (by omega)]
   simp only [H7,decide_eq_false (show ¬ (s.length:Int) < 1 by omega),decide_eq_false (show ¬ (s.length:Int) > 9 by omega),cond_false,Option.bind_some]
   exact Bw (by omega) s.length 0 k 0 (by omega) (by omega) (by omega) (by decide)
theorem rZ {k:Nat} {s:Str} {c:UInt8} (hs:s.length≤100000):∀ (d i m st q:Nat) (pre:List Str) (cur:Str),i+d=s.length→d < m→st≤i→(s.take i).drop st=cur→d≤q→pre.length≤i→
  O4 s (c.toNat:Int) (fun y14 y15 y16=>(((cut s y15 (s.length:Int)).bind fun v17=>(app y14 ([v17]:List Str))).bind fun o19=>(some o19))) m pre (st:Int) (i:Int)=some (pre ++ Ad cur (sk c q (s.drop i)))
 | 0,i,m,st,q,pre,cur,hi,hm,hst,hc,hq,hp=>by
  obtain ⟨m,rfl⟩:∃ q,m=q+1:=⟨m - 1,by omega⟩
  obtain rfl:i=s.length:=by omega
  rw [List.drop_length,rJ (by simp)]
  have e1:=zY (l:=s) hst (Nat.le_refl _)
  rw [hc] at e1
  simp only [O4,T6,cond_false,e1,Option.bind_some,ar (show pre.length+([cur]:List Str).length≤A1 by simp only [List.length_cons,List.length_nil]; unfold A1; omega),Ad,List.append_nil]
 | d+1,i,m,st,q,pre,cur,hi,hm,hst,hc,hq,hp=>by
  obtain ⟨m,rfl⟩:∃ q,m=q+1:=⟨m - 1,by omega⟩
  have hi':i < s.length:=by omega
  have e1:=zY (l:=s) hst (show i≤s.length by omega)
  rw [hc] at e1
  simp only [O4,T1 hi',cond_true,kP hi',Option.bind_some,w7 hi' (show s.length≤maxLen by rw [z7]; omega),e1,ar (show pre.length+([cur]:List Str).length≤A1 by simp only [List.length_cons,List.length_nil]; unfold A1; omega)]
  rw [List.drop_eq_getElem_cons hi']
  by_cases hb:s[i]=c
  ·have hb':((s[i].toNat:Int) == (c.toNat:Int))=true:=by rw [hb]; simp
   obtain ⟨q,rfl⟩:∃ p,q=p+1:=⟨q - 1,by omega⟩
   have ih:=rZ (k:=k) (c:=c) hs d (i+1) m (i+1) q (pre ++ [cur]) [] (by omega) (by omega) (Nat.le_refl _) (by rw [List.drop_of_length_le (by rw [List.length_take]; omega)]) (by omega) (by simp; omega)
   rw [hb',cond_true,ih,hb,xf,tU]
   simp [Ad]
  ·have hb':((s[i].toNat:Int) == (c.toNat:Int))=false:=by
    rw [beq_eq_false_iff_ne]
    intro e
    exact hb (UInt8.toNat_inj.1 (by omega))
   have ih:=rZ (k:=k) (c:=c) hs d (i+1) m st q pre (cur ++ [s[i]]) (by omega) (by omega) (by omega) (by
    rw [List.take_succ_eq_append_getElem hi',List.drop_append_of_le_length (by rw [List.length_take]; omega),hc]) (by omega) (by omega)
   obtain ⟨x,y,h1,h2⟩:=xg (c:=c) hb q (s.drop (i+1))
   rw [hb',cond_false,ih,h1,h2]
   simp [Ad]
theorem xy {k:Nat} {s:Str} {c:UInt8} (hk:200000≤k) (hs:s.length≤100000):N1 k s (c.toNat:Int)=some (sk c s.length s):=by
 obtain ⟨k,rfl,hq⟩:=r7 hk
 simp only [N1]
 have:=rZ (k:=k) (c:=c) hs s.length 0 k 0 s.length [] [] (by omega) (by omega) (Nat.le_refl _) (by simp) (Nat.le_refl _) (by simp)
 rw [List.nil_append,List.drop_zero,tU] at this
 exact this
def plQ (s:Str):Int×Bool:=bif ((fdS s).2 != 0) || !(dgt (fdS s).1 == s) then (0,false) else ((fdS s).1,true)
theorem pI {k:Nat} {s:Str} (hk:30≤k):O5 k s=some (plQ s):=by
 obtain ⟨k,rfl,hq⟩:=r7 hk
 simp only [O5,zm (show 20≤k by omega),Option.bind_some,uw (show 10≤k by omega) (qR s),plQ]
 cases ((fdS s).2 != 0) with
 | true=>rfl
 | false=>cases (dgt (fdS s).1 == s) <;> rfl
theorem pG (s:Str):wfI .i64 (plQ s).1:=by
 have:=qR s
 unfold plQ
 cases ((fdS s).2 != 0) || !(dgt (fdS s).1 == s)
 ·exact S5 (n:=(fdS s).1) (by omega) (by omega)
 ·exact S5 (n:=0) (by omega) (by omega)
theorem kZ {n:Int} (h:0≤n∧n≤40):plQ (dgt n)=(n,true):=by
 have hl:=(bE h).l
 have h0:(dgt n).length≠0:=fun e=>zZ n.toNat (List.length_eq_zero_iff.1 e)
 have hf:fdS (dgt n)=(n,0):=by
  unfold fdS
  rw [if_neg (by omega)]
  unfold dgt
  rw [Bv,Int.toNat_of_nonneg h.1]
 unfold plQ
 rw [hf]
 simp
def qt (a0:Int):Int:=bif (bif decide (a0 ≥ 48) then decide (a0≤57) else false) then Go.IntKind.wrap .i64 (Go.IntKind.wrap .u8 (a0 - 48)) else bif (bif decide (a0 ≥ 97) then decide (a0≤102) else false) then Go.IntKind.wrap .i64 ((Go.IntKind.wrap .i64 (Go.IntKind.wrap .u8 (a0 - 97)))+10) else -1
theorem Ab {k:Nat} {n:Int} (hk:1≤k):Q6 k n=some (qt n):=by
 obtain ⟨k,rfl,hq⟩:=r7 hk
 simp only [Q6,qt]
 cases decide (n ≥ 48) <;> cases decide (n≤57) <;> cases decide (n ≥ 97) <;> cases decide (n≤102) <;> rfl
def BD (a b:UInt8):Int:=Go.IntKind.wrap .u8 (Go.IntKind.wrap .i64 ((Go.IntKind.wrap .i64 (16 * qt (a.toNat:Int)))+qt (b.toNat:Int)))
def fi:Str→List Int→Str×Bool
 | a :: b :: r,l=>bif decide (qt (a.toNat:Int) < 0) || decide (qt (b.toNat:Int) < 0) then ([],false) else fi r (l ++ [BD a b])
 | _,l=>(strB l,true)
def pd (s:Str):Str×Bool:=if s.length % 2=1 then ([],false) else fi s []
theorem xE {k:Nat} {s:Str} (hk:1≤k) (hs:s.length≤100000):∀ (d i m:Nat) (l:List Int),i+2 * d=s.length→d < m→l.length≤i→
  H8 k s (fun y21 y22=>(some ((Go.AE.strB y21),true))) m l (i:Int)=some (fi (s.drop i) l)
 | 0,i,m,l,hi,hm,hl=>by
  obtain ⟨m,rfl⟩:∃ q,m=q+1:=⟨m - 1,by omega⟩
  obtain rfl:i=s.length:=by omega
  rw [List.drop_length]
  simp only [H8,T6,cond_false,fi]
 | d+1,i,m,l,hi,hm,hl=>by
  obtain ⟨m,rfl⟩:∃ q,m=q+1:=⟨m - 1,by omega⟩
  have hi':i < s.length:=by omega
  have hi2:i+1 < s.length:=by omega
  have hw:Go.IntKind.wrap .i64 ((i:Int)+2)=((i+2:Nat):Int):=by rw [O7 (by omega) (by omega)]; omega
  have ih:=xE hk hs d (i+2) m (l ++ [BD s[i] s[i+1]]) (by omega) (by omega) (by simp; omega)
  rw [List.drop_eq_getElem_cons hi',List.drop_eq_getElem_cons hi2,fi]
  simp only [H8,T1 hi',cond_true,kP hi',kP hi2,Option.bind_some,w7 hi' (show s.length≤maxLen by rw [z7]; omega),Ab hk,hw]
  have happ:=ar (l:=l) (m:=[BD s[i] s[i+1]]) (by simp only [List.length_cons,List.length_nil]; unfold A1; omega)
  unfold BD at happ ih
  cases decide (qt (s[i].toNat:Int) < 0) <;> cases decide (qt (s[i+1].toNat:Int) < 0) <;> simp only [cond_true,cond_false,Option.bind_some,Bool.or_true,Bool.or_false,Bool.true_or,Bool.false_or,happ]
  exact ih
theorem De {k:Nat} {s:Str} (hk:200000≤k) (hs:s.length≤100000):O9 k s=some (pd s):=by
 obtain ⟨k,rfl,hq⟩:=r7 hk
 have r1:iU (s.length:Int) 2=some ((s.length % 2:Nat):Int):=by
  unfold iU
  rw [if_neg (by omega)]
  show some ((s.length:Int).tmod 2)=_
  rw [Int.tmod_eq_emod_of_nonneg (by omega)]
  rfl
 simp only [O9,r1,Option.bind_some,pd]
 by_cases h:s.length % 2=1
 ·rw [if_pos h,h]
  rfl
 ·rw [if_neg h]
  have:(((s.length % 2:Nat):Int) == 1)=false:=by rw [beq_eq_false_iff_ne]; omega
  rw [this,cond_false]
  exact xE (by omega) hs (s.length / 2) 0 k [] (by omega) (by omega) (by simp)
theorem pe:∀ (n:Nat) (s:Str) (l:List Int),s.length≤n→(fi s l).1.length≤s.length+l.length
 | _,[],l,_=>by simp [fi,strB]
 | _,[a],l,_=>by simp [fi,strB]
 | 0,a :: b :: r,l,h=>by simp at h
 | n+1,a :: b :: r,l,h=>by
  unfold fi
  cases decide (qt (a.toNat:Int) < 0) || decide (qt (b.toNat:Int) < 0)
  ·have:=pe n r (l ++ [BD a b]) (by simp at h; omega)
   simp only [cond_false,List.length_append,List.length_cons,List.length_nil] at this ⊢
   omega
  ·simp
theorem BH (s:Str):(pd s).1.length≤s.length:=by
 unfold pd
 split
 ·simp
 ·simpa using pe s.length s [] (Nat.le_refl _)
theorem BG:(List.range 256).all (fun n=>pd [bf (n / 16),bf (n % 16)] == ([UInt8.ofNat n],true))=true:=by decide +kernel
theorem yR (c:UInt8):pd [bf (c.toNat / 16),bf (c.toNat % 16)]=([c],true):=by
 have:=List.all_eq_true.1 BG c.toNat (List.mem_range.2 c.toNat_lt)
 rw [beq_iff_eq,UInt8.ofNat_toNat] at this
 exact this
def lst {α:Type} (p:α→Bool):List α→Int→Int→Int
 | [],_,z=>z
 | a :: r,i,z=>lst p r (i+1) (bif p a then i else z)
theorem ml {α:Type} {p:α→Bool}:∀ (l:List α) (i z:Int),0≤i→-1≤z→z < i+l.length→-1≤lst p l i z∧lst p l i z < i+l.length
 | [],i,z,_,h1,h2=>⟨h1,h2⟩
 | a :: r,i,z,h0,h1,h2=>by
  simp only [List.length_cons] at h2 ⊢
  have:=ml (p:=p) r (i+1) (bif p a then i else z) (by omega) (by cases p a <;> simp only [cond_true,cond_false] <;> omega) (by cases p a <;> simp only [cond_true,cond_false] <;> omega)
  rw [lst]
  omega
theorem pv {α:Type} {p:α→Bool}:∀ (l:List α) (i z:Int),(∀ a∈l,p a=false)→lst p l i z=z
 | [],i,z,_=>rfl
 | a :: r,i,z,h=>by
  rw [lst,h a (by simp),cond_false]
  exact pv r (i+1) z (fun b hb=>h b (by simp [hb]))
theorem wQ {α:Type} {p:α→Bool}:∀ (l:List α) (i z:Int) (j:Nat) (hj:j < l.length),p l[j]=true→(∀ q (hq:q < l.length),q≠j→p l[q]=false)→lst p l i z=i+j
 | [],i,z,j,hj,_,_=>by simp at hj
 | a :: r,i,z,0,hj,h1,h2=>by
  rw [lst]
  simp only [List.getElem_cons_zero] at h1
  rw [h1,cond_true,pv]
  ·omega
  ·intro b hb
   obtain ⟨q,hq,rfl⟩:=List.getElem_of_mem hb
   exact h2 (q+1) (by simp; omega) (by omega)
 | a :: r,i,z,j+1,hj,h1,h2=>by
  rw [lst,wQ r (i+1) _ j (by simpa using hj) h1 (fun q hq hqj=>h2 (q+1) (by simp; omega) (by omega))]
  omega
theorem Hi {ts:List a6} {ws:List Str} {w2:Str} (h2:idx ws 2=some w2) (hl:ts.length≤100000) {K:Int→Int→Option (a8×Bool)}:∀ (d i m:Nat) (z:Int),i+d=ts.length→d < m→
  L5 ts ws K m (i:Int) z=K (ts.length:Int) (lst (fun t=>t.fName == w2) (ts.drop i) (i:Int) z)
 | 0,i,m,z,hi,hm=>by
  obtain ⟨m,rfl⟩:∃ q,m=q+1:=⟨m - 1,by omega⟩
  obtain rfl:i=ts.length:=by omega
  rw [List.drop_length]
  simp only [L5,T6,cond_false,lst]
 | d+1,i,m,z,hi,hm=>by
  obtain ⟨m,rfl⟩:∃ q,m=q+1:=⟨m - 1,by omega⟩
  have hi':i < ts.length:=by omega
  have e1:inB ts.length (i:Int)=some ():=by unfold inB; rw [if_pos ⟨by omega,by omega⟩]
  have e2:ts[0+(i:Int).toNat]?=some ts[i]:=by rw [Int.toNat_natCast,Nat.zero_add,List.getElem?_eq_getElem hi']
  have ih:=fun z=>Hi h2 hl (K:=K) d (i+1) m z (by omega) (by omega)
  rw [List.drop_eq_getElem_cons hi',lst,show (i:Int)+1=((i+1:Nat):Int) by omega,←ih]
  simp only [L5,T1 hi',cond_true,e1,e2,h2,Option.bind_some,w7 hi' (show ts.length≤maxLen by rw [z7]; omega)]
  cases (ts[i].fName == w2) <;> rfl
theorem Hj {o:Bool×List a6} {ws:List Str} {w2:Str} (h2:idx ws 2=some w2) (hl:o.2.length≤100000) {K:Int→b4→Option (a8×Bool)}:∀ (d i m:Nat) (x:b4),i+d=o.2.length→d < m→
  I3 ws o K m (i:Int) x=K (o.2.length:Int) { x with fType:=lst (fun t=>t.fName == w2) (o.2.drop i) (i:Int) x.fType }
 | 0,i,m,x,hi,hm=>by
  obtain ⟨m,rfl⟩:∃ q,m=q+1:=⟨m - 1,by omega⟩
  obtain rfl:i=o.2.length:=by omega
  rw [List.drop_length]
  simp only [I3,T6,cond_false,lst]
 | d+1,i,m,x,hi,hm=>by
  obtain ⟨m,rfl⟩:∃ q,m=q+1:=⟨m - 1,by omega⟩
  have hi':i < o.2.length:=by omega
  have e1:inB o.2.length (i:Int)=some ():=by unfold inB; rw [if_pos ⟨by omega,by omega⟩]
  have e2:o.2[0+(i:Int).toNat]?=some o.2[i]:=by rw [Int.toNat_natCast,Nat.zero_add,List.getElem?_eq_getElem hi']
  have ih:=fun x=>Hj h2 hl (K:=K) d (i+1) m x (by omega) (by omega)
  rw [List.drop_eq_getElem_cons hi',lst,show (i:Int)+1=((i+1:Nat):Int) by omega]
  simp only [I3,T1 hi',cond_true,e1,e2,h2,Option.bind_some,w7 hi' (show o.2.length≤maxLen by rw [z7]; omega),ih]
  cases (o.2[i].fName == w2) <;> rfl
theorem Cf {o:Bool×List a6} {ws:List Str} {K:Int→b4→Option (a8×Bool)} {m:Nat} {i:Int} {x:b4} (h:x.fType < 0):F1 ws o K (m+1) i x=K i x:=by
 simp only [F1,decide_eq_false (show ¬ x.fType ≥ 0 by omega),cond_false,Option.bind_some]
theorem Hk {o:Bool×List a6} {ws:List Str} {w3:Str} (h3:idx ws 3=some w3) {T:Nat} (hT:T < o.2.length) (hl:o.2[T].fFields.length≤100000) {K:Int→b4→Option (a8×Bool)}:∀ (d i m:Nat) (x:b4),x.fType=(T:Int)→i+d=o.2[T].fFields.length→d < m→
  F1 ws o K m (i:Int) x=K (o.2[T].fFields.length:Int) { x with fField:=lst (fun f=>f.fName == w3) (o.2[T].fFields.drop i) (i:Int) x.fField }
 | 0,i,m,x,hx,hi,hm=>by
  obtain ⟨m,rfl⟩:∃ q,m=q+1:=⟨m - 1,by omega⟩
  obtain ⟨nm,ty,fd,sp⟩:=x
  obtain rfl:ty=(T:Int):=hx
  have e1:inB o.2.length (T:Int)=some ():=by unfold inB; rw [if_pos ⟨by omega,by omega⟩]
  have e2:o.2[0+(T:Int).toNat]?=some o.2[T]:=by rw [Int.toNat_natCast,Nat.zero_add,List.getElem?_eq_getElem hT]
  obtain rfl:i=o.2[T].fFields.length:=by omega
  rw [List.drop_length]
  simp only [F1,decide_eq_true (show (T:Int) ≥ 0 by omega),cond_true,e1,e2,Option.bind_some,T6,cond_false,lst]
 | d+1,i,m,x,hx,hi,hm=>by
  obtain ⟨m,rfl⟩:∃ q,m=q+1:=⟨m - 1,by omega⟩
  obtain ⟨nm,ty,fd,sp⟩:=x
  obtain rfl:ty=(T:Int):=hx
  have e1:inB o.2.length (T:Int)=some ():=by unfold inB; rw [if_pos ⟨by omega,by omega⟩]
  have e2:o.2[0+(T:Int).toNat]?=some o.2[T]:=by rw [Int.toNat_natCast,Nat.zero_add,List.getElem?_eq_getElem hT]
  have hi':i < o.2[T].fFields.length:=by omega
  have ih:=fun x hx=>Hk h3 hT hl (K:=K) d (i+1) m x hx (by omega) (by omega)
  rw [List.drop_eq_getElem_cons hi',lst,show (i:Int)+1=((i+1:Nat):Int) by omega]
  simp only [F1,decide_eq_true (show (T:Int) ≥ 0 by omega),cond_true,e1,e2,h3,Option.bind_some,T1 hi',D6 hi',w7 hi' (show o.2[T].fFields.length≤maxLen by rw [z7]; omega)]
  cases (o.2[T].fFields[i].fName == w3)
  ·rw [cond_false,ih ⟨nm,(T:Int),fd,sp⟩ rfl]
   rfl
  ·rw [cond_true,ih ⟨nm,(T:Int),(i:Int),sp⟩ rfl]
   rfl
def kh (ts:List a6) (w:Str):Int:=lst (fun t=>t.fName == w) ts 0 (-1)
def Ia (fs:List b6) (w:Str):Int:=lst (fun f=>f.fName == w) fs 0 (-1)
def nq (ts:List a6) (w1 w2 w3 w4 w5:Str):a6:={ fName:=w1,fParent:=kh ts w2,fMin:=(plQ w3).1,fSize:=(plQ w4).1,fFields:=[],fKey:=-1,fUnique:=false,fLast:=w5 == ([76]:Str) }
def lX (t:a6) (w1 w2 w3 w4:Str):a6:=bif ((w4 == ([85]:Str)) || (w4 == ([77]:Str))) then { t with fFields:=t.fFields ++ [⟨w1,(plQ w2).1,(plQ w3).1⟩],fKey:=(t.fFields.length:Int),fUnique:=w4 == ([85]:Str) } else { t with fFields:=t.fFields ++ [⟨w1,(plQ w2).1,(plQ w3).1⟩] }
def dX (ts:List a6) (w2 w3:Str):Int:=match idx ts (kh ts w2) with | some t=>Ia t.fFields w3 | none=>-1
def fk (ts:List a6) (w1 w2 w3 w4:Str):Option b4:=bif (w4 == ([45]:Str)) then some ⟨w1,kh ts w2,dX ts w2 w3,[]⟩ else bif (pd w4).2 then some ⟨w1,kh ts w2,dX ts w2 w3,(pd w4).1⟩ else none
def yO (b:a8) (w0 w1 w2 w3 w4:Str):Option a8:=
 bif (w0 == aS) && decide ((b.fTypes.length:Int) > 0) then
  (match b.fTypes.getLast? with | some t=>some { b with fTypes:=b.fTypes.dropLast ++ [lX t w1 w2 w3 w4] } | none=>none)
 else bif (w0 == V3) then (fk b.fTypes w1 w2 w3 w4).map fun x=>{ b with fIndexes:=b.fIndexes ++ [x] } else none
def X2 (i:Nat) (b:a8):List Str→Option a8
 | [w0,w1,w2]=>bif (w0 == tE) && ((i:Int) == 0) then some ⟨w1,(plQ w2).1,b.fTypes,b.fIndexes⟩ else none
 | [w0,w1,w2,w3,w4,w5]=>bif (w0 == gq) then some { b with fTypes:=b.fTypes ++ [nq b.fTypes w1 w2 w3 w4 w5] } else none
 | [w0,w1,w2,w3,w4]=>yO b w0 w1 w2 w3 w4
 | _=>none
theorem lB {i:Nat} {b:a8} {w0 w1 w2:Str}:X2 i b [w0,w1,w2]=bif (w0 == tE) && ((i:Int) == 0) then some ⟨w1,(plQ w2).1,b.fTypes,b.fIndexes⟩ else none:=rfl
theorem tA {i:Nat} {b:a8} {w0 w1 w2 w3 w4 w5:Str}:X2 i b [w0,w1,w2,w3,w4,w5]=bif (w0 == gq) then some { b with fTypes:=b.fTypes ++ [nq b.fTypes w1 w2 w3 w4 w5] } else none:=rfl
theorem nY {i:Nat} {b:a8} {w0 w1 w2 w3 w4:Str}:X2 i b [w0,w1,w2,w3,w4]=yO b w0 w1 w2 w3 w4:=rfl
theorem uQ {i:Nat} {b:a8} {ws:List Str} (h3:ws.length≠3) (h6:ws.length≠6) (h5:ws.length≠5):X2 i b ws=none:=by
 unfold X2
 split
 ·exact absurd rfl h3
 ·exact absurd rfl h6
 ·exact absurd rfl h5
 ·rfl
theorem Ij {α:Type}:∀ {l:List α},l.length=3→∃ a b c,l=[a,b,c]
 | [a,b,c],_=>⟨a,b,c,rfl⟩
abbrev RdK:=Int→Str→Int→List a6→List b4→Option (a8×Bool)
def after (k:Nat) (o2:List Str) (K0:RdK) (m i:Nat) (b:a8):Option a8→Option (a8×Bool)
 | some b'=>m0 k o2 K0 m ((i+1:Nat):Int) b'.fName b'.fKind b'.fTypes b'.fIndexes
 | none=>some (b,false)
section
variable {k:Nat} {o2:List Str} {K0:RdK} {m i:Nat} {b:a8} {l:Str}
theorem Ch {w0 w1 w2:Str} (hk:300000≤k) (hi:i+1 < o2.length) (ho:o2.length≤100000) (he:idx o2 (i:Int)=some l) (hc:N1 k l 32=some [w0,w1,w2]):
  m0 k o2 K0 (m+1) (i:Int) b.fName b.fKind b.fTypes b.fIndexes=after k o2 K0 m i b (X2 i b [w0,w1,w2]):=by
 have w1':Go.IntKind.wrap .i64 ((o2.length:Int) - 1)=((o2.length - 1:Nat):Int):=by rw [O7 (by omega) (by omega)]; omega
 have i0:idx [w0,w1,w2] 0=some w0:=rfl
 have i1:idx [w0,w1,w2] 1=some w1:=rfl
 have i2:idx [w0,w1,w2] 2=some w2:=rfl
 have d3:((([w0,w1,w2]:List Str).length:Int) == 3)=true:=rfl
 have d5:((([w0,w1,w2]:List Str).length:Int) == 5)=false:=rfl
 have d6:((([w0,w1,w2]:List Str).length:Int) == 6)=false:=rfl
 simp only [m0,w1',T1 (show i < o2.length - 1 by omega),cond_true,he,hc,i0,i1,i2,d3,d5,d6,cond_false,Option.bind_some,pI (show 30≤k by omega),w7 (show i < o2.length by omega) (show o2.length≤maxLen by rw [z7]; omega)]
 rw [lB]
 unfold tE
 cases (w0 == ([68,66,68]:Str)) with
 | true=>
  cases ((i:Int) == 0) with
  | true=>rfl
  | false=>cases (w0 == ([83,69,71,77]:Str)) <;> cases (w0 == ([70,73,69,76,68]:Str)) <;> cases (w0 == ([73,78,68,69,88]:Str)) <;> rfl
 | false=>cases (w0 == ([83,69,71,77]:Str)) <;> cases (w0 == ([70,73,69,76,68]:Str)) <;> cases (w0 == ([73,78,68,69,88]:Str)) <;> rfl
theorem It {w0 w1 w2 w3 w4 w5:Str} (hk:300000≤k) (hi:i+1 < o2.length) (ho:o2.length≤100000) (he:idx o2 (i:Int)=some l) (hc:N1 k l 32=some [w0,w1,w2,w3,w4,w5]) (ht:b.fTypes.length≤100000):
  m0 k o2 K0 (m+1) (i:Int) b.fName b.fKind b.fTypes b.fIndexes=after k o2 K0 m i b (X2 i b [w0,w1,w2,w3,w4,w5]):=by
 have w1':Go.IntKind.wrap .i64 ((o2.length:Int) - 1)=((o2.length - 1:Nat):Int):=by rw [O7 (by omega) (by omega)]; omega
 have i0:idx [w0,w1,w2,w3,w4,w5] 0=some w0:=rfl
 have i1:idx [w0,w1,w2,w3,w4,w5] 1=some w1:=rfl
 have i2:idx [w0,w1,w2,w3,w4,w5] 2=some w2:=rfl
 have i3:idx [w0,w1,w2,w3,w4,w5] 3=some w3:=rfl
 have i4:idx [w0,w1,w2,w3,w4,w5] 4=some w4:=rfl
 have i5:idx [w0,w1,w2,w3,w4,w5] 5=some w5:=rfl
 have d3:((([w0,w1,w2,w3,w4,w5]:List Str).length:Int) == 3)=false:=rfl
 have d5:((([w0,w1,w2,w3,w4,w5]:List Str).length:Int) == 5)=false:=rfl
 have d6:((([w0,w1,w2,w3,w4,w5]:List Str).length:Int) == 6)=true:=rfl
 have happ:∀ z,app b.fTypes [z]=some (b.fTypes ++ [z]):=fun z=>ar (by simp only [List.length_cons,List.length_nil]; unfold A1; omega)
 have hL:=fun K=>Hi (ts:=b.fTypes) (ws:=[w0,w1,w2,w3,w4,w5]) i2 ht (K:=K) b.fTypes.length 0 k (-1) (Nat.zero_add _) (by omega)
 simp only [List.drop_zero,show ((0:Nat):Int)=0 from rfl] at hL
 simp only [m0,w1',T1 (show i < o2.length - 1 by omega),cond_true,he,hc,i0,i1,i3,i4,i5,d3,d5,d6,cond_false,Option.bind_some,pI (show 30≤k by omega),w7 (show i < o2.length by omega) (show o2.length≤maxLen by rw [z7]; omega),hL,happ]
 rw [tA]
 unfold gq
 have hS:∀ q:Bool,(bif (w0 == ([68,66,68]:Str)) then (some false:Option Bool) else some false)=some false:=fun q=>by cases (w0 == ([68,66,68]:Str)) <;> rfl
 rw [hS true]
 simp only [Option.bind_some,cond_false]
 cases (w0 == ([83,69,71,77]:Str)) with
 | true=>rfl
 | false=>cases (w0 == ([70,73,69,76,68]:Str)) <;> cases (w0 == ([73,78,68,69,88]:Str)) <;> rfl
theorem Cg {ws:List Str} (hi:i+1 < o2.length) (ho:o2.length≤100000) (he:idx o2 (i:Int)=some l) (hc:N1 k l 32=some ws) (hne:ws≠[]) (h3:ws.length≠3) (h6:ws.length≠6) (h5:ws.length≠5):
  m0 k o2 K0 (m+1) (i:Int) b.fName b.fKind b.fTypes b.fIndexes=after k o2 K0 m i b (X2 i b ws):=by
 have w1':Go.IntKind.wrap .i64 ((o2.length:Int) - 1)=((o2.length - 1:Nat):Int):=by rw [O7 (by omega) (by omega)]; omega
 rw [uQ h3 h6 h5]
 cases ws with
 | nil=>exact absurd rfl hne
 | cons w0 r=>
 have i0:idx (w0 :: r) 0=some w0:=rfl
 have d3:(((w0 :: r).length:Int) == 3)=false:=by rw [beq_eq_false_iff_ne]; omega
 have d5:(((w0 :: r).length:Int) == 5)=false:=by rw [beq_eq_false_iff_ne]; omega
 have d6:(((w0 :: r).length:Int) == 6)=false:=by rw [beq_eq_false_iff_ne]; omega
 simp only [m0,w1',T1 (show i < o2.length - 1 by omega),cond_true,he,hc,i0,d3,d5,d6,cond_false,Option.bind_some]
 cases (w0 == ([68,66,68]:Str)) <;> cases (w0 == ([83,69,71,77]:Str)) <;> cases (w0 == ([70,73,69,76,68]:Str)) <;> cases (w0 == ([73,78,68,69,88]:Str)) <;> rfl
theorem Dv {w0 w1 w2 w3 w4:Str} (hk:300000≤k) (hi:i+1 < o2.length) (ho:o2.length≤100000) (he:idx o2 (i:Int)=some l) (hc:N1 k l 32=some [w0,w1,w2,w3,w4]) (ht:b.fTypes.length≤100000) (hf:∀ t∈b.fTypes,t.fFields.length≤100000) (hx:b.fIndexes.length≤100000) (hw:w4.length≤100000):
  m0 k o2 K0 (m+1) (i:Int) b.fName b.fKind b.fTypes b.fIndexes=after k o2 K0 m i b (X2 i b [w0,w1,w2,w3,w4]):=by
 have w1':Go.IntKind.wrap .i64 ((o2.length:Int) - 1)=((o2.length - 1:Nat):Int):=by rw [O7 (by omega) (by omega)]; omega
 have i0:idx [w0,w1,w2,w3,w4] 0=some w0:=rfl
 have i1:idx [w0,w1,w2,w3,w4] 1=some w1:=rfl
 have i2:idx [w0,w1,w2,w3,w4] 2=some w2:=rfl
 have i3:idx [w0,w1,w2,w3,w4] 3=some w3:=rfl
 have i4:idx [w0,w1,w2,w3,w4] 4=some w4:=rfl
 have d3:((([w0,w1,w2,w3,w4]:List Str).length:Int) == 3)=false:=rfl
 have d5:((([w0,w1,w2,w3,w4]:List Str).length:Int) == 5)=true:=rfl
 have d6:((([w0,w1,w2,w3,w4]:List Str).length:Int) == 6)=false:=rfl
 have hxx:∀ z,app b.fIndexes [z]=some (b.fIndexes ++ [z]):=fun z=>ar (by simp only [List.length_cons,List.length_nil]; unfold A1; omega)
 have hh:=De (k:=k) (s:=w4) (by omega) hw
 have hD:(bif (w0 == ([68,66,68]:Str)) then (some false:Option Bool) else some false)=some false:=by cases (w0 == ([68,66,68]:Str)) <;> rfl
 have hG:(bif (w0 == ([83,69,71,77]:Str)) then (some false:Option Bool) else some false)=some false:=by cases (w0 == ([83,69,71,77]:Str)) <;> rfl
 simp only [m0,w1',T1 (show i < o2.length - 1 by omega),cond_true,he,hc,i0,d3,d5,d6,cond_false,Option.bind_some,hD,hG]
 -- the index, whatever the field's test left
 have hI:∀ q:Bool,((((bif (w0 == ([73,78,68,69,88]:Str)) then (some true:Option Bool) else (some false))).bind fun o180=>
            (bif o180 then (((idx [w0,w1,w2,w3,w4] 1).bind fun v181=>(some (({ fName:=v181,fType:=(-1),fField:=(-1),fSparse:=[] }:b4)))).bind fun o182=>
             (I3 [w0,w1,w2,w3,w4] (q,b.fTypes) (fun y193 y194=>
             (F1 [w0,w1,w2,w3,w4] (q,b.fTypes) (fun y213 y214=>
              (((idx [w0,w1,w2,w3,w4] 4).bind fun v215=>(some ((!(v215 == ([45]:Str)))))).bind fun o216=>
               (bif o216 then (((idx [w0,w1,w2,w3,w4] 4).bind fun v217=>((O9 k v217).bind fun v218=>(some (v218.1,v218.2)))).bind fun o219=>
                (bif (!o219.2) then (some (({ fName:=b.fName,fKind:=b.fKind,fTypes:=b.fTypes,fIndexes:=b.fIndexes }:a8),false)) else
                (((app b.fIndexes ([{ y214 with fSparse:=o219.1 }]:List b4)).bind fun v220=>(some (v220))).bind fun o221=>
                 (m0 k o2 K0 m (Go.IntKind.wrap .i64 ((i:Int)+1)) b.fName b.fKind b.fTypes o221)))) else
               (((app b.fIndexes ([y214]:List b4)).bind fun v222=>(some (v222))).bind fun o223=>
                (m0 k o2 K0 m (Go.IntKind.wrap .i64 ((i:Int)+1)) b.fName b.fKind b.fTypes o223))))) k 0 y194)) k 0 o182)) else
            (some (({ fName:=b.fName,fKind:=b.fKind,fTypes:=b.fTypes,fIndexes:=b.fIndexes }:a8),false)))):Option (a8×Bool))=after k o2 K0 m i b (bif (w0 == V3) then (fk b.fTypes w1 w2 w3 w4).map fun x=>{ b with fIndexes:=b.fIndexes ++ [x] } else none):=by
  intro q
  unfold V3
  cases (w0 == ([73,78,68,69,88]:Str)) with
  | false=>rfl
  | true=>
   simp only [cond_true,Option.bind_some,i1]
   refine Eq.trans (Hj (o:=(q,b.fTypes)) i2 ht b.fTypes.length 0 k _ (Nat.zero_add _) (by omega)) ?_
   simp only [List.drop_zero]
   have hr:=ml (p:=fun t:a6=>t.fName == w2) b.fTypes 0 (-1) (by omega) (by omega) (by omega)
   have hT:lst (fun t:a6=>t.fName == w2) b.fTypes ((0:Nat):Int) (-1)=kh b.fTypes w2:=rfl
   rw [hT]
   have hend:∀ x:b4,x.fName=w1→x.fType=kh b.fTypes w2→x.fField=dX b.fTypes w2 w3→x.fSparse=[]→
     ((((idx [w0,w1,w2,w3,w4] 4).bind fun v215=>(some ((!(v215 == ([45]:Str)))))).bind fun o216=>
           (bif o216 then (((idx [w0,w1,w2,w3,w4] 4).bind fun v217=>((O9 k v217).bind fun v218=>(some (v218.1,v218.2)))).bind fun o219=>
            (bif (!o219.2) then (some (({ fName:=b.fName,fKind:=b.fKind,fTypes:=b.fTypes,fIndexes:=b.fIndexes }:a8),false)) else
            (((app b.fIndexes ([{ x with fSparse:=o219.1 }]:List b4)).bind fun v220=>(some (v220))).bind fun o221=>
             (m0 k o2 K0 m (Go.IntKind.wrap .i64 ((i:Int)+1)) b.fName b.fKind b.fTypes o221)))) else
           (((app b.fIndexes ([x]:List b4)).bind fun v222=>(some (v222))).bind fun o223=>
            (m0 k o2 K0 m (Go.IntKind.wrap .i64 ((i:Int)+1)) b.fName b.fKind b.fTypes o223)))):Option (a8×Bool))=after k o2 K0 m i b ((fk b.fTypes w1 w2 w3 w4).map fun x=>{ b with fIndexes:=b.fIndexes ++ [x] }):=by
    intro x hx1 hx2 hx3 hx4
    obtain ⟨nm,ty,fd,sp⟩:=x
    obtain rfl:nm=w1:=hx1
    obtain rfl:ty=kh b.fTypes w2:=hx2
    obtain rfl:fd=dX b.fTypes w2 w3:=hx3
    obtain rfl:sp=[]:=hx4
    unfold fk
    simp only [i4,hh,hxx,Option.bind_some,w7 (show i < o2.length by omega) (show o2.length≤maxLen by rw [z7]; omega)]
    cases (w4 == ([45]:Str)) with
    | true=>rfl
    | false=>cases hq:(pd w4).2 <;> rfl
   by_cases h0:kh b.fTypes w2 < 0
   ·obtain ⟨k,rfl,hk1⟩:=r7 hk
    rw [Cf h0]
    refine hend _ rfl rfl ?_ rfl
    unfold dX
    rw [xI h0]
   ·obtain ⟨T,hTe⟩:∃ T:Nat,kh b.fTypes w2=(T:Int):=⟨(kh b.fTypes w2).toNat,by omega⟩
    have hTl:T < b.fTypes.length:=by unfold kh at hTe; omega
    refine Eq.trans (Hk (o:=(q,b.fTypes)) i3 hTl (hf _ (List.getElem_mem hTl)) (b.fTypes[T]).fFields.length 0 k _ hTe (Nat.zero_add _) (by have:=hf _ (List.getElem_mem hTl); omega)) ?_
    refine hend _ rfl rfl ?_ rfl
    unfold dX
    rw [hTe,D6 hTl]
    rfl
 rw [nY]
 unfold yO
 by_cases hF:(w0 == ([70,73,69,76,68]:Str))=true
 ·have hF':(w0 == aS)=true:=hF
  rw [hF,hF']
  simp only [cond_true,Option.bind_some,Bool.true_and]
  by_cases hz:b.fTypes=[]
  ·have hd:decide ((b.fTypes.length:Int) > 0)=false:=by rw [hz]; rfl
   rw [hd]
   simp only [cond_false]
   exact hI false
  ·obtain ⟨ts,t,hb⟩:=ki hz
   rw [hb] at ht hf ⊢
   have htl:ts.length+1≤100000:=by simpa using ht
   have hft:=hf t (by simp)
   have hd:decide ((((ts ++ [t]).length:Nat):Int) > 0)=true:=decide_eq_true (by rw [List.length_append,List.length_singleton]; omega)
   have happ:∀ z,app t.fFields [z]=some (t.fFields ++ [z]):=fun z=>ar (by simp only [List.length_cons,List.length_nil]; unfold A1; omega)
   simp only [hd,cond_true,mR (show ts.length≤1000000 by omega),xJ,xu,uE,i1,i2,i3,i4,Option.bind_some,pI (show 30≤k by omega),happ,w7 (show i < o2.length by omega) (show o2.length≤maxLen by rw [z7]; omega),List.getLast?_concat,List.dropLast_concat]
   unfold lX
   cases (w4 == ([85]:Str)) <;> cases (w4 == ([77]:Str)) <;> rfl
 ·have hF':(w0 == ([70,73,69,76,68]:Str))=false:=by simpa using hF
  have hF2:(w0 == aS)=false:=hF'
  rw [hF',hF2]
  simp only [cond_false,Option.bind_some,Bool.false_and]
  exact hI false
end
theorem nZ {α:Type} {l:List α} {p:α→Bool} (h:l.length≤1000000):wfI .i64 (lst p l 0 (-1)):=by
 have:=ml (p:=p) l 0 (-1) (by omega) (by omega) (by omega)
 exact S5 (by omega) (by omega)
theorem CG {n:Nat} {b:a8} (h:Sz n b) (hn:n≤100000) {w1 w2 w3 w4 w5:Str} (h1:w1.length≤100000):Sz (n+1) { b with fTypes:=b.fTypes ++ [nq b.fTypes w1 w2 w3 w4 w5] }:=by
 have hm:=h.mono (Nat.le_succ n)
 have ht:=h.t
 refine ⟨h.nm,h.kd,by simp only [List.length_append,List.length_cons,List.length_nil]; omega,fun t htm=>?_,hm.x,h.xw⟩
 simp only [List.mem_append,List.mem_singleton] at htm
 rcases htm with htm | rfl
 ·exact hm.tw t htm
 ·exact ⟨⟨ck h1,nZ (by omega),pG _,pG _,⟨by simp [nq],by simp [nq]⟩,S5 (n:=-1) (by omega) (by omega),trivial,trivial,trivial⟩,by simp [nq]⟩
theorem yM {n:Nat} {nm:Str} {kd:Int} {ts:List a6} {t:a6} {xs:List b4} (h:Sz n ⟨nm,kd,ts ++ [t],xs⟩) (hn:n≤100000) {w1 w2 w3 w4:Str} (h1:w1.length≤100000):Sz (n+1) ⟨nm,kd,ts ++ [lX t w1 w2 w3 w4],xs⟩:=by
 have hm:=h.mono (Nat.le_succ n)
 refine ⟨hm.nm,hm.kd,by have:=hm.t; simpa using this,fun u hu=>?_,hm.x,hm.xw⟩
 simp only [List.mem_append,List.mem_singleton] at hu
 rcases hu with hu | rfl
 ·exact hm.tw u (by simp [hu])
 ·obtain ⟨⟨g1,g2,g3,g4,g5,g6,_⟩,g7⟩:=h.tw t (by simp)
  have hl:wfL aT (t.fFields ++ [⟨w1,(plQ w2).1,(plQ w3).1⟩]):=by
   refine ⟨by rw [z7]; simp only [List.length_append,List.length_cons,List.length_nil]; omega,fun f hf=>?_⟩
   rw [List.mem_append,List.mem_singleton] at hf
   rcases hf with hf | rfl
   ·exact g5.2 f hf
   ·exact ⟨ck h1,pG _,pG _,trivial⟩
  unfold lX
  cases ((w4 == ([85]:Str)) || (w4 == ([77]:Str)))
  ·exact ⟨⟨g1,g2,g3,g4,hl,g6,trivial,trivial,trivial⟩,by simp only [cond_false,List.length_append,List.length_cons,List.length_nil]; omega⟩
  ·exact ⟨⟨g1,g2,g3,g4,hl,S5 (n:=(t.fFields.length:Int)) (by omega) (by omega),trivial,trivial,trivial⟩,by simp only [cond_true,List.length_append,List.length_cons,List.length_nil]; omega⟩
theorem zj {n:Nat} {ts:List a6} (h:∀ t∈ts,t.fFields.length≤n) (hn:n≤100000) (w2 w3:Str):wfI .i64 (dX ts w2 w3):=by
 unfold dX
 split
 ·rename_i t he
  obtain ⟨_,_,hg⟩:=xH he
  exact nZ (by have:=h t (List.mem_of_getElem? hg); omega)
 ·exact S5 (n:=-1) (by omega) (by omega)
theorem yT {n:Nat} {b:a8} (h:Sz n b) (hn:n≤100000) {w1 w2 w3 w4:Str} (h1:w1.length≤100000) (h4:w4.length≤100000) {x:b4} (hx:fk b.fTypes w1 w2 w3 w4=some x):N3 x:=by
 have ht:=h.t
 have hp:=zj (fun t ht=>(h.tw t ht).2) hn w2 w3
 have hl:=BH w4
 unfold fk at hx
 cases h45:(w4 == ([45]:Str)) with
 | true=>
  rw [h45,cond_true] at hx
  obtain rfl:=Option.some.inj hx
  exact ⟨ck h1,nZ (by omega),hp,ck (by simp),trivial⟩
 | false=>
  rw [h45,cond_false] at hx
  cases hq:(pd w4).2 with
  | false=>rw [hq,cond_false] at hx; cases hx
  | true=>
   rw [hq,cond_true] at hx
   obtain rfl:=Option.some.inj hx
   exact ⟨ck h1,nZ (by omega),hp,ck (s:=(pd w4).1) (by omega),trivial⟩
theorem qb {n i:Nat} {b b':a8} {ws:List Str} (h:Sz n b) (hn:n≤100000) (hw:∀ w∈ws,w.length≤100000) (he:X2 i b ws=some b'):Sz (n+1) b':=by
 have hm:=h.mono (Nat.le_succ n)
 by_cases h3:ws.length=3
 ·obtain ⟨w0,w1,w2,rfl⟩:=Ij h3
  rw [lB] at he
  cases hq:(w0 == tE) && ((i:Int) == 0) with
  | false=>rw [hq] at he; cases he
  | true=>
   rw [hq] at he
   obtain rfl:=Option.some.inj he
   exact ⟨hw w1 (by simp),pG _,hm.t,hm.tw,hm.x,hm.xw⟩
 ·by_cases h6:ws.length=6
  ·obtain ⟨w0,w1,w2,w3,w4,w5,rfl⟩:=Il h6
   rw [tA] at he
   cases hq:(w0 == gq) with
   | false=>rw [hq] at he; cases he
   | true=>
    rw [hq] at he
    obtain rfl:=Option.some.inj he
    exact CG h hn (hw w1 (by simp))
  ·by_cases h5:ws.length=5
   ·obtain ⟨w0,w1,w2,w3,w4,rfl⟩:=Ik h5
    rw [nY] at he
    unfold yO at he
    cases hq:(w0 == aS) && decide ((b.fTypes.length:Int) > 0) with
    | true=>
     rw [hq,cond_true] at he
     by_cases hz:b.fTypes=[]
     ·rw [hz] at he
      cases he
     ·obtain ⟨ts,t,hb⟩:=ki hz
      rw [hb] at h he
      simp only [List.getLast?_concat,List.dropLast_concat] at he
      obtain rfl:=Option.some.inj he
      exact yM h hn (hw w1 (by simp))
    | false=>
     rw [hq,cond_false] at he
     cases hq2:(w0 == V3) with
     | false=>rw [hq2] at he; cases he
     | true=>
      rw [hq2,cond_true] at he
      cases hx:fk b.fTypes w1 w2 w3 w4 with
      | none=>rw [hx] at he; cases he
      | some x=>
       rw [hx] at he
       obtain rfl:=Option.some.inj he
       have hxl:=h.x
       refine ⟨hm.nm,hm.kd,hm.t,hm.tw,by simp only [List.length_append,List.length_cons,List.length_nil]; omega,fun y hy=>?_⟩
       simp only [List.mem_append,List.mem_singleton] at hy
       rcases hy with hy | rfl
       ·exact h.xw y hy
       ·exact yT h hn (hw w1 (by simp)) (hw w4 (by simp)) hx
   ·rw [uQ h3 h6 h5] at he
    cases he
theorem mr {k:Nat} {o2:List Str} {K0:RdK} {m i n:Nat} {b:a8} {l:Str} (hk:300000≤k) (hi:i+1 < o2.length) (ho:o2.length≤100000) (he:idx o2 (i:Int)=some l) (hl:l.length≤100000) (h:Sz n b) (hn:n≤100000):
  m0 k o2 K0 (m+1) (i:Int) b.fName b.fKind b.fTypes b.fIndexes=after k o2 K0 m i b (X2 i b (sk 32 l.length l)):=by
 have hc:N1 k l 32=some (sk 32 l.length l):=xy (c:=32) (by omega) hl
 have hne:=Hl 32 l.length l
 have hb:=(ic 32 l.length l).2
 generalize sk 32 l.length l=ws at hc hne hb
 have ht:=h.t; have hx:=h.x
 by_cases h3:ws.length=3
 ·obtain ⟨w0,w1,w2,rfl⟩:=Ij h3
  exact Ch hk hi ho he hc
 ·by_cases h6:ws.length=6
  ·obtain ⟨w0,w1,w2,w3,w4,w5,rfl⟩:=Il h6
   exact It hk hi ho he hc (by omega)
  ·by_cases h5:ws.length=5
   ·obtain ⟨w0,w1,w2,w3,w4,rfl⟩:=Ik h5
    exact Dv hk hi ho he hc (by omega) (fun t ht=>by have:=(h.tw t ht).2; omega) (by omega) (by have:=hb w4 (by simp); omega)
   ·exact Cg hi ho he hc hne h3 h6 h5
def wn:RdK:=fun _ n kd ts xs=>some (⟨n,kd,ts,xs⟩,true)
theorem ux {k:Nat} {o2:List Str} (hk:300000≤k) (ho:o2.length≤100000) (hl:∀ l∈o2,l.length≤100000):∀ (d i m:Nat) (b:a8),i+d+1=o2.length→d < m→Sz i b→
  ∃ b' r,m0 k o2 wn m (i:Int) b.fName b.fKind b.fTypes b.fIndexes=some (b',r)∧(r=true→A2 b')
 | 0,i,m,b,hi,hm,hb=>by
  obtain ⟨m,rfl⟩:∃ q,m=q+1:=⟨m - 1,by omega⟩
  have w1':Go.IntKind.wrap .i64 ((o2.length:Int) - 1)=((i:Nat):Int):=by rw [O7 (by omega) (by omega)]; omega
  refine ⟨b,true,?_,fun _=>hb.wf (by omega)⟩
  simp only [m0,w1',T6,cond_false,wn]
 | d+1,i,m,b,hi,hm,hb=>by
  obtain ⟨m,rfl⟩:∃ q,m=q+1:=⟨m - 1,by omega⟩
  have hi':i < o2.length:=by omega
  have hll:=hl _ (List.getElem_mem hi')
  rw [mr hk (show i+1 < o2.length by omega) ho (D6 hi') hll hb (by omega)]
  cases hs:X2 i b (sk 32 o2[i].length o2[i]) with
  | none=>exact ⟨b,false,rfl,fun h=>by cases h⟩
  | some b1=>
   have h1:=qb hb (by omega) (fun w hw=>by have:=(ic 32 o2[i].length o2[i]).2 w hw; omega) hs
   exact ux hk ho hl d (i+1) m b1 (by omega) (by omega) h1
theorem zC {i:Nat} (hi:1≤i) (b:a8) (ws:List Str):X2 i b ws=X2 1 b ws:=by
 by_cases h3:ws.length=3
 ·obtain ⟨w0,w1,w2,rfl⟩:=Ij h3
  rw [lB,lB,show ((i:Int) == 0)=false by rw [beq_eq_false_iff_ne]; omega]
  rfl
 ·unfold X2
  split
  ·exact absurd rfl h3
  all_goals rfl
theorem Ln.cut {ws:List Str} (h:Ln ws):sk 32 (jn 32 ws).length (jn 32 ws)=ws:=by
 refine yf ws _ h.ne (fun w hw=>(h.w w hw).b) ?_
 have h1:=pn (c:=32) ws h.ne
 have h2:=List.count_le_length (a:=(32:UInt8)) (l:=jn 32 ws)
 omega
theorem rF {k:Nat} {o2:List Str} (hk:300000≤k) (ho:o2.length≤100000) {b':a8}:∀ (suf:List (List Str)) (pre:List Str) (b:a8) (m:Nat),o2=pre ++ (suf.map (jn 32) ++ [[]])→1≤pre.length→(∀ ws∈suf,Ln ws)→Sz pre.length b→suf.foldlM (X2 1) b=some b'→suf.length < m→
  m0 k o2 wn m (pre.length:Int) b.fName b.fKind b.fTypes b.fIndexes=some (b',true)
 | [],pre,b,m,he,h1,hl,hb,hf,hm=>by
  obtain ⟨m,rfl⟩:∃ q,m=q+1:=⟨m - 1,by omega⟩
  obtain rfl:b=b':=by simpa using hf
  have hlen:o2.length=pre.length+1:=by rw [he]; simp
  have w1':Go.IntKind.wrap .i64 ((o2.length:Int) - 1)=((pre.length:Nat):Int):=by rw [O7 (by omega) (by omega)]; omega
  simp only [m0,w1',T6,cond_false,wn]
 | w :: suf,pre,b,m,he,h1,hl,hb,hf,hm=>by
  obtain ⟨m,rfl⟩:∃ q,m=q+1:=⟨m - 1,by omega⟩
  have hlen:o2.length=pre.length+1+suf.length+1:=by rw [he]; simp; omega
  have e1:idx o2 (pre.length:Int)=some (jn 32 w):=by
   rw [D6 (show pre.length < o2.length by omega)]
   congr 1
   subst he
   rw [List.getElem_append_right (Nat.le_refl _)]
   simp
  have hln:=hl w (by simp)
  rw [mr hk (show pre.length+1 < o2.length by omega) ho e1 (by have:=hln.len; omega) hb (by omega),hln.cut,zC h1]
  rw [cU] at hf
  cases ha:X2 1 b w with
  | none=>rw [ha] at hf; cases hf
  | some b1=>
   rw [ha,Option.bind_some] at hf
   have hb1:=qb hb (by omega) (fun x hx=>by have:=(hln.w x hx).l; omega) ha
   have ih:=rF hk ho suf (pre ++ [jn 32 w]) b1 m (by rw [he]; simp) (by simp) (fun ws hws=>hl ws (by simp [hws])) (by rw [List.length_append,List.length_singleton]; exact hb1) hf (by simp at hm; omega)
   rw [List.length_append,List.length_singleton] at ih
   exact ih
theorem yp {ts:List a6} (h:∀ i j (hi:i < j) (hj:j < ts.length),(ts[i]'(by omega)).fName≠(ts[j]).fName) {p i:Nat} (hp:p < ts.length) (hi:p < i):kh (ts.take i) (ts[p]).fName=(p:Int):=by
 have:=wQ (p:=fun t:a6=>t.fName == (ts[p]).fName) (ts.take i) 0 (-1) p (by rw [List.length_take]; omega) (by simp) (fun q hq hqp=>by
  have hq':q < ts.length:=by rw [List.length_take] at hq; omega
  rw [List.getElem_take,beq_eq_false_iff_ne]
  rcases Nat.lt_or_gt_of_ne hqp with hlt | hlt
  ·exact h q p hlt hp
  ·exact fun e=>h p q hlt hq' e.symm)
 unfold kh
 rw [this]
 omega
theorem CY {t:a6} (ht:W7 t) {p:Nat} (hp:p < t.fFields.length):Ia t.fFields (t.fFields[p]).fName=(p:Int):=by
 have:=wQ (p:=fun f:b6=>f.fName == (t.fFields[p]).fName) t.fFields 0 (-1) p hp (by simp) (fun q hq hqp=>by
  rw [beq_eq_false_iff_ne]
  rcases Nat.lt_or_gt_of_ne hqp with hlt | hlt
  ·exact ht.d q p hlt hp
  ·exact fun e=>ht.d p q hlt hq e.symm)
 unfold Ia
 rw [this]
 omega
theorem Cc {b:a8} (hb:aW b) {i:Nat} (hi:i < b.fTypes.length):kh (b.fTypes.take i) (gZ b.fTypes b.fTypes[i].fParent)=b.fTypes[i].fParent:=by
 have hp:=hb.p i hi
 unfold gZ
 by_cases h:b.fTypes[i].fParent < 0
 ·rw [if_pos h]
  unfold kh
  rw [pv _ _ _ (fun t ht=>(hb.t t (List.mem_of_mem_take ht)).n.dash)]
  omega
 ·have hlt:b.fTypes[i].fParent.toNat < b.fTypes.length:=by omega
  rw [if_neg h,List.getElem?_eq_getElem hlt]
  rw [yp hb.d hlt (by omega)]
  omega
theorem CD {b:a8} (hb:aW b) {i:Nat} (hi:i < b.fTypes.length):X2 1 ⟨b.fName,b.fKind,b.fTypes.take i,[]⟩ (fG b.fTypes b.fTypes[i])=some ⟨b.fName,b.fKind,b.fTypes.take i ++ [tj b.fTypes[i] 0],[]⟩:=by
 have ht:=hb.t _ (List.getElem_mem hi)
 have e2:nq (b.fTypes.take i) b.fTypes[i].fName (gZ b.fTypes b.fTypes[i].fParent) (dgt b.fTypes[i].fMin) (dgt b.fTypes[i].fSize) (bif b.fTypes[i].fLast then [76] else [70])=tj b.fTypes[i] 0:=by
  unfold nq
  rw [yr ht,kZ ht.m,kZ ht.s,Cc hb hi]
  cases hL:b.fTypes[i].fLast <;> rfl
 unfold fG
 rw [tA,show (gq == gq)=true by decide]
 simp only [cond_true,e2]
theorem yX {t:a6} (ht:W7 t) {j:Nat} (hj:j < t.fFields.length):lX (tj t j) t.fFields[j].fName (dgt t.fFields[j].fAt) (dgt t.fFields[j].fBytes) (jc t j)=tj t (j+1):=by
 have hf:=ht.f _ (List.getElem_mem hj)
 have hl:(t.fFields.take j).length=j:=by rw [List.length_take]; omega
 have hs:t.fFields.take j ++ [t.fFields[j]]=t.fFields.take (j+1):=(List.take_succ_eq_append_getElem hj).symm
 unfold lX jc
 rw [kZ hf.a,kZ hf.s]
 by_cases hk:(j:Int)=t.fKey
 ·have hk1:((j:Int) == t.fKey)=true:=by rw [beq_iff_eq]; exact hk
  have hk2:decide (t.fKey < (j:Int))=false:=decide_eq_false (by omega)
  have hk3:decide (t.fKey < ((j+1:Nat):Int))=true:=decide_eq_true (by omega)
  unfold tj
  rw [hk1,hk2,hk3]
  simp only [cond_true,cond_false,hl,hs]
  cases hu:t.fUnique with
  | false=>simp [hk,hs]
  | true=>simp [hk,hs]
 ·have hk1:((j:Int) == t.fKey)=false:=by rw [beq_eq_false_iff_ne]; exact hk
  have hk2:decide (t.fKey < ((j+1:Nat):Int))=decide (t.fKey < (j:Int)):=decide_eq_decide.2 (by omega)
  unfold tj
  rw [hk1,hk2]
  simp only [cond_true,cond_false,hs]
  simp [hs]
theorem CB {n:Str} {kd:Int} {ts0:List a6} {t:a6} (ht:W7 t) {j:Nat} (hj:j < t.fFields.length):X2 1 ⟨n,kd,ts0 ++ [tj t j],[]⟩ (iL t j t.fFields[j])=some ⟨n,kd,ts0 ++ [tj t (j+1)],[]⟩:=by
 unfold iL
 rw [nY]
 unfold yO
 rw [show (aS == aS)=true by decide]
 simp only [List.getLast?_concat,List.dropLast_concat,yX ht hj]
 rw [decide_eq_true (show (((ts0 ++ [tj t j]).length:Nat):Int) > 0 by rw [List.length_append,List.length_singleton]; omega)]
 rfl
theorem CC {b:a8} (hb:aW b) {i:Nat} (hi:i < b.fIndexes.length):X2 1 ⟨b.fName,b.fKind,b.fTypes,b.fIndexes.take i⟩ (fj b.fTypes b.fIndexes[i])=some ⟨b.fName,b.fKind,b.fTypes,b.fIndexes.take i ++ [b.fIndexes[i]]⟩:=by
 have hx:=hb.x _ (List.getElem_mem hi)
 have e:fk b.fTypes b.fIndexes[i].fName (xT b.fTypes b.fIndexes[i]) (xF b.fTypes b.fIndexes[i]) (ln b.fIndexes[i].fSparse)=some b.fIndexes[i]:=by
  generalize b.fIndexes[i]=x at hx
  obtain ⟨hlt,hlf,e1,e2⟩:=Hw hx
  have t0:=hx.t0; have f0:=hx.f0; have hsl:=hx.s
  have ht:=hb.t _ (List.getElem_mem hlt)
  have p1:=yp hb.d hlt (i:=b.fTypes.length) hlt
  rw [List.take_length] at p1
  have p2:=CY ht hlf
  have p3:dX b.fTypes (xT b.fTypes x) (xF b.fTypes x)=x.fField:=by
   unfold dX
   rw [e1,e2,p1,D6 hlt]
   simp only [p2]
   omega
  unfold fk
  rw [p3,e1,p1]
  obtain ⟨nm,ty,fd,sp⟩:=x
  simp only at t0 f0 hsl ⊢
  rw [Int.toNat_of_nonneg t0]
  match sp,hsl with
  | [],_=>rfl
  | [c],_=>
   have h4:(ln [c] == ([45]:Str))=false:=by
    rw [beq_eq_false_iff_ne]
    intro e
    have:=congrArg List.length e
    simp [ln] at this
   rw [h4,cond_false]
   unfold ln
   simp only [yR c]
   rfl
  | _ :: _ :: _,h=>simp at h
 unfold fj
 rw [nY]
 unfold yO
 rw [show (V3 == aS)=false by decide,show (V3 == V3)=true by decide]
 simp only [Bool.false_and,cond_false,cond_true,e,Option.map_some]
theorem qD {k:Nat} {t:Str} (hk:200000≤k) (ht:t.length≤10000):bl (k+1) t=m0 k (sk 10 t.length t) wn k 0 [] 0 [] []:=by
 have hc:N1 k t 10=some (sk 10 t.length t):=xy (c:=10) hk (by omega)
 simp only [bl,hc,Option.bind_some]
 rfl
theorem ns {b:a8} (hb:aW b):X2 0 bU (cM b)=some ⟨b.fName,b.fKind,[],[]⟩:=by
 unfold cM
 rw [lB,kZ (show 0≤b.fKind∧b.fKind≤40 by have:=hb.k; omega)]
 rfl
theorem dg {k:Nat} {t:Str} (hk:maxLen+40≤k) (ht:t.length≤10000):DC t (U9 k t):=by
 obtain ⟨k,rfl⟩:∃ q,k=q+2:=⟨k - 2,by omega⟩
 have hkk:maxLen+30≤k+1:=by omega
 rw [z7] at hk
 have hr:=qD (k:=k) (t:=t) (by omega) ht
 obtain ⟨hp1,hp2⟩:=ic 10 t.length t
 have hne:=Hl 10 t.length t
 have hpos:0 < (sk 10 t.length t).length:=List.length_pos_iff.2 hne
 have fin:∀ b r,bl (k+1) t=some (b,r)→(r=true→A2 b)→U9 (k+2) t=some (bif r && (valid b && (ax b == t)) then (b,0) else (bU,3)):=by
  intro b r h hw
  simp only [U9,h,Option.bind_some]
  cases r with
  | false=>rfl
  | true=>
   simp only [cond_true,ca hkk (hw rfl),Option.bind_some,Bool.true_and]
   unfold dH
   cases valid b with
   | false=>rfl
   | true=>
    simp only [cond_true,show ((0:Int) == 0)=true from rfl,Option.bind_some,Bool.true_and]
    cases (ax b == t) <;> rfl
 refine ⟨?_,?_⟩
 ·obtain ⟨b,r,h,hw⟩:=ux (k:=k) (o2:=sk 10 t.length t) (by omega) (by omega) (fun l hl=>by have:=hp2 l hl; omega) ((sk 10 t.length t).length - 1) 0 k bU (by omega) (by omega) lF
  have h':=fin b r (hr.trans h) hw
  cases hv:(r && (valid b && (ax b == t))) with
  | false=>
   rw [hv] at h'
   exact .inl h'
  | true=>
   rw [hv] at h'
   simp only [Bool.and_eq_true,beq_iff_eq] at hv
   exact .inr ⟨b,hw hv.1,hv.2.1,hv.2.2,h'⟩
 ·intro b hw hv hc
  have hb:=kp hv
  have hln:=iE hb
  have hs:sk 10 t.length t=jn 32 (cM b) :: ((cn b).map (jn 32) ++ [[]]):=by
   have:=yf (c:=10) ((M9 b).map (jn 32) ++ [[]]) t.length (by simp) (fun s hs=>by
    rw [List.mem_append,List.mem_singleton] at hs
    rcases hs with hs | rfl
    ·obtain ⟨ws,hws,rfl⟩:=List.mem_map.1 hs
     exact (hln ws hws).e
    ·simp) (by
    have h1:=pw ((M9 b).map (jn 32))
    have h2:=List.count_le_length (a:=(10:UInt8)) (l:=t)
    rw [show nl ((M9 b).map (jn 32))=t from hc] at h1
    simp only [List.length_append,List.length_cons,List.length_nil]
    omega)
   rw [He,show nl ((M9 b).map (jn 32))=t from hc] at this
   rw [this]
   rfl
  have hlen:(cn b).length≤52:=by
   have:=qf hb
   unfold M9 at this
   rw [List.length_cons] at this
   omega
  have hfold:=qV hb (R:=X2 1) (fun i hi=>CD hb hi) (fun i hi j hj=>CB (hb.t _ (List.getElem_mem hi)) hj) (fun i hi=>CC hb hi)
  have hpl:(sk 10 t.length t).length=(cn b).length+2:=by rw [hs]; simp
  have hd:=hln (cM b) (by unfold M9; simp)
  have e1:idx (sk 10 t.length t) ((0:Nat):Int)=some (jn 32 (cM b)):=by rw [hs]; rfl
  obtain ⟨k',rfl⟩:∃ q,k=q+1:=⟨k - 1,by omega⟩
  have h1:=mr (k:=k'+1) (K0:=wn) (m:=k') (i:=0) (b:=bU) (by omega) (show 0+1 < (sk 10 t.length t).length by omega) (by omega) e1 (by have:=hd.len; omega) lF (by omega)
  rw [hd.cut,ns hb] at h1
  have hsz:=qb (i:=0) lF (by omega) (fun x hx=>by have:=(hd.w x hx).l; omega) (ns hb)
  have h2:=rF (k:=k'+1) (o2:=sk 10 t.length t) (by omega) (by omega) (cn b) [jn 32 (cM b)] ⟨b.fName,b.fKind,[],[]⟩ k' hs (by simp) (fun ws hws=>hln ws (by unfold M9; simp [hws])) hsz hfold (by omega)
  have h3:=fin b true (hr.trans (h1.trans h2)) (fun _=>hw)
  rw [hv,hc,beq_self_eq_true] at h3
  exact h3
theorem iN (a0:Str) (h:wfS a0):∃ k,Y6 k a0=some true:=by
 refine ⟨maxLen+101,?_⟩
 have hF:=wC (k:=maxLen+100) (by omega)
 simp only [Y6,hF,Option.bind_some]
 cases hl:decide ((a0.length:Int) > 3000) with
 | true=>rfl
 | false=>
  have hl':a0.length≤10000:=by
   have:=of_decide_eq_false hl
   omega
  have r1:=eY (k:=maxLen+100) (t:=a0) (by omega) hl'
  have r2:=dg (k:=maxLen+100) (t:=a0) (by omega) hl'
  by_cases hE:∃ b,A2 b∧valid b=true∧ax b=a0
  ·obtain ⟨b,hw,hv,hc⟩:=hE
   have hf:dH b=(a0,0):=by unfold dH; rw [hv,hc]; rfl
   simp only [r1.back b hw hv hc,r2.back b hw hv hc,Option.bind_some,cond_false,gb (show maxLen+8≤maxLen+100 by omega) hw,pO,Bool.not_true,show ((0:Int) != 0)=false from rfl,show ((0:Int) == 0)=true from rfl,cond_true,S6 (show maxLen+30≤maxLen+100 by omega) hw,hf,beq_self_eq_true]
  ·have hz:A2 bU:=lF.wf (by omega)
   have e1:aZ (maxLen+100) a0=some (bU,3):=by
    rcases r1.tot with e | ⟨b,hw,hv,hc,_⟩
    ·exact e
    ·exact absurd ⟨b,hw,hv,hc⟩ hE
   have e2:U9 (maxLen+100) a0=some (bU,3):=by
    rcases r2.tot with e | ⟨b,hw,hv,hc,_⟩
    ·exact e
    ·exact absurd ⟨b,hw,hv,hc⟩ hE
   simp only [e1,e2,Option.bind_some,cond_false,gb (show maxLen+8≤maxLen+100 by omega) hz,pO,Bool.not_true,show ((3:Int) != 3)=false from rfl,show ((3:Int) == 0)=false from rfl]
end Go.Sh
