/- An evaluator of the bodies of functions, and that what it says holds: a call of which it says a result returns just this result and leaves all that it does not own as it was. Conditions: none. -/
import Derived.Test.YteecoopnleidaaaDoorA2
import Derived.Lib.Replace
import Derived.Lib.ItoaNum
import Derived.Lib.TrimByte
import Derived.WideShapes
import Derived.OpenShut
import Derived.DataReads
import Derived.ChangeOld
import Derived.Shelf.Strings.Repeat
import Derived.Shelf.Strings.OnBuilder
import Derived.Shelf.Small.Strs
import Derived.Shelf.Strconv.Itoa3
import Derived.Shelf.Strings.Replace
import Derived.Shelf.Strings.Trim
import Derived.Lib.LaidTab
namespace Go.AE
set_option linter.unusedSimpArgs false
set_option linter.unusedVariables false
section
variable {P : Program} {G : Glo} {callH : CallH} {α β γ R : Type}
theorem bindE {x : Option α} {K1 : α → Option β} {K2 : α → Option γ} {g : γ → β} (h : ∀ a, K1 a = (K2 a).map g) : x.bind K1 = (x.bind K2).map g := by
  cases x with
  | none => rfl
  | some a => exact h a
theorem bifE {c : Bool} {L : Option β} {A B : Option γ} {g : γ → β} (h1 : c = true → L = A.map g) (h0 : c = false → L = B.map g) : L = (bif c then A else B).map g := by
  cases c with
  | true => exact h1 rfl
  | false => exact h0 rfl
theorem bifE2 {c : Bool} {L1 L0 : Option β} {A B : Option γ} {g : γ → β} (h1 : c = true → L1 = A.map g) (h0 : c = false → L0 = B.map g) : (bif c then L1 else L0) = (bif c then A else B).map g := by
  cases c with
  | true => exact h1 rfl
  | false => exact h0 rfl
def forceLs (fv : V → (V → β) → β) : List V → (List V → β) → β
  | [], f => f []
  | v :: r, f => fv v fun v' => forceLs fv r fun r' => f (v' :: r')
def forceV : Nat → V → (V → β) → β
  | 0, v, f => f v
  | d + 1, v, f => match v with
    | .int k n => f (.int k n)
    | .bool b => f (.bool b)
    | .str s => f (.str s)
    | .sl o sz l => (match o with
      | 0 => f (.sl 0 sz l)
      | 1 => f (.sl 1 sz l)
      | 2 => f (.sl 2 sz l)
      | n + 3 => f (.sl (n + 3) sz l))
    | .agg cs => forceLs (forceV d) cs fun cs' => f (.agg cs')
    | .tup cs => forceLs (forceV d) cs fun cs' => f (.tup cs')
    | .pro c => forceV d c fun c' => f (.pro c')
    | .io c => forceV d c fun c' => f (.io c')
    | v => f v
def forceT : List (Nat × V) → (List (Nat × V) → β) → β
  | [], f => f []
  | (d, v) :: r, f => forceV 3 v fun v' => forceT r fun r' => f ((d, v') :: r')
def forceE : List V → (List V → β) → β
  | [], f => f []
  | v :: r, f => forceV 3 v fun v' => forceE r fun r' => f (v' :: r')
def forceS : List (Nat × Site) → (List (Nat × Site) → β) → β
  | [], f => f []
  | (d, ⟨true, sz, es⟩) :: r, f => forceS r fun r' => f ((d, ⟨true, sz, es⟩) :: r')
  | (d, ⟨false, sz, es⟩) :: r, f => forceE es fun es' => forceS r fun r' => f ((d, ⟨false, sz, es'⟩) :: r')
def forceSt : St → (St → β) → β
  | ⟨t, σ, n⟩, f => forceT t fun t' => forceS σ fun σ' => f ⟨t', σ', n⟩
theorem forceLs_eq {fv : V → (V → β) → β} (h : ∀ v f, fv v f = f v) : ∀ (cs : List V) (f : List V → β), forceLs fv cs f = f cs
  | [], f => rfl
  | v :: r, f => by simp only [forceLs, h, forceLs_eq h r]
theorem forceV_eq : ∀ (d : Nat) (v : V) (f : V → β), forceV d v f = f v
  | 0, v, f => rfl
  | d + 1, v, f => by
    have hs := fun cs f => forceLs_eq (β := β) (forceV_eq d) cs f
    cases v with
    | sl o sz l =>
      simp only [forceV]
      split <;> rfl
    | agg cs => simp only [forceV, hs]
    | tup cs => simp only [forceV, hs]
    | pro c => simp only [forceV, forceV_eq d]
    | io c => simp only [forceV, forceV_eq d]
    | _ => rfl
theorem forceT_eq : ∀ (t : List (Nat × V)) (f : List (Nat × V) → β), forceT t f = f t
  | [], f => rfl
  | (d, v) :: r, f => by simp only [forceT, forceV_eq, forceT_eq r]
theorem forceE_eq : ∀ (t : List V) (f : List V → β), forceE t f = f t
  | [], f => rfl
  | v :: r, f => by simp only [forceE, forceV_eq, forceE_eq r]
theorem forceS_eq : ∀ (t : List (Nat × Site)) (f : List (Nat × Site) → β), forceS t f = f t
  | [], f => rfl
  | (d, ⟨true, sz, es⟩) :: r, f => by simp only [forceS, forceS_eq r]
  | (d, ⟨false, sz, es⟩) :: r, f => by simp only [forceS, forceE_eq, forceS_eq r]
theorem forceSt_eq (st : St) (f : St → β) : forceSt st f = f st := by
  obtain ⟨t, σ, n⟩ := st
  simp only [forceSt, forceT_eq, forceS_eq]
def opsF (P : Program) (callH : CallH) (ops : Array Oper) (anns : List (Nat × OAnn)) : Nat → List Oper → St → Option St
  | _, [], st => some st
  | i, o :: r, st => (wantedV ops st.t o).bind fun b =>
    bif b then (stepOp P callH (annOf anns i) o st).bind (fun s => forceSt s (opsF P callH ops anns (i + 1) r)) else forceSt (unset o.dst st) (opsF P callH ops anns (i + 1) r)
theorem opsF_eq (ops : Array Oper) (anns : List (Nat × OAnn)) : ∀ (r : List Oper) (i : Nat) (st : St), opsF P callH ops anns i r st = opsE P callH ops anns i r st
  | [], i, st => rfl
  | o :: r, i, st => by
    simp only [opsF, opsE, forceSt_eq]
    have : (fun s => opsF P callH ops anns (i + 1) r s) = opsE P callH ops anns (i + 1) r := funext fun s => opsF_eq ops anns r (i + 1) s
    simp only [opsF_eq ops anns r]
def delAll (ks : List Nat) : List (Nat × V) → List (Nat × V)
  | [] => []
  | p :: r => bif ks.elem p.1 then delAll ks r else p :: delAll ks r
def killSites : List Nat → St → St
  | [], st => st
  | d :: r, ⟨t, σ, n⟩ => bif Nat.blt d n then (match look d σ with
    | none => killSites r ⟨t, σ, n⟩
    | some _ => killSites r (killRefs d ⟨t, del d σ, n⟩)) else killSites r ⟨t, σ, n⟩
def killT (ks : List Nat) : St → St
  | ⟨t, σ, n⟩ => killSites ks ⟨delAll ks t, σ, n⟩
theorem delAll_nil : ∀ t : List (Nat × V), delAll [] t = t
  | [] => rfl
  | p :: r => by
    simp only [delAll, List.elem_nil, cond_false]
    rw [delAll_nil r]
theorem delAll_cons (d : Nat) (r : List Nat) : ∀ t : List (Nat × V), delAll (d :: r) t = delAll r (del d t)
  | [] => rfl
  | p :: t => by
    simp only [delAll, del]
    have e : List.elem p.1 (d :: r) = (Nat.beq d p.1 || List.elem p.1 r) := by
      rw [List.elem_cons]
      congr 1
      cases h : Nat.beq d p.1 with
      | true => have := Nat.eq_of_beq_eq_true h; subst this; simp
      | false => have := Nat.ne_of_beq_eq_false h; simp; exact fun h => this h.symm
    rw [e]
    cases h : Nat.beq d p.1 with
    | true => simp only [Bool.true_or, cond_true]; exact delAll_cons d r t
    | false =>
      simp only [Bool.false_or, cond_false, delAll]
      rw [delAll_cons d r t]
theorem delAll_map (ks : List Nat) (f : V → V) : ∀ t : List (Nat × V), delAll ks (t.map fun p => (p.1, f p.2)) = (delAll ks t).map fun p => (p.1, f p.2)
  | [] => rfl
  | p :: t => by
    simp only [List.map_cons, delAll]
    cases ks.elem p.1 with
    | true => exact delAll_map ks f t
    | false => simp only [cond_false, List.map_cons, delAll_map ks f t]
theorem killT_eq : ∀ (ks : List Nat) (st : St), killT ks st = killAll ks st
  | [], ⟨t, σ, n⟩ => by simp only [killT, killSites, killAll, delAll_nil]
  | d :: r, ⟨t, σ, n⟩ => by
    simp only [killT, killSites, killAll, killF, delAll_cons]
    cases Nat.blt d n with
    | false => simp only [cond_false]; rw [← killT_eq r]; rfl
    | true =>
      simp only [cond_true]
      cases look d σ with
      | none => simp only; rw [← killT_eq r]; rfl
      | some y =>
        simp only
        rw [← killT_eq r]
        simp only [killRefs, killT, delAll_map]
theorem opsE_append (ops : Array Oper) (anns : List (Nat × OAnn)) : ∀ (a b : List Oper) (i : Nat) (st : St), opsE P callH ops anns i (a ++ b) st = (opsE P callH ops anns i a st).bind (opsE P callH ops anns (i + a.length) b)
  | [], b, i, st => rfl
  | o :: a, b, i, st => by
    simp only [List.cons_append, opsE, List.length_cons]
    cases wantedV ops st.t o with
    | none => rfl
    | some w =>
      simp only [Option.bind_some]
      have e : i + (a.length + 1) = i + 1 + a.length := by omega
      rw [e]
      cases w with
      | true =>
        simp only [cond_true]
        cases stepOp P callH (annOf anns i) o st with
        | none => rfl
        | some s => simp only [Option.bind_some]; exact opsE_append ops anns a b (i + 1) s
      | false =>
        simp only [cond_false]
        exact opsE_append ops anns a b (i + 1) _
/-- The operations from the i-th on, and what is no more spoken of behind them. -/
def reg (P : Program) (callH : CallH) (ops : Array Oper) (anns : List (Nat × OAnn)) (ks : List Nat) (i : Nat) (st : St) : Option St :=
  (opsE P callH ops anns i (ops.toList.drop i) st).map (killAll ks)
theorem regionE_reg {ks : List Nat} {anns : List (Nat × OAnn)} {ops : Array Oper} {st : St} : regionE P callH ⟨ks, anns⟩ ops false st = reg P callH ops anns ks 0 st := rfl
theorem drop_split {ops : Array Oper} {i m j : Nat} (hj : i + m = j) (hs : j ≤ ops.size) : ops.toList.drop i = (ops.toList.drop i).take m ++ ops.toList.drop j ∧ ((ops.toList.drop i).take m).length = m := by
  subst hj
  refine ⟨?_, by simp; omega⟩
  rw [← List.drop_drop]
  exact (List.take_append_drop m _).symm
theorem reg_adv {ops : Array Oper} {anns : List (Nat × OAnn)} {ks : List Nat} {i m j : Nat} {st st' : St} (h : opsF P callH ops anns i ((ops.toList.drop i).take m) st = some st') (hj : i + m = j) (hs : Nat.ble j ops.size = true) : reg P callH ops anns ks i st = reg P callH ops anns ks j st' := by
  unfold reg
  obtain ⟨e1, e2⟩ := drop_split hj (Nat.le_of_ble_eq_true hs)
  rw [opsF_eq] at h
  rw [e1, opsE_append, h, e2, hj]
  rfl
theorem bind_adv {ops : Array Oper} {anns : List (Nat × OAnn)} {ks : List Nat} {i m j : Nat} {X : Option St} {st' : St} (h : (X.bind fun s => forceSt s (opsF P callH ops anns i ((ops.toList.drop i).take m))) = some st') (hj : i + m = j) (hs : Nat.ble j ops.size = true) :
    X.bind (reg P callH ops anns ks i) = reg P callH ops anns ks j st' := by
  cases X with
  | none => cases h
  | some s =>
    simp only [Option.bind_some, forceSt_eq] at h ⊢
    exact reg_adv h hj hs
theorem reg_end {ops : Array Oper} {anns : List (Nat × OAnn)} {ks : List Nat} {i : Nat} {st st' : St} (h : (opsF P callH ops anns i (ops.toList.drop i) st).map (killT ks) = some st') : reg P callH ops anns ks i st = some st' := by
  rw [opsF_eq, show killT ks = killAll ks from funext (killT_eq ks)] at h
  exact h
theorem bind_end {ops : Array Oper} {anns : List (Nat × OAnn)} {ks : List Nat} {i : Nat} {X : Option St} {st' : St} (h : (X.bind fun s => forceSt s (opsF P callH ops anns i (ops.toList.drop i))).map (killT ks) = some st') : X.bind (reg P callH ops anns ks i) = some st' := by
  cases X with
  | none => cases h
  | some s =>
    simp only [Option.bind_some, forceSt_eq] at h ⊢
    exact reg_end h
theorem reg_pure {ops : Array Oper} {anns : List (Nat × OAnn)} {ks : List Nat} {i : Nat} {st : St} {o : Oper} {r : List Oper} {x : Option α} {w : α → V} (ho : ops.toList.drop i = o :: r) (hr : ops.toList.drop (i + 1) = r) (hw : wantedV ops st.t o = some true)
    (hp : (isPure (annOf anns i) o && !isAlloc o) = true) (hv : pureOp P callH st.σ (opd P st.t []) o = x.map w) :
    reg P callH ops anns ks i st = x.bind fun a => (finish (annOf anns i) o.dst (w a) st).bind (reg P callH ops anns ks (i + 1)) := by
  unfold reg
  rw [ho]
  simp only [opsE, hw, Option.bind_some, cond_true, stepOp, hp, hv]
  cases x with
  | none => rfl
  | some a =>
    simp only [Option.map_some, Option.bind_some]
    cases finish (annOf anns i) o.dst (w a) st with
    | none => rfl
    | some st' => simp only [Option.bind_some, reg, hr]
theorem reg_eff {ops : Array Oper} {anns : List (Nat × OAnn)} {ks : List Nat} {i : Nat} {st : St} {o : Oper} {r : List Oper} {x : Option α} {w : α → V × St} (ho : ops.toList.drop i = o :: r) (hr : ops.toList.drop (i + 1) = r) (hw : wantedV ops st.t o = some true)
    (hp : (isPure (annOf anns i) o && !isAlloc o) = false) (hv : effOp P callH (annOf anns i) st o = x.map w) :
    reg P callH ops anns ks i st = x.bind fun a => (finish (annOf anns i) o.dst (w a).1 (w a).2).bind (reg P callH ops anns ks (i + 1)) := by
  unfold reg
  rw [ho]
  simp only [opsE, hw, Option.bind_some, cond_true, stepOp, hp, cond_false, hv]
  cases x with
  | none => rfl
  | some a =>
    simp only [Option.map_some, Option.bind_some]
    cases finish (annOf anns i) o.dst (w a).1 (w a).2 with
    | none => rfl
    | some st' => simp only [Option.bind_some, reg, hr]
section
variable {ops : Array Oper} {anns : List (Nat × OAnn)} {ks : List Nat} {p n i m j : Nat} {dk : Bool} {σ : List (Nat × Site)} {t t' : List (Nat × V)} {st' : St}
end
def execK (P : Program) (callH : CallH) (anns : List (Nat × RAnn)) (n : Nat) (c : Code) (st : St) (K : X × St → Option β) : Option β := (exec P callH anns n c st).bind K
def blkK (P : Program) (callH : CallH) (anns : List (Nat × RAnn)) (n : Nat) (id : Nat) (rest : Code) (K : X × St → Option β) : X × St → Option β
  | (.normal, s) => execK P callH anns n rest s K
  | (.exit i, s) => bif Nat.beq i id then execK P callH anns n rest s K else K (.exit i, s)
  | (.ret, s) => K (.ret, s)
def loopK (P : Program) (callH : CallH) (anns : List (Nat × RAnn)) (n : Nat) (body : Code) (m : Nat) (K : X × St → Option β) : X × St → Option β
  | (.normal, s) => (iter (exec P callH anns n body) m s).bind K
  | (.exit i, s) => K (.exit i, s)
  | (.ret, s) => K (.ret, s)
variable {anns : List (Nat × RAnn)} {n : Nat} {st : St} {K : X × St → Option β}
theorem k_assoc {a b c : Code} : execK P callH anns n (.seq (.seq a b) c) st K = execK P callH anns n (.seq a (.seq b c)) st K := by
  simp only [execK, exec]
  cases exec P callH anns n a st with
  | none => rfl
  | some r => obtain ⟨x, s⟩ := r; cases x <;> rfl
theorem k_region {id : Nat} {ops : Array Oper} {dr : Bool} {rest : Code} {ann : RAnn} {x : Option α} {g : α → St} (ha : (look id anns).getD {} = ann) (h : regionE P callH ann ops dr st = x.map g) :
    execK P callH anns n (.seq (.region id ops dr) rest) st K = x.bind fun o => execK P callH anns n rest (g o) K := by
  simp only [execK, exec, ha, h]
  cases x <;> rfl
theorem k_region0 {id : Nat} {ops : Array Oper} {dr : Bool} {rest : Code} {ann : RAnn} {st' : St} (ha : (look id anns).getD {} = ann) (h : regionE P callH ann ops dr st = some st') :
    execK P callH anns n (.seq (.region id ops dr) rest) st K = execK P callH anns n rest st' K := by
  simp only [execK, exec, ha, h]
  rfl
theorem k_lregion {id : Nat} {ops : Array Oper} {dr : Bool} {ann : RAnn} {x : Option α} {g : α → St} (ha : (look id anns).getD {} = ann) (h : regionE P callH ann ops dr st = x.map g) :
    execK P callH anns n (.region id ops dr) st K = x.bind fun o => K (.normal, g o) := by
  simp only [execK, exec, ha, h]
  cases x <;> rfl
theorem k_lregion0 {id : Nat} {ops : Array Oper} {dr : Bool} {ann : RAnn} {st' : St} (ha : (look id anns).getD {} = ann) (h : regionE P callH ann ops dr st = some st') :
    execK P callH anns n (.region id ops dr) st K = K (.normal, st') := by
  simp only [execK, exec, ha, h]
  rfl
theorem k_skip {rest : Code} : execK P callH anns n (.seq .skip rest) st K = execK P callH anns n rest st K := rfl
theorem k_lskip : execK P callH anns n .skip st K = K (.normal, st) := rfl
theorem k_ret {rest : Code} : execK P callH anns n (.seq .ret rest) st K = K (.ret, st) := rfl
theorem k_lret : execK P callH anns n .ret st K = K (.ret, st) := rfl
theorem k_exit {i : Nat} {rest : Code} : execK P callH anns n (.seq (.exit i) rest) st K = K (.exit i, st) := rfl
theorem k_cond {c : Operand} {a b rest : Code} {t : Bool} {st' : St} (h : opd P st.t [] 0 c = some (.bool t)) (hk : killCond anns c st = st') :
    execK P callH anns n (.seq (.cond c a b) rest) st K = bif t then execK P callH anns n (.seq a rest) st' K else execK P callH anns n (.seq b rest) st' K := by
  simp only [execK, exec, h, Option.bind_some, hk]
  cases t <;> rfl
theorem k_lcond {c : Operand} {a b : Code} {t : Bool} {st' : St} (h : opd P st.t [] 0 c = some (.bool t)) (hk : killCond anns c st = st') :
    execK P callH anns n (.cond c a b) st K = bif t then execK P callH anns n a st' K else execK P callH anns n b st' K := by
  simp only [execK, exec, h, Option.bind_some, hk]
  cases t <;> rfl
theorem k_blockD {id : Nat} {c rest : Code} {st' : St} (h : dullBlk anns id st = st') : execK P callH anns n (.seq (.block id c) rest) st K = execK P callH anns n c st' (blkK P callH anns n id rest K) := by
  simp only [execK, exec, h]
  cases exec P callH anns n c st' with
  | none => rfl
  | some r =>
    obtain ⟨x, s⟩ := r
    cases x with
    | normal => rfl
    | ret => rfl
    | exit i =>
      simp only [Option.map_some, Option.bind_some, blkK]
      cases Nat.beq i id <;> rfl
theorem k_lblockD {id : Nat} {c : Code} {st' : St} (h : dullBlk anns id st = st') : execK P callH anns n (.block id c) st K = execK P callH anns n c st' (blkK P callH anns n id .skip K) := by
  simp only [execK, exec, h]
  cases exec P callH anns n c st' with
  | none => rfl
  | some r =>
    obtain ⟨x, s⟩ := r
    cases x with
    | normal => rfl
    | ret => rfl
    | exit i =>
      simp only [Option.map_some, Option.bind_some, blkK]
      cases Nat.beq i id <;> rfl
theorem dull_none {id : Nat} (h : (look (200000 + id) anns).isSome = false) : dullBlk anns id st = st := by
  unfold dullBlk
  cases hl : look (200000 + id) anns with
  | none => rfl
  | some r => rw [hl] at h; cases h
theorem k_block {id : Nat} {c rest : Code} (h : (look (200000 + id) anns).isSome = false) : execK P callH anns n (.seq (.block id c) rest) st K = execK P callH anns n c st (blkK P callH anns n id rest K) := k_blockD (dull_none h)
theorem k_lblock {id : Nat} {c : Code} (h : (look (200000 + id) anns).isSome = false) : execK P callH anns n (.block id c) st K = execK P callH anns n c st (blkK P callH anns n id .skip K) := k_lblockD (dull_none h)
theorem k_loop {body : Code} : execK P callH anns n (.loop body) st K = (iter (exec P callH anns n body) n st).bind K := rfl
theorem k_round {body : Code} {m : Nat} : (iter (exec P callH anns n body) (m + 1) st).bind K = execK P callH anns n body st (loopK P callH anns n body m K) := by
  simp only [iter, execK]
  cases exec P callH anns n body st with
  | none => rfl
  | some r => obtain ⟨x, s⟩ := r; cases x <;> rfl
theorem blk_normal {id : Nat} {rest : Code} : blkK P callH anns n id rest K (.normal, st) = execK P callH anns n rest st K := rfl
theorem blk_ret {id : Nat} {rest : Code} : blkK P callH anns n id rest K (.ret, st) = K (.ret, st) := rfl
theorem blk_exit {id : Nat} {rest : Code} : blkK P callH anns n id rest K (.exit id, st) = execK P callH anns n rest st K := by simp [blkK]
theorem loop_normal {body : Code} {m : Nat} : loopK P callH anns n body m K (.normal, st) = (iter (exec P callH anns n body) m st).bind K := rfl
theorem loop_ret {body : Code} {m : Nat} : loopK P callH anns n body m K (.ret, st) = K (.ret, st) := rfl
theorem loop_exit {body : Code} {m i : Nat} : loopK P callH anns n body m K (.exit i, st) = K (.exit i, st) := rfl
/-- At a function's end. -/
def endK (P : Program) (n : Nat) (args : List V) (res : List (Nat × Nat)) (rvs : List ResultVar) : X × St → Option (V × List V)
  | (.exit _, _) => none
  | (.normal, s) => (outsE n 0 args s).bind fun outs => (resultsE P res 0 rvs outs.2).map fun x => (tupOf x.1, outs.1)
  | (.ret, s) => (outsE n 0 args s).bind fun outs => (resultsE P res 0 rvs outs.2).map fun x => (tupOf x.1, outs.1)
theorem evF_succ {an : FuncId → FAnn} {ext : ExtH} {k : Nat} {f : FuncId} {args : List V} {fn : Func} {c : Code} {N : Nat} {regs : List (Nat × RAnn)} {kl : List Nat} {res : List (Nat × Nat)} (hx : ext f args = none) (hf : P.funcs[f]? = some fn) (hb : fn.body = some c) (hn : fn.name ≠ "runtime.NumGoroutine")
    (ha : args.all V.argOk = true) (hr : an f = ⟨regs, kl, res⟩) (hN : max fn.ntmps args.length = N) :
    evF P an ext (k + 1) f args = execK P (evF P an ext k) regs k c (initSt N 0 args) (endK P N args res fn.results.toList) := by
  simp only [evF, hx, hf, hb, execK, hr, hN]
  rw [if_pos ⟨hn, ha⟩]
  cases exec P (evF P an ext k) regs k c (initSt N 0 args) with
  | none => rfl
  | some r => obtain ⟨x, s⟩ := r; cases x <;> rfl
theorem evF_ext {P : Program} {an : FuncId → FAnn} {ext : ExtH} {k : Nat} {f : FuncId} {args : List V} {r : Option (V × List V)} (h : ext f args = some r) : evF P an ext (k + 1) f args = r := by
  simp only [evF, h]
/-- slices.Reverse at []int; of no longer lists than a number can tell. -/
def revInt (l : List Int) : Option (List Int) := bif Nat.ble l.length 9223372036854775807 then some l.reverse else none
def idx (l : List α) (i : Int) : Option α := if 0 ≤ i then l[i.toNat]? else none
theorem indexAddr_map {e : α → V} {σ : List (Nat × Site)} {t et : TypeId} {o sz : Nat} {k : IntKind} {l : List α} {i : Int} (hu : P.underlying t = some (.slice et)) (hs : P.cellsOf et = sz) (h0 : sz ≠ 0) :
    indexAddrV P σ t (.sl o sz (l.map e)) (.int k i) = (idx l i).map fun x => .pro (e x) := by
  unfold indexAddrV idx
  rw [hu]
  simp only
  rw [if_pos ⟨hs.symm, h0⟩, List.getElem?_map]
  split
  · cases l[i.toNat]? <;> rfl
  · rfl
def idxS (s : List UInt8) (i : Int) : Option Int := if 0 ≤ i then (s[i.toNat]?).map fun b => (b.toNat : Int) else none
theorem indexV_str {t : TypeId} {s : List UInt8} {k : IntKind} {i : Int} (hu : P.underlying t = some .string) : indexV P t (.str s) (.int k i) = (idxS s i).map (V.int .u8) := by
  unfold indexV idxS
  rw [hu]
  simp only
  split
  · cases s[i.toNat]? <;> rfl
  · rfl
def cut (l : List α) (lo hi : Int) : Option (List α) := if 0 ≤ lo ∧ lo ≤ hi ∧ hi ≤ (l.length : Int) then some ((l.take hi.toNat).drop lo.toNat) else none
theorem sliceV_str {t : TypeId} {s : List UInt8} {a b : Option V} {lo hi : Int} (hu : P.underlying t = some .string) (ha : bound 0 a = some lo) (hb : bound s.length b = some hi) :
    sliceV P t (.str s) a b none = (cut s lo hi).map V.str := by
  unfold sliceV cut
  simp only [Option.isSome_none, Bool.false_eq_true, if_false, hu, ha, Option.bind_some, hb]
  split <;> rfl
def cat (a b : List UInt8) : Option (List UInt8) := if a.length + b.length ≤ maxList then some (a ++ b) else none
theorem strAdd {a b : List UInt8} : strBin .add a b = (cat a b).map V.str := by
  show (if a.length + b.length ≤ maxList then some (V.str (a ++ b)) else none) = _
  unfold cat
  split <;> rfl
theorem call_pure {f : FuncId} {ys : List V} {l : Bool} {x : Option α} {w : α → V} (h : callH f ys = x.map fun a => (w a, [])) (hp : l = false ∨ ∀ a, plain (w a) = true) :
    ((callH f ys).bind fun r => if r.2.isEmpty && (!l || plain r.1) then some r.1 else none) = x.map w := by
  rw [h]
  cases x with
  | none => rfl
  | some a =>
    simp only [Option.map_some, Option.bind_some, List.isEmpty_nil, Bool.true_and]
    rcases hp with rfl | hp
    · rfl
    · rw [hp a]; simp
theorem call_fn {σ : List (Nat × Site)} {args ys : List V} {l : Bool} {f : FuncId} {x : Option α} {w : α → V} (ha : argsPure σ args = some (ys, l)) (h : callH f ys = x.map fun a => (w a, [])) (hp : l = false ∨ ∀ a, plain (w a) = true) :
    ((argsPure σ args).bind fun xs => (callH f xs.1).bind fun r => if r.2.isEmpty && (!xs.2 || plain r.1) then some r.1 else none) = x.map w := by
  rw [ha]
  exact call_pure h hp
theorem bind_self {x : Option α} {K : α → Option β} {g : α → β} (h : ∀ a, K a = some (g a)) : x.bind K = x.map g := by
  cases x with
  | none => rfl
  | some a => exact h a
theorem len_map {e : α → V} {t et : TypeId} {o sz : Nat} {l : List α} (hu : P.underlying t = some (.slice et)) : lenV P t (.sl o sz (l.map e)) = (some ()).map fun _ => .int .i64 (l.length : Int) := by
  unfold lenV
  rw [hu]
  simp
def app (l m : List α) : Option (List α) := if l.length + m.length ≤ maxList then some (l ++ m) else none
theorem append_own {st : St} {tk : List Nat} {s x : Operand} {T T2 : TypeId} {o sz : Nat} {l m : List α} {e : α → V} (ha : opd P st.t tk T s = some (.sl o sz (l.map e))) (hb : opd P st.t [] T2 x = some (.sl 0 sz (m.map e))) (hty : appendTy P T T2 = true)
    (hsl : isSliceT P T2 = true) (hsz : elemSz P T = sz) (ho : o = 1 ∨ o = 2) :
    appendE P st tk ⟨.builtin .append, #[s, x], #[T, T2]⟩ = (app l m).map fun v => (.sl o sz (v.map e), { st with t := AE.untake tk st.t }) := by
  unfold appendE app
  simp only [ha, hb, Option.bind_some, hty, cond_true, hsl, srcE, hsz, true_or, if_true, List.length_map]
  by_cases h : l.length + m.length ≤ maxList
  · rw [if_pos ⟨ho, trivial, h⟩, if_pos h]
    simp
  · rw [if_neg (fun hh => h hh.2.2), if_neg h]
    rfl
section
variable {σ : List (Nat × Site)} {ρ : TypeId → Operand → Option V} {o : Oper}
theorem p_index {e : α → V} {t et : TypeId} {q sz : Nat} {k : IntKind} {l : List α} {n : Int} {x i : Operand} (hop : o.op = .indexAddr t x i) (hx : ρ t x = some (.sl q sz (l.map e))) (hi : ρ 0 i = some (.int k n)) (hu : P.underlying t = some (.slice et)) (hs : P.cellsOf et = sz) (h0 : sz ≠ 0) :
    pureOp P callH σ ρ o = (idx l n).map fun x => .pro (e x) := by
  simp only [pureOp, hop, hx, hi, Option.bind_some]
  exact indexAddr_map hu hs h0
theorem p_indexS {t : TypeId} {k : IntKind} {s : List UInt8} {n : Int} {x i : Operand} (hop : o.op = .index t x i) (hx : ρ t x = some (.str s)) (hi : ρ 0 i = some (.int k n)) (hu : P.underlying t = some .string) :
    pureOp P callH σ ρ o = (idxS s n).map (V.int .u8) := by
  simp only [pureOp, hop, hx, hi, Option.bind_some]
  exact indexV_str hu
theorem p_len {e : α → V} {t et : TypeId} {q sz : Nat} {l : List α} {c : Call} {x : Operand} (hop : o.op = .call c) (hc : c.callee = .builtin .len) (ha : c.args.toList = [x]) (h1 : c.argTypes.size = 1) (ht : argType c.argTypes 0 = t) (hx : ρ t x = some (.sl q sz (l.map e))) (hu : P.underlying t = some (.slice et)) :
    pureOp P callH σ ρ o = (some ()).map fun _ => .int .i64 (l.length : Int) := by
  simp only [pureOp, hop, hc, ha, h1, if_true, ht, hx, Option.bind_some]
  exact len_map hu
def optV (ρ : TypeId → Operand → Option V) : Option Operand → Option (Option V)
  | none => some none
  | some l => (ρ 0 l).map some
theorem p_cut {t : TypeId} {v : V} {x : Operand} {lo hi : Option Operand} {a b : Option V} (hop : o.op = .slice t x lo hi none) (hx : ρ t x = some v) (ha : optV ρ lo = some a) (hb : optV ρ hi = some b) : pureOp P callH σ ρ o = sliceV P t v a b none := by
  simp only [pureOp, hop, hx, Option.bind_some]
  cases lo with
  | none =>
    obtain rfl := Option.some.inj ha
    cases hi with
    | none => obtain rfl := Option.some.inj hb; rfl
    | some h =>
      obtain ⟨u, hu, rfl⟩ := map_some hb
      simp only [hu]; rfl
  | some l =>
    obtain ⟨u, hu, rfl⟩ := map_some ha
    cases hi with
    | none => obtain rfl := Option.some.inj hb; simp only [hu]; rfl
    | some h =>
      obtain ⟨u2, hu2, rfl⟩ := map_some hb
      simp only [hu, hu2]; rfl
theorem p_sliceS {t : TypeId} {s : List UInt8} {x : Operand} {lo hi : Option Operand} {a b : Option V} {m n : Int} (hop : o.op = .slice t x lo hi none) (hx : ρ t x = some (.str s))
    (ha : optV ρ lo = some a) (hb : optV ρ hi = some b) (h1 : bound 0 a = some m) (h2 : bound s.length b = some n) (hu : P.underlying t = some .string) :
    pureOp P callH σ ρ o = (cut s m n).map V.str := by
  rw [p_cut hop hx ha hb]
  exact sliceV_str hu h1 h2
theorem p_cat {t t2 : TypeId} {x y : Operand} {a b : List UInt8} (hop : o.op = .binOp .add t x y t2) (hx : ρ t x = some (.str a)) (hy : ρ t2 y = some (.str b)) : pureOp P callH σ ρ o = (cat a b).map V.str := by
  simp only [pureOp, hop, hx, hy, Option.bind_some]
  exact strAdd
theorem p_call {c : Call} {f : Operand} {fid : FuncId} {first caps vs ys : List V} {l : Bool} {x : Option α} {w : α → V} (hop : o.op = .call c) (hc : c.callee = .value f) (hf : ρ 0 f = some (.fn fid first caps)) (hv : opds ρ c.argTypes 0 c.args.toList = some vs)
    (ha : argsPure σ (first ++ vs ++ caps) = some (ys, l)) (h : callH fid ys = x.map fun a => (w a, [])) (hp : l = false ∨ ∀ a, plain (w a) = true) : pureOp P callH σ ρ o = x.map w := by
  simp only [pureOp, hop, hc, hf, hv, Option.bind_some]
  exact call_fn ha h hp
end
theorem p_app {st : St} {oa : OAnn} {o : Oper} {c : Call} {s x : Operand} {T T2 : TypeId} {q sz : Nat} {l m : List α} {e : α → V} (hop : o.op = .call c) (hc : c.callee = .builtin .append) (hargs : c.args.toList = [s, x]) (hts : c.argTypes.toList = [T, T2])
    (htk : Nat.blt 1 oa.tk.length = false) (ha : opd P st.t oa.tk T s = some (.sl q sz (l.map e))) (hb : opd P st.t [] T2 x = some (.sl 0 sz (m.map e))) (hty : appendTy P T T2 = true) (hsl : isSliceT P T2 = true) (hsz : elemSz P T = sz) (ho : q = 1 ∨ q = 2) :
    effOp P callH oa st o = (app l m).map fun v => (.sl q sz (v.map e), { st with t := AE.untake oa.tk st.t }) := by
  have h1 : c = ⟨.builtin .append, #[s, x], #[T, T2]⟩ := by
    cases c with
    | mk callee args argTypes =>
      simp only at hc hargs hts
      subst hc
      rw [show args = #[s, x] from by rw [← Array.toList_inj]; exact hargs, show argTypes = #[T, T2] from by rw [← Array.toList_inj]; exact hts]
  subst h1
  unfold effOp
  rw [htk]
  simp only [cond_false, hop]
  exact append_own ha hb hty hsl hsz ho
theorem bindX {x : Option α} {K1 : α → Option β} {K2 : α → Option γ} {g : γ → β} (h : ∀ a, x = some a → K1 a = (K2 a).map g) : x.bind K1 = (x.bind K2).map g := by
  cases x with
  | none => rfl
  | some a => exact h a rfl
/-- How far a list is taken. -/
def upTo (l : List α) (h : Int) : Option Nat := if 0 ≤ h ∧ h ≤ (l.length : Int) then some h.toNat else none
section
variable {σ : List (Nat × Site)} {ρ : TypeId → Operand → Option V} {o : Oper}
end
def inB (n : Nat) (i : Int) : Option Unit := if 0 ≤ i ∧ i < (n : Int) then some () else none
/-- An array has as many elements as before. -/
def sameLen (l r : List α) : Option (List α) := if r.length = l.length then some r else none
def quoI (k : IntKind) (a b : Int) : Option Int := if b = 0 then none else some (k.wrap (a.tdiv b))
end
def cL : Code → Code
  | .seq a _ => a
  | .cond _ a _ => a
  | .block _ c => c
  | .loop c => c
  | .scope c => c
  | c => c
def cR : Code → Code
  | .seq _ b => b
  | .cond _ _ b => b
  | c => c
def cO : Code → Array Oper
  | .region _ o _ => o
  | _ => #[]
def cB (f : Func) : Code := match f.body with | some c => c | none => .skip
theorem ra {P : Program} {callH : CallH} {ops : Array Oper} {anns : List (Nat × OAnn)} {ks : List Nat} {i : Nat} {st : St} {r : Option St} (m j : Nat) (st' : St) (h : opsF P callH ops anns i ((ops.toList.drop i).take m) st = some st') (hj : i + m = j) (hs : Nat.ble j ops.size = true)
    (k : reg P callH ops anns ks j st' = r) : reg P callH ops anns ks i st = r := (reg_adv h hj hs).trans k
theorem ba {P : Program} {callH : CallH} {ops : Array Oper} {anns : List (Nat × OAnn)} {ks : List Nat} {i : Nat} {X : Option St} {r : Option St} (m j : Nat) (st' : St) (h : (X.bind fun s => forceSt s (opsF P callH ops anns i ((ops.toList.drop i).take m))) = some st') (hj : i + m = j) (hs : Nat.ble j ops.size = true)
    (k : reg P callH ops anns ks j st' = r) : X.bind (reg P callH ops anns ks i) = r := (bind_adv h hj hs).trans k
theorem et {α : Sort _} {a b c : α} (h : a = b) (k : b = c) : a = c := h.trans k
theorem rE {P : Program} {callH : CallH} {ks : List Nat} {anns : List (Nat × OAnn)} {ops : Array Oper} {st st' : St} (h : (opsF P callH ops anns 0 (ops.toList.drop 0) st).map (killT ks) = some st') : regionE P callH ⟨ks, anns⟩ ops false st = some st' := regionE_reg.trans (reg_end h)
def wfI (k : IntKind) (n : Int) : Prop := (Lit.int k n).wf = true
def wfS (s : List UInt8) : Prop := s.length ≤ maxLen
def wfT {α : Type} (_ : α) : Prop := True
def wfL {α : Type} (wf : α → Prop) (l : List α) : Prop := l.length ≤ maxLen ∧ ∀ a ∈ l, wf a
section
variable {P : Program} {G : Glo} {callH : CallH} {α : Type} {σ : List (Nat × Site)} {ρ : TypeId → Operand → Option V} {o : Oper}
theorem p_convIS {src dst : TypeId} {x : Operand} {k k2 : IntKind} {n : Int} (hop : o.op = .convert src dst x) (hx : ρ src x = some (.int k n)) (hs : P.underlying src = some (.int k2)) (hd : P.underlying dst = some .string) :
    pureOp P callH σ ρ o = (runeS n).map fun s => .str s := by
  simp only [pureOp, hop, hx, Option.bind_some, newBytesV, convV, hs, hd]
/-- So many times the same. -/
def mkN (z : α) (n : Int) : Option (List α) := if 0 ≤ n ∧ n ≤ (maxList : Int) then some (List.replicate n.toNat z) else none
end
def repS (s : List UInt8) (n : Int) : Option (List UInt8) := if 0 ≤ n ∧ n ≤ 1000000 ∧ s.length ≤ 1000000 then some (List.replicate n.toNat s).flatten else none
def extStrRep : List V → Option (V × List V)
  | [.str s, .int .i64 n] => (repS s n).map fun r => (.str r, [])
  | _ => none
def joinS (xs : List (List UInt8)) (sep : List UInt8) : Option (List UInt8) := if xs.length ≤ 1000000 ∧ (sep.intercalate xs).length ≤ 140737488355328 then some (sep.intercalate xs) else none
/-- How texts stand to each other, byte by byte. -/
def cmpB : List UInt8 → List UInt8 → Int
  | [], [] => 0
  | [], _ :: _ => -1
  | _ :: _, [] => 1
  | a :: x, b :: y => if a < b then -1 else if b < a then 1 else cmpB x y
def repL (l : List (List UInt8)) (n : Int) : Option (List (List UInt8)) := match l with
  | [s] => if 1 ≤ n ∧ n ≤ 1000000 then some (List.replicate n.toNat s) else none
  | _ => none
end Go.AE

namespace Go.AE
set_option linter.unusedSimpArgs false
set_option linter.unusedVariables false
section
variable {P : Program} {G : Glo} {callH : CallH} {α β γ : Type} {anns : List (Nat × RAnn)} {n : Nat} {st : St} {K : X × St → Option β} {id : Nat} {ops : Array Oper} {rest : Code}
/-- A region that is looked up and comes to a state at sight. -/
theorem kr (st' : St) {r : Option β} (h : (opsF P callH ops ((look id anns).getD {}).ops 0 (ops.toList.drop 0) st).map (killT ((look id anns).getD {}).kill) = some st') (k : execK P callH anns n rest st' K = r) :
    execK P callH anns n (.seq (.region id ops false) rest) st K = r := (k_region0 (ann := ⟨_, _⟩) rfl (rE h)).trans k
theorem kl (st' : St) {r : Option β} (h : (opsF P callH ops ((look id anns).getD {}).ops 0 (ops.toList.drop 0) st).map (killT ((look id anns).getD {}).kill) = some st') (k : K (.normal, st') = r) :
    execK P callH anns n (.region id ops false) st K = r := (k_lregion0 (ann := ⟨_, _⟩) rfl (rE h)).trans k
/-- The same, where it only adds values at the end. -/
theorem kra {t : List (Nat × V)} {σ : List (Nat × Site)} {n' : Nat} (d : List (Nat × V)) {r : Option β} (h : (opsF P callH ops ((look id anns).getD {}).ops 0 (ops.toList.drop 0) ⟨t, σ, n'⟩).map (killT ((look id anns).getD {}).kill) = some ⟨t ++ d, σ, n'⟩) (k : execK P callH anns n rest ⟨t ++ d, σ, n'⟩ K = r) :
    execK P callH anns n (.seq (.region id ops false) rest) ⟨t, σ, n'⟩ K = r := kr _ h k
/-- A region that comes to a state, by a proof. -/
theorem krp (a : RAnn) (ha : (look id anns).getD {} = a) (st' : St) {r : Option β} (h : reg P callH ops a.ops a.kill 0 st = some st') (k : execK P callH anns n rest st' K = r) :
    execK P callH anns n (.seq (.region id ops false) rest) st K = r := (k_region0 ha (regionE_reg.trans h)).trans k
/-- A region that may come to nothing. -/
theorem kg {δ : Type} (a : RAnn) (ha : (look id anns).getD {} = a) {x : Option α} (g : α → St) {f : α → Option δ} {fin : δ → β} (h : reg P callH ops a.ops a.kill 0 st = x.map g) (k : ∀ o, execK P callH anns n rest (g o) K = (f o).map fin) :
    execK P callH anns n (.seq (.region id ops false) rest) st K = (x.bind f).map fin := (k_region ha (regionE_reg.trans h)).trans (bindE k)
theorem kgl {δ : Type} (a : RAnn) (ha : (look id anns).getD {} = a) {x : Option α} (g : α → St) {f : α → Option δ} {fin : δ → β} (h : reg P callH ops a.ops a.kill 0 st = x.map g) (k : ∀ o, K (.normal, g o) = (f o).map fin) :
    execK P callH anns n (.region id ops false) st K = (x.bind f).map fin := (k_lregion ha (regionE_reg.trans h)).trans (bindE k)
theorem kga {δ : Type} {t : List (Nat × V)} {σ : List (Nat × Site)} {n' : Nat} (a : RAnn) (ha : (look id anns).getD {} = a) {x : Option α} (d : α → List (Nat × V)) {f : α → Option δ} {fin : δ → β} (h : reg P callH ops a.ops a.kill 0 ⟨t, σ, n'⟩ = x.map fun o => ⟨t ++ d o, σ, n'⟩) (k : ∀ o, execK P callH anns n rest ⟨t ++ d o, σ, n'⟩ K = (f o).map fin) :
    execK P callH anns n (.seq (.region id ops false) rest) ⟨t, σ, n'⟩ K = (x.bind f).map fin := kg a ha _ h k
theorem kd {δ : Type} (a : RAnn) (ha : (look id anns).getD {} = a) {x : Option α} (g : α → St) {f : α → Option δ} {fin : δ → β} (h : regionE P callH a ops true st = x.map g) (k : ∀ o, execK P callH anns n rest (g o) K = (f o).map fin) :
    execK P callH anns n (.seq (.region id ops true) rest) st K = (x.bind f).map fin := (k_region ha h).trans (bindE k)
/-- A condition. -/
theorem kc {δ : Type} {c : Operand} {a b : Code} {t : Bool} {A B : Option δ} {fin : δ → β} (h : opd P st.t [] 0 c = some (.bool t)) (hk : killCond anns c st = st) (h1 : t = true → execK P callH anns n (.seq a rest) st K = A.map fin) (h0 : t = false → execK P callH anns n (.seq b rest) st K = B.map fin) :
    execK P callH anns n (.seq (.cond c a b) rest) st K = (bif t then A else B).map fin := (k_cond h hk).trans (bifE2 h1 h0)
theorem kcl {δ : Type} {c : Operand} {a b : Code} {t : Bool} {A B : Option δ} {fin : δ → β} (h : opd P st.t [] 0 c = some (.bool t)) (hk : killCond anns c st = st) (h1 : t = true → execK P callH anns n a st K = A.map fin) (h0 : t = false → execK P callH anns n b st K = B.map fin) :
    execK P callH anns n (.cond c a b) st K = (bif t then A else B).map fin := (k_lcond h hk).trans (bifE2 h1 h0)
end
section
variable {P : Program} {G : Glo} {callH : CallH} {α β : Type} {ops : Array Oper} {anns : List (Nat × OAnn)} {ks : List Nat} {i n : Nat} {st : St} {t : List (Nat × V)} {σ : List (Nat × Site)} {r : Option St}
/-- Operations at sight, that only add values at the end. -/
theorem rd (j : Nat) (d : List (Nat × V)) (h : opsF P callH ops anns i ((ops.toList.drop i).take (j - i)) ⟨t, σ, n⟩ = some ⟨t ++ d, σ, n⟩) (hj : (Nat.beq (i + (j - i)) j && Nat.ble j ops.size) = true) (k : reg P callH ops anns ks j ⟨t ++ d, σ, n⟩ = r) :
    reg P callH ops anns ks i ⟨t, σ, n⟩ = r := by
  rw [Bool.and_eq_true] at hj
  exact ra (j - i) j _ h (Nat.eq_of_beq_eq_true hj.1) hj.2 k
theorem bd {oa : OAnn} {dst : Option Tmp} {v : V} (j : Nat) (d : List (Nat × V)) (h : ((finish oa dst v ⟨t, σ, n⟩).bind fun s => forceSt s (opsF P callH ops anns i ((ops.toList.drop i).take (j - i)))) = some ⟨t ++ d, σ, n⟩) (hj : (Nat.beq (i + (j - i)) j && Nat.ble j ops.size) = true) (k : reg P callH ops anns ks j ⟨t ++ d, σ, n⟩ = r) :
    (finish oa dst v ⟨t, σ, n⟩).bind (reg P callH ops anns ks i) = r := by
  rw [Bool.and_eq_true] at hj
  exact ba (j - i) j _ h (Nat.eq_of_beq_eq_true hj.1) hj.2 k
/-- The next operation, if it is a pure one that is wanted. -/
def pureAt (ops : Array Oper) (anns : List (Nat × OAnn)) (i : Nat) (t : List (Nat × V)) : Option Oper := match ops.toList.drop i with
  | o :: _ => (match wantedV ops t o with | some true => bif isPure (annOf anns i) o && !isAlloc o then some o else none | _ => none)
  | [] => none
theorem pureAt_eq {t : List (Nat × V)} {o : Oper} (h : pureAt ops anns i t = some o) : ∃ r, ops.toList.drop i = o :: r ∧ ops.toList.drop (i + 1) = r ∧ wantedV ops t o = some true ∧ (isPure (annOf anns i) o && !isAlloc o) = true := by
  unfold pureAt at h
  split at h
  · rename_i o' r' e
    split at h
    · rename_i e2
      cases e3 : isPure (annOf anns i) o' && !isAlloc o' with
      | true =>
        rw [e3] at h
        obtain rfl := Option.some.inj h
        refine ⟨r', e, ?_, e2, e3⟩
        rw [← List.drop_drop, e]
        rfl
      | false => rw [e3] at h; cases h
    · cases h
  · cases h
theorem rp {o : Oper} {x : Option α} {w : α → V} {f : α → Option β} {g : β → St} (ho : pureAt ops anns i st.t = some o) (hv : pureOp P callH st.σ (opd P st.t []) o = x.map w) (k : ∀ a, (finish (annOf anns i) o.dst (w a) st).bind (reg P callH ops anns ks (i + 1)) = (f a).map g) :
    reg P callH ops anns ks i st = (x.bind f).map g := by
  obtain ⟨r, e1, e2, e3, e4⟩ := pureAt_eq ho
  exact (reg_pure e1 e2 e3 e4 hv).trans (bindE k)
theorem rx {o : Oper} {x : Option α} {w : α → V} {f : α → Option β} {g : β → St} (ho : pureAt ops anns i st.t = some o) (hv : pureOp P callH st.σ (opd P st.t []) o = x.map w) (k : ∀ a, x = some a → (finish (annOf anns i) o.dst (w a) st).bind (reg P callH ops anns ks (i + 1)) = (f a).map g) :
    reg P callH ops anns ks i st = (x.bind f).map g := by
  obtain ⟨r, e1, e2, e3, e4⟩ := pureAt_eq ho
  exact (reg_pure e1 e2 e3 e4 hv).trans (bindX k)
theorem rs {o : Oper} {x : Option α} {w : α → V} {g : α → St} (ho : pureAt ops anns i st.t = some o) (hv : pureOp P callH st.σ (opd P st.t []) o = x.map w) (k : ∀ a, (finish (annOf anns i) o.dst (w a) st).bind (reg P callH ops anns ks (i + 1)) = some (g a)) :
    reg P callH ops anns ks i st = x.map g := by
  obtain ⟨r, e1, e2, e3, e4⟩ := pureAt_eq ho
  exact (reg_pure e1 e2 e3 e4 hv).trans (bind_self k)
theorem rl {o : Oper} {w : Unit → V} {r : Option St} (ho : pureAt ops anns i st.t = some o) (hv : pureOp P callH st.σ (opd P st.t []) o = (some ()).map w) (k : (finish (annOf anns i) o.dst (w ()) st).bind (reg P callH ops anns ks (i + 1)) = r) :
    reg P callH ops anns ks i st = r := by
  obtain ⟨r', e1, e2, e3, e4⟩ := pureAt_eq ho
  exact (reg_pure e1 e2 e3 e4 hv).trans k
end
/-- The first place of a byte in a text, or -1. -/
def idxB : List UInt8 → UInt8 → Int
  | [], _ => -1
  | b :: l, c => if b == c then 0 else if idxB l c == -1 then -1 else idxB l c + 1
def remE (a b : Int) : Option Int := if b = 0 then none else some (a.tmod b)
def shlI (k : IntKind) (a b : Int) : Option Int := if b < 0 then none else some (k.wrap (a * 2 ^ (min b.toNat k.bits)))
def shrI (k : IntKind) (a b : Int) : Option Int := if b < 0 then none else some (a.fdiv (2 ^ (min b.toNat k.bits)))
def andI (k : IntKind) (a b : Int) : Int := k.wrap ((BitVec.ofInt k.bits a &&& BitVec.ofInt k.bits b).toNat)
def orI (k : IntKind) (a b : Int) : Int := k.wrap ((BitVec.ofInt k.bits a ||| BitVec.ofInt k.bits b).toNat)
def xorI (k : IntKind) (a b : Int) : Int := k.wrap ((BitVec.ofInt k.bits a ^^^ BitVec.ofInt k.bits b).toNat)
section
variable {P : Program} {G : Glo} {callH : CallH} {σ : List (Nat × Site)} {ρ : TypeId → Operand → Option V} {o : Oper} {t t2 : TypeId} {x y : Operand} {k k' : IntKind} {a b : Int}
theorem p_quo (hop : o.op = .binOp .quo t x y t2) (hx : ρ t x = some (.int k a)) (hy : ρ t2 y = some (.int k b)) : pureOp P callH σ ρ o = (quoI k a b).map (V.int k) := by
  simp only [pureOp, hop, hx, hy, Option.bind_some]
  show binV .quo (.int k a) (.int k b) = _
  simp only [binV, intBin, if_true]
  unfold quoI
  split <;> rfl
theorem p_rem (hop : o.op = .binOp .rem t x y t2) (hx : ρ t x = some (.int k a)) (hy : ρ t2 y = some (.int k b)) : pureOp P callH σ ρ o = (remE a b).map (V.int k) := by
  simp only [pureOp, hop, hx, hy, Option.bind_some]
  show binV .rem (.int k a) (.int k b) = _
  simp only [binV, intBin, if_true]
  unfold remE
  split <;> rfl
theorem p_shr (hop : o.op = .binOp .shr t x y t2) (hx : ρ t x = some (.int k a)) (hy : ρ t2 y = some (.int k' b)) : pureOp P callH σ ρ o = (shrI k a b).map (V.int k) := by
  simp only [pureOp, hop, hx, hy, Option.bind_some]
  show binV .shr (.int k a) (.int k' b) = _
  simp only [binV]
  unfold shrI
  split <;> rfl
end
def catL {α : Type} : List (List α) → Option (List α)
  | [] => none
  | x :: r => if (x :: r).length ≤ 1000 ∧ (x :: r).flatten.length ≤ 4294967296 then some (x :: r).flatten else none
/-- strconv.Itoa. -/
def itoaA (n : Int) : Option (List UInt8) := if 0 ≤ n ∧ n < 10 then some [UInt8.ofNat (48 + n.toNat)] else if -9223372036854775808 ≤ n ∧ n ≤ 9223372036854775807 then some (Go.Lib.itoa n) else none
def extItoa : List V → Option (V × List V)
  | [.int .i64 n] => (itoaA n).map fun s => (.str s, [])
  | _ => none
/-- strings.TrimRight of one byte below 128. -/
def trimR (s cs : List UInt8) : Option (List UInt8) :=
  match cs with
  | [c] => if c.toNat < 128 ∧ s.length ≤ 1000000 then some (Go.Lib.trimRightB s c) else none
  | _ => none
def extTrimR : List V → Option (V × List V)
  | [.str s, .str c] => (trimR s c).map fun s => (.str s, [])
  | _ => none
/-- The number of at most nine digits, and whether it is one. -/
def fdGo : List UInt8 → Int → Int × Int
  | [], n => (n, 0)
  | c :: r, n => if c.toNat < 48 ∨ 57 < c.toNat then (0, 3) else fdGo r (10 * n + ((c.toNat : Int) - 48))
def fdS (s : List UInt8) : Int × Int := if s.length < 1 ∨ 9 < s.length then (0, 3) else fdGo s 0
def extFd : List V → Option (V × List V)
  | [.str s] => some (.tup [.int .i64 (fdS s).1, .int .i64 (fdS s).2], [])
  | _ => none
/-- strings.ReplaceAll. -/
def repG (s old new : List UInt8) : Option (List UInt8) := if s.length ≤ 1000000 ∧ 1 ≤ old.length ∧ new.length ≤ 1000 then some (Go.Lib.replaceAll s old new) else none
def extRepAll : List V → Option (V × List V)
  | [.str s, .str o, .str n] => (repG s o n).map fun r => (.str r, [])
  | _ => none
theorem p_appS {P : Program} {callH : CallH} {st : St} {oa : OAnn} {o : Oper} {c : Call} {s x : Operand} {T T2 : TypeId} {q : Nat} {l : List Int} {b : List UInt8} (hop : o.op = .call c) (hc : c.callee = .builtin .append) (hargs : c.args.toList = [s, x]) (hts : c.argTypes.toList = [T, T2])
    (htk : Nat.blt 1 oa.tk.length = false) (ha : opd P st.t oa.tk T s = some (.sl q 1 (l.map (V.int .u8)))) (hb : opd P st.t [] T2 x = some (.str b)) (hty : appendTy P T T2 = true) (hsl : isSliceT P T2 = false) (hsz : elemSz P T = 1) (ho : q = 1 ∨ q = 2) :
    effOp P callH oa st o = (app l (bytesB b)).map fun v => (.sl q 1 (v.map (V.int .u8)), { st with t := AE.untake oa.tk st.t }) := by
  unfold effOp
  rw [htk]
  simp only [cond_false, hop, hc]
  unfold appendE app
  rw [hargs, hts]
  simp only [ha, hb, Option.bind_some, hty, cond_true, hsl, cond_false, srcE, hsz, if_true, List.length_map]
  have e : (b.map fun c => V.int .u8 (c.toNat : Int)) = (bytesB b).map (V.int .u8) := by
    unfold bytesB
    rw [List.map_map]
    rfl
  have e2 : (bytesB b).length = b.length := by unfold bytesB; rw [List.length_map]
  by_cases hm : l.length + b.length ≤ maxList
  · rw [if_pos ⟨ho, trivial, hm⟩, if_pos (by rw [e2]; exact hm)]
    simp only [Option.map_some, List.map_append, e]
  · rw [if_neg (fun hh => hm hh.2.2), if_neg (by rw [e2]; exact hm)]
    rfl
end Go.AE

namespace Go.AE
open Go.RowKit
set_option linter.unusedSimpArgs false
set_option linter.unusedVariables false
abbrev noE : Bnd := fun _ => none
abbrev noO : Own := fun _ => none
/-- A row of cells that nobody writes. -/
def RC0 (w : World) (vs : List V) (xs : List Value) : Prop := vs.length = xs.length ∧ ∀ j (h : j < vs.length) (h' : j < xs.length), R0 w noE (vs[j]) (xs[j])
theorem RC0.nil {w : World} : RC0 w [] [] := ⟨rfl, fun j h => by simp at h⟩
theorem RC0.one {w : World} {v : V} {x : Value} (h : R0 w noE v x) : RC0 w [v] [x] := ⟨rfl, fun j hj hj' => by
  have : j = 0 := by simp at hj; omega
  subst this
  exact h⟩
theorem RC0.append {w : World} {a b : List V} {x y : List Value} (h : RC0 w a x) (k : RC0 w b y) : RC0 w (a ++ b) (x ++ y) := by
  refine ⟨by simp [h.1, k.1], fun j hj hj' => ?_⟩
  have h1 := h.1
  by_cases hlt : j < a.length
  · rw [List.getElem_append_left hlt, List.getElem_append_left (by omega)]
    exact h.2 j hlt (by omega)
  · rw [List.getElem_append_right (by omega), List.getElem_append_right (by omega)]
    have := k.2 (j - a.length) (by simp at hj; omega) (by have := k.1; simp at hj; omega)
    simpa [h1] using this
section
variable {H : Type} {enc : TypeId × Value → H} {P : Program} {G : Glo} {w : World}
/-- What reads at a type, up to a size: the typed values' cells. -/
structure Opens (enc : TypeId × Value → H) (P : Program) (w : World) (t : TypeId) {α : Type} (cells : α → List V) (wf : α → Prop) : Prop where
  len : ∀ a, (cells a).length = P.cellsOf t
  ok : ∀ fuel cs x, DataW.trod enc P w 0 (fun _ => true) true fuel t cs = some x → ∃ a, wf a ∧ RC0 w (cells a) cs
theorem Opens.mono {t : TypeId} {α : Type} {cells : α → List V} {wf wf' : α → Prop} (h : Opens enc P w t cells wf) (k : ∀ a, wf a → wf' a) : Opens enc P w t cells wf' :=
  ⟨h.len, fun fuel cs x hx => by
    obtain ⟨a, h1, h2⟩ := h.ok fuel cs x hx
    exact ⟨a, k a h1, h2⟩⟩
theorem opens_int {t : TypeId} {k : IntKind} (ht : P.underlying t = some (.int k)) (hc : P.cellsOf t = 1) : Opens enc P w t (fun n : Int => [V.int k n]) (wfI k) :=
  ⟨fun _ => hc.symm, fun fuel cs x h => by
    obtain ⟨n, rfl, _, hw⟩ := DataW.trod_int ht h
    exact ⟨n, hw, .one (.int k n)⟩⟩
theorem opens_str {t : TypeId} (ht : P.underlying t = some .string) (hc : P.cellsOf t = 1) : Opens enc P w t (fun s : List UInt8 => [V.str s]) wfS :=
  ⟨fun _ => hc.symm, fun fuel cs x h => by
    obtain ⟨s, rfl, _, hw⟩ := DataW.trod_string ht h
    refine ⟨s.data.toList, ?_, .one ?_⟩
    · unfold wfS
      rw [Array.length_toList]
      exact hw
    · exact R0.str (w := w) (E := noE) s.data.toList⟩
/-- The fields of a struct, from a place on. -/
structure OpensF (enc : TypeId × Value → H) (P : Program) (w : World) (off : Nat) (fs : List Field) (N : Nat) {β : Type} (cells : β → List V) (wf : β → Prop) : Prop where
  len : ∀ b, off + (cells b).length = N
  ok : ∀ fuel (cs : List Value), cs.length = N → (∀ f ∈ fs, ∃ x, DataW.trod enc P w 0 (fun _ => true) true fuel f.type ((cs.drop f.offset).take (P.cellsOf f.type)) = some x) → ∃ b, wf b ∧ RC0 w (cells b) (cs.drop off)
theorem opensF_nil {N : Nat} : OpensF enc P w N [] N (fun _ : Unit => []) wfT :=
  ⟨fun _ => rfl, fun fuel cs hl _ => ⟨(), trivial, by rw [List.drop_eq_nil_of_le (by omega)]; exact .nil⟩⟩
theorem opensF_cons {f : Field} {fs : List Field} {t : TypeId} {off sz N : Nat} {α β : Type} {cA : α → List V} {wA : α → Prop} {cB : β → List V} {wB : β → Prop} (ho : f.offset = off) (hf : f.type = t) (hz : P.cellsOf t = sz) (h1 : Opens enc P w t cA wA)
    (h2 : OpensF enc P w (off + sz) fs N cB wB) : OpensF enc P w off (f :: fs) N (fun p : α × β => cA p.1 ++ cB p.2) (fun p => wA p.1 ∧ wB p.2) := by
  subst ho; subst hf; subst hz
  refine ⟨fun b => ?_, fun fuel cs hl hall => ?_⟩
  · have := h2.len b.2
    rw [List.length_append, h1.len]
    omega
  · obtain ⟨x, hx⟩ := hall f (by simp)
    obtain ⟨a, ha, hra⟩ := h1.ok fuel _ x hx
    obtain ⟨b, hb, hrb⟩ := h2.ok fuel cs hl (fun g hg => hall g (by simp [hg]))
    refine ⟨(a, b), ⟨ha, hb⟩, ?_⟩
    have : cs.drop f.offset = (cs.drop f.offset).take (P.cellsOf f.type) ++ cs.drop (f.offset + P.cellsOf f.type) := by
      rw [← List.drop_drop, List.take_append_drop]
    rw [this]
    exact hra.append hrb
def arrF (e : TypeId) (o : Nat) : Field := { name := "", type := e, offset := o, embedded := false, tag := "", pkgPath := "", byteOffset := 0 }
theorem opens_array {t e : TypeId} {n : Nat} {fs : List Field} {N : Nat} {α β : Type} {encA : α → V} {cB : β → List V} {wB : β → Prop} (ht : P.underlying t = some (.array n e)) (hc : P.cellsOf t = N) (hF : OpensF enc P w 0 fs N cB wB)
    (hfs : ∀ f ∈ fs, f.type = e ∧ ∃ i, i < n ∧ f.offset = i * P.cellsOf e) (g : β → α) (un : α → β) (hun : ∀ a, g (un a) = a) (hg : ∀ b, (encA (g b)).cells = cB b) : Opens enc P w t (fun a => (encA a).cells) (fun a => ∃ b, a = g b ∧ wB b) := by
  refine ⟨fun a => ?_, fun fuel cs x h => ?_⟩
  · have h1 := hF.len (un a)
    have h2 := hg (un a)
    rw [hun] at h2
    show (encA a).cells.length = _
    rw [h2, hc]
    omega
  · obtain ⟨xs, m, rfl, _, hl, hxl, hat⟩ := DataW.trod_array ht h
    obtain ⟨b, hb, hr⟩ := hF.ok m cs (by omega) (fun f hf => by
      obtain ⟨he, i, hi, ho⟩ := hfs f hf
      have := hat i hi
      rw [he, ho]
      exact ⟨xs[i]'(by omega), by rw [this, List.getElem?_eq_getElem (by omega)]⟩)
    refine ⟨g b, ⟨b, rfl, hb⟩, ?_⟩
    show RC0 w (encA (g b)).cells cs
    rw [hg]
    simpa using hr
theorem okWide_arr {base : Nat} {r : Reach} {t e : TypeId} {n : Nat} {v : Value} (ht : P.underlying t = some (.array n e)) (h : Value.okWide P w r base t v) : ∃ cs, v = .agg cs ∧ cs.size = P.cellsOf t := by
  simp only [Value.okWide, ht] at h
  obtain ⟨cs, h1, h2, _⟩ := h
  exact ⟨cs, h1, h2⟩
theorem rt_of_cells {v : V} {x : Value} {S : Sit} {O : Own} {p : Pos} (hr : RC0 w v.cells x.cells.toList) (hv : v.isAgg = true ↔ ∃ c, x = .agg c) (hs : v.isAgg = false → v.isTup = false) (hx : ∀ c, x ≠ .tuple c) : RT w noE S O p v x := by
  cases hva : v.isAgg with
  | true =>
    obtain ⟨c, rfl⟩ := hv.1 hva
    cases v <;> simp [V.isAgg] at hva
    refine .cell (.agg ⟨hr.1, fun j h h' => .free (.base (hr.2 j h h'))⟩)
  | false =>
    have h1 : v.cells = [v] := by cases v <;> first | rfl | simp [V.isAgg] at hva | (have := hs rfl; simp [V.isTup] at this)
    have h2 : x.cells.toList = [x] := by
      cases x <;> first | rfl | (exfalso; have := hv.2 ⟨_, rfl⟩; rw [this] at hva; cases hva) | exact absurd rfl (hx _)
    rw [h1, h2] at hr
    exact .cell (.one hva (.free (.base (hr.2 0 (by simp) (by simp)))))
def twoGlob (g : Nat) (c : Array Value) (g2 : Nat) (c2 : Array Value) : Glo := fun b => bif Nat.beq b g then some c else bif Nat.beq b g2 then some c2 else none
theorem twoGlob_ok {g g2 : Nat} {c c2 : Array Value} {e e2 : TypeId} {fr fr2 : Nat × Nat} (h : w.heap[g]? = some (.cells c e fr)) (h2 : w.heap[g2]? = some (.cells c2 e2 fr2)) : Glob (twoGlob g c g2 c2) w noE := fun b c' hb => by
  unfold twoGlob at hb
  cases he : Nat.beq b g with
  | true =>
    rw [he] at hb
    obtain rfl := Nat.eq_of_beq_eq_true he
    obtain rfl := Option.some.inj hb
    exact ⟨rfl, e, fr, h⟩
  | false =>
    rw [he] at hb
    cases he2 : Nat.beq b g2 with
    | false => rw [he2] at hb; cases hb
    | true =>
      rw [he2] at hb
      obtain rfl := Nat.eq_of_beq_eq_true he2
      obtain rfl := Option.some.inj hb
      exact ⟨rfl, e2, fr2, h2⟩
theorem glob_of_cell {g : Nat} {v : Value} (h : w.cell? ⟨g, 0, none⟩ = some v) : ∃ c e fr, w.heap[g]? = some (.cells c e fr) ∧ c[0]? = some v := by
  unfold World.cell? at h
  cases hh : w.heap[g]? with
  | none => simp [hh] at h
  | some x =>
    cases x with
    | cells c e fr => exact ⟨c, e, fr, rfl, by simpa [hh] using h⟩
    | _ => simp [hh] at h
theorem row_calls {hm : P.follows .mixedOrders = true} {anns : FuncId → FAnn} {ext : ExtH} (hext : ∀ f args r outs, ext f args = some (some (r, outs)) → FnOk G P f args r outs) {k : Nat} {f : FuncId} {args : List V}
    (h : evF P anns ext k f args = some (.bool true, [])) {W : World} (hgl : Glob G W noE) {xs : Array Value} (hl : args.length = xs.size) (hr : ∀ i (h : i < args.length) (h' : i < xs.size), RT W noE noS noO [0, i] (args[i]) (xs[i])) :
    Calls P f xs W fun e W' => e = .returned (.bool true) ∧ Below W.heap.size W W' := by
  refine ((evF_sound hm hext k f args _ _ h).2 W noE noO xs hgl hl (fun b p hb => by cases hb) hr).mono ?_
  rintro e W' ⟨x, E', O', rfl, hfr, hx, _, _⟩
  have hx1 := hx.of_tmp rfl (by simp) (by simp)
  refine ⟨?_, ⟨hfr.os, hfr.tape, hfr.output, hfr.ext.size, fun b hb => (hfr.free b hb rfl).1⟩⟩
  cases hx1 with
  | free hx1 => cases hx1 with
    | base hx1 => cases hx1; rfl
end
end Go.AE

namespace Go.AE
open Go.RowKit
theorem framed_below {w w' : World} {E : Bnd} {O : Own} (h : Below w.heap.size w w') (ho : ∀ b p, O b = some p → b < w.heap.size) : Framed w E O w' E O := by
  refine ⟨⟨h.size, fun b c e fr hb => ⟨c, fr, by rw [h.block b (lt_of_some hb)]; exact hb, rfl, fun _ _ => rfl⟩, fun b _ x hx => ⟨x, hx, Nat.le_refl _⟩⟩, fun b hb _ => ⟨h.block b hb, rfl, by assumption⟩, h.os, h.tape, h.output, fun b p hb => Nat.lt_of_lt_of_le (ho b p hb) h.size⟩
end Go.AE

namespace Go.AE
open Go.RowKit Go.Shelf Go.Proofs
theorem repeatL_flat (l : List UInt8) : ∀ c, Lib.repeatL l c = (List.replicate c l).flatten
  | 0 => rfl
  | c + 1 => by rw [Lib.repeatL, repeatL_flat l c, List.replicate_succ, List.flatten_cons]
theorem rt_str {w : World} {E : Bnd} {O : Own} {p : Pos} {s : List UInt8} {x : Value} (h : RT w E noS O p (.str s) x) : x = .string ⟨s.toArray⟩ := by
  cases h with
  | cell h => cases h with
    | one hv h => cases h with
      | free h => cases h with
        | base h => cases h; rfl
theorem rt_int {w : World} {E : Bnd} {O : Own} {p : Pos} {k : IntKind} {n : Int} {x : Value} (h : RT w E noS O p (.int k n) x) : x = .int k n := by
  cases h with
  | cell h => cases h with
    | one hv h => cases h with
      | free h => cases h with
        | base h => cases h; rfl
theorem strRep_ok {G : Glo} {P : Program} {ρ : Ren} (L : Lays.n105 P ρ) (X : Builder.Extra P ρ) (args : List V) (r : V) (outs : List V) (h : extStrRep args = some (r, outs)) : FnOk G P (ρ.f 105) args r outs := by
  refine ⟨⟨Body.n105 ρ, L.f105, by simp [Body.n105], rfl⟩, ?_⟩
  intro w E O xs hgl hl ho hr
  unfold extStrRep at h
  split at h
  · rename_i s n
    obtain ⟨l, hl1, h⟩ := map_some h
    injection h with h1 h2
    subst h1; subst h2
    unfold repS at hl1
    split at hl1
    · rename_i hc
      obtain rfl := Option.some.inj hl1
      obtain ⟨x, y, rfl⟩ : ∃ x y, xs = #[x, y] := by
        rcases xs with ⟨xs⟩
        match xs, hl with
        | [x, y], _ => exact ⟨x, y, rfl⟩
      have hx := rt_str (hr 0 (by simp) (by simp))
      have hy := rt_int (hr 1 (by simp) (by simp))
      simp only [List.getElem_toArray, List.getElem_cons_zero, List.getElem_cons_succ] at hx hy
      subst hx; subst hy
      obtain ⟨m, rfl⟩ := Int.eq_ofNat_of_zero_le hc.1
      have hsz : (⟨s.toArray⟩ : ByteArray).size = s.length := by simp [ByteArray.size]
      have hm : m ≤ 1000000 := by omega
      have hmul : (⟨s.toArray⟩ : ByteArray).size * m ≤ 1000000 * 1000000 := by
        rw [hsz]
        exact Nat.mul_le_mul hc.2.2 hm
      refine (Any.strings_Repeat L X ⟨s.toArray⟩ m w (by omega) (by omega)).mono ?_
      rintro e w' ⟨rfl, hb⟩
      refine ⟨_, E, O, rfl, framed_below hb ho, ?_, rfl, fun k hk => by simp at hk⟩
      simp only [repeatL_flat, Int.toNat_natCast]
      exact .cell (.one rfl (.free (.base (.str _))))
    · cases hl1
  · cases h
end Go.AE

namespace Go.AE
open Go.RowKit Go.Shelf Go.Proofs
end Go.AE

namespace Go.AE
open Go.RowKit Go.Shelf Go.Proofs
set_option linter.unusedVariables false
theorem decDigits_one {i : Nat} (h : i < 10) : Go.Lib.decDigits i = [UInt8.ofNat (48 + i)] := by
  unfold Go.Lib.decDigits
  rw [dif_pos h]
theorem below_grow (w : World) (k : Nat) (os : Array Obj) : Below w.heap.size w (Go.Sort.grow (w.drewN k) os) := by
  have h : (Go.Sort.grow (w.drewN k) os).heap = w.heap ++ os := rfl
  refine ⟨rfl, rfl, rfl, by rw [h, Array.size_append]; omega, fun q hq => ?_⟩
  rw [h, Array.getElem?_append_left hq]
theorem laidVars_at {P : Program} {w : World} {name : String} {d : DataW Unit} : ∀ {laid : List (String × DataW Unit)} {ps : List MemPlace}, (name, d) ∈ laid → DataW.LaidVars P w laid ps → ∃ g t cs fuel p, P.globalNamed name = some g ∧ (P.globals[g]?).map (·.type) = some t ∧ w.var? P name = some cs ∧ DataW.trod (fun _ => ()) P w 0 (fun _ => true) false fuel t cs.toList = some (d, p)
  | [], _, hm, _ => absurd hm List.not_mem_nil
  | (n, d') :: r, ps, hm, h => by
    obtain ⟨g, t, cs, fuel, p, q, h1, h2, h3, h4, h5, _⟩ := h
    rcases List.mem_cons.1 hm with hq | hm
    · injection hq with hq1 hq2
      subst hq1; subst hq2
      exact ⟨g, t, cs, fuel, p, h1, h2, h3, h4⟩
    · exact laidVars_at hm h5
/-- A table of the row's list is where the variable is. -/
theorem tab_of_laid {P : Program} {W : World} {name : String} {k : IntKind} {zs : List Int} {laid : List (String × DataW Unit)} {g : Nat} {t e : TypeId} {n : Nat}
    (hg : P.globalNamed name = some g) (hty : (P.globals[g]?).map (·.type) = some t) (ht : P.underlying t = some (.array n e)) (he : P.underlying e = some (.int k)) (hce : P.cellsOf e = 1) (hct : P.cellsOf t = n)
    (hm : (name, Go.Lib.tabData k zs) ∈ laid) (h : laidMet P laid W) : ∃ e fr, W.heap[g]? = some (.cells (zs.map fun z => Value.int k z).toArray e fr) := by
  obtain ⟨ps, hl, _⟩ := h
  obtain ⟨g', t', cs, fuel, p, hg', ht', hvar, hd⟩ := laidVars_at hm hl
  obtain rfl := Option.some.inj (hg.symm.trans hg')
  obtain rfl := Option.some.inj (hty.symm.trans ht')
  have hc := Go.Lib.cells_of_tab ht he hce hct hd
  simp only [World.var?, hg, Option.bind_some] at hvar
  split at hvar
  · rename_i cs' e' fr' hh
    obtain rfl := Option.some.inj hvar
    exact ⟨e', fr', by rw [hh, ← hc]⟩
  · cases hvar
/-- 'g': where the powers of ten are. -/
theorem itoa_ok {G : Glo} {P : Program} {ρ : Ren} (L : LaysM.n171 P ρ) {g : Nat} (hg : P.globalNamed "internal/strconv.uint64pow10" = some g) (hG : G g = some (Go.Lib.pow10Tab.map fun z => Value.int .u64 z).toArray) (args : List V) (r : V) (outs : List V) (h : extItoa args = some (r, outs)) : FnOk G P (ρ.f 171) args r outs := by
  refine ⟨⟨Body.n171 ρ, L.f171, by simp [Body.n171], rfl⟩, ?_⟩
  intro w E O xs hgl hl ho hr
  unfold extItoa at h
  split at h
  · rename_i n
    obtain ⟨s, hs, hq⟩ := map_some h
    obtain ⟨rfl, rfl⟩ := Prod.mk.inj hq
    obtain ⟨x, rfl⟩ : ∃ x, xs = #[x] := by
      rcases xs with ⟨xs⟩
      match xs, hl with
      | [x], _ => exact ⟨x, rfl⟩
    have hx := rt_int (hr 0 (by simp) (by simp))
    simp only [List.getElem_toArray, List.getElem_cons_zero] at hx
    subst hx
    have hn : -9223372036854775808 ≤ n ∧ n ≤ 9223372036854775807 ∧ s = Go.Lib.itoa n := by
      unfold itoaA at hs
      split at hs
      · rename_i hn
        refine ⟨by omega, by omega, ?_⟩
        rw [← Option.some.inj hs]
        unfold Go.Lib.itoa
        rw [if_neg (by omega), decDigits_one (by omega)]
      · split at hs
        · rename_i hn
          exact ⟨hn.1, hn.2, (Option.some.inj hs).symm⟩
        · cases hs
    obtain ⟨n0, n1, rfl⟩ := hn
    have htab : Go.Lib.TabIs P w "internal/strconv.uint64pow10" .u64 Go.Lib.pow10Tab := by
      obtain ⟨_, e, fr, hh⟩ := hgl g _ hG
      unfold Go.Lib.TabIs
      simp only [World.var?, hg, Option.bind_some, hh]
    refine (Any.strconv_Itoa L n n0 n1 w htab).mono ?_
    rintro e w' ⟨rfl, k, os, rfl⟩
    exact ⟨_, E, O, rfl, framed_below (below_grow w k os) ho, .cell (.one rfl (.free (.base (.str _)))), rfl, fun k hk => by simp at hk⟩
  · cases h
theorem trimR_ok {G : Glo} {P : Program} {ρ : Ren} (L : Lays.n162 P ρ) (args : List V) (r : V) (outs : List V) (h : extTrimR args = some (r, outs)) : FnOk G P (ρ.f 162) args r outs := by
  refine ⟨⟨Body.n162 ρ, L.f162, by simp [Body.n162], rfl⟩, ?_⟩
  intro w E O xs hgl hl ho hr
  unfold extTrimR at h
  split at h
  · rename_i s cs
    obtain ⟨t, ht, hq⟩ := map_some h
    obtain ⟨rfl, rfl⟩ := Prod.mk.inj hq
    unfold trimR at ht
    split at ht
    · rename_i c
      split at ht
      · rename_i hc
        obtain rfl := Option.some.inj ht
        obtain ⟨x, y, rfl⟩ : ∃ x y, xs = #[x, y] := by
          rcases xs with ⟨xs⟩
          match xs, hl with
          | [x, y], _ => exact ⟨x, y, rfl⟩
        have hx := rt_str (hr 0 (by simp) (by simp))
        have hy := rt_str (hr 1 (by simp) (by simp))
        simp only [List.getElem_toArray, List.getElem_cons_zero, List.getElem_cons_succ] at hx hy
        subst hx; subst hy
        refine (Any.strings_TrimRight_one L ⟨s.toArray⟩ c hc.1 w (by have : (⟨s.toArray⟩ : ByteArray).size = s.length := by simp [ByteArray.size]
                                                                     omega)).mono ?_
        rintro e w' ⟨rfl, rfl⟩
        exact ⟨_, E, O, rfl, framed_below (Below.refl _ _) ho, .cell (.one rfl (.free (.base (.str _)))), rfl, fun k hk => by simp at hk⟩
      · cases ht
    · cases ht
  · cases h
/-- Out of a walk of octet.FromDigits. -/
theorem fd_ok {G : Glo} {P : Program} {f : FuncId} (hfn : ∃ fn, P.funcs[f]? = some fn ∧ fn.name ≠ "runtime.NumGoroutine" ∧ fn.body.isSome = true)
    (hw : ∀ (s : List UInt8) (w : World), Calls P f #[.string ⟨s.toArray⟩] w fun e w' => e = .returned (.tuple #[.int .i64 (fdS s).1, .int .i64 (fdS s).2]) ∧ Below w.heap.size w w')
    (args : List V) (r : V) (outs : List V) (h : extFd args = some (r, outs)) : FnOk G P f args r outs := by
  refine ⟨hfn, ?_⟩
  intro w E O xs hgl hl ho hr
  unfold extFd at h
  split at h
  · rename_i s
    obtain ⟨rfl, rfl⟩ := Prod.mk.inj (Option.some.inj h)
    obtain ⟨x, rfl⟩ : ∃ x, xs = #[x] := by
      rcases xs with ⟨xs⟩
      match xs, hl with
      | [x], _ => exact ⟨x, rfl⟩
    have hx := rt_str (hr 0 (by simp) (by simp))
    simp only [List.getElem_toArray, List.getElem_cons_zero] at hx
    subst hx
    refine (hw s w).mono ?_
    rintro e w' ⟨rfl, hb⟩
    refine ⟨_, E, O, rfl, framed_below hb ho, .tup rfl (fun j h1 h2 => ?_), rfl, fun k hk => by simp at hk⟩
    match j, h1 with
    | 0, _ => exact .one rfl (.free (.base (.int _ _)))
    | 1, _ => exact .one rfl (.free (.base (.int _ _)))
  · cases h
theorem cell_of_glob {G : Glo} {w : World} {E : Bnd} (h : Glob G w E) {g : Nat} {v : Value} (hg : ∃ c, G g = some c ∧ c[0]? = some v) : w.cell? ⟨g, 0, none⟩ = some v := by
  obtain ⟨c, h1, h2⟩ := hg
  obtain ⟨_, e, fr, h3⟩ := h g c h1
  simp [World.cell?, h3, h2]
/-- 'm': what internal/bytealg.MaxLen holds. -/
theorem repAll_ok {G : Glo} {P : Program} {ρ : Ren} (L : Lays.n155 P ρ) (X : Builder.Extra P ρ) {m : Int} (hG : ∃ c, G (ρ.g 1) = some c ∧ c[0]? = some (.int .i64 m)) (args : List V) (r : V) (outs : List V) (h : extRepAll args = some (r, outs)) : FnOk G P (ρ.f 155) args r outs := by
  refine ⟨⟨Body.n155 ρ, L.f155, by simp [Body.n155], rfl⟩, ?_⟩
  intro w E O xs hgl hl ho hr
  unfold extRepAll at h
  split at h
  · rename_i s o n
    obtain ⟨t, ht, hq⟩ := map_some h
    obtain ⟨rfl, rfl⟩ := Prod.mk.inj hq
    unfold repG at ht
    split at ht
    · rename_i hc
      obtain ⟨c1, c2, c3⟩ := hc
      obtain rfl := Option.some.inj ht
      obtain ⟨x, y, z, rfl⟩ : ∃ x y z, xs = #[x, y, z] := by
        rcases xs with ⟨xs⟩
        match xs, hl with
        | [x, y, z], _ => exact ⟨x, y, z, rfl⟩
      have hx := rt_str (hr 0 (by simp) (by simp))
      have hy := rt_str (hr 1 (by simp) (by simp))
      have hz := rt_str (hr 2 (by simp) (by simp))
      simp only [List.getElem_toArray, List.getElem_cons_zero, List.getElem_cons_succ] at hx hy hz
      subst hx; subst hy; subst hz
      have s1 : (⟨s.toArray⟩ : ByteArray).size = s.length := by simp [ByteArray.size]
      have s2 : (⟨o.toArray⟩ : ByteArray).size = o.length := by simp [ByteArray.size]
      have s3 : (⟨n.toArray⟩ : ByteArray).size = n.length := by simp [ByteArray.size]
      have hm := Go.Lib.countB_mul_le ⟨o.toArray⟩ (by omega) s.length ⟨s.toArray⟩ (by omega)
      have hm2 : Go.Lib.countB ⟨s.toArray⟩ ⟨o.toArray⟩ ≤ s.length := by
        rw [s1, s2] at hm
        exact Nat.le_trans (Nat.le_mul_of_pos_right _ (by omega)) hm
      have hlen : s.length + Go.Lib.countB ⟨s.toArray⟩ ⟨o.toArray⟩ * n.length ≤ 140737488355328 := by
        have := Nat.mul_le_mul (Nat.le_trans hm2 c1) c3
        omega
      refine (Any.strings_ReplaceAll L X ⟨s.toArray⟩ ⟨o.toArray⟩ ⟨n.toArray⟩ m w (by omega) (cell_of_glob hgl hG) (by omega) (by rw [s1, s3]; exact hlen)).mono ?_
      rintro e w' ⟨rfl, hb⟩
      exact ⟨_, E, O, rfl, framed_below hb ho, .cell (.one rfl (.free (.base (.str _)))), rfl, fun k hk => by simp at hk⟩
    · cases ht
  · cases h
end Go.AE

