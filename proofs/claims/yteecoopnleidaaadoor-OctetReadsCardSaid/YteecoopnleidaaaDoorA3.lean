/- An evaluator of the bodies of functions, and that what it says holds: a call of which it says a result returns just this result and leaves all that it does not own as it was. Conditions: none. -/
import Derived.Test.YteecoopnleidaaaDoorA2
import Derived.Lib.Replace
import Derived.WideShapes
import Derived.OpenShut
import Derived.DataReads
import Derived.ChangeOld
import Derived.Shelf.Strings.Repeat
import Derived.Shelf.Strings.OnBuilder
import Derived.Shelf.Small.Strs
import Derived.Shelf.Strconv.Itoa3
import Derived.Shelf.Strings.Replace
namespace Go.AE
set_option linter.unusedSimpArgs false
set_option linter.unusedVariables false
section
variable {P : Program} {G : Glo} {callH : CallH} {α β γ R : Type}
theorem bindE {x : Option α} {K1 : α → Option β} {K2 : α → Option γ} {g : γ → β} (h : ∀ a, K1 a = (K2 a).map g) : x.bind K1 = (x.bind K2).map g := by
  cases x with
  | none => rfl
  | some a => exact h a
theorem bifE {c : Bool} {L : Option β} {A B : Option γ} {g : γ → β} (h1 : c = true → L = A.map g) (h0 : c = false → L = B.map g) : L = (bif c then A else B).map g := by
  cases c with
  | true => exact h1 rfl
  | false => exact h0 rfl
theorem bifE2 {c : Bool} {L1 L0 : Option β} {A B : Option γ} {g : γ → β} (h1 : c = true → L1 = A.map g) (h0 : c = false → L0 = B.map g) : (bif c then L1 else L0) = (bif c then A else B).map g := by
  cases c with
  | true => exact h1 rfl
  | false => exact h0 rfl
def forceLs (fv : V → (V → β) → β) : List V → (List V → β) → β
  | [], f => f []
  | v :: r, f => fv v fun v' => forceLs fv r fun r' => f (v' :: r')
def forceV : Nat → V → (V → β) → β
  | 0, v, f => f v
  | d + 1, v, f => match v with
    | .int k n => f (.int k n)
    | .bool b => f (.bool b)
    | .str s => f (.str s)
    | .sl o sz l => (match o with
      | 0 => f (.sl 0 sz l)
      | 1 => f (.sl 1 sz l)
      | 2 => f (.sl 2 sz l)
      | n + 3 => f (.sl (n + 3) sz l))
    | .agg cs => forceLs (forceV d) cs fun cs' => f (.agg cs')
    | .tup cs => forceLs (forceV d) cs fun cs' => f (.tup cs')
    | .pro c => forceV d c fun c' => f (.pro c')
    | .io c => forceV d c fun c' => f (.io c')
    | v => f v
def forceT : List (Nat × V) → (List (Nat × V) → β) → β
  | [], f => f []
  | (d, v) :: r, f => forceV 3 v fun v' => forceT r fun r' => f ((d, v') :: r')
def forceE : List V → (List V → β) → β
  | [], f => f []
  | v :: r, f => forceV 3 v fun v' => forceE r fun r' => f (v' :: r')
def forceS : List (Nat × Site) → (List (Nat × Site) → β) → β
  | [], f => f []
  | (d, ⟨true, sz, es⟩) :: r, f => forceS r fun r' => f ((d, ⟨true, sz, es⟩) :: r')
  | (d, ⟨false, sz, es⟩) :: r, f => forceE es fun es' => forceS r fun r' => f ((d, ⟨false, sz, es'⟩) :: r')
def forceSt : St → (St → β) → β
  | ⟨t, σ, n⟩, f => forceT t fun t' => forceS σ fun σ' => f ⟨t', σ', n⟩
theorem forceLs_eq {fv : V → (V → β) → β} (h : ∀ v f, fv v f = f v) : ∀ (cs : List V) (f : List V → β), forceLs fv cs f = f cs
  | [], f => rfl
  | v :: r, f => by simp only [forceLs, h, forceLs_eq h r]
theorem forceV_eq : ∀ (d : Nat) (v : V) (f : V → β), forceV d v f = f v
  | 0, v, f => rfl
  | d + 1, v, f => by
    have hs := fun cs f => forceLs_eq (β := β) (forceV_eq d) cs f
    cases v with
    | sl o sz l =>
      simp only [forceV]
      split <;> rfl
    | agg cs => simp only [forceV, hs]
    | tup cs => simp only [forceV, hs]
    | pro c => simp only [forceV, forceV_eq d]
    | io c => simp only [forceV, forceV_eq d]
    | _ => rfl
theorem forceT_eq : ∀ (t : List (Nat × V)) (f : List (Nat × V) → β), forceT t f = f t
  | [], f => rfl
  | (d, v) :: r, f => by simp only [forceT, forceV_eq, forceT_eq r]
theorem forceE_eq : ∀ (t : List V) (f : List V → β), forceE t f = f t
  | [], f => rfl
  | v :: r, f => by simp only [forceE, forceV_eq, forceE_eq r]
theorem forceS_eq : ∀ (t : List (Nat × Site)) (f : List (Nat × Site) → β), forceS t f = f t
  | [], f => rfl
  | (d, ⟨true, sz, es⟩) :: r, f => by simp only [forceS, forceS_eq r]
  | (d, ⟨false, sz, es⟩) :: r, f => by simp only [forceS, forceE_eq, forceS_eq r]
theorem forceSt_eq (st : St) (f : St → β) : forceSt st f = f st := by
  obtain ⟨t, σ, n⟩ := st
  simp only [forceSt, forceT_eq, forceS_eq]
def opsF (P : Program) (callH : CallH) (ops : Array Oper) (anns : List (Nat × OAnn)) : Nat → List Oper → St → Option St
  | _, [], st => some st
  | i, o :: r, st => (wantedV ops st.t o).bind fun b =>
    bif b then (stepOp P callH (annOf anns i) o st).bind (fun s => forceSt s (opsF P callH ops anns (i + 1) r)) else forceSt (unset o.dst st) (opsF P callH ops anns (i + 1) r)
theorem opsF_eq (ops : Array Oper) (anns : List (Nat × OAnn)) : ∀ (r : List Oper) (i : Nat) (st : St), opsF P callH ops anns i r st = opsE P callH ops anns i r st
  | [], i, st => rfl
  | o :: r, i, st => by
    simp only [opsF, opsE, forceSt_eq]
    have : (fun s => opsF P callH ops anns (i + 1) r s) = opsE P callH ops anns (i + 1) r := funext fun s => opsF_eq ops anns r (i + 1) s
    simp only [opsF_eq ops anns r]
def delAll (ks : List Nat) : List (Nat × V) → List (Nat × V)
  | [] => []
  | p :: r => bif ks.elem p.1 then delAll ks r else p :: delAll ks r
def killSites : List Nat → St → St
  | [], st => st
  | d :: r, ⟨t, σ, n⟩ => bif Nat.blt d n then (match look d σ with
    | none => killSites r ⟨t, σ, n⟩
    | some _ => killSites r (killRefs d ⟨t, del d σ, n⟩)) else killSites r ⟨t, σ, n⟩
def killT (ks : List Nat) : St → St
  | ⟨t, σ, n⟩ => killSites ks ⟨delAll ks t, σ, n⟩
theorem delAll_nil : ∀ t : List (Nat × V), delAll [] t = t
  | [] => rfl
  | p :: r => by
    simp only [delAll, List.elem_nil, cond_false]
    rw [delAll_nil r]
theorem delAll_cons (d : Nat) (r : List Nat) : ∀ t : List (Nat × V), delAll (d :: r) t = delAll r (del d t)
  | [] => rfl
  | p :: t => by
    simp only [delAll, del]
    have e : List.elem p.1 (d :: r) = (Nat.beq d p.1 || List.elem p.1 r) := by
      rw [List.elem_cons]
      congr 1
      cases h : Nat.beq d p.1 with
      | true => have := Nat.eq_of_beq_eq_true h; subst this; simp
      | false => have := Nat.ne_of_beq_eq_false h; simp; exact fun h => this h.symm
    rw [e]
    cases h : Nat.beq d p.1 with
    | true => simp only [Bool.true_or, cond_true]; exact delAll_cons d r t
    | false =>
      simp only [Bool.false_or, cond_false, delAll]
      rw [delAll_cons d r t]
theorem delAll_map (ks : List Nat) (f : V → V) : ∀ t : List (Nat × V), delAll ks (t.map fun p => (p.1, f p.2)) = (delAll ks t).map fun p => (p.1, f p.2)
  | [] => rfl
  | p :: t => by
    simp only [List.map_cons, delAll]
    cases ks.elem p.1 with
    | true => exact delAll_map ks f t
    | false => simp only [cond_false, List.map_cons, delAll_map ks f t]
theorem killT_eq : ∀ (ks : List Nat) (st : St), killT ks st = killAll ks st
  | [], ⟨t, σ, n⟩ => by simp only [killT, killSites, killAll, delAll_nil]
  | d :: r, ⟨t, σ, n⟩ => by
    simp only [killT, killSites, killAll, killF, delAll_cons]
    cases Nat.blt d n with
    | false => simp only [cond_false]; rw [← killT_eq r]; rfl
    | true =>
      simp only [cond_true]
      cases look d σ with
      | none => simp only; rw [← killT_eq r]; rfl
      | some y =>
        simp only
        rw [← killT_eq r]
        simp only [killRefs, killT, delAll_map]
theorem opsE_append (ops : Array Oper) (anns : List (Nat × OAnn)) : ∀ (a b : List Oper) (i : Nat) (st : St), opsE P callH ops anns i (a ++ b) st = (opsE P callH ops anns i a st).bind (opsE P callH ops anns (i + a.length) b)
  | [], b, i, st => rfl
  | o :: a, b, i, st => by
    simp only [List.cons_append, opsE, List.length_cons]
    cases wantedV ops st.t o with
    | none => rfl
    | some w =>
      simp only [Option.bind_some]
      have e : i + (a.length + 1) = i + 1 + a.length := by omega
      rw [e]
      cases w with
      | true =>
        simp only [cond_true]
        cases stepOp P callH (annOf anns i) o st with
        | none => rfl
        | some s => simp only [Option.bind_some]; exact opsE_append ops anns a b (i + 1) s
      | false =>
        simp only [cond_false]
        exact opsE_append ops anns a b (i + 1) _
/-- The operations from the i-th on, and what is no more spoken of behind them. -/
def reg (P : Program) (callH : CallH) (ops : Array Oper) (anns : List (Nat × OAnn)) (ks : List Nat) (i : Nat) (st : St) : Option St :=
  (opsE P callH ops anns i (ops.toList.drop i) st).map (killAll ks)
theorem regionE_reg {ks : List Nat} {anns : List (Nat × OAnn)} {ops : Array Oper} {st : St} : regionE P callH ⟨ks, anns⟩ ops false st = reg P callH ops anns ks 0 st := rfl
theorem drop_split {ops : Array Oper} {i m j : Nat} (hj : i + m = j) (hs : j ≤ ops.size) : ops.toList.drop i = (ops.toList.drop i).take m ++ ops.toList.drop j ∧ ((ops.toList.drop i).take m).length = m := by
  subst hj
  refine ⟨?_, by simp; omega⟩
  rw [← List.drop_drop]
  exact (List.take_append_drop m _).symm
theorem reg_adv {ops : Array Oper} {anns : List (Nat × OAnn)} {ks : List Nat} {i m j : Nat} {st st' : St} (h : opsF P callH ops anns i ((ops.toList.drop i).take m) st = some st') (hj : i + m = j) (hs : Nat.ble j ops.size = true) : reg P callH ops anns ks i st = reg P callH ops anns ks j st' := by
  unfold reg
  obtain ⟨e1, e2⟩ := drop_split hj (Nat.le_of_ble_eq_true hs)
  rw [opsF_eq] at h
  rw [e1, opsE_append, h, e2, hj]
  rfl
theorem bind_adv {ops : Array Oper} {anns : List (Nat × OAnn)} {ks : List Nat} {i m j : Nat} {X : Option St} {st' : St} (h : (X.bind fun s => forceSt s (opsF P callH ops anns i ((ops.toList.drop i).take m))) = some st') (hj : i + m = j) (hs : Nat.ble j ops.size = true) :
    X.bind (reg P callH ops anns ks i) = reg P callH ops anns ks j st' := by
  cases X with
  | none => cases h
  | some s =>
    simp only [Option.bind_some, forceSt_eq] at h ⊢
    exact reg_adv h hj hs
theorem reg_end {ops : Array Oper} {anns : List (Nat × OAnn)} {ks : List Nat} {i : Nat} {st st' : St} (h : (opsF P callH ops anns i (ops.toList.drop i) st).map (killT ks) = some st') : reg P callH ops anns ks i st = some st' := by
  rw [opsF_eq, show killT ks = killAll ks from funext (killT_eq ks)] at h
  exact h
theorem bind_end {ops : Array Oper} {anns : List (Nat × OAnn)} {ks : List Nat} {i : Nat} {X : Option St} {st' : St} (h : (X.bind fun s => forceSt s (opsF P callH ops anns i (ops.toList.drop i))).map (killT ks) = some st') : X.bind (reg P callH ops anns ks i) = some st' := by
  cases X with
  | none => cases h
  | some s =>
    simp only [Option.bind_some, forceSt_eq] at h ⊢
    exact reg_end h
theorem reg_pure {ops : Array Oper} {anns : List (Nat × OAnn)} {ks : List Nat} {i : Nat} {st : St} {o : Oper} {r : List Oper} {x : Option α} {w : α → V} (ho : ops.toList.drop i = o :: r) (hr : ops.toList.drop (i + 1) = r) (hw : wantedV ops st.t o = some true)
    (hp : (isPure (annOf anns i) o && !isAlloc o) = true) (hv : pureOp P callH st.σ (opd P st.t []) o = x.map w) :
    reg P callH ops anns ks i st = x.bind fun a => (finish (annOf anns i) o.dst (w a) st).bind (reg P callH ops anns ks (i + 1)) := by
  unfold reg
  rw [ho]
  simp only [opsE, hw, Option.bind_some, cond_true, stepOp, hp, hv]
  cases x with
  | none => rfl
  | some a =>
    simp only [Option.map_some, Option.bind_some]
    cases finish (annOf anns i) o.dst (w a) st with
    | none => rfl
    | some st' => simp only [Option.bind_some, reg, hr]
theorem reg_eff {ops : Array Oper} {anns : List (Nat × OAnn)} {ks : List Nat} {i : Nat} {st : St} {o : Oper} {r : List Oper} {x : Option α} {w : α → V × St} (ho : ops.toList.drop i = o :: r) (hr : ops.toList.drop (i + 1) = r) (hw : wantedV ops st.t o = some true)
    (hp : (isPure (annOf anns i) o && !isAlloc o) = false) (hv : effOp P callH (annOf anns i) st o = x.map w) :
    reg P callH ops anns ks i st = x.bind fun a => (finish (annOf anns i) o.dst (w a).1 (w a).2).bind (reg P callH ops anns ks (i + 1)) := by
  unfold reg
  rw [ho]
  simp only [opsE, hw, Option.bind_some, cond_true, stepOp, hp, cond_false, hv]
  cases x with
  | none => rfl
  | some a =>
    simp only [Option.map_some, Option.bind_some]
    cases finish (annOf anns i) o.dst (w a).1 (w a).2 with
    | none => rfl
    | some st' => simp only [Option.bind_some, reg, hr]
def prefixF (P : Program) (callH : CallH) (ops : Array Oper) (anns : List (Nat × OAnn)) (σ : List (Nat × Site)) (n : Nat) : Nat → List Oper → List (Nat × V) → Option (List (Nat × V))
  | _, [], t => some t
  | i, o :: r, t => (wantedV ops t o).bind fun b => match o.dst with
    | none => none
    | some d => bif Nat.blt d n then (bif b then (pureOp P callH σ (opd P t []) o).bind fun v => forceT (put d (fit (annOf anns i).keep v) t) (prefixF P callH ops anns σ n (i + 1) r)
      else forceT (put d (.tup []) t) (prefixF P callH ops anns σ n (i + 1) r)) else none
theorem prefixF_eq (ops : Array Oper) (anns : List (Nat × OAnn)) (σ : List (Nat × Site)) (n : Nat) : ∀ (r : List Oper) (i : Nat) (t : List (Nat × V)), prefixF P callH ops anns σ n i r t = prefixE P callH ops anns σ n i r t
  | [], i, t => rfl
  | o :: r, i, t => by
    simp only [prefixF, prefixE, forceT_eq, prefixF_eq ops anns σ n r]
    cases wantedV ops t o with
    | none => rfl
    | some b => cases o.dst <;> rfl
theorem prefixE_append (ops : Array Oper) (anns : List (Nat × OAnn)) (σ : List (Nat × Site)) (n : Nat) : ∀ (a b : List Oper) (i : Nat) (t : List (Nat × V)), prefixE P callH ops anns σ n i (a ++ b) t = (prefixE P callH ops anns σ n i a t).bind (prefixE P callH ops anns σ n (i + a.length) b)
  | [], b, i, t => rfl
  | o :: a, b, i, t => by
    simp only [List.cons_append, prefixE, List.length_cons]
    cases wantedV ops t o with
    | none => rfl
    | some w =>
      simp only [Option.bind_some]
      have e : i + (a.length + 1) = i + 1 + a.length := by omega
      rw [e]
      cases o.dst with
      | none => rfl
      | some d =>
        simp only
        cases Nat.blt d n with
        | false => rfl
        | true =>
          cases w with
          | true =>
            simp only [cond_true]
            cases pureOp P callH σ (opd P t []) o with
            | none => rfl
            | some v => simp only [Option.bind_some]; exact prefixE_append ops anns σ n a b (i + 1) _
          | false =>
            simp only [cond_false, cond_true]
            exact prefixE_append ops anns σ n a b (i + 1) _
/-- The same for the part of a region that has no order. -/
def regp (P : Program) (callH : CallH) (ops : Array Oper) (anns : List (Nat × OAnn)) (ks : List Nat) (p : Nat) (dk : Bool) (σ : List (Nat × Site)) (n : Nat) (i : Nat) (t : List (Nat × V)) : Option St :=
  (prefixE P callH ops anns σ n i ((ops.toList.take p).drop i) t).bind fun t => (install ((ops.toList.take p).filterMap (·.dst)) ⟨t, σ, n⟩).bind fun s => bif (dk && ghostOk P ops p (ghostL anns)) || ((ghostL anns).isEmpty && lateOk P ops anns p t s.t) then (ghosts P callH ops anns (ghostL anns) s).bind (reg P callH ops anns ks p) else none
theorem unsetAll_eq : ∀ (l : List Oper) (st : St), unsetAll l st = killAll (l.filterMap (·.dst)) st
  | [], st => rfl
  | o :: r, st => by
    simp only [unsetAll]
    cases hd : o.dst with
    | none =>
      simp only [List.filterMap_cons, hd]
      exact unsetAll_eq r st
    | some d =>
      simp only [List.filterMap_cons, hd]
      obtain ⟨t, σ, n⟩ := st
      simp only [killAll]
      rw [show killF d t σ n = killOne d ⟨t, σ, n⟩ from killF_eq d ⟨t, σ, n⟩]
      exact unsetAll_eq r _
theorem regionE_regp {ks : List Nat} {anns : List (Nat × OAnn)} {ops : Array Oper} {st : St} {p : Nat} {dk : Bool} {t : List (Nat × V)} {σ : List (Nat × Site)} {n : Nat} (hna : hasA anns = false) (hp : prefixLen anns 0 ops.toList = p) (hd : drawOk ops p = dk) (hu : killT ((ops.toList.take p).filterMap (·.dst)) st = ⟨t, σ, n⟩) :
    regionE P callH ⟨ks, anns⟩ ops true st = regp P callH ops anns ks p dk σ n 0 t := by
  subst hp
  rw [killT_eq, ← unsetAll_eq] at hu
  unfold regionE regp reg
  simp only [cond_true, hna, cond_false, hd, List.drop_zero, hu]
  cases prefixE P callH ops anns σ n 0 (ops.toList.take (prefixLen anns 0 ops.toList)) t with
  | none => rfl
  | some t =>
    simp only [Option.bind_some]
    cases install ((ops.toList.take (prefixLen anns 0 ops.toList)).filterMap (·.dst)) ⟨t, σ, n⟩ with
    | none => rfl
    | some s2 =>
      simp only [Option.bind_some]
      cases ((dk && ghostOk P ops (prefixLen anns 0 ops.toList) (ghostL anns)) || ((ghostL anns).isEmpty && lateOk P ops anns (prefixLen anns 0 ops.toList) t s2.t)) with
      | false => rfl
      | true =>
        simp only [cond_true]
        cases ghosts P callH ops anns (ghostL anns) s2 <;> rfl
theorem dropp_split {ops : Array Oper} {p i m j : Nat} (hj : i + m = j) (hs : j ≤ p) (hp : p ≤ ops.size) : (ops.toList.take p).drop i = ((ops.toList.take p).drop i).take m ++ (ops.toList.take p).drop j ∧ (((ops.toList.take p).drop i).take m).length = m := by
  subst hj
  refine ⟨?_, by simp; omega⟩
  rw [← List.drop_drop]
  exact (List.take_append_drop m _).symm
section
variable {ops : Array Oper} {anns : List (Nat × OAnn)} {ks : List Nat} {p n i m j : Nat} {dk : Bool} {σ : List (Nat × Site)} {t t' : List (Nat × V)} {st' : St}
theorem regp_adv (h : prefixF P callH ops anns σ n i (((ops.toList.take p).drop i).take m) t = some t') (hj : i + m = j) (hs : (Nat.ble j p && Nat.ble p ops.size) = true) : regp P callH ops anns ks p dk σ n i t = regp P callH ops anns ks p dk σ n j t' := by
  simp only [Bool.and_eq_true] at hs
  obtain ⟨e1, e2⟩ := dropp_split hj (Nat.le_of_ble_eq_true hs.1) (Nat.le_of_ble_eq_true hs.2)
  unfold regp
  rw [prefixF_eq] at h
  rw [e1, prefixE_append, h, e2, hj]
  rfl
theorem putp_adv (h : forceT t (prefixF P callH ops anns σ n i (((ops.toList.take p).drop i).take m)) = some t') (hj : i + m = j) (hs : (Nat.ble j p && Nat.ble p ops.size) = true) : regp P callH ops anns ks p dk σ n i t = regp P callH ops anns ks p dk σ n j t' := by
  rw [forceT_eq] at h
  exact regp_adv h hj hs
theorem regp_end (h : (forceT t fun t => (prefixF P callH ops anns σ n i ((ops.toList.take p).drop i) t).bind fun t => (install ((ops.toList.take p).filterMap (·.dst)) ⟨t, σ, n⟩).bind fun s => bif (dk && ghostOk P ops p (ghostL anns)) || ((ghostL anns).isEmpty && lateOk P ops anns p t s.t) then ((ghosts P callH ops anns (ghostL anns) s).bind fun s => forceSt s (opsF P callH ops anns p (ops.toList.drop p))).map (killT ks) else none) = some st') : regp P callH ops anns ks p dk σ n i t = some st' := by
  rw [forceT_eq] at h
  unfold regp
  rw [← h, prefixF_eq, show killT ks = killAll ks from funext (killT_eq ks)]
  simp only [forceSt_eq]
  cases prefixE P callH ops anns σ n i ((ops.toList.take p).drop i) t with
  | none => rfl
  | some t =>
    simp only [Option.bind_some]
    cases install ((ops.toList.take p).filterMap (·.dst)) ⟨t, σ, n⟩ with
    | none => rfl
    | some s =>
      simp only [Option.bind_some]
      cases ((dk && ghostOk P ops p (ghostL anns)) || ((ghostL anns).isEmpty && lateOk P ops anns p t s.t)) with
      | false => rfl
      | true =>
        simp only [cond_true]
        cases ghosts P callH ops anns (ghostL anns) s with
        | none => rfl
        | some s => simp only [Option.bind_some, opsF_eq]; rfl
theorem regp_pure {o : Oper} {r : List Oper} {d : Nat} {x : Option α} {w : α → V} (ho : (ops.toList.take p).drop i = o :: r) (hr : (ops.toList.take p).drop (i + 1) = r)
    (hw : wantedV ops t o = some true) (hd : o.dst = some d) (hn : Nat.blt d n = true) (hv : pureOp P callH σ (opd P t []) o = x.map w) :
    regp P callH ops anns ks p dk σ n i t = x.bind fun a => regp P callH ops anns ks p dk σ n (i + 1) (put d (fit (annOf anns i).keep (w a)) t) := by
  unfold regp
  rw [ho]
  simp only [prefixE, hw, Option.bind_some, hd, hn, cond_true, hv]
  cases x with
  | none => rfl
  | some a => simp only [Option.map_some, Option.bind_some, hr]
end
def execK (P : Program) (callH : CallH) (anns : List (Nat × RAnn)) (n : Nat) (c : Code) (st : St) (K : X × St → Option β) : Option β := (exec P callH anns n c st).bind K
def blkK (P : Program) (callH : CallH) (anns : List (Nat × RAnn)) (n : Nat) (id : Nat) (rest : Code) (K : X × St → Option β) : X × St → Option β
  | (.normal, s) => execK P callH anns n rest s K
  | (.exit i, s) => bif Nat.beq i id then execK P callH anns n rest s K else K (.exit i, s)
  | (.ret, s) => K (.ret, s)
def loopK (P : Program) (callH : CallH) (anns : List (Nat × RAnn)) (n : Nat) (body : Code) (m : Nat) (K : X × St → Option β) : X × St → Option β
  | (.normal, s) => (iter (exec P callH anns n body) m s).bind K
  | (.exit i, s) => K (.exit i, s)
  | (.ret, s) => K (.ret, s)
variable {anns : List (Nat × RAnn)} {n : Nat} {st : St} {K : X × St → Option β}
theorem k_assoc {a b c : Code} : execK P callH anns n (.seq (.seq a b) c) st K = execK P callH anns n (.seq a (.seq b c)) st K := by
  simp only [execK, exec]
  cases exec P callH anns n a st with
  | none => rfl
  | some r => obtain ⟨x, s⟩ := r; cases x <;> rfl
theorem k_region {id : Nat} {ops : Array Oper} {dr : Bool} {rest : Code} {ann : RAnn} {x : Option α} {g : α → St} (ha : (look id anns).getD {} = ann) (h : regionE P callH ann ops dr st = x.map g) :
    execK P callH anns n (.seq (.region id ops dr) rest) st K = x.bind fun o => execK P callH anns n rest (g o) K := by
  simp only [execK, exec, ha, h]
  cases x <;> rfl
theorem k_region0 {id : Nat} {ops : Array Oper} {dr : Bool} {rest : Code} {ann : RAnn} {st' : St} (ha : (look id anns).getD {} = ann) (h : regionE P callH ann ops dr st = some st') :
    execK P callH anns n (.seq (.region id ops dr) rest) st K = execK P callH anns n rest st' K := by
  simp only [execK, exec, ha, h]
  rfl
theorem k_lregion {id : Nat} {ops : Array Oper} {dr : Bool} {ann : RAnn} {x : Option α} {g : α → St} (ha : (look id anns).getD {} = ann) (h : regionE P callH ann ops dr st = x.map g) :
    execK P callH anns n (.region id ops dr) st K = x.bind fun o => K (.normal, g o) := by
  simp only [execK, exec, ha, h]
  cases x <;> rfl
theorem k_lregion0 {id : Nat} {ops : Array Oper} {dr : Bool} {ann : RAnn} {st' : St} (ha : (look id anns).getD {} = ann) (h : regionE P callH ann ops dr st = some st') :
    execK P callH anns n (.region id ops dr) st K = K (.normal, st') := by
  simp only [execK, exec, ha, h]
  rfl
theorem k_skip {rest : Code} : execK P callH anns n (.seq .skip rest) st K = execK P callH anns n rest st K := rfl
theorem k_lskip : execK P callH anns n .skip st K = K (.normal, st) := rfl
theorem k_ret {rest : Code} : execK P callH anns n (.seq .ret rest) st K = K (.ret, st) := rfl
theorem k_lret : execK P callH anns n .ret st K = K (.ret, st) := rfl
theorem k_exit {i : Nat} {rest : Code} : execK P callH anns n (.seq (.exit i) rest) st K = K (.exit i, st) := rfl
theorem k_cond {c : Operand} {a b rest : Code} {t : Bool} {st' : St} (h : opd P st.t [] 0 c = some (.bool t)) (hk : killCond anns c st = st') :
    execK P callH anns n (.seq (.cond c a b) rest) st K = bif t then execK P callH anns n (.seq a rest) st' K else execK P callH anns n (.seq b rest) st' K := by
  simp only [execK, exec, h, Option.bind_some, hk]
  cases t <;> rfl
theorem k_lcond {c : Operand} {a b : Code} {t : Bool} {st' : St} (h : opd P st.t [] 0 c = some (.bool t)) (hk : killCond anns c st = st') :
    execK P callH anns n (.cond c a b) st K = bif t then execK P callH anns n a st' K else execK P callH anns n b st' K := by
  simp only [execK, exec, h, Option.bind_some, hk]
  cases t <;> rfl
theorem k_blockD {id : Nat} {c rest : Code} {st' : St} (h : dullBlk anns id st = st') : execK P callH anns n (.seq (.block id c) rest) st K = execK P callH anns n c st' (blkK P callH anns n id rest K) := by
  simp only [execK, exec, h]
  cases exec P callH anns n c st' with
  | none => rfl
  | some r =>
    obtain ⟨x, s⟩ := r
    cases x with
    | normal => rfl
    | ret => rfl
    | exit i =>
      simp only [Option.map_some, Option.bind_some, blkK]
      cases Nat.beq i id <;> rfl
theorem dull_none {id : Nat} (h : (look (200000 + id) anns).isSome = false) : dullBlk anns id st = st := by
  unfold dullBlk
  cases hl : look (200000 + id) anns with
  | none => rfl
  | some r => rw [hl] at h; cases h
theorem k_block {id : Nat} {c rest : Code} (h : (look (200000 + id) anns).isSome = false) : execK P callH anns n (.seq (.block id c) rest) st K = execK P callH anns n c st (blkK P callH anns n id rest K) := k_blockD (dull_none h)
theorem k_loop {body : Code} : execK P callH anns n (.loop body) st K = (iter (exec P callH anns n body) n st).bind K := rfl
theorem k_round {body : Code} {m : Nat} : (iter (exec P callH anns n body) (m + 1) st).bind K = execK P callH anns n body st (loopK P callH anns n body m K) := by
  simp only [iter, execK]
  cases exec P callH anns n body st with
  | none => rfl
  | some r => obtain ⟨x, s⟩ := r; cases x <;> rfl
theorem blk_normal {id : Nat} {rest : Code} : blkK P callH anns n id rest K (.normal, st) = execK P callH anns n rest st K := rfl
theorem blk_ret {id : Nat} {rest : Code} : blkK P callH anns n id rest K (.ret, st) = K (.ret, st) := rfl
theorem blk_exit {id : Nat} {rest : Code} : blkK P callH anns n id rest K (.exit id, st) = execK P callH anns n rest st K := by simp [blkK]
theorem loop_normal {body : Code} {m : Nat} : loopK P callH anns n body m K (.normal, st) = (iter (exec P callH anns n body) m st).bind K := rfl
theorem loop_ret {body : Code} {m : Nat} : loopK P callH anns n body m K (.ret, st) = K (.ret, st) := rfl
theorem loop_exit {body : Code} {m i : Nat} : loopK P callH anns n body m K (.exit i, st) = K (.exit i, st) := rfl
/-- At a function's end. -/
def endK (P : Program) (n : Nat) (args : List V) (res : List (Nat × Nat)) (rvs : List ResultVar) : X × St → Option (V × List V)
  | (.exit _, _) => none
  | (.normal, s) => (outsE n 0 args s).bind fun outs => (resultsE P res 0 rvs outs.2).map fun x => (tupOf x.1, outs.1)
  | (.ret, s) => (outsE n 0 args s).bind fun outs => (resultsE P res 0 rvs outs.2).map fun x => (tupOf x.1, outs.1)
theorem evF_succ {an : FuncId → FAnn} {ext : ExtH} {k : Nat} {f : FuncId} {args : List V} {fn : Func} {c : Code} {N : Nat} {regs : List (Nat × RAnn)} {kl : List Nat} {res : List (Nat × Nat)} (hx : ext f args = none) (hf : P.funcs[f]? = some fn) (hb : fn.body = some c) (hn : fn.name ≠ "runtime.NumGoroutine")
    (ha : args.all V.argOk = true) (hr : an f = ⟨regs, kl, res⟩) (hN : max fn.ntmps args.length = N) :
    evF P an ext (k + 1) f args = execK P (evF P an ext k) regs k c (initSt N 0 args) (endK P N args res fn.results.toList) := by
  simp only [evF, hx, hf, hb, execK, hr, hN]
  rw [if_pos ⟨hn, ha⟩]
  cases exec P (evF P an ext k) regs k c (initSt N 0 args) with
  | none => rfl
  | some r => obtain ⟨x, s⟩ := r; cases x <;> rfl
theorem evF_ext {P : Program} {an : FuncId → FAnn} {ext : ExtH} {k : Nat} {f : FuncId} {args : List V} {r : Option (V × List V)} (h : ext f args = some r) : evF P an ext (k + 1) f args = r := by
  simp only [evF, h]
/-- slices.Reverse at []int; of no longer lists than a number can tell. -/
def revInt (l : List Int) : Option (List Int) := bif Nat.ble l.length 9223372036854775807 then some l.reverse else none
def idx (l : List α) (i : Int) : Option α := if 0 ≤ i then l[i.toNat]? else none
theorem indexAddr_map {e : α → V} {σ : List (Nat × Site)} {t et : TypeId} {o sz : Nat} {k : IntKind} {l : List α} {i : Int} (hu : P.underlying t = some (.slice et)) (hs : P.cellsOf et = sz) (h0 : sz ≠ 0) :
    indexAddrV P σ t (.sl o sz (l.map e)) (.int k i) = (idx l i).map fun x => .pro (e x) := by
  unfold indexAddrV idx
  rw [hu]
  simp only
  rw [if_pos ⟨hs.symm, h0⟩, List.getElem?_map]
  split
  · cases l[i.toNat]? <;> rfl
  · rfl
def idxS (s : List UInt8) (i : Int) : Option Int := if 0 ≤ i then (s[i.toNat]?).map fun b => (b.toNat : Int) else none
def cut (l : List α) (lo hi : Int) : Option (List α) := if 0 ≤ lo ∧ lo ≤ hi ∧ hi ≤ (l.length : Int) then some ((l.take hi.toNat).drop lo.toNat) else none
theorem sliceV_gen {e : α → V} {t et : TypeId} {o sz : Nat} {l : List α} {a b : Option V} {lo hi : Int} (hu : P.underlying t = some (.slice et)) (hs : P.cellsOf et = sz) (h0 : sz ≠ 0) (ha : bound 0 a = some lo) (hb : bound (l.map e).length b = some hi) :
    sliceV P t (.sl o sz (l.map e)) a b none = (cut l lo hi).map fun m => .sl 0 sz (m.map e) := by
  unfold sliceV cut
  simp only [Option.isSome_none, Bool.false_eq_true, if_false, hu]
  rw [if_pos ⟨hs.symm, by rw [hs]; exact h0⟩, ha, Option.bind_some, hb, Option.bind_some]
  simp only [List.length_map]
  split
  · simp only [Option.map_some, List.map_drop, List.map_take]
  · rfl
def cat (a b : List UInt8) : Option (List UInt8) := if a.length + b.length ≤ maxList then some (a ++ b) else none
theorem strAdd {a b : List UInt8} : strBin .add a b = (cat a b).map V.str := by
  show (if a.length + b.length ≤ maxList then some (V.str (a ++ b)) else none) = _
  unfold cat
  split <;> rfl
theorem call_pure {f : FuncId} {ys : List V} {l : Bool} {x : Option α} {w : α → V} (h : callH f ys = x.map fun a => (w a, [])) (hp : l = false ∨ ∀ a, plain (w a) = true) :
    ((callH f ys).bind fun r => if r.2.isEmpty && (!l || plain r.1) then some r.1 else none) = x.map w := by
  rw [h]
  cases x with
  | none => rfl
  | some a =>
    simp only [Option.map_some, Option.bind_some, List.isEmpty_nil, Bool.true_and]
    rcases hp with rfl | hp
    · rfl
    · rw [hp a]; simp
theorem call_fn {σ : List (Nat × Site)} {args ys : List V} {l : Bool} {f : FuncId} {x : Option α} {w : α → V} (ha : argsPure σ args = some (ys, l)) (h : callH f ys = x.map fun a => (w a, [])) (hp : l = false ∨ ∀ a, plain (w a) = true) :
    ((argsPure σ args).bind fun xs => (callH f xs.1).bind fun r => if r.2.isEmpty && (!xs.2 || plain r.1) then some r.1 else none) = x.map w := by
  rw [ha]
  exact call_pure h hp
theorem some_bind {a : α} {f : α → Option β} : (some a).bind f = f a := rfl
theorem bind_self {x : Option α} {K : α → Option β} {g : α → β} (h : ∀ a, K a = some (g a)) : x.bind K = x.map g := by
  cases x with
  | none => rfl
  | some a => exact h a
theorem len_map {e : α → V} {t et : TypeId} {o sz : Nat} {l : List α} (hu : P.underlying t = some (.slice et)) : lenV P t (.sl o sz (l.map e)) = (some ()).map fun _ => .int .i64 (l.length : Int) := by
  unfold lenV
  rw [hu]
  simp
def app (l m : List α) : Option (List α) := if l.length + m.length ≤ maxList then some (l ++ m) else none
theorem append_own {st : St} {tk : List Nat} {s x : Operand} {T T2 : TypeId} {o sz : Nat} {l m : List α} {e : α → V} (ha : opd P st.t tk T s = some (.sl o sz (l.map e))) (hb : opd P st.t [] T2 x = some (.sl 0 sz (m.map e))) (hty : appendTy P T T2 = true)
    (hsl : isSliceT P T2 = true) (hsz : elemSz P T = sz) (ho : o = 1 ∨ o = 2) :
    appendE P st tk ⟨.builtin .append, #[s, x], #[T, T2]⟩ = (app l m).map fun v => (.sl o sz (v.map e), { st with t := AE.untake tk st.t }) := by
  unfold appendE app
  simp only [ha, hb, Option.bind_some, hty, cond_true, hsl, srcE, hsz, true_or, if_true, List.length_map]
  by_cases h : l.length + m.length ≤ maxList
  · rw [if_pos ⟨ho, trivial, h⟩, if_pos h]
    simp
  · rw [if_neg (fun hh => h hh.2.2), if_neg h]
    rfl
section
variable {σ : List (Nat × Site)} {ρ : TypeId → Operand → Option V} {o : Oper}
theorem p_index {e : α → V} {t et : TypeId} {q sz : Nat} {k : IntKind} {l : List α} {n : Int} {x i : Operand} (hop : o.op = .indexAddr t x i) (hx : ρ t x = some (.sl q sz (l.map e))) (hi : ρ 0 i = some (.int k n)) (hu : P.underlying t = some (.slice et)) (hs : P.cellsOf et = sz) (h0 : sz ≠ 0) :
    pureOp P callH σ ρ o = (idx l n).map fun x => .pro (e x) := by
  simp only [pureOp, hop, hx, hi, Option.bind_some]
  exact indexAddr_map hu hs h0
theorem p_len {e : α → V} {t et : TypeId} {q sz : Nat} {l : List α} {c : Call} {x : Operand} (hop : o.op = .call c) (hc : c.callee = .builtin .len) (ha : c.args.toList = [x]) (h1 : c.argTypes.size = 1) (ht : argType c.argTypes 0 = t) (hx : ρ t x = some (.sl q sz (l.map e))) (hu : P.underlying t = some (.slice et)) :
    pureOp P callH σ ρ o = (some ()).map fun _ => .int .i64 (l.length : Int) := by
  simp only [pureOp, hop, hc, ha, h1, if_true, ht, hx, Option.bind_some]
  exact len_map hu
def optV (ρ : TypeId → Operand → Option V) : Option Operand → Option (Option V)
  | none => some none
  | some l => (ρ 0 l).map some
theorem p_cut {t : TypeId} {v : V} {x : Operand} {lo hi : Option Operand} {a b : Option V} (hop : o.op = .slice t x lo hi none) (hx : ρ t x = some v) (ha : optV ρ lo = some a) (hb : optV ρ hi = some b) : pureOp P callH σ ρ o = sliceV P t v a b none := by
  simp only [pureOp, hop, hx, Option.bind_some]
  cases lo with
  | none =>
    obtain rfl := Option.some.inj ha
    cases hi with
    | none => obtain rfl := Option.some.inj hb; rfl
    | some h =>
      obtain ⟨u, hu, rfl⟩ := map_some hb
      simp only [hu]; rfl
  | some l =>
    obtain ⟨u, hu, rfl⟩ := map_some ha
    cases hi with
    | none => obtain rfl := Option.some.inj hb; simp only [hu]; rfl
    | some h =>
      obtain ⟨u2, hu2, rfl⟩ := map_some hb
      simp only [hu, hu2]; rfl
theorem p_slice {e : α → V} {t et : TypeId} {q sz : Nat} {l : List α} {x : Operand} {lo hi : Option Operand} {a b : Option V} {m n : Int} (hop : o.op = .slice t x lo hi none) (hx : ρ t x = some (.sl q sz (l.map e)))
    (ha : optV ρ lo = some a) (hb : optV ρ hi = some b) (h1 : bound 0 a = some m) (h2 : bound (l.map e).length b = some n) (hu : P.underlying t = some (.slice et)) (hs : P.cellsOf et = sz) (h0 : sz ≠ 0) :
    pureOp P callH σ ρ o = (cut l m n).map fun m => .sl 0 sz (m.map e) := by
  rw [p_cut hop hx ha hb]
  exact sliceV_gen hu hs h0 h1 h2
theorem p_cat {t t2 : TypeId} {x y : Operand} {a b : List UInt8} (hop : o.op = .binOp .add t x y t2) (hx : ρ t x = some (.str a)) (hy : ρ t2 y = some (.str b)) : pureOp P callH σ ρ o = (cat a b).map V.str := by
  simp only [pureOp, hop, hx, hy, Option.bind_some]
  exact strAdd
theorem p_call {c : Call} {f : Operand} {fid : FuncId} {first caps vs ys : List V} {l : Bool} {x : Option α} {w : α → V} (hop : o.op = .call c) (hc : c.callee = .value f) (hf : ρ 0 f = some (.fn fid first caps)) (hv : opds ρ c.argTypes 0 c.args.toList = some vs)
    (ha : argsPure σ (first ++ vs ++ caps) = some (ys, l)) (h : callH fid ys = x.map fun a => (w a, [])) (hp : l = false ∨ ∀ a, plain (w a) = true) : pureOp P callH σ ρ o = x.map w := by
  simp only [pureOp, hop, hc, hf, hv, Option.bind_some]
  exact call_fn ha h hp
end
theorem p_app {st : St} {oa : OAnn} {o : Oper} {c : Call} {s x : Operand} {T T2 : TypeId} {q sz : Nat} {l m : List α} {e : α → V} (hop : o.op = .call c) (hc : c.callee = .builtin .append) (hargs : c.args.toList = [s, x]) (hts : c.argTypes.toList = [T, T2])
    (htk : Nat.blt 1 oa.tk.length = false) (ha : opd P st.t oa.tk T s = some (.sl q sz (l.map e))) (hb : opd P st.t [] T2 x = some (.sl 0 sz (m.map e))) (hty : appendTy P T T2 = true) (hsl : isSliceT P T2 = true) (hsz : elemSz P T = sz) (ho : q = 1 ∨ q = 2) :
    effOp P callH oa st o = (app l m).map fun v => (.sl q sz (v.map e), { st with t := AE.untake oa.tk st.t }) := by
  have h1 : c = ⟨.builtin .append, #[s, x], #[T, T2]⟩ := by
    cases c with
    | mk callee args argTypes =>
      simp only at hc hargs hts
      subst hc
      rw [show args = #[s, x] from by rw [← Array.toList_inj]; exact hargs, show argTypes = #[T, T2] from by rw [← Array.toList_inj]; exact hts]
  subst h1
  unfold effOp
  rw [htk]
  simp only [cond_false, hop]
  exact append_own ha hb hty hsl hsz ho
theorem bindX {x : Option α} {K1 : α → Option β} {K2 : α → Option γ} {g : γ → β} (h : ∀ a, x = some a → K1 a = (K2 a).map g) : x.bind K1 = (x.bind K2).map g := by
  cases x with
  | none => rfl
  | some a => exact h a rfl
/-- How far a list is taken. -/
def upTo (l : List α) (h : Int) : Option Nat := if 0 ≤ h ∧ h ≤ (l.length : Int) then some h.toNat else none
section
variable {σ : List (Nat × Site)} {ρ : TypeId → Operand → Option V} {o : Oper}
end
def inB (n : Nat) (i : Int) : Option Unit := if 0 ≤ i ∧ i < (n : Int) then some () else none
/-- An array has as many elements as before. -/
def sameLen (l r : List α) : Option (List α) := if r.length = l.length then some r else none
def quoI (k : IntKind) (a b : Int) : Option Int := if b = 0 then none else some (k.wrap (a.tdiv b))
end
def cL : Code → Code
  | .seq a _ => a
  | .cond _ a _ => a
  | .block _ c => c
  | .loop c => c
  | .scope c => c
  | c => c
def cR : Code → Code
  | .seq _ b => b
  | .cond _ _ b => b
  | c => c
def cO : Code → Array Oper
  | .region _ o _ => o
  | _ => #[]
def cB (f : Func) : Code := match f.body with | some c => c | none => .skip
theorem ra {P : Program} {callH : CallH} {ops : Array Oper} {anns : List (Nat × OAnn)} {ks : List Nat} {i : Nat} {st : St} {r : Option St} (m j : Nat) (st' : St) (h : opsF P callH ops anns i ((ops.toList.drop i).take m) st = some st') (hj : i + m = j) (hs : Nat.ble j ops.size = true)
    (k : reg P callH ops anns ks j st' = r) : reg P callH ops anns ks i st = r := (reg_adv h hj hs).trans k
theorem ba {P : Program} {callH : CallH} {ops : Array Oper} {anns : List (Nat × OAnn)} {ks : List Nat} {i : Nat} {X : Option St} {r : Option St} (m j : Nat) (st' : St) (h : (X.bind fun s => forceSt s (opsF P callH ops anns i ((ops.toList.drop i).take m))) = some st') (hj : i + m = j) (hs : Nat.ble j ops.size = true)
    (k : reg P callH ops anns ks j st' = r) : X.bind (reg P callH ops anns ks i) = r := (bind_adv h hj hs).trans k
theorem et {α : Sort _} {a b c : α} (h : a = b) (k : b = c) : a = c := h.trans k
theorem rE {P : Program} {callH : CallH} {ks : List Nat} {anns : List (Nat × OAnn)} {ops : Array Oper} {st st' : St} (h : (opsF P callH ops anns 0 (ops.toList.drop 0) st).map (killT ks) = some st') : regionE P callH ⟨ks, anns⟩ ops false st = some st' := regionE_reg.trans (reg_end h)
/-- Something empty. -/
def emptyArg : List V → Bool
  | [.sl 0 _ []] => true
  | _ => false
theorem emptyArg_eq {args : List V} (h : emptyArg args = true) : ∃ sz, args = [.sl 0 sz []] := by
  unfold emptyArg at h
  split at h
  · exact ⟨_, rfl⟩
  · cases h
def wfI (k : IntKind) (n : Int) : Prop := (Lit.int k n).wf = true
def wfS (s : List UInt8) : Prop := s.length ≤ maxLen
def wfT {α : Type} (_ : α) : Prop := True
def wfL {α : Type} (wf : α → Prop) (l : List α) : Prop := l.length ≤ maxLen ∧ ∀ a ∈ l, wf a
section
variable {P : Program} {G : Glo} {callH : CallH} {α : Type} {σ : List (Nat × Site)} {ρ : TypeId → Operand → Option V} {o : Oper}
theorem p_convBS {src dst e : TypeId} {x : Operand} {l : List Int} (hop : o.op = .convert src dst x) (hx : ρ src x = some (.sl 0 1 (l.map (V.int .u8)))) (hs : P.underlying src = some (.slice e)) (hd : P.underlying dst = some .string) (he : P.underlying e = some (.int .u8)) :
    pureOp P callH σ ρ o = (some ()).map fun _ => .str (strB l) := by
  simp only [pureOp, hop, hx, Option.bind_some, newBytesV, convV, hs, hd, he, byteInts_map, Option.map_some]
/-- So many times the same. -/
def mkN (z : α) (n : Int) : Option (List α) := if 0 ≤ n ∧ n ≤ (maxList : Int) then some (List.replicate n.toNat z) else none
end
def repS (s : List UInt8) (n : Int) : Option (List UInt8) := if 0 ≤ n ∧ n ≤ 1000000 ∧ s.length ≤ 1000000 then some (List.replicate n.toNat s).flatten else none
def extStrRep : List V → Option (V × List V)
  | [.str s, .int .i64 n] => (repS s n).map fun r => (.str r, [])
  | _ => none
def joinS (xs : List (List UInt8)) (sep : List UInt8) : Option (List UInt8) := if xs.length ≤ 1000000 ∧ (sep.intercalate xs).length ≤ 140737488355328 then some (sep.intercalate xs) else none
/-- How texts stand to each other, byte by byte. -/
def cmpB : List UInt8 → List UInt8 → Int
  | [], [] => 0
  | [], _ :: _ => -1
  | _ :: _, [] => 1
  | a :: x, b :: y => if a < b then -1 else if b < a then 1 else cmpB x y
def repL (l : List (List UInt8)) (n : Int) : Option (List (List UInt8)) := match l with
  | [s] => if 1 ≤ n ∧ n ≤ 1000000 then some (List.replicate n.toNat s) else none
  | _ => none
end Go.AE

namespace Go.AE
set_option linter.unusedSimpArgs false
set_option linter.unusedVariables false
section
variable {P : Program} {G : Glo} {callH : CallH} {α β γ : Type} {anns : List (Nat × RAnn)} {n : Nat} {st : St} {K : X × St → Option β} {id : Nat} {ops : Array Oper} {rest : Code}
/-- A region that is looked up and comes to a state at sight. -/
theorem kr (st' : St) {r : Option β} (h : (opsF P callH ops ((look id anns).getD {}).ops 0 (ops.toList.drop 0) st).map (killT ((look id anns).getD {}).kill) = some st') (k : execK P callH anns n rest st' K = r) :
    execK P callH anns n (.seq (.region id ops false) rest) st K = r := (k_region0 (ann := ⟨_, _⟩) rfl (rE h)).trans k
theorem kl (st' : St) {r : Option β} (h : (opsF P callH ops ((look id anns).getD {}).ops 0 (ops.toList.drop 0) st).map (killT ((look id anns).getD {}).kill) = some st') (k : K (.normal, st') = r) :
    execK P callH anns n (.region id ops false) st K = r := (k_lregion0 (ann := ⟨_, _⟩) rfl (rE h)).trans k
/-- The same, where it only adds values at the end. -/
theorem kra {t : List (Nat × V)} {σ : List (Nat × Site)} {n' : Nat} (d : List (Nat × V)) {r : Option β} (h : (opsF P callH ops ((look id anns).getD {}).ops 0 (ops.toList.drop 0) ⟨t, σ, n'⟩).map (killT ((look id anns).getD {}).kill) = some ⟨t ++ d, σ, n'⟩) (k : execK P callH anns n rest ⟨t ++ d, σ, n'⟩ K = r) :
    execK P callH anns n (.seq (.region id ops false) rest) ⟨t, σ, n'⟩ K = r := kr _ h k
/-- A region that comes to a state, by a proof. -/
theorem krp (a : RAnn) (ha : (look id anns).getD {} = a) (st' : St) {r : Option β} (h : reg P callH ops a.ops a.kill 0 st = some st') (k : execK P callH anns n rest st' K = r) :
    execK P callH anns n (.seq (.region id ops false) rest) st K = r := (k_region0 ha (regionE_reg.trans h)).trans k
/-- A region that may come to nothing. -/
theorem kg {δ : Type} (a : RAnn) (ha : (look id anns).getD {} = a) {x : Option α} (g : α → St) {f : α → Option δ} {fin : δ → β} (h : reg P callH ops a.ops a.kill 0 st = x.map g) (k : ∀ o, execK P callH anns n rest (g o) K = (f o).map fin) :
    execK P callH anns n (.seq (.region id ops false) rest) st K = (x.bind f).map fin := (k_region ha (regionE_reg.trans h)).trans (bindE k)
theorem kgl {δ : Type} (a : RAnn) (ha : (look id anns).getD {} = a) {x : Option α} (g : α → St) {f : α → Option δ} {fin : δ → β} (h : reg P callH ops a.ops a.kill 0 st = x.map g) (k : ∀ o, K (.normal, g o) = (f o).map fin) :
    execK P callH anns n (.region id ops false) st K = (x.bind f).map fin := (k_lregion ha (regionE_reg.trans h)).trans (bindE k)
theorem kga {δ : Type} {t : List (Nat × V)} {σ : List (Nat × Site)} {n' : Nat} (a : RAnn) (ha : (look id anns).getD {} = a) {x : Option α} (d : α → List (Nat × V)) {f : α → Option δ} {fin : δ → β} (h : reg P callH ops a.ops a.kill 0 ⟨t, σ, n'⟩ = x.map fun o => ⟨t ++ d o, σ, n'⟩) (k : ∀ o, execK P callH anns n rest ⟨t ++ d o, σ, n'⟩ K = (f o).map fin) :
    execK P callH anns n (.seq (.region id ops false) rest) ⟨t, σ, n'⟩ K = (x.bind f).map fin := kg a ha _ h k
theorem kd {δ : Type} (a : RAnn) (ha : (look id anns).getD {} = a) {x : Option α} (g : α → St) {f : α → Option δ} {fin : δ → β} (h : regionE P callH a ops true st = x.map g) (k : ∀ o, execK P callH anns n rest (g o) K = (f o).map fin) :
    execK P callH anns n (.seq (.region id ops true) rest) st K = (x.bind f).map fin := (k_region ha h).trans (bindE k)
/-- A condition. -/
theorem kc {δ : Type} {c : Operand} {a b : Code} {t : Bool} {A B : Option δ} {fin : δ → β} (h : opd P st.t [] 0 c = some (.bool t)) (hk : killCond anns c st = st) (h1 : t = true → execK P callH anns n (.seq a rest) st K = A.map fin) (h0 : t = false → execK P callH anns n (.seq b rest) st K = B.map fin) :
    execK P callH anns n (.seq (.cond c a b) rest) st K = (bif t then A else B).map fin := (k_cond h hk).trans (bifE2 h1 h0)
theorem kcl {δ : Type} {c : Operand} {a b : Code} {t : Bool} {A B : Option δ} {fin : δ → β} (h : opd P st.t [] 0 c = some (.bool t)) (hk : killCond anns c st = st) (h1 : t = true → execK P callH anns n a st K = A.map fin) (h0 : t = false → execK P callH anns n b st K = B.map fin) :
    execK P callH anns n (.cond c a b) st K = (bif t then A else B).map fin := (k_lcond h hk).trans (bifE2 h1 h0)
end
section
variable {P : Program} {G : Glo} {callH : CallH} {α β : Type} {ops : Array Oper} {anns : List (Nat × OAnn)} {ks : List Nat} {i n : Nat} {st : St} {t : List (Nat × V)} {σ : List (Nat × Site)} {r : Option St}
/-- Operations at sight, that only add values at the end. -/
theorem rd (j : Nat) (d : List (Nat × V)) (h : opsF P callH ops anns i ((ops.toList.drop i).take (j - i)) ⟨t, σ, n⟩ = some ⟨t ++ d, σ, n⟩) (hj : (Nat.beq (i + (j - i)) j && Nat.ble j ops.size) = true) (k : reg P callH ops anns ks j ⟨t ++ d, σ, n⟩ = r) :
    reg P callH ops anns ks i ⟨t, σ, n⟩ = r := by
  rw [Bool.and_eq_true] at hj
  exact ra (j - i) j _ h (Nat.eq_of_beq_eq_true hj.1) hj.2 k
theorem bd {oa : OAnn} {dst : Option Tmp} {v : V} (j : Nat) (d : List (Nat × V)) (h : ((finish oa dst v ⟨t, σ, n⟩).bind fun s => forceSt s (opsF P callH ops anns i ((ops.toList.drop i).take (j - i)))) = some ⟨t ++ d, σ, n⟩) (hj : (Nat.beq (i + (j - i)) j && Nat.ble j ops.size) = true) (k : reg P callH ops anns ks j ⟨t ++ d, σ, n⟩ = r) :
    (finish oa dst v ⟨t, σ, n⟩).bind (reg P callH ops anns ks i) = r := by
  rw [Bool.and_eq_true] at hj
  exact ba (j - i) j _ h (Nat.eq_of_beq_eq_true hj.1) hj.2 k
/-- The next operation, if it is a pure one that is wanted. -/
def pureAt (ops : Array Oper) (anns : List (Nat × OAnn)) (i : Nat) (t : List (Nat × V)) : Option Oper := match ops.toList.drop i with
  | o :: _ => (match wantedV ops t o with | some true => bif isPure (annOf anns i) o && !isAlloc o then some o else none | _ => none)
  | [] => none
theorem pureAt_eq {t : List (Nat × V)} {o : Oper} (h : pureAt ops anns i t = some o) : ∃ r, ops.toList.drop i = o :: r ∧ ops.toList.drop (i + 1) = r ∧ wantedV ops t o = some true ∧ (isPure (annOf anns i) o && !isAlloc o) = true := by
  unfold pureAt at h
  split at h
  · rename_i o' r' e
    split at h
    · rename_i e2
      cases e3 : isPure (annOf anns i) o' && !isAlloc o' with
      | true =>
        rw [e3] at h
        obtain rfl := Option.some.inj h
        refine ⟨r', e, ?_, e2, e3⟩
        rw [← List.drop_drop, e]
        rfl
      | false => rw [e3] at h; cases h
    · cases h
  · cases h
theorem rp {o : Oper} {x : Option α} {w : α → V} {f : α → Option β} {g : β → St} (ho : pureAt ops anns i st.t = some o) (hv : pureOp P callH st.σ (opd P st.t []) o = x.map w) (k : ∀ a, (finish (annOf anns i) o.dst (w a) st).bind (reg P callH ops anns ks (i + 1)) = (f a).map g) :
    reg P callH ops anns ks i st = (x.bind f).map g := by
  obtain ⟨r, e1, e2, e3, e4⟩ := pureAt_eq ho
  exact (reg_pure e1 e2 e3 e4 hv).trans (bindE k)
theorem rx {o : Oper} {x : Option α} {w : α → V} {f : α → Option β} {g : β → St} (ho : pureAt ops anns i st.t = some o) (hv : pureOp P callH st.σ (opd P st.t []) o = x.map w) (k : ∀ a, x = some a → (finish (annOf anns i) o.dst (w a) st).bind (reg P callH ops anns ks (i + 1)) = (f a).map g) :
    reg P callH ops anns ks i st = (x.bind f).map g := by
  obtain ⟨r, e1, e2, e3, e4⟩ := pureAt_eq ho
  exact (reg_pure e1 e2 e3 e4 hv).trans (bindX k)
theorem rs {o : Oper} {x : Option α} {w : α → V} {g : α → St} (ho : pureAt ops anns i st.t = some o) (hv : pureOp P callH st.σ (opd P st.t []) o = x.map w) (k : ∀ a, (finish (annOf anns i) o.dst (w a) st).bind (reg P callH ops anns ks (i + 1)) = some (g a)) :
    reg P callH ops anns ks i st = x.map g := by
  obtain ⟨r, e1, e2, e3, e4⟩ := pureAt_eq ho
  exact (reg_pure e1 e2 e3 e4 hv).trans (bind_self k)
theorem rl {o : Oper} {w : Unit → V} {r : Option St} (ho : pureAt ops anns i st.t = some o) (hv : pureOp P callH st.σ (opd P st.t []) o = (some ()).map w) (k : (finish (annOf anns i) o.dst (w ()) st).bind (reg P callH ops anns ks (i + 1)) = r) :
    reg P callH ops anns ks i st = r := by
  obtain ⟨r', e1, e2, e3, e4⟩ := pureAt_eq ho
  exact (reg_pure e1 e2 e3 e4 hv).trans k
end
/-- The first place of a byte in a text, or -1. -/
def idxB : List UInt8 → UInt8 → Int
  | [], _ => -1
  | b :: l, c => if b == c then 0 else if idxB l c == -1 then -1 else idxB l c + 1
def remE (a b : Int) : Option Int := if b = 0 then none else some (a.tmod b)
def shlI (k : IntKind) (a b : Int) : Option Int := if b < 0 then none else some (k.wrap (a * 2 ^ (min b.toNat k.bits)))
def shrI (k : IntKind) (a b : Int) : Option Int := if b < 0 then none else some (a.fdiv (2 ^ (min b.toNat k.bits)))
def andI (k : IntKind) (a b : Int) : Int := k.wrap ((BitVec.ofInt k.bits a &&& BitVec.ofInt k.bits b).toNat)
def orI (k : IntKind) (a b : Int) : Int := k.wrap ((BitVec.ofInt k.bits a ||| BitVec.ofInt k.bits b).toNat)
def xorI (k : IntKind) (a b : Int) : Int := k.wrap ((BitVec.ofInt k.bits a ^^^ BitVec.ofInt k.bits b).toNat)
section
variable {P : Program} {G : Glo} {callH : CallH} {σ : List (Nat × Site)} {ρ : TypeId → Operand → Option V} {o : Oper} {t t2 : TypeId} {x y : Operand} {k k' : IntKind} {a b : Int}
theorem p_rem (hop : o.op = .binOp .rem t x y t2) (hx : ρ t x = some (.int k a)) (hy : ρ t2 y = some (.int k b)) : pureOp P callH σ ρ o = (remE a b).map (V.int k) := by
  simp only [pureOp, hop, hx, hy, Option.bind_some]
  show binV .rem (.int k a) (.int k b) = _
  simp only [binV, intBin, if_true]
  unfold remE
  split <;> rfl
theorem p_shl (hop : o.op = .binOp .shl t x y t2) (hx : ρ t x = some (.int k a)) (hy : ρ t2 y = some (.int k' b)) : pureOp P callH σ ρ o = (shlI k a b).map (V.int k) := by
  simp only [pureOp, hop, hx, hy, Option.bind_some]
  show binV .shl (.int k a) (.int k' b) = _
  simp only [binV]
  unfold shlI
  split <;> rfl
theorem p_shr (hop : o.op = .binOp .shr t x y t2) (hx : ρ t x = some (.int k a)) (hy : ρ t2 y = some (.int k' b)) : pureOp P callH σ ρ o = (shrI k a b).map (V.int k) := by
  simp only [pureOp, hop, hx, hy, Option.bind_some]
  show binV .shr (.int k a) (.int k' b) = _
  simp only [binV]
  unfold shrI
  split <;> rfl
end
def catL {α : Type} : List (List α) → Option (List α)
  | [] => none
  | x :: r => if (x :: r).length ≤ 1000 ∧ (x :: r).flatten.length ≤ 4294967296 then some (x :: r).flatten else none
/-- strconv.Itoa of one digit. -/
def itoa1 (n : Int) : Option (List UInt8) := if 0 ≤ n ∧ n < 10 then some [UInt8.ofNat (48 + n.toNat)] else none
def extItoa : List V → Option (V × List V)
  | [.int .i64 n] => (itoa1 n).map fun s => (.str s, [])
  | _ => none
/-- strings.ReplaceAll. -/
def repG (s old new : List UInt8) : Option (List UInt8) := if s.length ≤ 1000000 ∧ 1 ≤ old.length ∧ new.length ≤ 1000 then some (Go.Lib.replaceAll s old new) else none
def extRepAll : List V → Option (V × List V)
  | [.str s, .str o, .str n] => (repG s o n).map fun r => (.str r, [])
  | _ => none
theorem p_appS {P : Program} {callH : CallH} {st : St} {oa : OAnn} {o : Oper} {c : Call} {s x : Operand} {T T2 : TypeId} {q : Nat} {l : List Int} {b : List UInt8} (hop : o.op = .call c) (hc : c.callee = .builtin .append) (hargs : c.args.toList = [s, x]) (hts : c.argTypes.toList = [T, T2])
    (htk : Nat.blt 1 oa.tk.length = false) (ha : opd P st.t oa.tk T s = some (.sl q 1 (l.map (V.int .u8)))) (hb : opd P st.t [] T2 x = some (.str b)) (hty : appendTy P T T2 = true) (hsl : isSliceT P T2 = false) (hsz : elemSz P T = 1) (ho : q = 1 ∨ q = 2) :
    effOp P callH oa st o = (app l (bytesB b)).map fun v => (.sl q 1 (v.map (V.int .u8)), { st with t := AE.untake oa.tk st.t }) := by
  unfold effOp
  rw [htk]
  simp only [cond_false, hop, hc]
  unfold appendE app
  rw [hargs, hts]
  simp only [ha, hb, Option.bind_some, hty, cond_true, hsl, cond_false, srcE, hsz, if_true, List.length_map]
  have e : (b.map fun c => V.int .u8 (c.toNat : Int)) = (bytesB b).map (V.int .u8) := by
    unfold bytesB
    rw [List.map_map]
    rfl
  have e2 : (bytesB b).length = b.length := by unfold bytesB; rw [List.length_map]
  by_cases hm : l.length + b.length ≤ maxList
  · rw [if_pos ⟨ho, trivial, hm⟩, if_pos (by rw [e2]; exact hm)]
    simp only [Option.map_some, List.map_append, e]
  · rw [if_neg (fun hh => hm hh.2.2), if_neg (by rw [e2]; exact hm)]
    rfl
/-- A call that a variable is handed to: its result, and what it leaves in the variable. -/
theorem p_callIO {P : Program} {callH : CallH} {α : Type} {st : St} {oa : OAnn} {o : Oper} {c : Call} {f : Operand} {fid : FuncId} {first caps vs ys : List V} {d n : Nat} {e0 : V} {fr fe : α → V} {x : Option α} (hop : o.op = .call c) (hc : c.callee = .value f) (htk : oa.tk = []) (hf : opd P st.t [] 0 f = some (.fn fid first caps))
    (hv : opds (opd P st.t []) c.argTypes 0 c.args.toList = some vs) (ha : argsE st.σ (first ++ vs ++ caps) = some (ys, [d], false)) (hs : look d st.σ = some ⟨false, n, [e0]⟩) (h : callH fid ys = x.map fun a => (fr a, [.io (fe a)])) (hl : ∀ a, (fe a).cells.length = e0.cells.length) :
    effOp P callH oa st o = x.map fun a => (fr a, { st with σ := put d ⟨false, n, [fe a]⟩ st.σ }) := by
  unfold effOp
  rw [htk]
  simp only [List.length_nil, show Nat.blt 1 0 = false from rfl, cond_false, hop, hc]
  unfold callE
  simp only [hc, hf, hv, Option.bind_some, ha, h]
  cases x with
  | none => rfl
  | some a =>
    simp only [Option.map_some, Option.bind_some, Bool.false_and, Bool.false_eq_true, if_false, Bool.not_false, Bool.true_or, if_true, writeBack, hs, back1, hl a]
end Go.AE

namespace Go.AE
open Go.RowKit
set_option linter.unusedSimpArgs false
set_option linter.unusedVariables false
abbrev noE : Bnd := fun _ => none
abbrev noO : Own := fun _ => none
/-- A row of cells that nobody writes. -/
def RC0 (w : World) (vs : List V) (xs : List Value) : Prop := vs.length = xs.length ∧ ∀ j (h : j < vs.length) (h' : j < xs.length), R0 w noE (vs[j]) (xs[j])
theorem RC0.nil {w : World} : RC0 w [] [] := ⟨rfl, fun j h => by simp at h⟩
theorem RC0.one {w : World} {v : V} {x : Value} (h : R0 w noE v x) : RC0 w [v] [x] := ⟨rfl, fun j hj hj' => by
  have : j = 0 := by simp at hj; omega
  subst this
  exact h⟩
theorem RC0.append {w : World} {a b : List V} {x y : List Value} (h : RC0 w a x) (k : RC0 w b y) : RC0 w (a ++ b) (x ++ y) := by
  refine ⟨by simp [h.1, k.1], fun j hj hj' => ?_⟩
  have h1 := h.1
  by_cases hlt : j < a.length
  · rw [List.getElem_append_left hlt, List.getElem_append_left (by omega)]
    exact h.2 j hlt (by omega)
  · rw [List.getElem_append_right (by omega), List.getElem_append_right (by omega)]
    have := k.2 (j - a.length) (by simp at hj; omega) (by have := k.1; simp at hj; omega)
    simpa [h1] using this
section
variable {H : Type} {enc : TypeId × Value → H} {P : Program} {G : Glo} {w : World}
/-- What reads at a type, up to a size: the typed values' cells. -/
structure Opens (enc : TypeId × Value → H) (P : Program) (w : World) (t : TypeId) {α : Type} (cells : α → List V) (wf : α → Prop) : Prop where
  len : ∀ a, (cells a).length = P.cellsOf t
  ok : ∀ fuel cs x, DataW.trod enc P w 0 (fun _ => true) true fuel t cs = some x → ∃ a, wf a ∧ RC0 w (cells a) cs
theorem Opens.mono {t : TypeId} {α : Type} {cells : α → List V} {wf wf' : α → Prop} (h : Opens enc P w t cells wf) (k : ∀ a, wf a → wf' a) : Opens enc P w t cells wf' :=
  ⟨h.len, fun fuel cs x hx => by
    obtain ⟨a, h1, h2⟩ := h.ok fuel cs x hx
    exact ⟨a, k a h1, h2⟩⟩
theorem opens_int {t : TypeId} {k : IntKind} (ht : P.underlying t = some (.int k)) (hc : P.cellsOf t = 1) : Opens enc P w t (fun n : Int => [V.int k n]) (wfI k) :=
  ⟨fun _ => hc.symm, fun fuel cs x h => by
    obtain ⟨n, rfl, _, hw⟩ := DataW.trod_int ht h
    exact ⟨n, hw, .one (.int k n)⟩⟩
theorem list_of_all {α : Type} {p : Nat → α → Prop} : ∀ (n : Nat), (∀ i, i < n → ∃ a, p i a) → ∃ l : List α, l.length = n ∧ ∀ i (h : i < l.length), p i (l[i])
  | 0, _ => ⟨[], rfl, fun i h => by simp at h⟩
  | n + 1, h => by
    obtain ⟨l, h1, h2⟩ := list_of_all n (fun i hi => h i (by omega))
    obtain ⟨a, ha⟩ := h n (by omega)
    refine ⟨l ++ [a], by simp [h1], fun i hi => ?_⟩
    by_cases hlt : i < l.length
    · rw [List.getElem_append_left hlt]; exact h2 i hlt
    · have : i = n := by simp at hi; omega
      subst this
      simp [h1]
      exact ha
theorem cell_some {b off : Nat} {sp : Option Nat} {x : Value} (h : w.cell? ⟨b, off, sp⟩ = some x) : sp = none ∧ ∃ c e fr, w.heap[b]? = some (.cells c e fr) ∧ c[off]? = some x := by
  unfold World.cell? at h
  split at h
  · rename_i c e fr hb
    split at h
    · cases h
    · rename_i hs
      refine ⟨by cases sp with | none => rfl | some _ => simp at hs, c, e, fr, hb, h⟩
  · cases h
theorem opens_slice {t e : TypeId} {α : Type} {encE : α → V} {wf : α → Prop} {sz : Nat} (ht : P.underlying t = some (.slice e)) (hc : P.cellsOf t = 1) (hz : P.cellsOf e = sz) (h0 : 0 < sz) (hE : Opens enc P w e (fun a => (encE a).cells) wf) :
    Opens enc P w t (fun l : List α => [V.sl 0 sz (l.map encE)]) (wfL wf) := by
  refine ⟨fun _ => hc.symm, fun fuel cs x h => ?_⟩
  subst hz
  rcases DataW.trod_slice ht h with ⟨rfl, _⟩ | ⟨a, len, cap, elems, rest, n, rfl, rfl, _, _, hlc, hcm, hel, hat, hsp, _⟩
  · exact ⟨[], ⟨Nat.zero_le _, fun a ha => by cases ha⟩, .one (.slNil 0 _)⟩
  · obtain ⟨hrl, hrat⟩ := hsp rfl
    -- every element, spare ones too, is there
    have hall : ∀ i, i < cap → ∃ y cs, w.cells? 0 (a.add (i * P.cellsOf e)) (P.cellsOf e) = some cs ∧ DataW.trod enc P w 0 (fun _ => true) true n e cs = some y := by
      intro i hi
      have : ∃ y, (w.cells? 0 (a.add (i * P.cellsOf e)) (P.cellsOf e)).bind (DataW.trod enc P w 0 (fun _ => true) true n e) = some y := by
        by_cases hil : i < len
        · have hi2 : i < elems.length := by omega
          exact ⟨elems[i], by rw [hat i hil, List.getElem?_eq_getElem hi2]⟩
        · have := hrat (i - len) (by omega)
          rw [show len + (i - len) = i by omega] at this
          have hi2 : i - len < rest.length := by omega
          exact ⟨rest[i - len], by rw [this, List.getElem?_eq_getElem hi2]⟩
      obtain ⟨y, hy⟩ := this
      rw [Option.bind_eq_some_iff] at hy
      obtain ⟨cs, h1, h2⟩ := hy
      exact ⟨y, cs, h1, h2⟩
    obtain ⟨l, hl1, hl2⟩ := list_of_all (p := fun i b => wf b ∧ ∃ cs, w.cells? 0 (a.add (i * P.cellsOf e)) (P.cellsOf e) = some cs ∧ RC0 w ((encE b).cells) cs) len (fun i hi => by
      obtain ⟨y, cs, h1, h2⟩ := hall i (by omega)
      obtain ⟨b, hb1, hb2⟩ := hE.ok n cs y h2
      exact ⟨b, hb1, cs, h1, hb2⟩)
    refine ⟨l, ⟨by omega, fun b hb => ?_⟩, .one ?_⟩
    · obtain ⟨i, hi, rfl⟩ := List.getElem_of_mem hb
      exact (hl2 i hi).1
    · by_cases hcap : cap = 0
      · subst hcap
        have hlen : len = 0 := by omega
        subst hlen
        obtain rfl : l = [] := List.eq_nil_of_length_eq_zero hl1
        exact .slE _ _
      · obtain ⟨ab, aoff, asp⟩ := a
        have hc1 : ∀ i, i < cap → ∀ j, j < P.cellsOf e → ∃ v, w.cell? (((⟨ab, aoff, asp⟩ : Addr).add (i * P.cellsOf e)).add j) = some v := by
          intro i hi j hj
          obtain ⟨y, cs, h1, _⟩ := hall i hi
          obtain ⟨_, g1, g2⟩ := World.cells?_some h1
          exact ⟨cs[j], by rw [g2 j hj, List.getElem?_eq_getElem (by omega)]⟩
        obtain ⟨v0, hv0⟩ := hc1 0 (by omega) 0 h0
        have hv0' : w.cell? ⟨ab, aoff, asp⟩ = some v0 := by simpa [Addr.add] using hv0
        obtain ⟨rfl, c, et, fr, hb, _⟩ := cell_some hv0'
        have hadd : ∀ i j, (((⟨ab, aoff, none⟩ : Addr).add (i * P.cellsOf e)).add j) = ⟨ab, aoff + i * P.cellsOf e + j, none⟩ := by
          intro i j
          unfold Addr.add
          split <;> split <;> simp_all
        have hroom : aoff + cap * P.cellsOf e ≤ c.size := by
          obtain ⟨v1, hv1⟩ := hc1 (cap - 1) (by omega) (P.cellsOf e - 1) (by omega)
          rw [hadd] at hv1
          simp only [World.cell?, hb] at hv1
          have hlt : aoff + (cap - 1) * P.cellsOf e + (P.cellsOf e - 1) < c.size := by
            rcases Nat.lt_or_ge (aoff + (cap - 1) * P.cellsOf e + (P.cellsOf e - 1)) c.size with h' | h'
            · exact h'
            · simp [Array.getElem?_eq_none h'] at hv1
          have hm : (cap - 1) * P.cellsOf e + P.cellsOf e = cap * P.cellsOf e := by
            rw [← Nat.succ_mul]; congr 1; omega
          omega
        have hlm : (l.map encE).length = len := by simp [hl1]
        rw [← hlm]
        refine .sl hb hroom (by omega) (fun x hx => by cases hx) (fun i hi => ?_) (fun i j hi hj y hy => ?_)
        · simp only [List.getElem_map]
          exact hE.len _
        · have hi' : i < l.length := by simpa using hi
          obtain ⟨_, cs, h1, h2⟩ := hl2 i hi'
          obtain ⟨_, g1, g2⟩ := World.cells?_some h1
          simp only [List.getElem_map] at hj ⊢
          have hj' : j < P.cellsOf e := by rw [hE.len] at hj; exact hj
          have := g2 j hj'
          rw [hadd] at this
          simp only [World.cell?, hb] at this
          have hjc : j < cs.length := by omega
          have e2 : cs[j] = y := by
            have h3 : c[aoff + i * P.cellsOf e + j]? = cs[j]? := by simpa using this
            rw [h3, List.getElem?_eq_getElem hjc] at hy
            exact Option.some.inj hy
          rw [← e2]
          exact h2.2 j hj hjc
/-- The fields of a struct, from a place on. -/
structure OpensF (enc : TypeId × Value → H) (P : Program) (w : World) (off : Nat) (fs : List Field) (N : Nat) {β : Type} (cells : β → List V) (wf : β → Prop) : Prop where
  len : ∀ b, off + (cells b).length = N
  ok : ∀ fuel (cs : List Value), cs.length = N → (∀ f ∈ fs, ∃ x, DataW.trod enc P w 0 (fun _ => true) true fuel f.type ((cs.drop f.offset).take (P.cellsOf f.type)) = some x) → ∃ b, wf b ∧ RC0 w (cells b) (cs.drop off)
theorem rt_of_cells {v : V} {x : Value} {S : Sit} {O : Own} {p : Pos} (hr : RC0 w v.cells x.cells.toList) (hv : v.isAgg = true ↔ ∃ c, x = .agg c) (hs : v.isAgg = false → v.isTup = false) (hx : ∀ c, x ≠ .tuple c) : RT w noE S O p v x := by
  cases hva : v.isAgg with
  | true =>
    obtain ⟨c, rfl⟩ := hv.1 hva
    cases v <;> simp [V.isAgg] at hva
    refine .cell (.agg ⟨hr.1, fun j h h' => .free (.base (hr.2 j h h'))⟩)
  | false =>
    have h1 : v.cells = [v] := by cases v <;> first | rfl | simp [V.isAgg] at hva | (have := hs rfl; simp [V.isTup] at this)
    have h2 : x.cells.toList = [x] := by
      cases x <;> first | rfl | (exfalso; have := hv.2 ⟨_, rfl⟩; rw [this] at hva; cases hva) | exact absurd rfl (hx _)
    rw [h1, h2] at hr
    exact .cell (.one hva (.free (.base (hr.2 0 (by simp) (by simp)))))
def oneGlob (g : Nat) (c : Array Value) : Glo := fun b => bif Nat.beq b g then some c else none
theorem oneGlob_ok {g : Nat} {c : Array Value} {e : TypeId} {fr : Nat × Nat} (h : w.heap[g]? = some (.cells c e fr)) : Glob (oneGlob g c) w noE := fun b c' hb => by
  unfold oneGlob at hb
  cases he : Nat.beq b g with
  | false => rw [he] at hb; cases hb
  | true =>
    rw [he] at hb
    obtain rfl := Nat.eq_of_beq_eq_true he
    obtain rfl := Option.some.inj hb
    exact ⟨rfl, e, fr, h⟩
theorem glob_of_cell {g : Nat} {v : Value} (h : w.cell? ⟨g, 0, none⟩ = some v) : ∃ c e fr, w.heap[g]? = some (.cells c e fr) ∧ c[0]? = some v := by
  unfold World.cell? at h
  cases hh : w.heap[g]? with
  | none => simp [hh] at h
  | some x =>
    cases x with
    | cells c e fr => exact ⟨c, e, fr, rfl, by simpa [hh] using h⟩
    | _ => simp [hh] at h
theorem row_calls {hm : P.follows .mixedOrders = true} {anns : FuncId → FAnn} {ext : ExtH} (hext : ∀ f args r outs, ext f args = some (some (r, outs)) → FnOk G P f args r outs) {k : Nat} {f : FuncId} {args : List V}
    (h : evF P anns ext k f args = some (.bool true, [])) {W : World} (hgl : Glob G W noE) {xs : Array Value} (hl : args.length = xs.size) (hr : ∀ i (h : i < args.length) (h' : i < xs.size), RT W noE noS noO [0, i] (args[i]) (xs[i])) :
    Calls P f xs W fun e W' => e = .returned (.bool true) ∧ Below W.heap.size W W' := by
  refine ((evF_sound hm hext k f args _ _ h).2 W noE noO xs hgl hl (fun b p hb => by cases hb) hr).mono ?_
  rintro e W' ⟨x, E', O', rfl, hfr, hx, _, _⟩
  have hx1 := hx.of_tmp rfl (by simp) (by simp)
  refine ⟨?_, ⟨hfr.os, hfr.tape, hfr.output, hfr.ext.size, fun b hb => (hfr.free b hb rfl).1⟩⟩
  cases hx1 with
  | free hx1 => cases hx1 with
    | base hx1 => cases hx1; rfl
end
end Go.AE

namespace Go.AE
open Go.RowKit
theorem framed_below {w w' : World} {E : Bnd} {O : Own} (h : Below w.heap.size w w') (ho : ∀ b p, O b = some p → b < w.heap.size) : Framed w E O w' E O := by
  refine ⟨⟨h.size, fun b c e fr hb => ⟨c, fr, by rw [h.block b (lt_of_some hb)]; exact hb, rfl, fun _ _ => rfl⟩, fun b _ x hx => ⟨x, hx, Nat.le_refl _⟩⟩, fun b hb _ => ⟨h.block b hb, rfl, by assumption⟩, h.os, h.tape, h.output, fun b p hb => Nat.lt_of_lt_of_le (ho b p hb) h.size⟩
theorem clone_ok {G : Glo} {P : Program} {f : FuncId} {sz : Nat} (hfn : ∃ fn, P.funcs[f]? = some fn ∧ fn.name ≠ "runtime.NumGoroutine" ∧ fn.body.isSome = true)
    (h0 : ∀ n c w, Calls P f #[.slice none n c] w fun e w' => e = .returned (.slice none 0 0) ∧ w' = w)
    (h1 : ∀ a c w, Calls P f #[.slice (some a) 0 c] w fun e w' => ∃ b, e = .returned (.slice (some b) 0 0) ∧ Below w.heap.size w w') : FnOk G P f [.sl 0 sz []] (.sl 0 sz []) [] := by
  refine ⟨hfn, fun w E O xs hgl hl ho hr => ?_⟩
  obtain ⟨x, rfl⟩ : ∃ x, xs = #[x] := by
    rcases xs with ⟨xs⟩
    match xs, hl with
    | [x], _ => exact ⟨x, rfl⟩
  have hr1 := (hr 0 (by simp) (by simp)).of_tmp rfl (by simp) (by simp)
  simp only [List.getElem_cons_zero, List.getElem_toArray] at hr1
  have some_case : ∀ a c, Calls P f #[.slice (some a) 0 c] w fun e w' => ∃ x E' O', e = .returned x ∧ Framed w E O w' E' O' ∧ RT w' E' noS O' [1] (.sl 0 sz []) x ∧ ([] : List V).length = (iosOf 0 [V.sl 0 sz []]).length ∧
      ∀ k (h : k < ([] : List V).length) (h' : k < (iosOf 0 [V.sl 0 sz []]).length), RT w' E' noS O' [2, k] (([] : List V)[k]) ((#[Value.slice (some a) 0 c] : Array Value).getD ((iosOf 0 [V.sl 0 sz []])[k]) undef) := by
    intro a c
    refine (h1 a c w).mono ?_
    rintro e w' ⟨b, rfl, hb⟩
    exact ⟨_, E, O, rfl, framed_below hb ho, .cell (.one rfl (.free (.base (.slE sz _)))), rfl, fun k hk => by simp at hk⟩
  have none_case : Calls P f #[.slice none 0 0] w fun e w' => ∃ x E' O', e = .returned x ∧ Framed w E O w' E' O' ∧ RT w' E' noS O' [1] (.sl 0 sz []) x ∧ ([] : List V).length = (iosOf 0 [V.sl 0 sz []]).length ∧
      ∀ k (h : k < ([] : List V).length) (h' : k < (iosOf 0 [V.sl 0 sz []]).length), RT w' E' noS O' [2, k] (([] : List V)[k]) ((#[Value.slice none 0 0] : Array Value).getD ((iosOf 0 [V.sl 0 sz []])[k]) undef) := by
    refine (h0 0 0 w).mono ?_
    rintro e w' ⟨rfl, rfl⟩
    exact ⟨_, E, O, rfl, Framed.refl ho, .cell (.one rfl (.free (.base (.slNil 0 sz)))), rfl, fun k hk => by simp at hk⟩
  cases hr1 with
  | free hr1 => cases hr1 with
    | base hr1 => cases hr1 with
      | slNil => exact none_case
      | slE _ a => cases a with
        | none => exact none_case
        | some a => exact some_case a 0
      | sl hb hc hl2 hE hw he => exact some_case _ _
  | own ho2 => omega
end Go.AE

namespace Go.AE
open Go.RowKit Go.Shelf Go.Proofs
theorem repeatL_flat (l : List UInt8) : ∀ c, Lib.repeatL l c = (List.replicate c l).flatten
  | 0 => rfl
  | c + 1 => by rw [Lib.repeatL, repeatL_flat l c, List.replicate_succ, List.flatten_cons]
theorem rt_str {w : World} {E : Bnd} {O : Own} {p : Pos} {s : List UInt8} {x : Value} (h : RT w E noS O p (.str s) x) : x = .string ⟨s.toArray⟩ := by
  cases h with
  | cell h => cases h with
    | one hv h => cases h with
      | free h => cases h with
        | base h => cases h; rfl
theorem rt_int {w : World} {E : Bnd} {O : Own} {p : Pos} {k : IntKind} {n : Int} {x : Value} (h : RT w E noS O p (.int k n) x) : x = .int k n := by
  cases h with
  | cell h => cases h with
    | one hv h => cases h with
      | free h => cases h with
        | base h => cases h; rfl
theorem strRep_ok {G : Glo} {P : Program} {ρ : Ren} (L : Lays.n105 P ρ) (X : Builder.Extra P ρ) (args : List V) (r : V) (outs : List V) (h : extStrRep args = some (r, outs)) : FnOk G P (ρ.f 105) args r outs := by
  refine ⟨⟨Body.n105 ρ, L.f105, by simp [Body.n105], rfl⟩, ?_⟩
  intro w E O xs hgl hl ho hr
  unfold extStrRep at h
  split at h
  · rename_i s n
    obtain ⟨l, hl1, h⟩ := map_some h
    injection h with h1 h2
    subst h1; subst h2
    unfold repS at hl1
    split at hl1
    · rename_i hc
      obtain rfl := Option.some.inj hl1
      obtain ⟨x, y, rfl⟩ : ∃ x y, xs = #[x, y] := by
        rcases xs with ⟨xs⟩
        match xs, hl with
        | [x, y], _ => exact ⟨x, y, rfl⟩
      have hx := rt_str (hr 0 (by simp) (by simp))
      have hy := rt_int (hr 1 (by simp) (by simp))
      simp only [List.getElem_toArray, List.getElem_cons_zero, List.getElem_cons_succ] at hx hy
      subst hx; subst hy
      obtain ⟨m, rfl⟩ := Int.eq_ofNat_of_zero_le hc.1
      have hsz : (⟨s.toArray⟩ : ByteArray).size = s.length := by simp [ByteArray.size]
      have hm : m ≤ 1000000 := by omega
      have hmul : (⟨s.toArray⟩ : ByteArray).size * m ≤ 1000000 * 1000000 := by
        rw [hsz]
        exact Nat.mul_le_mul hc.2.2 hm
      refine (Any.strings_Repeat L X ⟨s.toArray⟩ m w (by omega) (by omega)).mono ?_
      rintro e w' ⟨rfl, hb⟩
      refine ⟨_, E, O, rfl, framed_below hb ho, ?_, rfl, fun k hk => by simp at hk⟩
      simp only [repeatL_flat, Int.toNat_natCast]
      exact .cell (.one rfl (.free (.base (.str _))))
    · cases hl1
  · cases h
end Go.AE

namespace Go.AE
open Go.RowKit Go.Shelf Go.Proofs
end Go.AE

namespace Go.AE
open Go.RowKit Go.Shelf Go.Proofs
set_option linter.unusedVariables false
theorem decDigits_one {i : Nat} (h : i < 10) : Go.Lib.decDigits i = [UInt8.ofNat (48 + i)] := by
  unfold Go.Lib.decDigits
  rw [dif_pos h]
theorem itoa_ok {G : Glo} {P : Program} {ρ : Ren} (L : Lays.n171 P ρ) (args : List V) (r : V) (outs : List V) (h : extItoa args = some (r, outs)) : FnOk G P (ρ.f 171) args r outs := by
  refine ⟨⟨Body.n171 ρ, L.f171, by simp [Body.n171], rfl⟩, ?_⟩
  intro w E O xs hgl hl ho hr
  unfold extItoa at h
  split at h
  · rename_i n
    obtain ⟨s, hs, hq⟩ := map_some h
    obtain ⟨rfl, rfl⟩ := Prod.mk.inj hq
    unfold itoa1 at hs
    split at hs
    · rename_i hn
      obtain rfl := Option.some.inj hs
      obtain ⟨x, rfl⟩ : ∃ x, xs = #[x] := by
        rcases xs with ⟨xs⟩
        match xs, hl with
        | [x], _ => exact ⟨x, rfl⟩
      have hx := rt_int (hr 0 (by simp) (by simp))
      simp only [List.getElem_toArray, List.getElem_cons_zero] at hx
      subst hx
      obtain ⟨i, rfl⟩ : ∃ i : Nat, n = (i : Int) := ⟨n.toNat, by omega⟩
      refine (Any.strconv_Itoa_small L i (by omega) w).mono ?_
      rintro e w' ⟨rfl, rfl⟩
      refine ⟨_, E, O, rfl, framed_below (Below.refl _ _) ho, ?_, rfl, fun k hk => by simp at hk⟩
      rw [decDigits_one (by omega), Int.toNat_natCast]
      exact .cell (.one rfl (.free (.base (.str _))))
    · cases hs
  · cases h
theorem cell_of_glob {G : Glo} {w : World} {E : Bnd} (h : Glob G w E) {g : Nat} {v : Value} (hg : ∃ c, G g = some c ∧ c[0]? = some v) : w.cell? ⟨g, 0, none⟩ = some v := by
  obtain ⟨c, h1, h2⟩ := hg
  obtain ⟨_, e, fr, h3⟩ := h g c h1
  simp [World.cell?, h3, h2]
/-- 'm': what internal/bytealg.MaxLen holds. -/
theorem repAll_ok {G : Glo} {P : Program} {ρ : Ren} (L : Lays.n155 P ρ) (X : Builder.Extra P ρ) {m : Int} (hG : ∃ c, G (ρ.g 1) = some c ∧ c[0]? = some (.int .i64 m)) (args : List V) (r : V) (outs : List V) (h : extRepAll args = some (r, outs)) : FnOk G P (ρ.f 155) args r outs := by
  refine ⟨⟨Body.n155 ρ, L.f155, by simp [Body.n155], rfl⟩, ?_⟩
  intro w E O xs hgl hl ho hr
  unfold extRepAll at h
  split at h
  · rename_i s o n
    obtain ⟨t, ht, hq⟩ := map_some h
    obtain ⟨rfl, rfl⟩ := Prod.mk.inj hq
    unfold repG at ht
    split at ht
    · rename_i hc
      obtain ⟨c1, c2, c3⟩ := hc
      obtain rfl := Option.some.inj ht
      obtain ⟨x, y, z, rfl⟩ : ∃ x y z, xs = #[x, y, z] := by
        rcases xs with ⟨xs⟩
        match xs, hl with
        | [x, y, z], _ => exact ⟨x, y, z, rfl⟩
      have hx := rt_str (hr 0 (by simp) (by simp))
      have hy := rt_str (hr 1 (by simp) (by simp))
      have hz := rt_str (hr 2 (by simp) (by simp))
      simp only [List.getElem_toArray, List.getElem_cons_zero, List.getElem_cons_succ] at hx hy hz
      subst hx; subst hy; subst hz
      have s1 : (⟨s.toArray⟩ : ByteArray).size = s.length := by simp [ByteArray.size]
      have s2 : (⟨o.toArray⟩ : ByteArray).size = o.length := by simp [ByteArray.size]
      have s3 : (⟨n.toArray⟩ : ByteArray).size = n.length := by simp [ByteArray.size]
      have hm := Go.Lib.countB_mul_le ⟨o.toArray⟩ (by omega) s.length ⟨s.toArray⟩ (by omega)
      have hm2 : Go.Lib.countB ⟨s.toArray⟩ ⟨o.toArray⟩ ≤ s.length := by
        rw [s1, s2] at hm
        exact Nat.le_trans (Nat.le_mul_of_pos_right _ (by omega)) hm
      have hlen : s.length + Go.Lib.countB ⟨s.toArray⟩ ⟨o.toArray⟩ * n.length ≤ 140737488355328 := by
        have := Nat.mul_le_mul (Nat.le_trans hm2 c1) c3
        omega
      refine (Any.strings_ReplaceAll L X ⟨s.toArray⟩ ⟨o.toArray⟩ ⟨n.toArray⟩ m w (by omega) (cell_of_glob hgl hG) (by omega) (by rw [s1, s3]; exact hlen)).mono ?_
      rintro e w' ⟨rfl, hb⟩
      exact ⟨_, E, O, rfl, framed_below hb ho, .cell (.one rfl (.free (.base (.str _)))), rfl, fun k hk => by simp at hk⟩
    · cases ht
  · cases h
end Go.AE

