/- An evaluator of the bodies of functions, and that what it says holds: a call of which it says a result returns just this result and leaves all that it does not own as it was. Conditions: none. -/
import Derived.Test.YtgideolbpeidmaaA2
import Derived.WideShapes
import Derived.OpenShut
import Derived.DataReads
import Derived.ChangeOld
import Derived.Shelf.Slices.Reverse
namespace Go.AE
open Go.RowKit
set_option linter.unusedSimpArgs false
set_option linter.unusedVariables false

abbrev noE : Bnd := fun _ => none
abbrev noO : Own := fun _ => none

/-- A row of cells that nobody writes. -/
def RC0 (w : World) (vs : List V) (xs : List Value) : Prop := vs.length = xs.length ∧ ∀ j (h : j < vs.length) (h' : j < xs.length), R0 w noE (vs[j]) (xs[j])

theorem RC0.nil {w : World} : RC0 w [] [] := ⟨rfl, fun j h => by simp at h⟩

theorem RC0.one {w : World} {v : V} {x : Value} (h : R0 w noE v x) : RC0 w [v] [x] := ⟨rfl, fun j hj hj' => by
  have : j = 0 := by simp at hj; omega
  subst this
  exact h⟩

theorem RC0.append {w : World} {a b : List V} {x y : List Value} (h : RC0 w a x) (k : RC0 w b y) : RC0 w (a ++ b) (x ++ y) := by
  refine ⟨by simp [h.1, k.1], fun j hj hj' => ?_⟩
  have h1 := h.1
  by_cases hlt : j < a.length
  · rw [List.getElem_append_left hlt, List.getElem_append_left (by omega)]
    exact h.2 j hlt (by omega)
  · rw [List.getElem_append_right (by omega), List.getElem_append_right (by omega)]
    have := k.2 (j - a.length) (by simp at hj; omega) (by have := k.1; simp at hj; omega)
    simpa [h1] using this

section
variable {H : Type} {enc : TypeId × Value → H} {P : Program} {w : World}

/-- What reads at a type, up to a size: the typed values' cells. -/
structure Opens (enc : TypeId × Value → H) (P : Program) (w : World) (t : TypeId) {α : Type} (cells : α → List V) (wf : α → Prop) : Prop where
  len : ∀ a, (cells a).length = P.cellsOf t
  ok : ∀ fuel cs x, DataW.trod enc P w 0 (fun _ => true) true fuel t cs = some x → ∃ a, wf a ∧ RC0 w (cells a) cs


theorem Opens.mono {t : TypeId} {α : Type} {cells : α → List V} {wf wf' : α → Prop} (h : Opens enc P w t cells wf) (k : ∀ a, wf a → wf' a) : Opens enc P w t cells wf' :=
  ⟨h.len, fun fuel cs x hx => by
    obtain ⟨a, h1, h2⟩ := h.ok fuel cs x hx
    exact ⟨a, k a h1, h2⟩⟩

theorem opens_bool {t : TypeId} (ht : P.underlying t = some .bool) (hc : P.cellsOf t = 1) : Opens enc P w t (fun b : Bool => [V.bool b]) wfT :=
  ⟨fun _ => hc.symm, fun fuel cs x h => by
    obtain ⟨b, rfl, _⟩ := DataW.trod_bool ht h
    exact ⟨b, trivial, .one (.bool b)⟩⟩

theorem opens_int {t : TypeId} {k : IntKind} (ht : P.underlying t = some (.int k)) (hc : P.cellsOf t = 1) : Opens enc P w t (fun n : Int => [V.int k n]) (wfI k) :=
  ⟨fun _ => hc.symm, fun fuel cs x h => by
    obtain ⟨n, rfl, _, hw⟩ := DataW.trod_int ht h
    exact ⟨n, hw, .one (.int k n)⟩⟩

theorem opens_str {t : TypeId} (ht : P.underlying t = some .string) (hc : P.cellsOf t = 1) : Opens enc P w t (fun s : List UInt8 => [V.str s]) wfS :=
  ⟨fun _ => hc.symm, fun fuel cs x h => by
    obtain ⟨s, rfl, _, hw⟩ := DataW.trod_string ht h
    refine ⟨s.data.toList, ?_, .one ?_⟩
    · unfold wfS
      rw [Array.length_toList]
      exact hw
    · exact R0.str (w := w) (E := noE) s.data.toList⟩

theorem list_of_all {α : Type} {p : Nat → α → Prop} : ∀ (n : Nat), (∀ i, i < n → ∃ a, p i a) → ∃ l : List α, l.length = n ∧ ∀ i (h : i < l.length), p i (l[i])
  | 0, _ => ⟨[], rfl, fun i h => by simp at h⟩
  | n + 1, h => by
    obtain ⟨l, h1, h2⟩ := list_of_all n (fun i hi => h i (by omega))
    obtain ⟨a, ha⟩ := h n (by omega)
    refine ⟨l ++ [a], by simp [h1], fun i hi => ?_⟩
    by_cases hlt : i < l.length
    · rw [List.getElem_append_left hlt]; exact h2 i hlt
    · have : i = n := by simp at hi; omega
      subst this
      simp [h1]
      exact ha

theorem cell_some {b off : Nat} {sp : Option Nat} {x : Value} (h : w.cell? ⟨b, off, sp⟩ = some x) : sp = none ∧ ∃ c e fr, w.heap[b]? = some (.cells c e fr) ∧ c[off]? = some x := by
  unfold World.cell? at h
  split at h
  · rename_i c e fr hb
    split at h
    · cases h
    · rename_i hs
      refine ⟨by cases sp with | none => rfl | some _ => simp at hs, c, e, fr, hb, h⟩
  · cases h

theorem opens_slice {t e : TypeId} {α : Type} {encE : α → V} {wf : α → Prop} {sz : Nat} (ht : P.underlying t = some (.slice e)) (hc : P.cellsOf t = 1) (hz : P.cellsOf e = sz) (h0 : 0 < sz) (hE : Opens enc P w e (fun a => (encE a).cells) wf) :
    Opens enc P w t (fun l : List α => [V.sl 0 sz (l.map encE)]) (wfL wf) := by
  refine ⟨fun _ => hc.symm, fun fuel cs x h => ?_⟩
  subst hz
  rcases DataW.trod_slice ht h with ⟨rfl, _⟩ | ⟨a, len, cap, elems, rest, n, rfl, rfl, _, _, hlc, hcm, hel, hat, hsp, _⟩
  · exact ⟨[], ⟨Nat.zero_le _, fun a ha => by cases ha⟩, .one (.slNil 0 _)⟩
  · obtain ⟨hrl, hrat⟩ := hsp rfl
    -- every element, spare ones too, is there
    have hall : ∀ i, i < cap → ∃ y cs, w.cells? 0 (a.add (i * P.cellsOf e)) (P.cellsOf e) = some cs ∧ DataW.trod enc P w 0 (fun _ => true) true n e cs = some y := by
      intro i hi
      have : ∃ y, (w.cells? 0 (a.add (i * P.cellsOf e)) (P.cellsOf e)).bind (DataW.trod enc P w 0 (fun _ => true) true n e) = some y := by
        by_cases hil : i < len
        · have hi2 : i < elems.length := by omega
          exact ⟨elems[i], by rw [hat i hil, List.getElem?_eq_getElem hi2]⟩
        · have := hrat (i - len) (by omega)
          rw [show len + (i - len) = i by omega] at this
          have hi2 : i - len < rest.length := by omega
          exact ⟨rest[i - len], by rw [this, List.getElem?_eq_getElem hi2]⟩
      obtain ⟨y, hy⟩ := this
      rw [Option.bind_eq_some_iff] at hy
      obtain ⟨cs, h1, h2⟩ := hy
      exact ⟨y, cs, h1, h2⟩
    obtain ⟨l, hl1, hl2⟩ := list_of_all (p := fun i b => wf b ∧ ∃ cs, w.cells? 0 (a.add (i * P.cellsOf e)) (P.cellsOf e) = some cs ∧ RC0 w ((encE b).cells) cs) len (fun i hi => by
      obtain ⟨y, cs, h1, h2⟩ := hall i (by omega)
      obtain ⟨b, hb1, hb2⟩ := hE.ok n cs y h2
      exact ⟨b, hb1, cs, h1, hb2⟩)
    refine ⟨l, ⟨by omega, fun b hb => ?_⟩, .one ?_⟩
    · obtain ⟨i, hi, rfl⟩ := List.getElem_of_mem hb
      exact (hl2 i hi).1
    · by_cases hcap : cap = 0
      · subst hcap
        have hlen : len = 0 := by omega
        subst hlen
        obtain rfl : l = [] := List.eq_nil_of_length_eq_zero hl1
        exact .slE _ _
      · obtain ⟨ab, aoff, asp⟩ := a
        have hc1 : ∀ i, i < cap → ∀ j, j < P.cellsOf e → ∃ v, w.cell? (((⟨ab, aoff, asp⟩ : Addr).add (i * P.cellsOf e)).add j) = some v := by
          intro i hi j hj
          obtain ⟨y, cs, h1, _⟩ := hall i hi
          obtain ⟨_, g1, g2⟩ := World.cells?_some h1
          exact ⟨cs[j], by rw [g2 j hj, List.getElem?_eq_getElem (by omega)]⟩
        obtain ⟨v0, hv0⟩ := hc1 0 (by omega) 0 h0
        have hv0' : w.cell? ⟨ab, aoff, asp⟩ = some v0 := by simpa [Addr.add] using hv0
        obtain ⟨rfl, c, et, fr, hb, _⟩ := cell_some hv0'
        have hadd : ∀ i j, (((⟨ab, aoff, none⟩ : Addr).add (i * P.cellsOf e)).add j) = ⟨ab, aoff + i * P.cellsOf e + j, none⟩ := by
          intro i j
          unfold Addr.add
          split <;> split <;> simp_all
        have hroom : aoff + cap * P.cellsOf e ≤ c.size := by
          obtain ⟨v1, hv1⟩ := hc1 (cap - 1) (by omega) (P.cellsOf e - 1) (by omega)
          rw [hadd] at hv1
          simp only [World.cell?, hb] at hv1
          have hlt : aoff + (cap - 1) * P.cellsOf e + (P.cellsOf e - 1) < c.size := by
            rcases Nat.lt_or_ge (aoff + (cap - 1) * P.cellsOf e + (P.cellsOf e - 1)) c.size with h' | h'
            · exact h'
            · simp [Array.getElem?_eq_none h'] at hv1
          have hm : (cap - 1) * P.cellsOf e + P.cellsOf e = cap * P.cellsOf e := by
            rw [← Nat.succ_mul]; congr 1; omega
          omega
        have hlm : (l.map encE).length = len := by simp [hl1]
        rw [← hlm]
        refine .sl hb hroom (by omega) (fun x hx => by cases hx) (fun i hi => ?_) (fun i j hi hj y hy => ?_)
        · simp only [List.getElem_map]
          exact hE.len _
        · have hi' : i < l.length := by simpa using hi
          obtain ⟨_, cs, h1, h2⟩ := hl2 i hi'
          obtain ⟨_, g1, g2⟩ := World.cells?_some h1
          simp only [List.getElem_map] at hj ⊢
          have hj' : j < P.cellsOf e := by rw [hE.len] at hj; exact hj
          have := g2 j hj'
          rw [hadd] at this
          simp only [World.cell?, hb] at this
          have hjc : j < cs.length := by omega
          have e2 : cs[j] = y := by
            have h3 : c[aoff + i * P.cellsOf e + j]? = cs[j]? := by simpa using this
            rw [h3, List.getElem?_eq_getElem hjc] at hy
            exact Option.some.inj hy
          rw [← e2]
          exact h2.2 j hj hjc

/-- The fields of a struct, from a place on. -/
structure OpensF (enc : TypeId × Value → H) (P : Program) (w : World) (off : Nat) (fs : List Field) (N : Nat) {β : Type} (cells : β → List V) (wf : β → Prop) : Prop where
  len : ∀ b, off + (cells b).length = N
  ok : ∀ fuel (cs : List Value), cs.length = N → (∀ f ∈ fs, ∃ x, DataW.trod enc P w 0 (fun _ => true) true fuel f.type ((cs.drop f.offset).take (P.cellsOf f.type)) = some x) → ∃ b, wf b ∧ RC0 w (cells b) (cs.drop off)

theorem opensF_nil {N : Nat} : OpensF enc P w N [] N (fun _ : Unit => []) wfT :=
  ⟨fun _ => rfl, fun fuel cs hl _ => ⟨(), trivial, by rw [List.drop_eq_nil_of_le (by omega)]; exact .nil⟩⟩

theorem opensF_cons {f : Field} {fs : List Field} {t : TypeId} {off sz N : Nat} {α β : Type} {cA : α → List V} {wA : α → Prop} {cB : β → List V} {wB : β → Prop} (ho : f.offset = off) (hf : f.type = t) (hz : P.cellsOf t = sz) (h1 : Opens enc P w t cA wA)
    (h2 : OpensF enc P w (off + sz) fs N cB wB) : OpensF enc P w off (f :: fs) N (fun p : α × β => cA p.1 ++ cB p.2) (fun p => wA p.1 ∧ wB p.2) := by
  subst ho; subst hf; subst hz
  refine ⟨fun b => ?_, fun fuel cs hl hall => ?_⟩
  · have := h2.len b.2
    rw [List.length_append, h1.len]
    omega
  · obtain ⟨x, hx⟩ := hall f (by simp)
    obtain ⟨a, ha, hra⟩ := h1.ok fuel _ x hx
    obtain ⟨b, hb, hrb⟩ := h2.ok fuel cs hl (fun g hg => hall g (by simp [hg]))
    refine ⟨(a, b), ⟨ha, hb⟩, ?_⟩
    have : cs.drop f.offset = (cs.drop f.offset).take (P.cellsOf f.type) ++ cs.drop (f.offset + P.cellsOf f.type) := by
      rw [← List.drop_drop, List.take_append_drop]
    rw [this]
    exact hra.append hrb

theorem opens_struct {t : TypeId} {fs : Array Field} {N : Nat} {α β : Type} {encA : α → V} {cB : β → List V} {wB : β → Prop} (ht : P.underlying t = some (.struct fs)) (hc : P.cellsOf t = N) (hF : OpensF enc P w 0 fs.toList N cB wB) (g : β → α) (un : α → β) (hun : ∀ a, g (un a) = a)
    (hg : ∀ b, (encA (g b)).cells = cB b) : Opens enc P w t (fun a => (encA a).cells) (fun a => ∃ b, a = g b ∧ wB b) := by
  refine ⟨fun a => ?_, fun fuel cs x h => ?_⟩
  · have h1 := hF.len (un a)
    have h2 := hg (un a)
    rw [hun] at h2
    show (encA a).cells.length = _
    rw [h2, hc]
    omega
  · obtain ⟨xs, n, rfl, _, hl, hxl, hat⟩ := DataW.trod_struct ht h
    obtain ⟨b, hb, hr⟩ := hF.ok n cs (by omega) (fun f hf => by
      obtain ⟨i, hi, rfl⟩ := List.getElem_of_mem hf
      have hi' : i < fs.size := by simpa using hi
      have := hat i fs[i] (Array.getElem?_eq_getElem hi')
      rw [Array.getElem_toList]
      exact ⟨xs[i]'(by omega), by rw [this, List.getElem?_eq_getElem (by omega)]⟩)
    refine ⟨g b, ⟨b, rfl, hb⟩, ?_⟩
    show RC0 w (encA (g b)).cells cs
    rw [hg]
    simpa using hr

def arrF (e : TypeId) (o : Nat) : Field := { name := "", type := e, offset := o, embedded := false, tag := "", pkgPath := "", byteOffset := 0 }

theorem opens_array {t e : TypeId} {n : Nat} {fs : List Field} {N : Nat} {α β : Type} {encA : α → V} {cB : β → List V} {wB : β → Prop} (ht : P.underlying t = some (.array n e)) (hc : P.cellsOf t = N) (hF : OpensF enc P w 0 fs N cB wB)
    (hfs : ∀ f ∈ fs, f.type = e ∧ ∃ i, i < n ∧ f.offset = i * P.cellsOf e) (g : β → α) (un : α → β) (hun : ∀ a, g (un a) = a) (hg : ∀ b, (encA (g b)).cells = cB b) : Opens enc P w t (fun a => (encA a).cells) (fun a => ∃ b, a = g b ∧ wB b) := by
  refine ⟨fun a => ?_, fun fuel cs x h => ?_⟩
  · have h1 := hF.len (un a)
    have h2 := hg (un a)
    rw [hun] at h2
    show (encA a).cells.length = _
    rw [h2, hc]
    omega
  · obtain ⟨xs, m, rfl, _, hl, hxl, hat⟩ := DataW.trod_array ht h
    obtain ⟨b, hb, hr⟩ := hF.ok m cs (by omega) (fun f hf => by
      obtain ⟨he, i, hi, ho⟩ := hfs f hf
      have := hat i hi
      rw [he, ho]
      exact ⟨xs[i]'(by omega), by rw [this, List.getElem?_eq_getElem (by omega)]⟩)
    refine ⟨g b, ⟨b, rfl, hb⟩, ?_⟩
    show RC0 w (encA (g b)).cells cs
    rw [hg]
    simpa using hr

theorem okWide_arr {base : Nat} {r : Reach} {t e : TypeId} {n : Nat} {v : Value} (ht : P.underlying t = some (.array n e)) (h : Value.okWide P w r base t v) : ∃ cs, v = .agg cs ∧ cs.size = P.cellsOf t := by
  simp only [Value.okWide, ht] at h
  obtain ⟨cs, h1, h2, _⟩ := h
  exact ⟨cs, h1, h2⟩

/-! A whole argument. -/

theorem rt_of_cells {v : V} {x : Value} {S : Sit} {O : Own} {p : Pos} (hr : RC0 w v.cells x.cells.toList) (hv : v.isAgg = true ↔ ∃ c, x = .agg c) (hs : v.isAgg = false → v.isTup = false) (hx : ∀ c, x ≠ .tuple c) : RT w noE S O p v x := by
  cases hva : v.isAgg with
  | true =>
    obtain ⟨c, rfl⟩ := hv.1 hva
    cases v <;> simp [V.isAgg] at hva
    refine .cell (.agg ⟨hr.1, fun j h h' => .free (.base (hr.2 j h h'))⟩)
  | false =>
    have h1 : v.cells = [v] := by cases v <;> first | rfl | simp [V.isAgg] at hva | (have := hs rfl; simp [V.isTup] at this)
    have h2 : x.cells.toList = [x] := by
      cases x <;> first | rfl | (exfalso; have := hv.2 ⟨_, rfl⟩; rw [this] at hva; cases hva) | exact absurd rfl (hx _)
    rw [h1, h2] at hr
    exact .cell (.one hva (.free (.base (hr.2 0 (by simp) (by simp)))))

theorem row_calls {hm : P.follows .mixedOrders = true} {anns : FuncId → FAnn} {ext : ExtH} (hext : ∀ f args r outs, ext f args = some (some (r, outs)) → FnOk P f args r outs) {k : Nat} {f : FuncId} {args : List V}
    (h : evF P anns ext k f args = some (.bool true, [])) {W : World} {xs : Array Value} (hl : args.length = xs.size) (hr : ∀ i (h : i < args.length) (h' : i < xs.size), RT W noE noS noO [0, i] (args[i]) (xs[i])) :
    Calls P f xs W fun e W' => e = .returned (.bool true) ∧ Below W.heap.size W W' := by
  refine ((evF_sound hm hext k f args _ _ h).2 W noE noO xs hl (fun b p hb => by cases hb) hr).mono ?_
  rintro e W' ⟨x, E', O', rfl, hfr, hx, _, _⟩
  have hx1 := hx.of_tmp rfl (by simp) (by simp)
  refine ⟨?_, ⟨hfr.os, hfr.tape, hfr.output, hfr.ext.size, fun b hb => (hfr.free b hb rfl).1⟩⟩
  cases hx1 with
  | free hx1 => cases hx1 with
    | base hx1 => cases hx1; rfl

end
end Go.AE
namespace Go.AE
open Go.RowKit Go.Shelf Go.Sort Go.Proofs

theorem rev_world {w : World} {b : Nat} {c : Array Value} {e : TypeId} {fr : Nat × Nat} (hb : w.heap[b]? = some (.cells c e fr)) (n : Nat) (l : List Int) (hl : l.length ≤ c.size) :
    ∃ c', Wrote w (putRow (Value.int .i64) (Sort.ahead w n) b 0 l.toArray) b 0 (l.map (Value.int .i64)) c e fr c' := by
  refine ⟨putCells (Value.int .i64) 0 l.toArray c, ?_, ?_, ?_, ?_, ?_, ?_, rfl, rfl, rfl⟩
  · simp [putRow, mapBlock, Sort.ahead, Array.getElem?_modify, hb, onCells]
  · simp [putCells]
  · intro j hj
    simp only [List.length_map] at hj
    have hjc : j < c.size := by omega
    simp [putCells, hjc, hj]
  · intro i hi
    simp only [List.length_map, Nat.zero_add] at hi
    have hi' : ¬ i < l.length := by omega
    simp [putCells, hi']
  · intro b' hb'
    simp only [putRow, mapBlock, Sort.ahead, Array.getElem?_modify]
    rw [if_neg (fun h => hb' h.symm)]
  · simp [putRow, mapBlock, Sort.ahead]

set_option linter.unusedSimpArgs false in
theorem reverse_ok {P : Program} {ρ : Ren} (L : Lays.n112 P ρ) (args : List V) (r : V) (outs : List V) (h : extReverseInt args = some (r, outs)) : FnOk P (ρ.f 112) args r outs := by
  refine ⟨⟨Body.n112 ρ, L.f112, by simp [Body.n112], rfl⟩, ?_⟩
  intro w E O xs hl ho hr
  unfold extReverseInt at h
  split at h
  · rename_i es
    obtain ⟨l, hl1, h⟩ := bind_some h
    obtain ⟨l2, hl2, h⟩ := map_some h
    injection h with h1 h2
    subst h1; subst h2
    obtain rfl := intsOf_eq hl1
    unfold revInt at hl2
    cases hble : Nat.ble l.length 9223372036854775807 with
    | false => rw [hble] at hl2; cases hl2
    | true =>
      rw [hble] at hl2
      obtain rfl := Option.some.inj hl2
      have hlen : l.length ≤ 9223372036854775807 := Nat.le_of_ble_eq_true hble
      obtain ⟨x, rfl⟩ : ∃ x, xs = #[x] := by
        rcases xs with ⟨xs⟩
        match xs, hl with
        | [x], _ => exact ⟨x, rfl⟩
      have hr1 := (hr 0 (by simp) (by simp)).of_tmp rfl (by simp) (by simp)
      simp only [List.getElem_cons_zero, List.getElem_toArray] at hr1
      have hout : (iosOf 0 [V.sl 2 1 (l.map (V.int .i64))]) = [0] := rfl
      rw [hout]
      generalize hes : l.map (V.int .i64) = es at hr1
      cases hr1 with
      | free hr1 =>
        cases hr1 with
        | base hr1 =>
          cases hr1 with
          | slNil =>
            have hl0 : l = [] := by simpa using hes
            subst hl0
            refine (Go.Proofs.Any.slices_Reverse_int_empty L none 0 w).mono ?_
            rintro e w' ⟨rfl, rfl⟩
            refine ⟨_, E, O, rfl, Framed.refl ho, .tup rfl (fun j hj => by simp at hj), rfl, fun k hk _ => ?_⟩
            have hk0 : k = 0 := by simp at hk; omega
            subst hk0
            exact .cell (.one rfl (.free (.base (.slNil 2 1))))
      | @own _ _ _ b off cap c e fr ho' hb hc hl' hf hE h0 hO hw he =>
        have hoff := h0 rfl
        subst hoff
        have hlen' : es.length = l.length := by rw [← hes, List.length_map]
        rw [hlen'] at hl'
        have hcell : ∀ j (hj : j < l.length), c[j]? = some (Value.int .i64 l[j]) := by
          intro j hj
          have hjc : j < c.size := by omega
          have hj2 : j < es.length := by omega
          have hej : es[j] = V.int .i64 l[j] := by subst hes; simp
          obtain ⟨y, hy⟩ : ∃ y, c[j]? = some y := ⟨c[j], by simp [hjc]⟩
          have := he j 0 hj2 (by rw [hej]; simp [V.cells]) y (by simpa using hy)
          simp only [hej, V.cells, List.getElem_cons_zero] at this
          rw [hy]
          cases this
          rfl
        have hH : Holds (Value.int .i64) w b 0 l.toArray := by
          intro j hj
          have hj' : j < l.length := by simpa using hj
          refine ⟨?_, ?_⟩
          · simp only [World.cell?, hb, Nat.zero_add]
            rw [hcell j hj']
            simp [hj', getElem!_pos]
          · simp only [World.frozen?, hb, Nat.zero_add]
            have := hf j (by omega)
            cases hh : (decide (fr.1 ≤ j) && decide (j < fr.2)) with
            | false => rfl
            | true => simp at hh; simp at this; omega
        rw [hlen']
        refine (Go.Proofs.Any.slices_Reverse_int L b 0 cap l w hH hlen).mono ?_
        rintro e' w' ⟨rfl, n, rfl⟩
        obtain ⟨c', hwr⟩ := rev_world hb n l.reverse (by simp; omega)
        have hE0 : E b = some 0 := by simpa using hE
        have hfr := hwr.framed hb ho hO hE0 (Nat.le_refl 0) (Nat.le_refl 0)
        refine ⟨_, setB E b (some 0), relo (moveP [0, 0, 0] [2, 0, 0]) O, rfl, hfr.trans (relo_framed hfr.own _), .tup rfl (fun j hj => by simp at hj), rfl, fun k hk _ => ?_⟩
        have hk0 : k = 0 := by simp at hk; omega
        subst hk0
        simp only [List.getElem_cons_zero]
        refine .cell (.one rfl ?_)
        have hx : (#[Value.slice (some ⟨b, 0, none⟩) l.length cap].getD 0 undef) = .slice (some ⟨b, 0, none⟩) (l.reverse.map (V.int .i64)).length cap := by simp
        rw [hx]
        refine .own (.inr rfl) hwr.at_ (by rw [hwr.size]; omega) (by simpa using hl') (fun o ho2 => hf o (by rw [← hwr.size]; exact ho2)) (by simp [setB]) (fun _ => rfl) ?_ ?_ ?_
        · have := moveP_pre [0, 0, 0] [2, 0, 0] []
          simp only [List.append_nil] at this
          simp only [relo, hO, Option.map_some]
          rw [show ([0, 0] ++ [0] : Pos) = [0, 0, 0] from rfl, this]
          rfl
        · intro i hi
          simp [V.cells]
        · intro i j hi hj y hy
          have hj0 : j = 0 := by simp [V.cells] at hj; omega
          subst hj0
          have hi' : i < l.length := by simpa using hi
          have := hwr.new i (by simpa using hi')
          simp only [Nat.zero_add, Nat.mul_one, Nat.add_zero] at this hy
          rw [this] at hy
          simp only [List.getElem?_map, List.getElem?_eq_getElem (show i < l.reverse.length by simpa using hi'), Option.map_some] at hy
          obtain rfl := Option.some.inj hy
          simp only [List.getElem_map, V.cells, List.getElem_cons_zero]
          exact .int _ _
  · cases h

end Go.AE
namespace Go.AE
open Go.RowKit

theorem framed_below {w w' : World} {E : Bnd} {O : Own} (h : Below w.heap.size w w') (ho : ∀ b p, O b = some p → b < w.heap.size) : Framed w E O w' E O := by
  refine ⟨⟨h.size, fun b c e fr hb => ⟨c, fr, by rw [h.block b (lt_of_some hb)]; exact hb, rfl, fun _ _ => rfl⟩, fun b _ x hx => ⟨x, hx, Nat.le_refl _⟩⟩, fun b hb _ => ⟨h.block b hb, rfl, by assumption⟩, h.os, h.tape, h.output, fun b p hb => Nat.lt_of_lt_of_le (ho b p hb) h.size⟩

theorem clone_ok {P : Program} {f : FuncId} {sz : Nat} (hfn : ∃ fn, P.funcs[f]? = some fn ∧ fn.name ≠ "runtime.NumGoroutine" ∧ fn.body.isSome = true)
    (h0 : ∀ n c w, Calls P f #[.slice none n c] w fun e w' => e = .returned (.slice none 0 0) ∧ w' = w)
    (h1 : ∀ a c w, Calls P f #[.slice (some a) 0 c] w fun e w' => ∃ b, e = .returned (.slice (some b) 0 0) ∧ Below w.heap.size w w') : FnOk P f [.sl 0 sz []] (.sl 0 sz []) [] := by
  refine ⟨hfn, fun w E O xs hl ho hr => ?_⟩
  obtain ⟨x, rfl⟩ : ∃ x, xs = #[x] := by
    rcases xs with ⟨xs⟩
    match xs, hl with
    | [x], _ => exact ⟨x, rfl⟩
  have hr1 := (hr 0 (by simp) (by simp)).of_tmp rfl (by simp) (by simp)
  simp only [List.getElem_cons_zero, List.getElem_toArray] at hr1
  have some_case : ∀ a c, Calls P f #[.slice (some a) 0 c] w fun e w' => ∃ x E' O', e = .returned x ∧ Framed w E O w' E' O' ∧ RT w' E' noS O' [1] (.sl 0 sz []) x ∧ ([] : List V).length = (iosOf 0 [V.sl 0 sz []]).length ∧
      ∀ k (h : k < ([] : List V).length) (h' : k < (iosOf 0 [V.sl 0 sz []]).length), RT w' E' noS O' [2, k] (([] : List V)[k]) ((#[Value.slice (some a) 0 c] : Array Value).getD ((iosOf 0 [V.sl 0 sz []])[k]) undef) := by
    intro a c
    refine (h1 a c w).mono ?_
    rintro e w' ⟨b, rfl, hb⟩
    exact ⟨_, E, O, rfl, framed_below hb ho, .cell (.one rfl (.free (.base (.slE sz _)))), rfl, fun k hk => by simp at hk⟩
  have none_case : Calls P f #[.slice none 0 0] w fun e w' => ∃ x E' O', e = .returned x ∧ Framed w E O w' E' O' ∧ RT w' E' noS O' [1] (.sl 0 sz []) x ∧ ([] : List V).length = (iosOf 0 [V.sl 0 sz []]).length ∧
      ∀ k (h : k < ([] : List V).length) (h' : k < (iosOf 0 [V.sl 0 sz []]).length), RT w' E' noS O' [2, k] (([] : List V)[k]) ((#[Value.slice none 0 0] : Array Value).getD ((iosOf 0 [V.sl 0 sz []])[k]) undef) := by
    refine (h0 0 0 w).mono ?_
    rintro e w' ⟨rfl, rfl⟩
    exact ⟨_, E, O, rfl, Framed.refl ho, .cell (.one rfl (.free (.base (.slNil 0 sz)))), rfl, fun k hk => by simp at hk⟩
  cases hr1 with
  | free hr1 => cases hr1 with
    | base hr1 => cases hr1 with
      | slNil => exact none_case
      | slE _ a => cases a with
        | none => exact none_case
        | some a => exact some_case a 0
      | sl hb hc hl2 hE hw he => exact some_case _ _
  | own ho2 => omega

end Go.AE
