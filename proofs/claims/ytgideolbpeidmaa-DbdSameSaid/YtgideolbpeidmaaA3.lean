/- An evaluator of the bodies of functions, and that what it says holds: a call of which it says a result returns just this result and leaves all that it does not own as it was. Conditions: none. -/
import Derived.Test.YtgideolbpeidmaaA2
import Derived.Shelf.Slices.Reverse
namespace Go.AE
open Go.RowKit Go.Shelf Go.Sort Go.Proofs

theorem rev_world {w : World} {b : Nat} {c : Array Value} {e : TypeId} {fr : Nat × Nat} (hb : w.heap[b]? = some (.cells c e fr)) (n : Nat) (l : List Int) (hl : l.length ≤ c.size) :
    ∃ c', Wrote w (putRow (Value.int .i64) (Sort.ahead w n) b 0 l.toArray) b 0 (l.map (Value.int .i64)) c e fr c' := by
  refine ⟨putCells (Value.int .i64) 0 l.toArray c, ?_, ?_, ?_, ?_, ?_, ?_, rfl, rfl, rfl⟩
  · simp [putRow, mapBlock, Sort.ahead, Array.getElem?_modify, hb, onCells]
  · simp [putCells]
  · intro j hj
    simp only [List.length_map] at hj
    have hjc : j < c.size := by omega
    simp [putCells, hjc, hj]
  · intro i hi
    simp only [List.length_map, Nat.zero_add] at hi
    have hi' : ¬ i < l.length := by omega
    simp [putCells, hi']
  · intro b' hb'
    simp only [putRow, mapBlock, Sort.ahead, Array.getElem?_modify]
    rw [if_neg (fun h => hb' h.symm)]
  · simp [putRow, mapBlock, Sort.ahead]

set_option linter.unusedSimpArgs false in
theorem reverse_ok {P : Program} {ρ : Ren} (L : Lays.n112 P ρ) (args : List V) (r : V) (outs : List V) (h : extReverseInt args = some (r, outs)) : FnOk P (ρ.f 112) args r outs := by
  refine ⟨⟨Body.n112 ρ, L.f112, by simp [Body.n112], rfl⟩, ?_⟩
  intro w E O xs hl ho hr
  unfold extReverseInt at h
  split at h
  · rename_i es
    obtain ⟨l, hl1, h⟩ := bind_some h
    obtain ⟨l2, hl2, h⟩ := map_some h
    injection h with h1 h2
    subst h1; subst h2
    obtain rfl := intsOf_eq hl1
    unfold revInt at hl2
    cases hble : Nat.ble l.length 9223372036854775807 with
    | false => rw [hble] at hl2; cases hl2
    | true =>
      rw [hble] at hl2
      obtain rfl := Option.some.inj hl2
      have hlen : l.length ≤ 9223372036854775807 := Nat.le_of_ble_eq_true hble
      obtain ⟨x, rfl⟩ : ∃ x, xs = #[x] := by
        rcases xs with ⟨xs⟩
        match xs, hl with
        | [x], _ => exact ⟨x, rfl⟩
      have hr1 := (hr 0 (by simp) (by simp)).of_tmp rfl (by simp) (by simp)
      simp only [List.getElem_cons_zero, List.getElem_toArray] at hr1
      have hout : (iosOf 0 [V.sl 2 1 (l.map (V.int .i64))]) = [0] := rfl
      rw [hout]
      generalize hes : l.map (V.int .i64) = es at hr1
      cases hr1 with
      | free hr1 =>
        cases hr1 with
        | base hr1 =>
          cases hr1 with
          | slNil =>
            have hl0 : l = [] := by simpa using hes
            subst hl0
            refine (Go.Proofs.Any.slices_Reverse_int_empty L none 0 w).mono ?_
            rintro e w' ⟨rfl, rfl⟩
            refine ⟨_, E, O, rfl, Framed.refl ho, .tup rfl (fun j hj => by simp at hj), rfl, fun k hk _ => ?_⟩
            have hk0 : k = 0 := by simp at hk; omega
            subst hk0
            exact .cell (.one rfl (.free (.base (.slNil 2 1))))
      | @own _ _ _ b off cap c e fr ho' hb hc hl' hf hE h0 hO hw he =>
        have hoff := h0 rfl
        subst hoff
        have hlen' : es.length = l.length := by rw [← hes, List.length_map]
        rw [hlen'] at hl'
        have hcell : ∀ j (hj : j < l.length), c[j]? = some (Value.int .i64 l[j]) := by
          intro j hj
          have hjc : j < c.size := by omega
          have hj2 : j < es.length := by omega
          have hej : es[j] = V.int .i64 l[j] := by subst hes; simp
          obtain ⟨y, hy⟩ : ∃ y, c[j]? = some y := ⟨c[j], by simp [hjc]⟩
          have := he j 0 hj2 (by rw [hej]; simp [V.cells]) y (by simpa using hy)
          simp only [hej, V.cells, List.getElem_cons_zero] at this
          rw [hy]
          cases this
          rfl
        have hH : Holds (Value.int .i64) w b 0 l.toArray := by
          intro j hj
          have hj' : j < l.length := by simpa using hj
          refine ⟨?_, ?_⟩
          · simp only [World.cell?, hb, Nat.zero_add]
            rw [hcell j hj']
            simp [hj', getElem!_pos]
          · simp only [World.frozen?, hb, Nat.zero_add]
            have := hf j (by omega)
            cases hh : (decide (fr.1 ≤ j) && decide (j < fr.2)) with
            | false => rfl
            | true => simp at hh; simp at this; omega
        rw [hlen']
        refine (Go.Proofs.Any.slices_Reverse_int L b 0 cap l w hH hlen).mono ?_
        rintro e' w' ⟨rfl, n, rfl⟩
        obtain ⟨c', hwr⟩ := rev_world hb n l.reverse (by simp; omega)
        have hE0 : E b = some 0 := by simpa using hE
        have hfr := hwr.framed hb ho hO hE0 (Nat.le_refl 0) (Nat.le_refl 0)
        refine ⟨_, setB E b (some 0), relo (moveP [0, 0, 0] [2, 0, 0]) O, rfl, hfr.trans (relo_framed hfr.own _), .tup rfl (fun j hj => by simp at hj), rfl, fun k hk _ => ?_⟩
        have hk0 : k = 0 := by simp at hk; omega
        subst hk0
        simp only [List.getElem_cons_zero]
        refine .cell (.one rfl ?_)
        have hx : (#[Value.slice (some ⟨b, 0, none⟩) l.length cap].getD 0 undef) = .slice (some ⟨b, 0, none⟩) (l.reverse.map (V.int .i64)).length cap := by simp
        rw [hx]
        refine .own (.inr rfl) hwr.at_ (by rw [hwr.size]; omega) (by simpa using hl') (fun o ho2 => hf o (by rw [← hwr.size]; exact ho2)) (by simp [setB]) (fun _ => rfl) ?_ ?_ ?_
        · have := moveP_pre [0, 0, 0] [2, 0, 0] []
          simp only [List.append_nil] at this
          simp only [relo, hO, Option.map_some]
          rw [show ([0, 0] ++ [0] : Pos) = [0, 0, 0] from rfl, this]
          rfl
        · intro i hi
          simp [V.cells]
        · intro i j hi hj y hy
          have hj0 : j = 0 := by simp [V.cells] at hj; omega
          subst hj0
          have hi' : i < l.length := by simpa using hi
          have := hwr.new i (by simpa using hi')
          simp only [Nat.zero_add, Nat.mul_one, Nat.add_zero] at this hy
          rw [this] at hy
          simp only [List.getElem?_map, List.getElem?_eq_getElem (show i < l.reverse.length by simpa using hi'), Option.map_some] at hy
          obtain rfl := Option.some.inj hy
          simp only [List.getElem_map, V.cells, List.getElem_cons_zero]
          exact .int _ _
  · cases h

end Go.AE
