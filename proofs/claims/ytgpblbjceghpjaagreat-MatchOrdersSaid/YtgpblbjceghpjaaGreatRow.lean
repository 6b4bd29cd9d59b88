/- Joined by And or Or, two conditions hold for the same data whichever comes first, and a condition joined with itself holds just where it does. -/
import Derived.Test.YtgpblbjceghpjaaGreatRows
import Derived.Test.YtgpblbjceghpjaaGreatE2
import Derived.Test.YtgpblbjceghpjaaGreatB1
import Derived.Test.YtgpblbjceghpjaaGreatA3
import Derived.Test.YtgpblbjceghpjaaGreatS1
import Derived.Shelf.Spec.SlicesGrow
import Derived.Laws.AppendOwn
import Derived.Laws.AppendOwnNone
import Derived.Laws.CopyOwn
import Derived.WalkKit
import Derived.Lib.Walk
import Derived.Lib.SliceRun
import Derived.Deep.LoopGhost
import Derived.Shelf.RegionOpenPlain
import Derived.ProofKit
import Derived.OpenShut
import Derived.ShutString
import Derived.ChangeOld
import Derived.Below
import Derived.SizedLaws
import Derived.Carry
namespace Go.Proofs.YtgpblbjceghpjaaGreat
open Go.ChangeShapes Go.WideShapes Go.ChangeAt Go.RowKit Go.AE Go.Sh
set_option linter.unusedVariables false
set_option maxRecDepth 100000
theorem own : ownKnob Tryz.prog.godebug = none := by kernel_rfl
theorem laidOut : laidOutB Tryz.prog = true := by kernel_rfl
theorem mixed : Tryz.prog.follows .mixedOrders = true := by kernel_rfl
def rho : Go.Shelf.Ren := ⟨fun _ => 98, fun t => bif Nat.beq t 3 then 3 else bif Nat.beq t 4 then 4 else bif Nat.beq t 28 then 107 else t, fun g => g⟩
theorem lays : Go.Proofs.Lays.n112 Tryz.prog rho := ⟨mixed, Tryz.func98, Tryz.underlying0, Tryz.isAgg0, Tryz.sizeOf0, Tryz.zeroValue0, Tryz.underlying3, Tryz.isAgg3, Tryz.sizeOf3, Tryz.zeroValue3, Tryz.underlying4, Tryz.isAgg4, Tryz.sizeOf4, Tryz.zeroValue4, Tryz.underlying107, Tryz.isAgg107, Tryz.sizeOf107, Tryz.zeroValue107⟩
theorem clone_nil59 (n c : Nat) (w : World) : Calls Tryz.prog 59 #[.slice none n c] w fun e w' => e = .returned (.slice none 0 0) ∧ w' = w := by
  have q22 : ∀ (w : World) (a : Option Addr) (n c n' c' : Nat), (binOp .eql 46 (.slice a n c) (.slice none n' c')).run Tryz.prog w = .ok (.bool a.isNone) w := fun w a n c n' c' => Lib.run_eql_slice_nil w _ _ a n c n' c' Tryz.underlying46
  go_enter Tryz.func59, Tryz.ntmps59
  go_wp2
  go_ret
  exact ⟨rfl, rfl⟩
theorem clone_zero59 (a : Addr) (c : Nat) (w : World) : Calls Tryz.prog 59 #[.slice (some a) 0 c] w fun e w' => ∃ b, e = .returned (.slice (some b) 0 0) ∧ Below w.heap.size w w' := by
  have q22 : ∀ (w : World) (a : Option Addr) (n c n' c' : Nat), (binOp .eql 46 (.slice a n c) (.slice none n' c')).run Tryz.prog w = .ok (.bool a.isNone) w := fun w a n c n' c' => Lib.run_eql_slice_nil w _ _ a n c n' c' Tryz.underlying46
  go_enter Tryz.func59, Tryz.ntmps59
  go_wp2
  go_ret
  exact ⟨_, rfl, (Below.refl _ w).alloc (Nat.le_refl _) _⟩
def catRen33 : Go.Shelf.Ren := ⟨fun | 4 => 60 | n => n, fun | 22 => 46 | 25 => 48 | n => n, fun n => n⟩
theorem catLays33 : Go.Proofs.Lays8.n4 Tryz.prog catRen33 := {
  mixed := by kernel_rfl
  f4 := ⟨"slices.Grow[[]progeny/api.Term,progeny/api.Term]", by decide, Tryz.func60.trans (congrArg some (by kernel_rfl))⟩
  t0 := Tryz.underlying0
  a0 := Tryz.isAgg0
  z0 := Tryz.sizeOf0
  v0 := Tryz.zeroValue0
  t3 := Tryz.underlying3
  a3 := Tryz.isAgg3
  z3 := Tryz.sizeOf3
  v3 := Tryz.zeroValue3
  t4 := Tryz.underlying4
  a4 := Tryz.isAgg4
  z4 := Tryz.sizeOf4
  v4 := Tryz.zeroValue4
  t9 := Tryz.underlying9
  a9 := Tryz.isAgg9
  z9 := Tryz.sizeOf9
  v9 := Tryz.zeroValue9
  t20 := Tryz.underlying20
  a20 := Tryz.isAgg20
  z20 := Tryz.sizeOf20
  v20 := Tryz.zeroValue20
  t22 := Tryz.underlying46
  a22 := Tryz.isAgg46
  z22 := Tryz.sizeOf46
  v22 := Tryz.zeroValue46 }

def catZero33 : Value := .agg #[.string ByteArray.empty, .int .i64 0, .string ByteArray.empty]
theorem catInfo33 : (Tryz.prog.info? 48).map (fun i => (i.zero, i.size, i.bytes)) = some (some catZero33, 3, 40) := by kernel_rfl

theorem catGrow33 (n : Nat) (w : World) (hn : n ≤ 4294967296) : Calls Tryz.prog 60 #[.slice none 0 0, .int .i64 (n : Int)] w fun e w' => ∃ v, e = .returned v ∧ w'.ownsRow w.heap.size 48 3 v 0 [] ∧ Below w.heap.size w w' := by
  by_cases h0 : n = 0
  · subst h0
    refine (Any8.slices_Grow_room catLays33 none 0 0 0 w (Nat.le_refl _) (by omega) (by omega) (Nat.le_refl _)).mono ?_
    rintro e w' ⟨rfl, rfl⟩
    exact ⟨_, rfl, ⟨rfl, .inl ⟨rfl, rfl⟩⟩, Below.refl _ _⟩
  · obtain ⟨i0, hi0, hz0, hs0, hb0⟩ := info_parts catInfo33
    refine (Any8.slices_Grow_grow catLays33 i0 _ hi0 hz0 (by omega) none 0 0 n [] w (Nat.le_refl _) (by omega) (by rw [hb0]; omega) (by omega) (by simp) (fun _ => rfl) (fun a h => by cases h)).mono ?_
    rintro e w' ⟨rfl, rfl⟩
    have hG := grownCap_ge w (0 + n) 0 48
    have hGm := grownCap_le_maxLen w (0 + n) 0 48 (by unfold maxLen; omega)
    rw [show catRen33.t 25 = 48 from rfl]
    generalize grownCap w (0 + n) 0 48 = G at hG hGm
    refine ⟨_, rfl, ⟨rfl, .inr ⟨w.heap.size, G, #[] ++ Builtin.zeroCells catZero33.cells (0 + n - 0) ++ Builtin.zeroCells catZero33.cells (G - (0 + n)), rfl, Nat.le_refl _, ?_, Nat.zero_le _, hGm, ?_, ?_⟩⟩, ((Below.refl _ w).drew).alloc (Nat.le_refl _) _⟩
    · exact Array.getElem?_push_size (xs := w.drew.heap)
    · have hz : catZero33.cells.size = 3 := by decide
      simp only [Array.size_append, size_zeroCells, hz, List.size_toArray, List.length_nil]
      omega
    · rfl

set_option maxRecDepth 1000000 in
theorem catWalk33 (A : Addr) (cap : Nat) (ss : List CatSrc) (w : World) (hlen : ss.length ≤ 1000) (hcell : ∀ (i : Nat) (h : i < ss.length), w.cell? (A.add i) = some (.slice ss[i].a ss[i].n ss[i].c)) (hok : ∀ s ∈ ss, s.ok w 3) (htot : catLen ss ≤ 4294967296) :
    Calls Tryz.prog 33 #[.slice (some A) ss.length cap] w fun e w' => ∃ v, e = .returned v ∧ w'.ownsRow w.heap.size 48 3 v (catLen ss) (catAll ss) ∧ Below w.heap.size w w' := by
  go_enter Tryz.func33, Tryz.ntmps33
  go_wp2
  go_loopw [3, 11] (fun vs vi wr => ∃ m : Nat, m ≤ ss.length ∧ vi = .int .i64 (m : Int) ∧ vs = .int .i64 ((catLen (ss.take m) : Nat) : Int) ∧ w = wr) (fun vs vi _ => ss.length - (intOf vi).toNat)
  case atStart => exact ⟨0, Nat.zero_le _, rfl, rfl, rfl⟩
  case round =>
    obtain ⟨m, hm, rfl, rfl, rfl⟩ := hrel
    by_cases hmx : m < ss.length
    · have hc := hcell m hmx
      have hT := catLen_take hmx
      have hL := catLen_le ss (m + 1)
      go_wp2
      all_goals go_roundw
      case rel => refine ⟨m + 1, hmx, ?_, ?_, ?_⟩ <;> first | trivial | go_num | (rw [hT]; go_num)
      case measure => simp [intOf]; omega
    · obtain rfl : m = ss.length := by omega
      rw [List.take_length]
      have hG := catGrow33 (catLen ss) w htot
      go_wp2_with (go_at_call 60; refine hG.mono ?_; rintro e w' ⟨v, rfl, hown, hbel⟩)
      clear hG
      obtain ⟨i0, hi0, hz0, hs0, hb0⟩ := info_parts catInfo33
      go_loopw [6, 27] (fun v vi wq => ∃ m : Nat, m ≤ ss.length ∧ vi = .int .i64 (m : Int) ∧ wq.ownsRow w.heap.size 48 3 v (catLen (ss.take m)) (catAll (ss.take m)) ∧ Below w.heap.size w wq) (fun v vi _ => ss.length - (intOf vi).toNat)
      case atStart => exact ⟨0, Nat.zero_le _, rfl, hown, hbel⟩
      case round =>
        obtain ⟨m, hm2, rfl, hown2, hb2⟩ := hrel
        by_cases hmx2 : m < ss.length
        · have hT2 := catLen_take hmx2
          have hA2 := catAll_take hmx2
          have hL2 := catLen_le ss (m + 1)
          have hc2 : wr.cell? (A.add m) = some (.slice ss[m].a ss[m].n ss[m].c) := (hb2.cell (World.block_lt_of_cell? w _ (hcell m hmx2))).trans (hcell m hmx2)
          obtain ⟨o1, o2, o3, o4, o5⟩ := (hok _ (List.getElem_mem hmx2)).below hb2
          cases ha : ss[m].a with
          | none =>
            obtain ⟨on, oc⟩ := o2 ha
            rw [ha, on, oc] at hc2
            have ox : ss[m].xs = [] := List.eq_nil_of_length_eq_zero (by rw [o1, on])
            rw [on, Nat.add_zero] at hT2
            rw [ox, List.append_nil] at hA2
            go_wp2_with (refine wpList_append_own_none rfl (.tmp 31) (.tmp 32) 46 rfl w.heap.size 48 i0 3 Tryz.underlying46 hi0 _ _ _ rfl hown2 rfl ?_)
            all_goals go_roundw
            case rel => exact ⟨m + 1, hmx2, by go_num, by rw [hT2, hA2]; exact hown2, hb2⟩
            case measure => simp [intOf]; omega
          | some ad =>
            rw [ha] at hc2
            go_wp2_with (refine wpList_append_own _ rfl (.tmp 31) (.tmp 32) 46 rfl w.heap.size 48 i0 catZero33 3 40 Tryz.underlying46 hi0 hz0 hs0 hb0 (by decide) (by decide) _ _ _ rfl hown2 ad _ _ ss[m].xs rfl o1 (o3 ad ha) o4 (by unfold maxLen; omega) (by omega) hb2.size (fun v' wq' h2 h3 h4 => ?_))
            all_goals go_roundw
            case rel =>
              refine ⟨m + 1, hmx2, by go_num, by rw [hT2, hA2]; exact h2, hb2.grown h3 hb2.size (fun k hk => ?_)⟩
              rcases hown2.2 with ⟨e1, _⟩ | ⟨g, cp, cur, e1, e2, _⟩
              · rw [e1] at hk; cases hk
              · rw [e1] at hk; cases hk; exact e2
            case measure => simp [intOf]; omega
        · obtain rfl : m = ss.length := by omega
          rw [List.take_length] at hown2
          go_wp2
          go_ret
          exact ⟨_, rfl, hown2, hb2⟩
def catRen35 : Go.Shelf.Ren := ⟨fun | 4 => 61 | n => n, fun | 22 => 26 | 25 => 46 | n => n, fun n => n⟩
theorem catLays35 : Go.Proofs.Lays8.n4 Tryz.prog catRen35 := {
  mixed := by kernel_rfl
  f4 := ⟨"slices.Grow[[][]progeny/api.Term,[]progeny/api.Term]", by decide, Tryz.func61.trans (congrArg some (by kernel_rfl))⟩
  t0 := Tryz.underlying0
  a0 := Tryz.isAgg0
  z0 := Tryz.sizeOf0
  v0 := Tryz.zeroValue0
  t3 := Tryz.underlying3
  a3 := Tryz.isAgg3
  z3 := Tryz.sizeOf3
  v3 := Tryz.zeroValue3
  t4 := Tryz.underlying4
  a4 := Tryz.isAgg4
  z4 := Tryz.sizeOf4
  v4 := Tryz.zeroValue4
  t9 := Tryz.underlying9
  a9 := Tryz.isAgg9
  z9 := Tryz.sizeOf9
  v9 := Tryz.zeroValue9
  t20 := Tryz.underlying20
  a20 := Tryz.isAgg20
  z20 := Tryz.sizeOf20
  v20 := Tryz.zeroValue20
  t22 := Tryz.underlying26
  a22 := Tryz.isAgg26
  z22 := Tryz.sizeOf26
  v22 := Tryz.zeroValue26 }

def catZero35 : Value := .slice none 0 0
theorem catInfo35 : (Tryz.prog.info? 46).map (fun i => (i.zero, i.size, i.bytes)) = some (some catZero35, 1, 24) := by kernel_rfl

theorem catGrow35 (n : Nat) (w : World) (hn : n ≤ 4294967296) : Calls Tryz.prog 61 #[.slice none 0 0, .int .i64 (n : Int)] w fun e w' => ∃ v, e = .returned v ∧ w'.ownsRow w.heap.size 46 1 v 0 [] ∧ Below w.heap.size w w' := by
  by_cases h0 : n = 0
  · subst h0
    refine (Any8.slices_Grow_room catLays35 none 0 0 0 w (Nat.le_refl _) (by omega) (by omega) (Nat.le_refl _)).mono ?_
    rintro e w' ⟨rfl, rfl⟩
    exact ⟨_, rfl, ⟨rfl, .inl ⟨rfl, rfl⟩⟩, Below.refl _ _⟩
  · obtain ⟨i0, hi0, hz0, hs0, hb0⟩ := info_parts catInfo35
    refine (Any8.slices_Grow_grow catLays35 i0 _ hi0 hz0 (by omega) none 0 0 n [] w (Nat.le_refl _) (by omega) (by rw [hb0]; omega) (by omega) (by simp) (fun _ => rfl) (fun a h => by cases h)).mono ?_
    rintro e w' ⟨rfl, rfl⟩
    have hG := grownCap_ge w (0 + n) 0 46
    have hGm := grownCap_le_maxLen w (0 + n) 0 46 (by unfold maxLen; omega)
    rw [show catRen35.t 25 = 46 from rfl]
    generalize grownCap w (0 + n) 0 46 = G at hG hGm
    refine ⟨_, rfl, ⟨rfl, .inr ⟨w.heap.size, G, #[] ++ Builtin.zeroCells catZero35.cells (0 + n - 0) ++ Builtin.zeroCells catZero35.cells (G - (0 + n)), rfl, Nat.le_refl _, ?_, Nat.zero_le _, hGm, ?_, ?_⟩⟩, ((Below.refl _ w).drew).alloc (Nat.le_refl _) _⟩
    · exact Array.getElem?_push_size (xs := w.drew.heap)
    · have hz : catZero35.cells.size = 1 := by decide
      simp only [Array.size_append, size_zeroCells, hz, List.size_toArray, List.length_nil]
      omega
    · rfl

set_option maxRecDepth 1000000 in
theorem catWalk35 (A : Addr) (cap : Nat) (ss : List CatSrc) (w : World) (hlen : ss.length ≤ 1000) (hcell : ∀ (i : Nat) (h : i < ss.length), w.cell? (A.add i) = some (.slice ss[i].a ss[i].n ss[i].c)) (hok : ∀ s ∈ ss, s.ok w 1) (htot : catLen ss ≤ 4294967296) :
    Calls Tryz.prog 35 #[.slice (some A) ss.length cap] w fun e w' => ∃ v, e = .returned v ∧ w'.ownsRow w.heap.size 46 1 v (catLen ss) (catAll ss) ∧ Below w.heap.size w w' := by
  go_enter Tryz.func35, Tryz.ntmps35
  go_wp2
  go_loopw [3, 11] (fun vs vi wr => ∃ m : Nat, m ≤ ss.length ∧ vi = .int .i64 (m : Int) ∧ vs = .int .i64 ((catLen (ss.take m) : Nat) : Int) ∧ w = wr) (fun vs vi _ => ss.length - (intOf vi).toNat)
  case atStart => exact ⟨0, Nat.zero_le _, rfl, rfl, rfl⟩
  case round =>
    obtain ⟨m, hm, rfl, rfl, rfl⟩ := hrel
    by_cases hmx : m < ss.length
    · have hc := hcell m hmx
      have hT := catLen_take hmx
      have hL := catLen_le ss (m + 1)
      go_wp2
      all_goals go_roundw
      case rel => refine ⟨m + 1, hmx, ?_, ?_, ?_⟩ <;> first | trivial | go_num | (rw [hT]; go_num)
      case measure => simp [intOf]; omega
    · obtain rfl : m = ss.length := by omega
      rw [List.take_length]
      have hG := catGrow35 (catLen ss) w htot
      go_wp2_with (go_at_call 61; refine hG.mono ?_; rintro e w' ⟨v, rfl, hown, hbel⟩)
      clear hG
      obtain ⟨i0, hi0, hz0, hs0, hb0⟩ := info_parts catInfo35
      go_loopw [6, 27] (fun v vi wq => ∃ m : Nat, m ≤ ss.length ∧ vi = .int .i64 (m : Int) ∧ wq.ownsRow w.heap.size 46 1 v (catLen (ss.take m)) (catAll (ss.take m)) ∧ Below w.heap.size w wq) (fun v vi _ => ss.length - (intOf vi).toNat)
      case atStart => exact ⟨0, Nat.zero_le _, rfl, hown, hbel⟩
      case round =>
        obtain ⟨m, hm2, rfl, hown2, hb2⟩ := hrel
        by_cases hmx2 : m < ss.length
        · have hT2 := catLen_take hmx2
          have hA2 := catAll_take hmx2
          have hL2 := catLen_le ss (m + 1)
          have hc2 : wr.cell? (A.add m) = some (.slice ss[m].a ss[m].n ss[m].c) := (hb2.cell (World.block_lt_of_cell? w _ (hcell m hmx2))).trans (hcell m hmx2)
          obtain ⟨o1, o2, o3, o4, o5⟩ := (hok _ (List.getElem_mem hmx2)).below hb2
          cases ha : ss[m].a with
          | none =>
            obtain ⟨on, oc⟩ := o2 ha
            rw [ha, on, oc] at hc2
            have ox : ss[m].xs = [] := List.eq_nil_of_length_eq_zero (by rw [o1, on])
            rw [on, Nat.add_zero] at hT2
            rw [ox, List.append_nil] at hA2
            go_wp2_with (refine wpList_append_own_none rfl (.tmp 31) (.tmp 32) 26 rfl w.heap.size 46 i0 1 Tryz.underlying26 hi0 _ _ _ rfl hown2 rfl ?_)
            all_goals go_roundw
            case rel => exact ⟨m + 1, hmx2, by go_num, by rw [hT2, hA2]; exact hown2, hb2⟩
            case measure => simp [intOf]; omega
          | some ad =>
            rw [ha] at hc2
            go_wp2_with (refine wpList_append_own _ rfl (.tmp 31) (.tmp 32) 26 rfl w.heap.size 46 i0 catZero35 1 24 Tryz.underlying26 hi0 hz0 hs0 hb0 (by decide) (by decide) _ _ _ rfl hown2 ad _ _ ss[m].xs rfl o1 (o3 ad ha) o4 (by unfold maxLen; omega) (by omega) hb2.size (fun v' wq' h2 h3 h4 => ?_))
            all_goals go_roundw
            case rel =>
              refine ⟨m + 1, hmx2, by go_num, by rw [hT2, hA2]; exact h2, hb2.grown h3 hb2.size (fun k hk => ?_)⟩
              rcases hown2.2 with ⟨e1, _⟩ | ⟨g, cp, cur, e1, e2, _⟩
              · rw [e1] at hk; cases hk
              · rw [e1] at hk; cases hk; exact e2
            case measure => simp [intOf]; omega
        · obtain rfl : m = ss.length := by omega
          rw [List.take_length] at hown2
          go_wp2
          go_ret
          exact ⟨_, rfl, hown2, hb2⟩
theorem ext_ok : ∀ f args r outs, Go.AE.ext f args = some (some (r, outs)) → FnOk Tryz.prog f args r outs := by
  intro f args r outs h
  unfold Go.AE.ext at h
  cases hf0 : Nat.beq f 98 with
  | true =>
    rw [hf0] at h
    obtain rfl := Nat.eq_of_beq_eq_true hf0
    exact reverse_ok lays args r outs (Option.some.inj h)
  | false =>
    rw [hf0] at h
    simp only [cond_false] at h
    cases hf1 : Nat.beq f 22 with
    | true =>
      rw [hf1] at h
      obtain rfl := Nat.eq_of_beq_eq_true hf1
      exact strRep_ok Tryz.lays105 Tryz.Builder_Extra_105 args r outs (Option.some.inj h)
    | false =>
      rw [hf1] at h
      simp only [cond_false] at h
      cases hf2 : Nat.beq f 24 with
      | true =>
        rw [hf2] at h
        obtain rfl := Nat.eq_of_beq_eq_true hf2
        exact strJoin_ok Tryz.lays156 Tryz.Builder_Extra_156 args r outs (Option.some.inj h)
      | false =>
        rw [hf2] at h
        simp only [cond_false] at h
        cases hf3 : (Nat.beq f 59 && emptyArg args) with
        | true =>
          rw [hf3] at h
          rw [Bool.and_eq_true] at hf3
          obtain rfl := Nat.eq_of_beq_eq_true hf3.1
          obtain ⟨sz, rfl⟩ := emptyArg_eq hf3.2
          have h2 := Option.some.inj (Option.some.inj h)
          injection h2 with h3 h4
          subst h3; subst h4
          exact clone_ok ⟨_, Tryz.func59, by decide, rfl⟩ clone_nil59 clone_zero59
        | false =>
          rw [hf3] at h
          simp only [cond_false] at h
          cases hf4 : Nat.beq f 33 with
          | true =>
            rw [hf4] at h
            obtain rfl := Nat.eq_of_beq_eq_true hf4
            exact concat_ok (sz := 3) (e := 48) ⟨_, Tryz.func33, by decide, rfl⟩ catWalk33 args r outs (Option.some.inj h)
          | false =>
            rw [hf4] at h
            simp only [cond_false] at h
            cases hf5 : Nat.beq f 35 with
            | true =>
              rw [hf5] at h
              obtain rfl := Nat.eq_of_beq_eq_true hf5
              exact concat_ok (sz := 1) (e := 46) ⟨_, Tryz.func35, by decide, rfl⟩ catWalk35 args r outs (Option.some.inj h)
            | false =>
              rw [hf5] at h
              simp only [cond_false] at h
              cases hf6 : Nat.beq f 66 with
              | true =>
                rw [hf6] at h
                obtain rfl := Nat.eq_of_beq_eq_true hf6
                exact strCmp_ok Tryz.lays106 args r outs (Option.some.inj h)
              | false =>
                rw [hf6] at h
                simp only [cond_false] at h
                cases h
theorem opens_43 {H : Type} {enc : TypeId × Value → H} {w : World} : Opens enc Tryz.prog w 43 (fun a => (eField a).cells) wf_T_api_Field :=
  (opens_struct (β := Str × Int × Int × Unit) (encA := eField) Tryz.underlying43 (by kernel_rfl) (opensF_cons (sz := 1) rfl rfl (by kernel_rfl) (opens_str Tryz.underlying9 (by kernel_rfl)) (opensF_cons (sz := 1) rfl rfl (by kernel_rfl) (opens_int Tryz.underlying3 (by kernel_rfl)) (opensF_cons (sz := 1) rfl rfl (by kernel_rfl) (opens_int Tryz.underlying3 (by kernel_rfl)) opensF_nil))) (fun b => ⟨b.1, b.2.1, b.2.2.1⟩) (fun a => (a.fName, a.fAt, a.fBytes, ())) (fun _ => rfl) (fun _ => rfl)).mono (fun a ⟨b, e, h⟩ => by subst e; exact h)
theorem opens_41 {H : Type} {enc : TypeId × Value → H} {w : World} : Opens enc Tryz.prog w 41 (fun a => (eType a).cells) wf_T_api_Type :=
  (opens_struct (β := Str × Int × Int × Int × (List T_api_Field) × Int × Bool × Bool × Unit) (encA := eType) Tryz.underlying41 (by kernel_rfl) (opensF_cons (sz := 1) rfl rfl (by kernel_rfl) (opens_str Tryz.underlying9 (by kernel_rfl)) (opensF_cons (sz := 1) rfl rfl (by kernel_rfl) (opens_int Tryz.underlying3 (by kernel_rfl)) (opensF_cons (sz := 1) rfl rfl (by kernel_rfl) (opens_int Tryz.underlying3 (by kernel_rfl)) (opensF_cons (sz := 1) rfl rfl (by kernel_rfl) (opens_int Tryz.underlying3 (by kernel_rfl)) (opensF_cons (sz := 1) rfl rfl (by kernel_rfl) (opens_slice (encE := eField) (sz := 3) Tryz.underlying39 (by kernel_rfl) (by kernel_rfl) (by decide) opens_43) (opensF_cons (sz := 1) rfl rfl (by kernel_rfl) (opens_int Tryz.underlying3 (by kernel_rfl)) (opensF_cons (sz := 1) rfl rfl (by kernel_rfl) (opens_bool Tryz.underlying4 (by kernel_rfl)) (opensF_cons (sz := 1) rfl rfl (by kernel_rfl) (opens_bool Tryz.underlying4 (by kernel_rfl)) opensF_nil)))))))) (fun b => ⟨b.1, b.2.1, b.2.2.1, b.2.2.2.1, b.2.2.2.2.1, b.2.2.2.2.2.1, b.2.2.2.2.2.2.1, b.2.2.2.2.2.2.2.1⟩) (fun a => (a.fName, a.fParent, a.fMin, a.fSize, a.fFields, a.fKey, a.fUnique, a.fLast, ())) (fun _ => rfl) (fun _ => rfl)).mono (fun a ⟨b, e, h⟩ => by subst e; exact h)
theorem opens_45 {H : Type} {enc : TypeId × Value → H} {w : World} : Opens enc Tryz.prog w 45 (fun a => (eSearch a).cells) wf_T_api_Search :=
  (opens_struct (β := Str × Int × Int × Str × Unit) (encA := eSearch) Tryz.underlying45 (by kernel_rfl) (opensF_cons (sz := 1) rfl rfl (by kernel_rfl) (opens_str Tryz.underlying9 (by kernel_rfl)) (opensF_cons (sz := 1) rfl rfl (by kernel_rfl) (opens_int Tryz.underlying3 (by kernel_rfl)) (opensF_cons (sz := 1) rfl rfl (by kernel_rfl) (opens_int Tryz.underlying3 (by kernel_rfl)) (opensF_cons (sz := 1) rfl rfl (by kernel_rfl) (opens_str Tryz.underlying9 (by kernel_rfl)) opensF_nil)))) (fun b => ⟨b.1, b.2.1, b.2.2.1, b.2.2.2.1⟩) (fun a => (a.fName, a.fType, a.fField, a.fSparse, ())) (fun _ => rfl) (fun _ => rfl)).mono (fun a ⟨b, e, h⟩ => by subst e; exact h)
theorem opens_25 {H : Type} {enc : TypeId × Value → H} {w : World} : Opens enc Tryz.prog w 25 (fun a => (eBase a).cells) wf_T_api_Base :=
  (opens_struct (β := Str × Int × (List T_api_Type) × (List T_api_Search) × Unit) (encA := eBase) Tryz.underlying25 (by kernel_rfl) (opensF_cons (sz := 1) rfl rfl (by kernel_rfl) (opens_str Tryz.underlying9 (by kernel_rfl)) (opensF_cons (sz := 1) rfl rfl (by kernel_rfl) (opens_int Tryz.underlying3 (by kernel_rfl)) (opensF_cons (sz := 1) rfl rfl (by kernel_rfl) (opens_slice (encE := eType) (sz := 8) Tryz.underlying22 (by kernel_rfl) (by kernel_rfl) (by decide) opens_41) (opensF_cons (sz := 1) rfl rfl (by kernel_rfl) (opens_slice (encE := eSearch) (sz := 4) Tryz.underlying23 (by kernel_rfl) (by kernel_rfl) (by decide) opens_45) opensF_nil)))) (fun b => ⟨b.1, b.2.1, b.2.2.1, b.2.2.2.1⟩) (fun a => (a.fName, a.fKind, a.fTypes, a.fIndexes, ())) (fun _ => rfl) (fun _ => rfl)).mono (fun a ⟨b, e, h⟩ => by subst e; exact h)
theorem opens_48 {H : Type} {enc : TypeId × Value → H} {w : World} : Opens enc Tryz.prog w 48 (fun a => (eTerm a).cells) wf_T_api_Term :=
  (opens_struct (β := Str × Int × Str × Unit) (encA := eTerm) Tryz.underlying48 (by kernel_rfl) (opensF_cons (sz := 1) rfl rfl (by kernel_rfl) (opens_str Tryz.underlying9 (by kernel_rfl)) (opensF_cons (sz := 1) rfl rfl (by kernel_rfl) (opens_int Tryz.underlying3 (by kernel_rfl)) (opensF_cons (sz := 1) rfl rfl (by kernel_rfl) (opens_str Tryz.underlying9 (by kernel_rfl)) opensF_nil))) (fun b => ⟨b.1, b.2.1, b.2.2.1⟩) (fun a => (a.fField, a.fOp, a.fValue, ())) (fun _ => rfl) (fun _ => rfl)).mono (fun a ⟨b, e, h⟩ => by subst e; exact h)
theorem opens_28 {H : Type} {enc : TypeId × Value → H} {w : World} : Opens enc Tryz.prog w 28 (fun a => (eCase a).cells) wf_T_progenylaw12_Case :=
  (opens_struct (β := T_api_Base × Int × (List (List T_api_Term)) × Unit) (encA := eCase) Tryz.underlying28 (by kernel_rfl) (opensF_cons (sz := 4) rfl rfl (by kernel_rfl) opens_25 (opensF_cons (sz := 1) rfl rfl (by kernel_rfl) (opens_int Tryz.underlying3 (by kernel_rfl)) (opensF_cons (sz := 1) rfl rfl (by kernel_rfl) (opens_slice (encE := (fun x => (V.sl 0 3 (List.map eTerm x)))) (sz := 1) Tryz.underlying26 (by kernel_rfl) (by kernel_rfl) (by decide) (opens_slice (encE := eTerm) (sz := 3) Tryz.underlying46 (by kernel_rfl) (by kernel_rfl) (by decide) opens_48)) opensF_nil))) (fun b => ⟨b.1, b.2.1, b.2.2.1⟩) (fun a => (a.fBase, a.fType, a.fWhen, ())) (fun _ => rfl) (fun _ => rfl)).mono (fun a ⟨b, e, h⟩ => by subst e; exact h)
theorem matchOrders_lifted (os : Os) (started : os.Started) (H : Type) (enc : TypeId × Value → H) :
    ReturnsInHanded {} Tryz.checked os 3 .any (Rows.matchOrdersSpec.pre6 enc Tryz.prog Tryz.f3 Rows.matchOrdersRow.domain false) (Rows.matchOrdersSpec.post enc Tryz.prog Tryz.f3 false true false false) := by
  refine returnsInHanded_of_change_sized (C := Tryz.checked) own started (by kernel_rfl) Tryz.func3
    (ChangeSpec.witness6 (enc := enc) (C := Tryz.checked) false ⟨#[], #[.agg #[.string ByteArray.empty, .int .i64 0, .slice none 0 0, .slice none 0 0, .int .i64 0, .slice none 0 0], .slice none 0 0, .string ByteArray.empty], []⟩ 8 (by kernel_rfl) (by kernel_rfl) (by kernel_rfl) (by kernel_rfl)) ?_
  intro W base args ds gs before hval0 hW hcnd hsz0 _
  have hval : ∀ (j : Nat) t v, Tryz.f3.params[j]? = some t → args[j]? = some v → Value.okWide Tryz.prog W .any base t v := hval0
  have hW' := hW
  obtain ⟨p, q, hA0, hV, rfl, hfz, hnd⟩ := hW
  have hA : DataW.TrodAll enc Tryz.prog W 0 (fun _ => true) true Tryz.f3.params.toList args.toList ds p := hA0
  rw [Tryz.params3] at hA hval
  obtain ⟨v0, vs0, d0, ds0, p0, q0, hargs, rfl, rfl, h0, r0⟩ := trodAll_cons hA
  obtain ⟨v1, vs1, d1, ds1, p1, q1, rfl, rfl, rfl, h1, r1⟩ := trodAll_cons r0
  obtain ⟨v2, vs2, d2, ds2, p2, q2, rfl, rfl, rfl, h2, r2⟩ := trodAll_cons r1
  obtain ⟨rfl, rfl, rfl⟩ := trodAll_nil r2
  obtain rfl : args = #[v0, v1, v2] := by cases args; simp_all
  obtain ⟨rfl, rfl⟩ := trodVars_none hV
  have lt0 : ∀ x ∈ p0, x.block < W.heap.size := by obtain ⟨m, hm⟩ := h0; exact DataW.trod_lt m _ _ _ hm
  obtain ⟨c0, rfl, _⟩ := okWide_struct Tryz.underlying28 (hval 0 28 v0 rfl rfl)
  obtain ⟨a0, w0, e0⟩ := h0.elim fun m hm => (opens_28).ok m _ _ hm
  have t0 : RT W noE noS noO [0, 0] (eCase a0) _ := rt_of_cells e0 ⟨fun _ => ⟨_, rfl⟩, fun _ => rfl⟩ (fun h => by cases h) (fun _ h => by cases h)
  have lt1 : ∀ x ∈ p1, x.block < W.heap.size := by obtain ⟨m, hm⟩ := h1; exact DataW.trod_lt m _ _ _ hm
  obtain ⟨c1, cl1, cc1, rfl⟩ := okWide_slice Tryz.underlying26 (hval 1 26 v1 rfl rfl)
  obtain ⟨a1, w1, e1⟩ := h1.elim fun m hm => ((opens_slice (encE := (fun x => (V.sl 0 3 (List.map eTerm x)))) (sz := 1) Tryz.underlying26 (by kernel_rfl) (by kernel_rfl) (by decide) (opens_slice (encE := eTerm) (sz := 3) Tryz.underlying46 (by kernel_rfl) (by kernel_rfl) (by decide) opens_48))).ok m _ _ hm
  have t1 : RT W noE noS noO [0, 1] (V.sl 0 1 (List.map (fun x => (V.sl 0 3 (List.map eTerm x))) a1)) _ := rt_of_cells e1 ⟨(fun h => by cases h), (fun ⟨_, h⟩ => by cases h)⟩ (fun _ => rfl) (fun _ h => by cases h)
  have lt2 : ∀ x ∈ p2, x.block < W.heap.size := by obtain ⟨m, hm⟩ := h2; exact DataW.trod_lt m _ _ _ hm
  obtain ⟨c2, rfl⟩ := okWide_string Tryz.underlying9 (hval 2 9 v2 rfl rfl)
  obtain ⟨a2, w2, e2⟩ := h2.elim fun m hm => ((opens_str Tryz.underlying9 (by kernel_rfl))).ok m _ _ hm
  have t2 : RT W noE noS noO [0, 2] (V.str a2) _ := rt_of_cells e2 ⟨(fun h => by cases h), (fun ⟨_, h⟩ => by cases h)⟩ (fun _ => rfl) (fun _ h => by cases h)
  clear hA0 hval0 hsz0
  obtain ⟨k, hk⟩ := law_law12_MatchOrders a0 a1 a2 w0 w1 w2
  have hev := (law12_MatchOrders_ok k a0 a1 a2).trans (by rw [hk]; rfl : _ = some (V.bool true, []))
  refine (row_calls (hm := mixed) ext_ok hev rfl (fun i h h' => ?_)).mono fun e W' ⟨he, bel⟩ => ?_
  · match i, h with
    | 0, _ => exact t0
    | 1, _ => exact t1
    | 2, _ => exact t2
  · subst he
    exact ⟨_, rfl, _, _, _, [], _, [], hW', trodAll_mk1 (shut_bool Tryz.underlying4 _), (trodAll_cons_mk (Below.trod laidOut (by kernel_rfl) (of_decide_eq_true (by kernel_rfl)) h0 bel lt0) (trodAll_cons_mk (Below.trod laidOut (by kernel_rfl) (of_decide_eq_true (by kernel_rfl)) h1 bel lt1) (trodAll_cons_mk (Below.trod laidOut (by kernel_rfl) (of_decide_eq_true (by kernel_rfl)) h2 bel lt2) trodAll_mk0))), rfl, bel.frame _, fun h => by cases h⟩
theorem matchOrders_over : Rows.matchOrdersRow.holds Tryz.pinned (OpenSpec.ofChange Rows.matchOrdersSpec) :=
  OpenClaim.holds_of_wide 3 Tryz.f3 rfl rfl rfl rfl rfl rfl rfl ⟨rfl, rfl, rfl, rfl, rfl⟩ rfl rfl rfl rfl rfl (by kernel_rfl) Tryz.func3 (by kernel_rfl)
    (of_decide_eq_true (by kernel_rfl)) (by unfold Func.isWrapper; first | (rw [if_pos (by decide +kernel)]; kernel_rfl) | (rw [if_neg (by decide +kernel)]; exact ⟨rfl, rfl⟩))
    (fun os started H enc _ => matchOrders_lifted os started H enc)
theorem matchOrders_holds : Rows.MatchOrdersSaid := matchOrders_over
end Go.Proofs.YtgpblbjceghpjaaGreat
