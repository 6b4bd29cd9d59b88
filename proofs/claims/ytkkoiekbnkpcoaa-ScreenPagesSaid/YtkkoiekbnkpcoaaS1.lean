/- Contracts of the library, laid at this program. Conditions: those that each theorem names. -/
import Derived.Shelf.Strings.Builder1
import Derived.Shelf.Strings.Builder2
import Derived.Shelf.Strings.BuilderF
import Derived.Shelf.Strings.Builder2Cap
import Derived.Shelf.Strings.Prefix
import Derived.Shelf.Bits.Mul64
import Derived.Shelf.Strings.Repeat
import Derived.Test.YtkkoiekbnkpcoaaProg
import Derived.WalkKit
import Derived.Laws.CopyOwn
import Derived.Deep.RegionLaw
import Derived.Deep.LoopGhost
namespace Go.Proofs
open Go.Shelf
def Try.lays212_ren : Go.Shelf.Ren := ⟨fun | 212 => 79 | 263 => 85 | 264 => 86 | n => n, fun | 46 => 97 | 51 => 111 | 146 => 112 | 53 => 114 | 148 => 115 | n => n, fun | n => n⟩
theorem Try.lays212 : Go.Proofs.Lays.n212 Try.prog Try.lays212_ren := {
  mixed := by kernel_rfl
  f212 := Try.func79.trans (congrArg some (by kernel_rfl))
  f263 := Try.func85.trans (congrArg some (by kernel_rfl))
  f264 := Try.func86.trans (congrArg some (by kernel_rfl))
  t46 := Try.underlying97
  a46 := Try.isAgg97
  z46 := Try.sizeOf97
  v46 := Try.zeroValue97
  t51 := Try.underlying111
  a51 := Try.isAgg111
  z51 := Try.sizeOf111
  v51 := Try.zeroValue111
  t53 := Try.underlying114
  a53 := Try.isAgg114
  z53 := Try.sizeOf114
  v53 := Try.zeroValue114
  t146 := Try.underlying112
  a146 := Try.isAgg112
  z146 := Try.sizeOf112
  v146 := Try.zeroValue112
  t148 := Try.underlying115
  a148 := Try.isAgg115
  z148 := Try.sizeOf115
  v148 := Try.zeroValue115 }
def Try.lays105_ren : Go.Shelf.Ren := ⟨fun | 105 => 68 | 212 => 79 | 99 => 80 | 165 => 81 | 166 => 82 | 170 => 83 | 169 => 84 | 263 => 85 | 264 => 86 | 206 => 87 | 240 => 88 | 241 => 89 | 276 => 90 | 277 => 91 | n => n, fun | 9 => 9 | 3 => 3 | 4 => 4 | 20 => 20 | 0 => 0 | 46 => 97 | 109 => 98 | 5 => 5 | 72 => 103 | 76 => 107 | 51 => 111 | 146 => 112 | 53 => 114 | 148 => 115 | 70 => 101 | 37 => 92 | 75 => 106 | 127 => 117 | 164 => 118 | 80 => 110 | n => n, fun | n => n⟩
theorem Try.lays105 : Go.Proofs.Lays.n105 Try.prog Try.lays105_ren := {
  mixed := by kernel_rfl
  f99 := Try.func80.trans (congrArg some (by kernel_rfl))
  f105 := Try.func68.trans (congrArg some (by kernel_rfl))
  f165 := Try.func81.trans (congrArg some (by kernel_rfl))
  f166 := Try.func82.trans (congrArg some (by kernel_rfl))
  f169 := Try.func84.trans (congrArg some (by kernel_rfl))
  f170 := Try.func83.trans (congrArg some (by kernel_rfl))
  f206 := Try.func87.trans (congrArg some (by kernel_rfl))
  f212 := Try.func79.trans (congrArg some (by kernel_rfl))
  f240 := Try.func88.trans (congrArg some (by kernel_rfl))
  f241 := Try.func89.trans (congrArg some (by kernel_rfl))
  f263 := Try.func85.trans (congrArg some (by kernel_rfl))
  f264 := Try.func86.trans (congrArg some (by kernel_rfl))
  f276 := Try.func90.trans (congrArg some (by kernel_rfl))
  f277 := Try.func91.trans (congrArg some (by kernel_rfl))
  t0 := Try.underlying0
  a0 := Try.isAgg0
  z0 := Try.sizeOf0
  v0 := Try.zeroValue0
  t3 := Try.underlying3
  a3 := Try.isAgg3
  z3 := Try.sizeOf3
  v3 := Try.zeroValue3
  t4 := Try.underlying4
  a4 := Try.isAgg4
  z4 := Try.sizeOf4
  v4 := Try.zeroValue4
  t5 := Try.underlying5
  a5 := Try.isAgg5
  z5 := Try.sizeOf5
  v5 := Try.zeroValue5
  t9 := Try.underlying9
  a9 := Try.isAgg9
  z9 := Try.sizeOf9
  v9 := Try.zeroValue9
  t20 := Try.underlying20
  a20 := Try.isAgg20
  z20 := Try.sizeOf20
  v20 := Try.zeroValue20
  t37 := Try.underlying92
  a37 := Try.isAgg92
  z37 := Try.sizeOf92
  v37 := Try.zeroValue92
  t46 := Try.underlying97
  a46 := Try.isAgg97
  z46 := Try.sizeOf97
  v46 := Try.zeroValue97
  t51 := Try.underlying111
  a51 := Try.isAgg111
  z51 := Try.sizeOf111
  v51 := Try.zeroValue111
  t53 := Try.underlying114
  a53 := Try.isAgg114
  z53 := Try.sizeOf114
  v53 := Try.zeroValue114
  t70 := Try.underlying101
  a70 := Try.isAgg101
  z70 := Try.sizeOf101
  v70 := Try.zeroValue101
  t72 := Try.underlying103
  a72 := Try.isAgg103
  z72 := Try.sizeOf103
  v72 := Try.zeroValue103
  t75 := Try.underlying106
  a75 := Try.isAgg106
  z75 := Try.sizeOf106
  v75 := Try.zeroValue106
  t76 := Try.underlying107
  a76 := Try.isAgg107
  z76 := Try.sizeOf107
  v76 := Try.zeroValue107
  t109 := Try.underlying98
  a109 := Try.isAgg98
  z109 := Try.sizeOf98
  v109 := Try.zeroValue98
  t127 := Try.underlying117
  a127 := Try.isAgg117
  z127 := Try.sizeOf117
  v127 := Try.zeroValue117
  t146 := Try.underlying112
  a146 := Try.isAgg112
  z146 := Try.sizeOf112
  v146 := Try.zeroValue112
  t148 := Try.underlying115
  a148 := Try.isAgg115
  z148 := Try.sizeOf115
  v148 := Try.zeroValue115
  t164 := Try.underlying118
  a164 := Try.isAgg118
  z164 := Try.sizeOf118
  v164 := Try.zeroValue118 }
theorem Try.Builder_Extra_105 : Builder.Extra Try.prog Try.lays105_ren := {
  sizeBuilder := by kernel_rfl
  liesBuilder := by kernel_rfl
  t5 := Try.underlying5
  a5 := Try.isAgg5
  z5 := Try.sizeOf5
  v5 := Try.zeroValue5
  infoByte := by kernel_rfl
  cellsByte := by kernel_rfl
  sizeByte := by kernel_rfl
  neB5 := by decide }
end Go.Proofs
namespace Go.Proofs
open Go.Shelf Go.RowKit
set_option linter.unusedVariables false
set_option linter.unusedSimpArgs false

def repRow (c m : Nat) (x z : Value) : List Value := List.replicate m x ++ List.replicate (c - m) z

theorem length_repRow {c m : Nat} (x z : Value) (h : m ≤ c) : (repRow c m x z).length = c := by
  unfold repRow; simp; omega

theorem repRow_first {c : Nat} (x z : Value) (h : 1 ≤ c) : splice (List.replicate c z) 0 [x] = repRow c 1 x z := by
  unfold splice repRow
  simp

theorem repRow_next {c m q : Nat} (x z : Value) (h : m + q ≤ c) : splice (repRow c m x z) m (List.replicate q x) = repRow c (m + q) x z := by
  unfold splice repRow
  rw [List.take_append_of_le_length (by simp), List.take_of_length_le (by simp), List.length_replicate, ← List.append_assoc, List.replicate_append_replicate, List.drop_append, List.drop_of_length_le (by simp), List.length_replicate, List.drop_replicate, List.nil_append]
  congr 2
  omega

theorem made_row {w w1 : World} {c e : Nat} {z : Value} (h : w1.ownsRow w.heap.size e 1 (.slice (some ⟨w.heap.size, 0, none⟩) c c) c (madeCells #[z] (c * 1)).toList) (hg : w.grownBy w1 none) (h0 : 1 ≤ c) :
    w1.heap[w.heap.size]? = some (.cells (List.replicate c z).toArray e (0, 0)) ∧ Below w.heap.size w w1 := by
  refine ⟨?_, (Below.refl _ w).grown hg (Nat.le_refl _) (fun k hk => by cases hk)⟩
  rcases h.2 with ⟨h1, _⟩ | ⟨g, cap, cur, h1, h2, h3, h4, h5, h6, h7⟩
  · cases h1
  · injection h1 with h1 h8 h9
    injection h1 with h1
    injection h1 with h1
    subst h1; subst h9
    rw [toList_madeCells_one, Nat.mul_one, List.take_of_length_le (by simp; omega)] at h7
    rw [h3, ← h7]

theorem one_cell_at {w w1 : World} {b off : Nat} {v : Value} (hb : Below w.heap.size w w1) (h : w.cell? ⟨b, off, none⟩ = some v) : ∀ (j : Nat) u, [v][j]? = some u → w1.cell? ((⟨b, off, none⟩ : Addr).add j) = some u := by
  intro j u hj
  match j, hj with
  | 0, hj =>
    simp at hj
    subst hj
    have e : ((⟨b, off, none⟩ : Addr).add 0) = ⟨b, off, none⟩ := by simp [Addr.add]
    rw [e, hb.cell (World.block_lt_of_cell? w _ h)]
    exact h

theorem SRep_info : (Try.prog.info? 9).map (fun i => (i.zero, i.size, i.bytes)) = some (some (.string ByteArray.empty), 1, 16) := by kernel_rfl
theorem SRep_size : (Try.prog.info? 9).map (·.size) = some 1 := by kernel_rfl

theorem SRep_copy1 {c b off cap : Nat} {s : ByteArray} {w w1 : World} {z : Value} (h1 : 1 ≤ c) (hs : w.cell? ⟨b, off, none⟩ = some (.string s)) (hg : w1.heap[w.heap.size]? = some (.cells (List.replicate c z).toArray 9 (0, 0))) (hb : Below w.heap.size w w1) :
    ∃ w2, (Builtin.copy_ #[26, 26] 3 #[.slice (some ⟨w.heap.size, 0, none⟩) c c, .slice (some ⟨b, off, none⟩) 1 cap]).run Try.prog w1 = .ok (goInt 1) w2 ∧ w2.heap[w.heap.size]? = some (.cells (repRow c 1 (.string s) z).toArray 9 (0, 0)) ∧ Below w.heap.size w w2 := by
  have := run_copy_row (P := Try.prog) w1 26 26 3 9 w.heap.size 0 c c ⟨b, off, none⟩ 1 cap _ 9 [.string s] Try.underlying26 SRep_size hg (by show 1 = min 1 c; omega) (one_cell_at hb hs) (by simp; omega) (by intro v hv; simp at hv; subst hv; rfl)
  refine ⟨_, this, ?_, below_setRow hb (Nat.le_refl _) _⟩
  have h2 := setRow_heap w1 w.heap.size _ ((List.replicate c z).toArray.toList.take 0 ++ [Value.string s] ++ (List.replicate c z).toArray.toList.drop (0 + [Value.string s].length)).toArray _ _ hg
  rw [h2, ← repRow_first _ _ h1]
  rfl

theorem SRep_copy2 {c m H : Nat} {s : ByteArray} {w w1 : World} {z : Value} (h1 : m < c) (hg : w1.heap[H]? = some (.cells (repRow c m (.string s) z).toArray 9 (0, 0))) (hH : w.heap.size ≤ H) (hb : Below w.heap.size w w1) :
    ∃ w2, (Builtin.copy_ #[26, 26] 3 #[.slice (some ⟨H, m, none⟩) (c - m) (c - m), .slice (some ⟨H, 0, none⟩) m c]).run Try.prog w1 = .ok (goInt (Nat.min m (c - m) : Nat)) w2 ∧ w2.heap[H]? = some (.cells (repRow c (m + Nat.min m (c - m)) (.string s) z).toArray 9 (0, 0)) ∧ Below w.heap.size w w2 := by
  have hq : m + Nat.min m (c - m) ≤ c := by have : Nat.min m (c - m) ≤ c - m := Nat.min_le_right _ _; omega
  have := run_copy_row (P := Try.prog) w1 26 26 3 9 H m (c - m) (c - m) ⟨H, 0, none⟩ m c _ 9 (List.replicate (Nat.min m (c - m)) (.string s)) Try.underlying26 SRep_size hg (by simp) (fun j v hj => by
    have hj2 : j < Nat.min m (c - m) := by
      rcases Nat.lt_or_ge j (Nat.min m (c - m)) with h | h
      · exact h
      · rw [List.getElem?_eq_none (by simpa using h)] at hj; cases hj
    rw [List.getElem?_replicate, if_pos hj2] at hj
    have hjm : j < m := Nat.lt_of_lt_of_le hj2 (Nat.min_le_left _ _)
    have e : ((⟨H, 0, none⟩ : Addr).add j) = ⟨H, j, none⟩ := by unfold Addr.add; simp; try omega
    rw [e]
    simp only [World.cell?, hg]
    rw [List.getElem?_toArray]
    unfold repRow
    rw [List.getElem?_append_left (by simpa using hjm), List.getElem?_replicate, if_pos hjm]
    exact hj) (by simp [length_repRow _ _ (Nat.le_of_lt h1)]; omega) (by intro v hv; rw [List.eq_of_mem_replicate hv]; rfl)
  rw [List.length_replicate] at this
  refine ⟨_, this, ?_, below_setRow hb hH _⟩
  rw [setRow_heap w1 H _ _ _ _ hg, ← repRow_next _ _ hq]
  unfold splice
  rw [List.append_assoc, List.length_replicate]

set_option maxRecDepth 1000000 in
theorem SRep_walk (c : Nat) (h1 : 1 ≤ c) (h2 : c ≤ 1000000) (b off cap : Nat) (s : ByteArray) (w : World) (hs : w.cell? ⟨b, off, none⟩ = some (.string s)) :
    Calls Try.prog 67 #[.slice (some ⟨b, off, none⟩) 1 cap, .int .i64 (c : Int)] w fun e w' => ∃ g et, e = .returned (.slice (some ⟨g, 0, none⟩) c c) ∧ w.heap.size ≤ g ∧ w'.heap[g]? = some (.cells (Array.replicate c (.string s)) et (0, 0)) ∧ Below w.heap.size w w' := by
  have hMul := Any.bits_Mul Try.lays212 1 c (by omega) (by omega) w
  rw [Nat.div_eq_of_lt (by omega), Nat.mod_eq_of_lt (by omega), Nat.one_mul] at hMul
  obtain ⟨i0, hi, hz0, hz1, hz2⟩ := info_parts SRep_info
  have hMul' : Calls Try.prog 79 #[.int .u64 1, .int .u64 (c : Int)] w fun e w' => e = .returned (.tuple #[.int .u64 0, .int .u64 (c : Int)]) ∧ w' = w := hMul
  clear hMul
  go_enter Try.func67, Try.ntmps67
  go_wp2_with (first
    | (go_at_call 79; refine hMul'.mono ?_; rintro e w' ⟨rfl, hw⟩; rw [hw])
    | (with_reducible refine wpList_make_full _ rfl (.tmp 29) (.tmp 29) 26 rfl w.heap.size 9 i0 (.string ByteArray.empty) 1 Try.underlying26 hi hz0 hz1 .i64 .i64 _ _ c rfl rfl (by omega) (by omega) (by rw [hz2]; omega) (by unfold maxLen; omega) (Nat.le_refl _) ?_; intro w1 hown hgrow; have hm := made_row hown hgrow h1; obtain ⟨w2, hrun, hg2, hb2⟩ := SRep_copy1 (cap := cap) h1 hs hm.1 hm.2; clear hown hgrow hm))
  clear hMul'
  go_loopw [8] (fun i wr => ∃ m : Nat, 1 ≤ m ∧ m ≤ c ∧ i = .int .i64 (m : Int) ∧ wr.heap[w.heap.size]? = some (.cells (repRow c m (.string s) (.string ByteArray.empty)).toArray 9 (0, 0)) ∧ Below w.heap.size w wr) (fun i _ => c - (intOf i).toNat)
  case atStart => exact ⟨1, Nat.le_refl _, h1, rfl, hg2, hb2⟩
  case round =>
    obtain ⟨m, hm1, hmc, rfl, hg, hb⟩ := hrel
    by_cases hmx : m < c
    · obtain ⟨w3, hr3, hg3, hb3⟩ := SRep_copy2 (w := w) (w1 := wr.drew) hmx hg (Nat.le_refl _) hb.drew
      have hq1 : Nat.min m (c - m) ≤ c - m := Nat.min_le_right _ _
      have hq2 : 1 ≤ Nat.min m (c - m) := Nat.le_min.2 ⟨hm1, by omega⟩
      generalize Nat.min m (c - m) = q at hr3 hg3 hq1 hq2
      go_wp2
      go_region
      all_goals go_wp2
      all_goals go_roundw
      case rel => exact ⟨m + q, by omega, by omega, by go_num, hg3, hb3⟩
      case measure => simp [intOf]; omega
    · obtain rfl : m = c := by omega
      go_wp2
      go_ret
      refine ⟨w.heap.size, 9, rfl, Nat.le_refl _, ?_, hb⟩
      rw [hg]
      unfold repRow
      simp
end Go.Proofs
