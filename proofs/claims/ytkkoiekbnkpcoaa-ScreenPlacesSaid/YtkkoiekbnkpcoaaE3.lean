/- The program, function by function: the evaluator comes to the typed functions. Conditions: none. -/
import Derived.Test.YtkkoiekbnkpcoaaA3
import Derived.KernelRfl
import Derived.Test.YtkkoiekbnkpcoaaProg
import Derived.Test.YtkkoiekbnkpcoaaB1
import Derived.Test.YtkkoiekbnkpcoaaE2
namespace Go.AE
open Go.Proofs.Try Go.Sh
set_option linter.unusedSimpArgs false
set_option linter.unusedVariables false
set_option maxRecDepth 100000
set_option maxHeartbeats 4000000
noncomputable section
theorem law24_ScreenPlaces_r26' (k : Nat) (a0 : T_api_Form) (o10 : Int × (List Str)) (o13 : (List Str) × Int) (o16 : (List Str) × Int) (o18 : Int × Int) (x89 : Int) (x125 : Int) (x126 : (List Int)) (o128 : Int × Int) : RE k f7a26 f7o26 true ⟨[(2, (V.ptr 2 0 0)), (8, (V.sl 0 1 (List.map V.str o10.2))), (9, (V.sl 0 1 (List.map V.str o13.1))), (11, (V.sl 0 1 (List.map V.str o16.1))), (12, (I o16.2)), (13, (I o18.1)), (14, (I o18.2)), (15, (V.aref 109 0 (List.map I x126).length)), (16, (I x89)), (17, (I x125)), (18, (I o128.1)), (109, (V.aref 109 0 (List.map I x126).length)), (161, (V.bool false))], [(2, ⟨false, 4, [(enc_T_api_Form a0)]⟩), (109, ⟨true, 1, List.map I x126⟩)], 229⟩ = ((bif (o16.2 == 0) then (bif (o18.2 != 0) then (bif ((o16.1.length : Int) != a0.fRows) then (some (true)) else ((idx o16.1 x89).bind fun v146 => (bif ((v146.length : Int) != a0.fColumns) then (some (true)) else ((idx o16.1 x89).bind fun v147 => ((idxS v147 x125).bind fun v148 => ((idx o10.2 x89).bind fun v149 => ((idxS v149 x125).bind fun v150 => (some ((v148 != v150)))))))))) else (bif (o128.1 != o18.1) then (bif ((o16.1.length : Int) != a0.fRows) then (some (true)) else ((idx o16.1 x89).bind fun v151 => (bif ((v151.length : Int) != a0.fColumns) then (some (true)) else ((idx o16.1 x89).bind fun v152 => ((idxS v152 x125).bind fun v153 => ((idx o10.2 x89).bind fun v154 => ((idxS v154 x125).bind fun v155 => (some ((v153 != v155)))))))))) else (some (false)))) else (some (false)))).map (fun (o : Bool) => (⟨[(2, (V.ptr 2 0 0)), (8, (V.sl 0 1 (List.map V.str o10.2))), (9, (V.sl 0 1 (List.map V.str o13.1))), (11, (V.sl 0 1 (List.map V.str o16.1))), (12, (I o16.2)), (13, (I o18.1)), (14, (I o18.2)), (15, (V.aref 109 0 (List.map I x126).length)), (16, (I x89)), (17, (I x125)), (109, (V.aref 109 0 (List.map I x126).length)), (210, (V.bool o))], [(2, ⟨false, 4, [(enc_T_api_Form a0)]⟩), (109, ⟨true, 1, List.map I x126⟩)], 229⟩ : St)) := by
  refine Eq.trans (regionE_regp (p := 43) (dk := true) (t := [(2, (V.ptr 2 0 0)), (8, (V.sl 0 1 (List.map V.str o10.2))), (9, (V.sl 0 1 (List.map V.str o13.1))), (11, (V.sl 0 1 (List.map V.str o16.1))), (12, (I o16.2)), (13, (I o18.1)), (14, (I o18.2)), (15, (V.aref 109 0 (List.map I x126).length)), (16, (I x89)), (17, (I x125)), (18, (I o128.1)), (109, (V.aref 109 0 (List.map I x126).length)), (161, (V.bool false))]) (σ := [(2, ⟨false, 4, [(enc_T_api_Form a0)]⟩), (109, ⟨true, 1, List.map I x126⟩)]) (n := 229) (by decide) (by decide) rfl) ?_
  refine Eq.trans (regp_adv (m := 3) (j := 3) (t' := [(2, (V.ptr 2 0 0)), (8, (V.sl 0 1 (List.map V.str o10.2))), (9, (V.sl 0 1 (List.map V.str o13.1))), (11, (V.sl 0 1 (List.map V.str o16.1))), (12, (I o16.2)), (13, (I o18.1)), (14, (I o18.2)), (15, (V.aref 109 0 (List.map I x126).length)), (16, (I x89)), (17, (I x125)), (18, (I o128.1)), (109, (V.aref 109 0 (List.map I x126).length)), (161, (V.bool false)), (168, (I o16.2)), (169, (V.bool (o16.2 == 0))), (170, (V.bool (o16.2 == 0)))]) rfl rfl rfl) ?_
  refine bifE (c := (o16.2 == 0)) (fun hc => ?_) fun hc => ?_
  · rw [hc]
    refine Eq.trans (regp_adv (m := 3) (j := 6) (t' := [(2, (V.ptr 2 0 0)), (8, (V.sl 0 1 (List.map V.str o10.2))), (9, (V.sl 0 1 (List.map V.str o13.1))), (11, (V.sl 0 1 (List.map V.str o16.1))), (12, (I o16.2)), (13, (I o18.1)), (14, (I o18.2)), (15, (V.aref 109 0 (List.map I x126).length)), (16, (I x89)), (17, (I x125)), (18, (I o128.1)), (109, (V.aref 109 0 (List.map I x126).length)), (161, (V.bool false)), (168, (I o16.2)), (169, (V.bool true)), (170, (V.bool true)), (171, (I o18.2)), (172, (V.bool (o18.2 != 0))), (173, (V.bool (o18.2 != 0)))]) rfl rfl rfl) ?_
    refine bifE (c := (o18.2 != 0)) (fun hc => ?_) fun hc => ?_
    · rw [hc]
      refine Eq.trans (regp_adv (m := 7) (j := 13) (t' := [(2, (V.ptr 2 0 0)), (8, (V.sl 0 1 (List.map V.str o10.2))), (9, (V.sl 0 1 (List.map V.str o13.1))), (11, (V.sl 0 1 (List.map V.str o16.1))), (12, (I o16.2)), (13, (I o18.1)), (14, (I o18.2)), (15, (V.aref 109 0 (List.map I x126).length)), (16, (I x89)), (17, (I x125)), (18, (I o128.1)), (109, (V.aref 109 0 (List.map I x126).length)), (161, (V.bool false)), (168, (I o16.2)), (169, (V.bool true)), (170, (V.bool true)), (171, (I o18.2)), (172, (V.bool true)), (173, (V.bool true)), (174, (V.tup [])), (175, (V.tup [])), (176, (V.tup [])), (177, (V.bool true)), (178, (V.bool true)), (179, (V.bool true)), (180, (V.sl 0 1 (List.map V.str o16.1)))]) rfl rfl rfl) ?_
      refine Eq.trans (regp_pure (x := some ()) (w := fun _ => (I (o16.1.length : Int))) rfl rfl rfl rfl rfl (p_len (e := V.str) rfl rfl rfl rfl rfl rfl Go.Proofs.Try.underlying26)) ?_
      refine Eq.trans some_bind ?_
      refine Eq.trans (putp_adv (m := 4) (j := 18) (t' := [(2, (V.ptr 2 0 0)), (8, (V.sl 0 1 (List.map V.str o10.2))), (9, (V.sl 0 1 (List.map V.str o13.1))), (11, (V.sl 0 1 (List.map V.str o16.1))), (12, (I o16.2)), (13, (I o18.1)), (14, (I o18.2)), (15, (V.aref 109 0 (List.map I x126).length)), (16, (I x89)), (17, (I x125)), (18, (I o128.1)), (109, (V.aref 109 0 (List.map I x126).length)), (161, (V.bool false)), (168, (I o16.2)), (169, (V.bool true)), (170, (V.bool true)), (171, (I o18.2)), (172, (V.bool true)), (173, (V.bool true)), (174, (V.tup [])), (175, (V.tup [])), (176, (V.tup [])), (177, (V.bool true)), (178, (V.bool true)), (179, (V.bool true)), (180, (V.sl 0 1 (List.map V.str o16.1))), (181, (I (o16.1.length : Int))), (182, (V.ptr 2 0 0)), (183, (I a0.fRows)), (184, (V.bool ((o16.1.length : Int) != a0.fRows))), (185, (V.bool ((o16.1.length : Int) != a0.fRows)))]) rfl rfl rfl) ?_
      refine bifE (c := ((o16.1.length : Int) != a0.fRows)) (fun hc => ?_) fun hc => ?_
      · rw [hc]
        exact regp_end rfl
      · rw [hc]
        refine Eq.trans (regp_adv (m := 2) (j := 20) (t' := [(2, (V.ptr 2 0 0)), (8, (V.sl 0 1 (List.map V.str o10.2))), (9, (V.sl 0 1 (List.map V.str o13.1))), (11, (V.sl 0 1 (List.map V.str o16.1))), (12, (I o16.2)), (13, (I o18.1)), (14, (I o18.2)), (15, (V.aref 109 0 (List.map I x126).length)), (16, (I x89)), (17, (I x125)), (18, (I o128.1)), (109, (V.aref 109 0 (List.map I x126).length)), (161, (V.bool false)), (168, (I o16.2)), (169, (V.bool true)), (170, (V.bool true)), (171, (I o18.2)), (172, (V.bool true)), (173, (V.bool true)), (174, (V.tup [])), (175, (V.tup [])), (176, (V.tup [])), (177, (V.bool true)), (178, (V.bool true)), (179, (V.bool true)), (180, (V.sl 0 1 (List.map V.str o16.1))), (181, (I (o16.1.length : Int))), (182, (V.ptr 2 0 0)), (183, (I a0.fRows)), (184, (V.bool false)), (185, (V.bool false)), (186, (V.sl 0 1 (List.map V.str o16.1))), (187, (I x89))]) rfl rfl rfl) ?_
        refine Eq.trans (regp_pure (x := (idx o16.1 x89)) (w := fun v146 => (V.pro (V.str v146))) rfl rfl rfl rfl rfl (p_index (e := V.str) rfl rfl rfl Go.Proofs.Try.underlying26 rfl (by decide))) ?_
        refine bindE (fun v146 => ?_)
        refine Eq.trans (putp_adv (m := 7) (j := 28) (t' := [(2, (V.ptr 2 0 0)), (8, (V.sl 0 1 (List.map V.str o10.2))), (9, (V.sl 0 1 (List.map V.str o13.1))), (11, (V.sl 0 1 (List.map V.str o16.1))), (12, (I o16.2)), (13, (I o18.1)), (14, (I o18.2)), (15, (V.aref 109 0 (List.map I x126).length)), (16, (I x89)), (17, (I x125)), (18, (I o128.1)), (109, (V.aref 109 0 (List.map I x126).length)), (161, (V.bool false)), (168, (I o16.2)), (169, (V.bool true)), (170, (V.bool true)), (171, (I o18.2)), (172, (V.bool true)), (173, (V.bool true)), (174, (V.tup [])), (175, (V.tup [])), (176, (V.tup [])), (177, (V.bool true)), (178, (V.bool true)), (179, (V.bool true)), (180, (V.sl 0 1 (List.map V.str o16.1))), (181, (I (o16.1.length : Int))), (182, (V.ptr 2 0 0)), (183, (I a0.fRows)), (184, (V.bool false)), (185, (V.bool false)), (186, (V.sl 0 1 (List.map V.str o16.1))), (187, (I x89)), (188, (V.pro (V.str v146))), (189, (V.str v146)), (190, (I (v146.length : Int))), (191, (V.ptr 2 0 1)), (192, (I a0.fColumns)), (193, (V.bool ((v146.length : Int) != a0.fColumns))), (194, (V.bool ((v146.length : Int) != a0.fColumns))), (195, (V.bool ((v146.length : Int) != a0.fColumns)))]) rfl rfl rfl) ?_
        refine bifE (c := ((v146.length : Int) != a0.fColumns)) (fun hc => ?_) fun hc => ?_
        · rw [hc]
          exact regp_end rfl
        · rw [hc]
          refine Eq.trans (regp_adv (m := 2) (j := 30) (t' := [(2, (V.ptr 2 0 0)), (8, (V.sl 0 1 (List.map V.str o10.2))), (9, (V.sl 0 1 (List.map V.str o13.1))), (11, (V.sl 0 1 (List.map V.str o16.1))), (12, (I o16.2)), (13, (I o18.1)), (14, (I o18.2)), (15, (V.aref 109 0 (List.map I x126).length)), (16, (I x89)), (17, (I x125)), (18, (I o128.1)), (109, (V.aref 109 0 (List.map I x126).length)), (161, (V.bool false)), (168, (I o16.2)), (169, (V.bool true)), (170, (V.bool true)), (171, (I o18.2)), (172, (V.bool true)), (173, (V.bool true)), (174, (V.tup [])), (175, (V.tup [])), (176, (V.tup [])), (177, (V.bool true)), (178, (V.bool true)), (179, (V.bool true)), (180, (V.sl 0 1 (List.map V.str o16.1))), (181, (I (o16.1.length : Int))), (182, (V.ptr 2 0 0)), (183, (I a0.fRows)), (184, (V.bool false)), (185, (V.bool false)), (186, (V.sl 0 1 (List.map V.str o16.1))), (187, (I x89)), (188, (V.pro (V.str v146))), (189, (V.str v146)), (190, (I (v146.length : Int))), (191, (V.ptr 2 0 1)), (192, (I a0.fColumns)), (193, (V.bool false)), (194, (V.bool false)), (195, (V.bool false)), (196, (V.sl 0 1 (List.map V.str o16.1))), (197, (I x89))]) rfl rfl rfl) ?_
          refine Eq.trans (regp_pure (x := (idx o16.1 x89)) (w := fun v147 => (V.pro (V.str v147))) rfl rfl rfl rfl rfl (p_index (e := V.str) rfl rfl rfl Go.Proofs.Try.underlying26 rfl (by decide))) ?_
          refine bindE (fun v147 => ?_)
          refine Eq.trans (putp_adv (m := 2) (j := 33) (t' := [(2, (V.ptr 2 0 0)), (8, (V.sl 0 1 (List.map V.str o10.2))), (9, (V.sl 0 1 (List.map V.str o13.1))), (11, (V.sl 0 1 (List.map V.str o16.1))), (12, (I o16.2)), (13, (I o18.1)), (14, (I o18.2)), (15, (V.aref 109 0 (List.map I x126).length)), (16, (I x89)), (17, (I x125)), (18, (I o128.1)), (109, (V.aref 109 0 (List.map I x126).length)), (161, (V.bool false)), (168, (I o16.2)), (169, (V.bool true)), (170, (V.bool true)), (171, (I o18.2)), (172, (V.bool true)), (173, (V.bool true)), (174, (V.tup [])), (175, (V.tup [])), (176, (V.tup [])), (177, (V.bool true)), (178, (V.bool true)), (179, (V.bool true)), (180, (V.sl 0 1 (List.map V.str o16.1))), (181, (I (o16.1.length : Int))), (182, (V.ptr 2 0 0)), (183, (I a0.fRows)), (184, (V.bool false)), (185, (V.bool false)), (186, (V.sl 0 1 (List.map V.str o16.1))), (187, (I x89)), (188, (V.pro (V.str v146))), (189, (V.str v146)), (190, (I (v146.length : Int))), (191, (V.ptr 2 0 1)), (192, (I a0.fColumns)), (193, (V.bool false)), (194, (V.bool false)), (195, (V.bool false)), (196, (V.sl 0 1 (List.map V.str o16.1))), (197, (I x89)), (198, (V.pro (V.str v147))), (199, (V.str v147)), (200, (I x125))]) rfl rfl rfl) ?_
          refine Eq.trans (regp_pure (x := (idxS v147 x125)) (w := fun v148 => (V.int .u8 v148)) rfl rfl rfl rfl rfl (p_indexS rfl rfl rfl Go.Proofs.Try.underlying9)) ?_
          refine bindE (fun v148 => ?_)
          refine Eq.trans (putp_adv (m := 2) (j := 36) (t' := [(2, (V.ptr 2 0 0)), (8, (V.sl 0 1 (List.map V.str o10.2))), (9, (V.sl 0 1 (List.map V.str o13.1))), (11, (V.sl 0 1 (List.map V.str o16.1))), (12, (I o16.2)), (13, (I o18.1)), (14, (I o18.2)), (15, (V.aref 109 0 (List.map I x126).length)), (16, (I x89)), (17, (I x125)), (18, (I o128.1)), (109, (V.aref 109 0 (List.map I x126).length)), (161, (V.bool false)), (168, (I o16.2)), (169, (V.bool true)), (170, (V.bool true)), (171, (I o18.2)), (172, (V.bool true)), (173, (V.bool true)), (174, (V.tup [])), (175, (V.tup [])), (176, (V.tup [])), (177, (V.bool true)), (178, (V.bool true)), (179, (V.bool true)), (180, (V.sl 0 1 (List.map V.str o16.1))), (181, (I (o16.1.length : Int))), (182, (V.ptr 2 0 0)), (183, (I a0.fRows)), (184, (V.bool false)), (185, (V.bool false)), (186, (V.sl 0 1 (List.map V.str o16.1))), (187, (I x89)), (188, (V.pro (V.str v146))), (189, (V.str v146)), (190, (I (v146.length : Int))), (191, (V.ptr 2 0 1)), (192, (I a0.fColumns)), (193, (V.bool false)), (194, (V.bool false)), (195, (V.bool false)), (196, (V.sl 0 1 (List.map V.str o16.1))), (197, (I x89)), (198, (V.pro (V.str v147))), (199, (V.str v147)), (200, (I x125)), (201, (V.int .u8 v148)), (202, (V.sl 0 1 (List.map V.str o10.2))), (203, (I x89))]) rfl rfl rfl) ?_
          refine Eq.trans (regp_pure (x := (idx o10.2 x89)) (w := fun v149 => (V.pro (V.str v149))) rfl rfl rfl rfl rfl (p_index (e := V.str) rfl rfl rfl Go.Proofs.Try.underlying26 rfl (by decide))) ?_
          refine bindE (fun v149 => ?_)
          refine Eq.trans (putp_adv (m := 2) (j := 39) (t' := [(2, (V.ptr 2 0 0)), (8, (V.sl 0 1 (List.map V.str o10.2))), (9, (V.sl 0 1 (List.map V.str o13.1))), (11, (V.sl 0 1 (List.map V.str o16.1))), (12, (I o16.2)), (13, (I o18.1)), (14, (I o18.2)), (15, (V.aref 109 0 (List.map I x126).length)), (16, (I x89)), (17, (I x125)), (18, (I o128.1)), (109, (V.aref 109 0 (List.map I x126).length)), (161, (V.bool false)), (168, (I o16.2)), (169, (V.bool true)), (170, (V.bool true)), (171, (I o18.2)), (172, (V.bool true)), (173, (V.bool true)), (174, (V.tup [])), (175, (V.tup [])), (176, (V.tup [])), (177, (V.bool true)), (178, (V.bool true)), (179, (V.bool true)), (180, (V.sl 0 1 (List.map V.str o16.1))), (181, (I (o16.1.length : Int))), (182, (V.ptr 2 0 0)), (183, (I a0.fRows)), (184, (V.bool false)), (185, (V.bool false)), (186, (V.sl 0 1 (List.map V.str o16.1))), (187, (I x89)), (188, (V.pro (V.str v146))), (189, (V.str v146)), (190, (I (v146.length : Int))), (191, (V.ptr 2 0 1)), (192, (I a0.fColumns)), (193, (V.bool false)), (194, (V.bool false)), (195, (V.bool false)), (196, (V.sl 0 1 (List.map V.str o16.1))), (197, (I x89)), (198, (V.pro (V.str v147))), (199, (V.str v147)), (200, (I x125)), (201, (V.int .u8 v148)), (202, (V.sl 0 1 (List.map V.str o10.2))), (203, (I x89)), (204, (V.pro (V.str v149))), (205, (V.str v149)), (206, (I x125))]) rfl rfl rfl) ?_
          refine Eq.trans (regp_pure (x := (idxS v149 x125)) (w := fun v150 => (V.int .u8 v150)) rfl rfl rfl rfl rfl (p_indexS rfl rfl rfl Go.Proofs.Try.underlying9)) ?_
          refine bindE (fun v150 => ?_)
          exact regp_end rfl
    · rw [hc]
      refine Eq.trans (regp_adv (m := 6) (j := 12) (t' := [(2, (V.ptr 2 0 0)), (8, (V.sl 0 1 (List.map V.str o10.2))), (9, (V.sl 0 1 (List.map V.str o13.1))), (11, (V.sl 0 1 (List.map V.str o16.1))), (12, (I o16.2)), (13, (I o18.1)), (14, (I o18.2)), (15, (V.aref 109 0 (List.map I x126).length)), (16, (I x89)), (17, (I x125)), (18, (I o128.1)), (109, (V.aref 109 0 (List.map I x126).length)), (161, (V.bool false)), (168, (I o16.2)), (169, (V.bool true)), (170, (V.bool true)), (171, (I o18.2)), (172, (V.bool false)), (173, (V.bool false)), (174, (I o128.1)), (175, (I o18.1)), (176, (V.bool (o128.1 != o18.1))), (177, (V.bool (o128.1 != o18.1))), (178, (V.bool (o128.1 != o18.1))), (179, (V.bool (o128.1 != o18.1)))]) rfl rfl rfl) ?_
      refine bifE (c := (o128.1 != o18.1)) (fun hc => ?_) fun hc => ?_
      · rw [hc]
        refine Eq.trans (regp_adv (m := 1) (j := 13) (t' := [(2, (V.ptr 2 0 0)), (8, (V.sl 0 1 (List.map V.str o10.2))), (9, (V.sl 0 1 (List.map V.str o13.1))), (11, (V.sl 0 1 (List.map V.str o16.1))), (12, (I o16.2)), (13, (I o18.1)), (14, (I o18.2)), (15, (V.aref 109 0 (List.map I x126).length)), (16, (I x89)), (17, (I x125)), (18, (I o128.1)), (109, (V.aref 109 0 (List.map I x126).length)), (161, (V.bool false)), (168, (I o16.2)), (169, (V.bool true)), (170, (V.bool true)), (171, (I o18.2)), (172, (V.bool false)), (173, (V.bool false)), (174, (I o128.1)), (175, (I o18.1)), (176, (V.bool true)), (177, (V.bool true)), (178, (V.bool true)), (179, (V.bool true)), (180, (V.sl 0 1 (List.map V.str o16.1)))]) rfl rfl rfl) ?_
        refine Eq.trans (regp_pure (x := some ()) (w := fun _ => (I (o16.1.length : Int))) rfl rfl rfl rfl rfl (p_len (e := V.str) rfl rfl rfl rfl rfl rfl Go.Proofs.Try.underlying26)) ?_
        refine Eq.trans some_bind ?_
        refine Eq.trans (putp_adv (m := 4) (j := 18) (t' := [(2, (V.ptr 2 0 0)), (8, (V.sl 0 1 (List.map V.str o10.2))), (9, (V.sl 0 1 (List.map V.str o13.1))), (11, (V.sl 0 1 (List.map V.str o16.1))), (12, (I o16.2)), (13, (I o18.1)), (14, (I o18.2)), (15, (V.aref 109 0 (List.map I x126).length)), (16, (I x89)), (17, (I x125)), (18, (I o128.1)), (109, (V.aref 109 0 (List.map I x126).length)), (161, (V.bool false)), (168, (I o16.2)), (169, (V.bool true)), (170, (V.bool true)), (171, (I o18.2)), (172, (V.bool false)), (173, (V.bool false)), (174, (I o128.1)), (175, (I o18.1)), (176, (V.bool true)), (177, (V.bool true)), (178, (V.bool true)), (179, (V.bool true)), (180, (V.sl 0 1 (List.map V.str o16.1))), (181, (I (o16.1.length : Int))), (182, (V.ptr 2 0 0)), (183, (I a0.fRows)), (184, (V.bool ((o16.1.length : Int) != a0.fRows))), (185, (V.bool ((o16.1.length : Int) != a0.fRows)))]) rfl rfl rfl) ?_
        refine bifE (c := ((o16.1.length : Int) != a0.fRows)) (fun hc => ?_) fun hc => ?_
        · rw [hc]
          exact regp_end rfl
        · rw [hc]
          refine Eq.trans (regp_adv (m := 2) (j := 20) (t' := [(2, (V.ptr 2 0 0)), (8, (V.sl 0 1 (List.map V.str o10.2))), (9, (V.sl 0 1 (List.map V.str o13.1))), (11, (V.sl 0 1 (List.map V.str o16.1))), (12, (I o16.2)), (13, (I o18.1)), (14, (I o18.2)), (15, (V.aref 109 0 (List.map I x126).length)), (16, (I x89)), (17, (I x125)), (18, (I o128.1)), (109, (V.aref 109 0 (List.map I x126).length)), (161, (V.bool false)), (168, (I o16.2)), (169, (V.bool true)), (170, (V.bool true)), (171, (I o18.2)), (172, (V.bool false)), (173, (V.bool false)), (174, (I o128.1)), (175, (I o18.1)), (176, (V.bool true)), (177, (V.bool true)), (178, (V.bool true)), (179, (V.bool true)), (180, (V.sl 0 1 (List.map V.str o16.1))), (181, (I (o16.1.length : Int))), (182, (V.ptr 2 0 0)), (183, (I a0.fRows)), (184, (V.bool false)), (185, (V.bool false)), (186, (V.sl 0 1 (List.map V.str o16.1))), (187, (I x89))]) rfl rfl rfl) ?_
          refine Eq.trans (regp_pure (x := (idx o16.1 x89)) (w := fun v151 => (V.pro (V.str v151))) rfl rfl rfl rfl rfl (p_index (e := V.str) rfl rfl rfl Go.Proofs.Try.underlying26 rfl (by decide))) ?_
          refine bindE (fun v151 => ?_)
          refine Eq.trans (putp_adv (m := 7) (j := 28) (t' := [(2, (V.ptr 2 0 0)), (8, (V.sl 0 1 (List.map V.str o10.2))), (9, (V.sl 0 1 (List.map V.str o13.1))), (11, (V.sl 0 1 (List.map V.str o16.1))), (12, (I o16.2)), (13, (I o18.1)), (14, (I o18.2)), (15, (V.aref 109 0 (List.map I x126).length)), (16, (I x89)), (17, (I x125)), (18, (I o128.1)), (109, (V.aref 109 0 (List.map I x126).length)), (161, (V.bool false)), (168, (I o16.2)), (169, (V.bool true)), (170, (V.bool true)), (171, (I o18.2)), (172, (V.bool false)), (173, (V.bool false)), (174, (I o128.1)), (175, (I o18.1)), (176, (V.bool true)), (177, (V.bool true)), (178, (V.bool true)), (179, (V.bool true)), (180, (V.sl 0 1 (List.map V.str o16.1))), (181, (I (o16.1.length : Int))), (182, (V.ptr 2 0 0)), (183, (I a0.fRows)), (184, (V.bool false)), (185, (V.bool false)), (186, (V.sl 0 1 (List.map V.str o16.1))), (187, (I x89)), (188, (V.pro (V.str v151))), (189, (V.str v151)), (190, (I (v151.length : Int))), (191, (V.ptr 2 0 1)), (192, (I a0.fColumns)), (193, (V.bool ((v151.length : Int) != a0.fColumns))), (194, (V.bool ((v151.length : Int) != a0.fColumns))), (195, (V.bool ((v151.length : Int) != a0.fColumns)))]) rfl rfl rfl) ?_
          refine bifE (c := ((v151.length : Int) != a0.fColumns)) (fun hc => ?_) fun hc => ?_
          · rw [hc]
            exact regp_end rfl
          · rw [hc]
            refine Eq.trans (regp_adv (m := 2) (j := 30) (t' := [(2, (V.ptr 2 0 0)), (8, (V.sl 0 1 (List.map V.str o10.2))), (9, (V.sl 0 1 (List.map V.str o13.1))), (11, (V.sl 0 1 (List.map V.str o16.1))), (12, (I o16.2)), (13, (I o18.1)), (14, (I o18.2)), (15, (V.aref 109 0 (List.map I x126).length)), (16, (I x89)), (17, (I x125)), (18, (I o128.1)), (109, (V.aref 109 0 (List.map I x126).length)), (161, (V.bool false)), (168, (I o16.2)), (169, (V.bool true)), (170, (V.bool true)), (171, (I o18.2)), (172, (V.bool false)), (173, (V.bool false)), (174, (I o128.1)), (175, (I o18.1)), (176, (V.bool true)), (177, (V.bool true)), (178, (V.bool true)), (179, (V.bool true)), (180, (V.sl 0 1 (List.map V.str o16.1))), (181, (I (o16.1.length : Int))), (182, (V.ptr 2 0 0)), (183, (I a0.fRows)), (184, (V.bool false)), (185, (V.bool false)), (186, (V.sl 0 1 (List.map V.str o16.1))), (187, (I x89)), (188, (V.pro (V.str v151))), (189, (V.str v151)), (190, (I (v151.length : Int))), (191, (V.ptr 2 0 1)), (192, (I a0.fColumns)), (193, (V.bool false)), (194, (V.bool false)), (195, (V.bool false)), (196, (V.sl 0 1 (List.map V.str o16.1))), (197, (I x89))]) rfl rfl rfl) ?_
            refine Eq.trans (regp_pure (x := (idx o16.1 x89)) (w := fun v152 => (V.pro (V.str v152))) rfl rfl rfl rfl rfl (p_index (e := V.str) rfl rfl rfl Go.Proofs.Try.underlying26 rfl (by decide))) ?_
            refine bindE (fun v152 => ?_)
            refine Eq.trans (putp_adv (m := 2) (j := 33) (t' := [(2, (V.ptr 2 0 0)), (8, (V.sl 0 1 (List.map V.str o10.2))), (9, (V.sl 0 1 (List.map V.str o13.1))), (11, (V.sl 0 1 (List.map V.str o16.1))), (12, (I o16.2)), (13, (I o18.1)), (14, (I o18.2)), (15, (V.aref 109 0 (List.map I x126).length)), (16, (I x89)), (17, (I x125)), (18, (I o128.1)), (109, (V.aref 109 0 (List.map I x126).length)), (161, (V.bool false)), (168, (I o16.2)), (169, (V.bool true)), (170, (V.bool true)), (171, (I o18.2)), (172, (V.bool false)), (173, (V.bool false)), (174, (I o128.1)), (175, (I o18.1)), (176, (V.bool true)), (177, (V.bool true)), (178, (V.bool true)), (179, (V.bool true)), (180, (V.sl 0 1 (List.map V.str o16.1))), (181, (I (o16.1.length : Int))), (182, (V.ptr 2 0 0)), (183, (I a0.fRows)), (184, (V.bool false)), (185, (V.bool false)), (186, (V.sl 0 1 (List.map V.str o16.1))), (187, (I x89)), (188, (V.pro (V.str v151))), (189, (V.str v151)), (190, (I (v151.length : Int))), (191, (V.ptr 2 0 1)), (192, (I a0.fColumns)), (193, (V.bool false)), (194, (V.bool false)), (195, (V.bool false)), (196, (V.sl 0 1 (List.map V.str o16.1))), (197, (I x89)), (198, (V.pro (V.str v152))), (199, (V.str v152)), (200, (I x125))]) rfl rfl rfl) ?_
            refine Eq.trans (regp_pure (x := (idxS v152 x125)) (w := fun v153 => (V.int .u8 v153)) rfl rfl rfl rfl rfl (p_indexS rfl rfl rfl Go.Proofs.Try.underlying9)) ?_
            refine bindE (fun v153 => ?_)
            refine Eq.trans (putp_adv (m := 2) (j := 36) (t' := [(2, (V.ptr 2 0 0)), (8, (V.sl 0 1 (List.map V.str o10.2))), (9, (V.sl 0 1 (List.map V.str o13.1))), (11, (V.sl 0 1 (List.map V.str o16.1))), (12, (I o16.2)), (13, (I o18.1)), (14, (I o18.2)), (15, (V.aref 109 0 (List.map I x126).length)), (16, (I x89)), (17, (I x125)), (18, (I o128.1)), (109, (V.aref 109 0 (List.map I x126).length)), (161, (V.bool false)), (168, (I o16.2)), (169, (V.bool true)), (170, (V.bool true)), (171, (I o18.2)), (172, (V.bool false)), (173, (V.bool false)), (174, (I o128.1)), (175, (I o18.1)), (176, (V.bool true)), (177, (V.bool true)), (178, (V.bool true)), (179, (V.bool true)), (180, (V.sl 0 1 (List.map V.str o16.1))), (181, (I (o16.1.length : Int))), (182, (V.ptr 2 0 0)), (183, (I a0.fRows)), (184, (V.bool false)), (185, (V.bool false)), (186, (V.sl 0 1 (List.map V.str o16.1))), (187, (I x89)), (188, (V.pro (V.str v151))), (189, (V.str v151)), (190, (I (v151.length : Int))), (191, (V.ptr 2 0 1)), (192, (I a0.fColumns)), (193, (V.bool false)), (194, (V.bool false)), (195, (V.bool false)), (196, (V.sl 0 1 (List.map V.str o16.1))), (197, (I x89)), (198, (V.pro (V.str v152))), (199, (V.str v152)), (200, (I x125)), (201, (V.int .u8 v153)), (202, (V.sl 0 1 (List.map V.str o10.2))), (203, (I x89))]) rfl rfl rfl) ?_
            refine Eq.trans (regp_pure (x := (idx o10.2 x89)) (w := fun v154 => (V.pro (V.str v154))) rfl rfl rfl rfl rfl (p_index (e := V.str) rfl rfl rfl Go.Proofs.Try.underlying26 rfl (by decide))) ?_
            refine bindE (fun v154 => ?_)
            refine Eq.trans (putp_adv (m := 2) (j := 39) (t' := [(2, (V.ptr 2 0 0)), (8, (V.sl 0 1 (List.map V.str o10.2))), (9, (V.sl 0 1 (List.map V.str o13.1))), (11, (V.sl 0 1 (List.map V.str o16.1))), (12, (I o16.2)), (13, (I o18.1)), (14, (I o18.2)), (15, (V.aref 109 0 (List.map I x126).length)), (16, (I x89)), (17, (I x125)), (18, (I o128.1)), (109, (V.aref 109 0 (List.map I x126).length)), (161, (V.bool false)), (168, (I o16.2)), (169, (V.bool true)), (170, (V.bool true)), (171, (I o18.2)), (172, (V.bool false)), (173, (V.bool false)), (174, (I o128.1)), (175, (I o18.1)), (176, (V.bool true)), (177, (V.bool true)), (178, (V.bool true)), (179, (V.bool true)), (180, (V.sl 0 1 (List.map V.str o16.1))), (181, (I (o16.1.length : Int))), (182, (V.ptr 2 0 0)), (183, (I a0.fRows)), (184, (V.bool false)), (185, (V.bool false)), (186, (V.sl 0 1 (List.map V.str o16.1))), (187, (I x89)), (188, (V.pro (V.str v151))), (189, (V.str v151)), (190, (I (v151.length : Int))), (191, (V.ptr 2 0 1)), (192, (I a0.fColumns)), (193, (V.bool false)), (194, (V.bool false)), (195, (V.bool false)), (196, (V.sl 0 1 (List.map V.str o16.1))), (197, (I x89)), (198, (V.pro (V.str v152))), (199, (V.str v152)), (200, (I x125)), (201, (V.int .u8 v153)), (202, (V.sl 0 1 (List.map V.str o10.2))), (203, (I x89)), (204, (V.pro (V.str v154))), (205, (V.str v154)), (206, (I x125))]) rfl rfl rfl) ?_
            refine Eq.trans (regp_pure (x := (idxS v154 x125)) (w := fun v155 => (V.int .u8 v155)) rfl rfl rfl rfl rfl (p_indexS rfl rfl rfl Go.Proofs.Try.underlying9)) ?_
            refine bindE (fun v155 => ?_)
            exact regp_end rfl
      · rw [hc]
        exact regp_end rfl
  · rw [hc]
    exact regp_end rfl
theorem law24_ScreenPlaces_r27' (k : Nat) (a0 : T_api_Form) (o10 : Int × (List Str)) (o13 : (List Str) × Int) (o16 : (List Str) × Int) (o18 : Int × Int) (x89 : Int) (x125 : Int) (x126 : (List Int)) : RE k f7a27 f7o27 false ⟨[(2, (V.ptr 2 0 0)), (8, (V.sl 0 1 (List.map V.str o10.2))), (9, (V.sl 0 1 (List.map V.str o13.1))), (11, (V.sl 0 1 (List.map V.str o16.1))), (12, (I o16.2)), (13, (I o18.1)), (14, (I o18.2)), (15, (V.aref 109 0 (List.map I x126).length)), (16, (I x89)), (17, (I x125)), (109, (V.aref 109 0 (List.map I x126).length)), (210, (V.bool true))], [(2, ⟨false, 4, [(enc_T_api_Form a0)]⟩), (109, ⟨true, 1, List.map I x126⟩)], 229⟩ = some ⟨[(4, (V.bool false))], [], 229⟩ :=
  rE rfl
theorem law24_ScreenPlaces_r20' (k : Nat) (a0 : T_api_Form) (o10 : Int × (List Str)) (o13 : (List Str) × Int) (o16 : (List Str) × Int) (o18 : Int × Int) (x89 : Int) (x125 : Int) (x126 : (List Int)) : RE k f7a20 f7o20 false ⟨[(2, (V.ptr 2 0 0)), (8, (V.sl 0 1 (List.map V.str o10.2))), (9, (V.sl 0 1 (List.map V.str o13.1))), (11, (V.sl 0 1 (List.map V.str o16.1))), (12, (I o16.2)), (13, (I o18.1)), (14, (I o18.2)), (15, (V.aref 109 0 (List.map I x126).length)), (16, (I x89)), (17, (I x125)), (109, (V.aref 109 0 (List.map I x126).length)), (210, (V.bool false))], [(2, ⟨false, 4, [(enc_T_api_Form a0)]⟩), (109, ⟨true, 1, List.map I x126⟩)], 229⟩ = some ⟨[(2, (V.ptr 2 0 0)), (8, (V.sl 0 1 (List.map V.str o10.2))), (9, (V.sl 0 1 (List.map V.str o13.1))), (11, (V.sl 0 1 (List.map V.str o16.1))), (12, (I o16.2)), (13, (I o18.1)), (14, (I o18.2)), (15, (V.aref 109 0 (List.map I x126).length)), (16, (I x89)), (17, (I (Go.IntKind.wrap .i64 (x125 + 1)))), (109, (V.aref 109 0 (List.map I x126).length))], [(2, ⟨false, 4, [(enc_T_api_Form a0)]⟩), (109, ⟨true, 1, List.map I x126⟩)], 229⟩ :=
  rE rfl
theorem law24_ScreenPlaces_L2_ok (k : Nat) (a0 : T_api_Form) (a1 : T_progenylaw24_Word) (o10 : Int × (List Str)) (o13 : (List Str) × Int) (o16 : (List Str) × Int) (o18 : Int × Int) (x89 : Int)  (K0 : Int → (List Int) → Option Bool) (Kst : X × St → Option (V × List V)) (hK0 : ∀ (y0 : Int) (y1 : (List Int)), Kst (X.exit 2, ⟨[(2, (V.ptr 2 0 0)), (8, (V.sl 0 1 (List.map V.str o10.2))), (9, (V.sl 0 1 (List.map V.str o13.1))), (11, (V.sl 0 1 (List.map V.str o16.1))), (12, (I o16.2)), (13, (I o18.1)), (14, (I o18.2)), (15, (V.aref 109 0 (List.map I y1).length)), (16, (I x89)), (17, (I y0)), (109, (V.aref 109 0 (List.map I y1).length)), (138, (V.bool false))], [(2, ⟨false, 4, [(enc_T_api_Form a0)]⟩), (109, ⟨true, 1, List.map I y1⟩)], 229⟩) = (K0 y0 y1).map law24_ScreenPlaces_fin) (hret : ∀ s, Kst (X.ret, s) = endK prog 229 [(enc_T_api_Form a0), (enc_T_progenylaw24_Word a1)] [] [.tmp 4] (X.ret, s)) :
    ∀ (m : Nat) (x125 : Int) (x126 : (List Int)), (iter (exec prog (EV k) f7n k f7b0) m ⟨[(2, (V.ptr 2 0 0)), (8, (V.sl 0 1 (List.map V.str o10.2))), (9, (V.sl 0 1 (List.map V.str o13.1))), (11, (V.sl 0 1 (List.map V.str o16.1))), (12, (I o16.2)), (13, (I o18.1)), (14, (I o18.2)), (15, (V.aref 109 0 (List.map I x126).length)), (16, (I x89)), (17, (I x125)), (109, (V.aref 109 0 (List.map I x126).length))], [(2, ⟨false, 4, [(enc_T_api_Form a0)]⟩), (109, ⟨true, 1, List.map I x126⟩)], 229⟩).bind Kst = (law24_ScreenPlaces_L2 k a0 o10 o16 o18 x89 K0 m x125 x126).map law24_ScreenPlaces_fin := by
  intro m
  induction m with
  | zero => intros; rfl
  | succ m ih =>
    intro x125 x126
    unfold law24_ScreenPlaces_L2
    refine Eq.trans k_round ?_
    refine Eq.trans k_assoc ?_
    refine Eq.trans (k_region0 rfl (f7r19 k a0 o10 o13 o16 o18 x89 x125 x126)) ?_
    refine Eq.trans (k_cond (t := (decide (x125 < a0.fColumns))) rfl rfl) ?_
    refine bifE2 (fun hc => ?_) fun hc => ?_
    · rw [hc]
      refine Eq.trans k_skip ?_
      refine Eq.trans (k_block rfl) ?_
      refine Eq.trans (k_region rfl (f7r21 k a0 o10 o13 o16 o18 x89 x125 x126)) ?_
      refine bindE (fun o128 => ?_)
      refine Eq.trans k_assoc ?_
      refine Eq.trans (k_region rfl (f7r22 k a0 o10 o13 o16 o18 x89 x125 x126 o128)) ?_
      refine bindE (fun o129 => ?_)
      refine Eq.trans (k_cond (t := o129) rfl rfl) ?_
      refine bifE2 (fun hc => ?_) fun hc => ?_
      · rw [hc]
        refine Eq.trans k_assoc ?_
        refine Eq.trans (k_region0 rfl (f7r23 k a0 o10 o13 o16 o18 x89 x125 x126 o128)) ?_
        refine Eq.trans k_ret ?_
        refine Eq.trans blk_ret ?_
        refine Eq.trans loop_ret ?_
        refine Eq.trans (hret _) ?_
        rfl
      · rw [hc]
        refine Eq.trans k_skip ?_
        refine Eq.trans k_assoc ?_
        refine Eq.trans (k_region0 rfl (f7r24 k a0 o10 o13 o16 o18 x89 x125 x126 o128)) ?_
        refine Eq.trans (k_cond (t := (decide (o128.1 ≥ 0))) rfl rfl) ?_
        refine bifE2 (fun hc => ?_) fun hc => ?_
        · rw [hc]
          refine Eq.trans (k_region rfl (f7r25 k a0 o10 o13 o16 o18 x89 x125 x126 o128)) ?_
          refine bindE (fun o134 => ?_)
          refine Eq.trans (k_region rfl (f7r26 k a0 o10 o13 o16 o18 x89 x125 o128 o134)) ?_
          refine bindE (fun o145 => ?_)
          refine Eq.trans (k_lcond (t := o145) rfl rfl) ?_
          refine bifE2 (fun hc => ?_) fun hc => ?_
          · rw [hc]
            refine Eq.trans (k_region0 rfl (f7r27 k a0 o10 o13 o16 o18 x89 x125 o134)) ?_
            refine Eq.trans k_lret ?_
            refine Eq.trans blk_ret ?_
            refine Eq.trans loop_ret ?_
            refine Eq.trans (hret _) ?_
            rfl
          · rw [hc]
            refine Eq.trans k_lskip ?_
            refine Eq.trans blk_normal ?_
            refine Eq.trans (k_lregion0 rfl (f7r20 k a0 o10 o13 o16 o18 x89 x125 o134)) ?_
            refine Eq.trans loop_normal ?_
            exact ih (Go.IntKind.wrap .i64 (x125 + 1)) o134
        · rw [hc]
          refine Eq.trans k_skip ?_
          refine Eq.trans (k_region rfl (law24_ScreenPlaces_r26' k a0 o10 o13 o16 o18 x89 x125 x126 o128)) ?_
          refine bindE (fun o156 => ?_)
          refine Eq.trans (k_lcond (t := o156) rfl rfl) ?_
          refine bifE2 (fun hc => ?_) fun hc => ?_
          · rw [hc]
            refine Eq.trans (k_region0 rfl (law24_ScreenPlaces_r27' k a0 o10 o13 o16 o18 x89 x125 x126)) ?_
            refine Eq.trans k_lret ?_
            refine Eq.trans blk_ret ?_
            refine Eq.trans loop_ret ?_
            refine Eq.trans (hret _) ?_
            rfl
          · rw [hc]
            refine Eq.trans k_lskip ?_
            refine Eq.trans blk_normal ?_
            refine Eq.trans (k_lregion0 rfl (law24_ScreenPlaces_r20' k a0 o10 o13 o16 o18 x89 x125 x126)) ?_
            refine Eq.trans loop_normal ?_
            exact ih (Go.IntKind.wrap .i64 (x125 + 1)) x126
    · rw [hc]
      refine Eq.trans k_exit ?_
      refine Eq.trans loop_exit ?_
      exact hK0 x125 x126
theorem f7r15 (k : Nat) (a0 : T_api_Form) (o10 : Int × (List Str)) (o13 : (List Str) × Int) (o16 : (List Str) × Int) (o18 : Int × Int) (x89 : Int) (y157 : Int) (y158 : (List Int)) : RE k f7a15 f7o15 false ⟨[(2, (V.ptr 2 0 0)), (8, (V.sl 0 1 (List.map V.str o10.2))), (9, (V.sl 0 1 (List.map V.str o13.1))), (11, (V.sl 0 1 (List.map V.str o16.1))), (12, (I o16.2)), (13, (I o18.1)), (14, (I o18.2)), (15, (V.aref 109 0 (List.map I y158).length)), (16, (I x89)), (17, (I y157)), (109, (V.aref 109 0 (List.map I y158).length)), (138, (V.bool false))], [(2, ⟨false, 4, [(enc_T_api_Form a0)]⟩), (109, ⟨true, 1, List.map I y158⟩)], 229⟩ = some ⟨[(2, (V.ptr 2 0 0)), (8, (V.sl 0 1 (List.map V.str o10.2))), (9, (V.sl 0 1 (List.map V.str o13.1))), (11, (V.sl 0 1 (List.map V.str o16.1))), (12, (I o16.2)), (13, (I o18.1)), (14, (I o18.2)), (15, (V.aref 109 0 (List.map I y158).length)), (16, (I (Go.IntKind.wrap .i64 (x89 + 1)))), (109, (V.aref 109 0 (List.map I y158).length))], [(2, ⟨false, 4, [(enc_T_api_Form a0)]⟩), (109, ⟨true, 1, List.map I y158⟩)], 229⟩ :=
  rE rfl
theorem law24_ScreenPlaces_L1_ok (k : Nat) (a0 : T_api_Form) (a1 : T_progenylaw24_Word) (o10 : Int × (List Str)) (o13 : (List Str) × Int) (o16 : (List Str) × Int) (o18 : Int × Int)  (K0 : Int → (List Int) → Option Bool) (Kst : X × St → Option (V × List V)) (hK0 : ∀ (y0 : Int) (y1 : (List Int)), Kst (X.exit 0, ⟨[(2, (V.ptr 2 0 0)), (8, (V.sl 0 1 (List.map V.str o10.2))), (9, (V.sl 0 1 (List.map V.str o13.1))), (11, (V.sl 0 1 (List.map V.str o16.1))), (12, (I o16.2)), (13, (I o18.1)), (14, (I o18.2)), (15, (V.aref 109 0 (List.map I y1).length)), (16, (I y0)), (109, (V.aref 109 0 (List.map I y1).length)), (113, (V.bool false))], [(2, ⟨false, 4, [(enc_T_api_Form a0)]⟩), (109, ⟨true, 1, List.map I y1⟩)], 229⟩) = (K0 y0 y1).map law24_ScreenPlaces_fin) (hret : ∀ s, Kst (X.ret, s) = endK prog 229 [(enc_T_api_Form a0), (enc_T_progenylaw24_Word a1)] [] [.tmp 4] (X.ret, s)) :
    ∀ (m : Nat) (x89 : Int) (x90 : (List Int)), (iter (exec prog (EV k) f7n k f7b1) m ⟨[(2, (V.ptr 2 0 0)), (8, (V.sl 0 1 (List.map V.str o10.2))), (9, (V.sl 0 1 (List.map V.str o13.1))), (11, (V.sl 0 1 (List.map V.str o16.1))), (12, (I o16.2)), (13, (I o18.1)), (14, (I o18.2)), (15, (V.aref 109 0 (List.map I x90).length)), (16, (I x89)), (109, (V.aref 109 0 (List.map I x90).length))], [(2, ⟨false, 4, [(enc_T_api_Form a0)]⟩), (109, ⟨true, 1, List.map I x90⟩)], 229⟩).bind Kst = (law24_ScreenPlaces_L1 k a0 o10 o13 o16 o18 K0 m x89 x90).map law24_ScreenPlaces_fin := by
  intro m
  induction m with
  | zero => intros; rfl
  | succ m ih =>
    intro x89 x90
    unfold law24_ScreenPlaces_L1
    refine Eq.trans k_round ?_
    refine Eq.trans k_assoc ?_
    refine Eq.trans (k_region0 rfl (f7r14 k a0 o10 o13 o16 o18 x89 x90)) ?_
    refine Eq.trans (k_cond (t := (decide (x89 < a0.fRows))) rfl rfl) ?_
    refine bifE2 (fun hc => ?_) fun hc => ?_
    · rw [hc]
      refine Eq.trans k_skip ?_
      refine Eq.trans (k_block rfl) ?_
      refine Eq.trans k_assoc ?_
      refine Eq.trans (k_region rfl (f7r16 k a0 o10 o13 o16 o18 x89 x90)) ?_
      refine bindE (fun o94 => ?_)
      refine Eq.trans (k_cond (t := o94) rfl rfl) ?_
      refine bifE2 (fun hc => ?_) fun hc => ?_
      · rw [hc]
        refine Eq.trans k_assoc ?_
        refine Eq.trans (k_region0 rfl (f7r17 k a0 o10 o13 o16 o18 x89 x90)) ?_
        refine Eq.trans k_ret ?_
        refine Eq.trans blk_ret ?_
        refine Eq.trans loop_ret ?_
        refine Eq.trans (hret _) ?_
        rfl
      · rw [hc]
        refine Eq.trans k_skip ?_
        refine Eq.trans (k_region0 rfl (f7r18 k a0 o10 o13 o16 o18 x89 x90)) ?_
        refine Eq.trans (k_lblock rfl) ?_
        refine Eq.trans k_loop ?_
        refine law24_ScreenPlaces_L2_ok k a0 a1 o10 o13 o16 o18 x89 _ _ ?h_law24_ScreenPlaces_L2_0 ?hr_law24_ScreenPlaces_L2 k 0 x90
        · intro y157 y158
          refine Eq.trans blk_exit ?_
          refine Eq.trans k_lskip ?_
          refine Eq.trans blk_normal ?_
          refine Eq.trans (k_lregion0 rfl (f7r15 k a0 o10 o13 o16 o18 x89 y157 y158)) ?_
          refine Eq.trans loop_normal ?_
          exact ih (Go.IntKind.wrap .i64 (x89 + 1)) y158
        · intro s; exact hret s
    · rw [hc]
      refine Eq.trans k_exit ?_
      refine Eq.trans loop_exit ?_
      exact hK0 x89 x90
theorem f7r28 (k : Nat) (a0 : T_api_Form) (o10 : Int × (List Str)) (o13 : (List Str) × Int) (o16 : (List Str) × Int) (o18 : Int × Int) (y159 : Int) (y160 : (List Int)) : RE k f7a28 f7o28 false ⟨[(2, (V.ptr 2 0 0)), (8, (V.sl 0 1 (List.map V.str o10.2))), (9, (V.sl 0 1 (List.map V.str o13.1))), (11, (V.sl 0 1 (List.map V.str o16.1))), (12, (I o16.2)), (13, (I o18.1)), (14, (I o18.2)), (15, (V.aref 109 0 (List.map I y160).length)), (16, (I y159)), (109, (V.aref 109 0 (List.map I y160).length)), (113, (V.bool false))], [(2, ⟨false, 4, [(enc_T_api_Form a0)]⟩), (109, ⟨true, 1, List.map I y160⟩)], 229⟩ = some ⟨[(2, (V.ptr 2 0 0)), (15, (V.aref 109 0 (List.map I y160).length)), (20, (I 0)), (109, (V.aref 109 0 (List.map I y160).length))], [(2, ⟨false, 4, [(enc_T_api_Form a0)]⟩), (109, ⟨true, 1, List.map I y160⟩)], 229⟩ :=
  rE rfl
theorem f7r29 (k : Nat) (a0 : T_api_Form) (y160 : (List Int)) (x165 : Int) : RE k f7a29 f7o29 false ⟨[(2, (V.ptr 2 0 0)), (15, (V.aref 109 0 (List.map I y160).length)), (20, (I x165)), (109, (V.aref 109 0 (List.map I y160).length))], [(2, ⟨false, 4, [(enc_T_api_Form a0)]⟩), (109, ⟨true, 1, List.map I y160⟩)], 229⟩ = some ⟨[(2, (V.ptr 2 0 0)), (15, (V.aref 109 0 (List.map I y160).length)), (20, (I x165)), (109, (V.aref 109 0 (List.map I y160).length)), (214, (V.bool (decide (x165 < (y160.length : Int)))))], [(2, ⟨false, 4, [(enc_T_api_Form a0)]⟩), (109, ⟨true, 1, List.map I y160⟩)], 229⟩ := by
  refine rg ?_
  refine ra 2 2 ⟨[(2, (V.ptr 2 0 0)), (15, (V.aref 109 0 (List.map I y160).length)), (20, (I x165)), (109, (V.aref 109 0 (List.map I y160).length)), (211, (I x165)), (212, (V.aref 109 0 (List.map I y160).length))], [(2, ⟨false, 4, [(enc_T_api_Form a0)]⟩), (109, ⟨true, 1, List.map I y160⟩)], 229⟩ rfl rfl rfl ?_
  refine Eq.trans (reg_pure (x := some ()) (w := fun _ => (I (y160.length : Int))) rfl rfl rfl rfl (p_lenA (e := I) rfl rfl rfl rfl rfl rfl Go.Proofs.Try.underlying54)) ?_
  refine Eq.trans some_bind ?_
  exact bind_end rfl
theorem f7r31 (k : Nat) (a0 : T_api_Form) (y160 : (List Int)) (x165 : Int) : RE k f7a31 f7o31 true ⟨[(2, (V.ptr 2 0 0)), (15, (V.aref 109 0 (List.map I y160).length)), (20, (I x165)), (109, (V.aref 109 0 (List.map I y160).length)), (214, (V.bool true))], [(2, ⟨false, 4, [(enc_T_api_Form a0)]⟩), (109, ⟨true, 1, List.map I y160⟩)], 229⟩ = (((inB y160.length x165).bind fun v166 => ((y160[0 + x165.toNat]?).bind fun v167 => ((idx a0.fFields x165).bind fun v168 => (some ((v167 != v168.fBytes))))))).map (fun (o : Bool) => (⟨[(2, (V.ptr 2 0 0)), (15, (V.aref 109 0 (List.map I y160).length)), (20, (I x165)), (109, (V.aref 109 0 (List.map I y160).length)), (227, (V.bool o))], [(2, ⟨false, 4, [(enc_T_api_Form a0)]⟩), (109, ⟨true, 1, List.map I y160⟩)], 229⟩ : St)) := by
  refine Eq.trans (regionE_regp (p := 11) (dk := true) (t := [(2, (V.ptr 2 0 0)), (15, (V.aref 109 0 (List.map I y160).length)), (20, (I x165)), (109, (V.aref 109 0 (List.map I y160).length)), (214, (V.bool true))]) (σ := [(2, ⟨false, 4, [(enc_T_api_Form a0)]⟩), (109, ⟨true, 1, List.map I y160⟩)]) (n := 229) (by decide) (by decide) rfl) ?_
  refine Eq.trans (regp_adv (m := 2) (j := 2) (t' := [(2, (V.ptr 2 0 0)), (15, (V.aref 109 0 (List.map I y160).length)), (20, (I x165)), (109, (V.aref 109 0 (List.map I y160).length)), (214, (V.bool true)), (217, (V.aref 109 0 (List.map I y160).length)), (218, (I x165))]) rfl rfl rfl) ?_
  refine Eq.trans (regp_pure (x := (inB y160.length x165)) (w := fun v166 => (V.ptr 109 (0 + x165.toNat) 0)) rfl rfl rfl rfl rfl (p_indexF (e := I) rfl rfl rfl Go.Proofs.Try.underlying54 rfl rfl (by decide))) ?_
  refine bindE (fun v166 => ?_)
  refine Eq.trans (putp_adv (m := 0) (j := 3) (t' := [(2, (V.ptr 2 0 0)), (15, (V.aref 109 0 (List.map I y160).length)), (20, (I x165)), (109, (V.aref 109 0 (List.map I y160).length)), (214, (V.bool true)), (217, (V.aref 109 0 (List.map I y160).length)), (218, (I x165)), (219, (V.ptr 109 (0 + x165.toNat) 0))]) rfl rfl rfl) ?_
  refine Eq.trans (regp_pure (x := (y160[0 + x165.toNat]?)) (w := fun v167 => (I v167)) rfl rfl rfl rfl rfl (p_loadA (e := I) rfl rfl rfl (fun _ => rfl) (fun _ => rfl))) ?_
  refine bindE (fun v167 => ?_)
  refine Eq.trans (putp_adv (m := 3) (j := 7) (t' := [(2, (V.ptr 2 0 0)), (15, (V.aref 109 0 (List.map I y160).length)), (20, (I x165)), (109, (V.aref 109 0 (List.map I y160).length)), (214, (V.bool true)), (217, (V.aref 109 0 (List.map I y160).length)), (218, (I x165)), (219, (V.ptr 109 (0 + x165.toNat) 0)), (220, (I v167)), (221, (V.ptr 2 0 3)), (222, (sSlot (a0.fFields))), (223, (I x165))]) rfl rfl rfl) ?_
  refine Eq.trans (regp_pure (x := (idx a0.fFields x165)) (w := fun v168 => (V.pro (enc_T_api_Slot v168))) rfl rfl rfl rfl rfl (p_index (e := enc_T_api_Slot) rfl rfl rfl Go.Proofs.Try.underlying23 rfl (by decide))) ?_
  refine bindE (fun v168 => ?_)
  exact regp_end rfl
theorem f7r32 (k : Nat) (a0 : T_api_Form) (y160 : (List Int)) (x165 : Int) : RE k f7a32 f7o32 false ⟨[(2, (V.ptr 2 0 0)), (15, (V.aref 109 0 (List.map I y160).length)), (20, (I x165)), (109, (V.aref 109 0 (List.map I y160).length)), (227, (V.bool true))], [(2, ⟨false, 4, [(enc_T_api_Form a0)]⟩), (109, ⟨true, 1, List.map I y160⟩)], 229⟩ = some ⟨[(4, (V.bool false))], [], 229⟩ :=
  rE rfl
theorem f7r30 (k : Nat) (a0 : T_api_Form) (y160 : (List Int)) (x165 : Int) : RE k f7a30 f7o30 false ⟨[(2, (V.ptr 2 0 0)), (15, (V.aref 109 0 (List.map I y160).length)), (20, (I x165)), (109, (V.aref 109 0 (List.map I y160).length)), (227, (V.bool false))], [(2, ⟨false, 4, [(enc_T_api_Form a0)]⟩), (109, ⟨true, 1, List.map I y160⟩)], 229⟩ = some ⟨[(2, (V.ptr 2 0 0)), (15, (V.aref 109 0 (List.map I y160).length)), (20, (I (Go.IntKind.wrap .i64 (x165 + 1)))), (109, (V.aref 109 0 (List.map I y160).length))], [(2, ⟨false, 4, [(enc_T_api_Form a0)]⟩), (109, ⟨true, 1, List.map I y160⟩)], 229⟩ :=
  rE rfl
theorem law24_ScreenPlaces_L3_ok (k : Nat) (a0 : T_api_Form) (a1 : T_progenylaw24_Word) (y160 : (List Int))  (K0 : Int → Option Bool) (Kst : X × St → Option (V × List V)) (hK0 : ∀ (y0 : Int), Kst (X.exit 4, ⟨[(2, (V.ptr 2 0 0)), (15, (V.aref 109 0 (List.map I y160).length)), (20, (I y0)), (109, (V.aref 109 0 (List.map I y160).length)), (214, (V.bool false))], [(2, ⟨false, 4, [(enc_T_api_Form a0)]⟩), (109, ⟨true, 1, List.map I y160⟩)], 229⟩) = (K0 y0).map law24_ScreenPlaces_fin) (hret : ∀ s, Kst (X.ret, s) = endK prog 229 [(enc_T_api_Form a0), (enc_T_progenylaw24_Word a1)] [] [.tmp 4] (X.ret, s)) :
    ∀ (m : Nat) (x165 : Int), (iter (exec prog (EV k) f7n k f7b2) m ⟨[(2, (V.ptr 2 0 0)), (15, (V.aref 109 0 (List.map I y160).length)), (20, (I x165)), (109, (V.aref 109 0 (List.map I y160).length))], [(2, ⟨false, 4, [(enc_T_api_Form a0)]⟩), (109, ⟨true, 1, List.map I y160⟩)], 229⟩).bind Kst = (law24_ScreenPlaces_L3 a0 y160 K0 m x165).map law24_ScreenPlaces_fin := by
  intro m
  induction m with
  | zero => intros; rfl
  | succ m ih =>
    intro x165
    unfold law24_ScreenPlaces_L3
    refine Eq.trans k_round ?_
    refine Eq.trans k_assoc ?_
    refine Eq.trans (k_region0 rfl (f7r29 k a0 y160 x165)) ?_
    refine Eq.trans (k_cond (t := (decide (x165 < (y160.length : Int)))) rfl rfl) ?_
    refine bifE2 (fun hc => ?_) fun hc => ?_
    · rw [hc]
      refine Eq.trans k_skip ?_
      refine Eq.trans (k_block rfl) ?_
      refine Eq.trans (k_region rfl (f7r31 k a0 y160 x165)) ?_
      refine bindE (fun o169 => ?_)
      refine Eq.trans (k_lcond (t := o169) rfl rfl) ?_
      refine bifE2 (fun hc => ?_) fun hc => ?_
      · rw [hc]
        refine Eq.trans (k_region0 rfl (f7r32 k a0 y160 x165)) ?_
        refine Eq.trans k_lret ?_
        refine Eq.trans blk_ret ?_
        refine Eq.trans loop_ret ?_
        refine Eq.trans (hret _) ?_
        rfl
      · rw [hc]
        refine Eq.trans k_lskip ?_
        refine Eq.trans blk_normal ?_
        refine Eq.trans (k_lregion0 rfl (f7r30 k a0 y160 x165)) ?_
        refine Eq.trans loop_normal ?_
        exact ih (Go.IntKind.wrap .i64 (x165 + 1))
    · rw [hc]
      refine Eq.trans k_exit ?_
      refine Eq.trans loop_exit ?_
      exact hK0 x165
theorem f7r33 (k : Nat) (a0 : T_api_Form) (y160 : (List Int)) (y170 : Int) : RE k f7a33 f7o33 false ⟨[(2, (V.ptr 2 0 0)), (15, (V.aref 109 0 (List.map I y160).length)), (20, (I y170)), (109, (V.aref 109 0 (List.map I y160).length)), (214, (V.bool false))], [(2, ⟨false, 4, [(enc_T_api_Form a0)]⟩), (109, ⟨true, 1, List.map I y160⟩)], 229⟩ = ((law24_Awake k)).map (fun (o : Bool) => (⟨[(4, (V.bool o))], [], 229⟩ : St)) := by
  refine rg ?_
  refine Eq.trans (reg_pure (x := (law24_Awake k)) (w := fun v171 => (V.bool v171)) rfl rfl rfl rfl (p_call rfl rfl rfl rfl rfl (law24_Awake_ok k) (.inl rfl))) ?_
  refine bind_self (fun v171 => ?_)
  exact bind_end rfl
theorem law24_ScreenPlaces_ok (k : Nat) (a0 : T_api_Form) (a1 : T_progenylaw24_Word) : EV k 7 [(enc_T_api_Form a0), (enc_T_progenylaw24_Word a1)] = (law24_ScreenPlaces k a0 a1).map law24_ScreenPlaces_fin := by
  cases k with
  | zero => rfl
  | succ k =>
    unfold law24_ScreenPlaces
    refine Eq.trans (evF_succ (c := f7c) (N := 229) (regs := f7n) rfl Go.Proofs.Try.func7 rfl (by decide) rfl rfl rfl) ?_
    refine Eq.trans (k_region0 rfl (f7r0 k a0 a1)) ?_
    refine Eq.trans k_assoc ?_
    refine Eq.trans (k_region rfl (f7r1 k a0 a1)) ?_
    refine bindE (fun o3 => ?_)
    refine Eq.trans (k_cond (t := o3) rfl rfl) ?_
    refine bifE2 (fun hc => ?_) fun hc => ?_
    · rw [hc]
      refine Eq.trans k_assoc ?_
      refine Eq.trans (k_region rfl (f7r2 k a0 a1)) ?_
      refine bindE (fun o5 => ?_)
      refine Eq.trans k_ret ?_
      rfl
    · rw [hc]
      refine Eq.trans k_skip ?_
      refine Eq.trans (k_region rfl (f7r3 k a0 a1)) ?_
      refine bindE (fun o7 => ?_)
      refine Eq.trans k_assoc ?_
      refine Eq.trans (k_region rfl (f7r4 k a0 a1 o7)) ?_
      refine bindE (fun o8 => ?_)
      refine Eq.trans (k_cond (t := o8) rfl rfl) ?_
      refine bifE2 (fun hc => ?_) fun hc => ?_
      · rw [hc]
        refine Eq.trans k_assoc ?_
        refine Eq.trans (k_region0 rfl (f7r5 k a0 a1 o7)) ?_
        refine Eq.trans k_ret ?_
        rfl
      · rw [hc]
        refine Eq.trans k_skip ?_
        refine Eq.trans (k_region rfl (f7r6 k a0 a1 o7)) ?_
        refine bindE (fun o10 => ?_)
        refine Eq.trans (k_region rfl (f7r7 k a0 a1 o7 o10)) ?_
        refine bindE (fun o13 => ?_)
        refine Eq.trans k_assoc ?_
        refine Eq.trans (k_region rfl (f7r8 k a0 a1 o10 o13)) ?_
        refine bindE (fun o14 => ?_)
        refine Eq.trans (k_cond (t := o14) rfl rfl) ?_
        refine bifE2 (fun hc => ?_) fun hc => ?_
        · rw [hc]
          refine Eq.trans k_assoc ?_
          refine Eq.trans (k_region0 rfl (f7r9 k a0 a1 o10 o13)) ?_
          refine Eq.trans k_ret ?_
          rfl
        · rw [hc]
          refine Eq.trans k_skip ?_
          refine Eq.trans (k_region rfl (f7r10 k a0 a1 o10 o13)) ?_
          refine bindE (fun o16 => ?_)
          refine Eq.trans (k_region rfl (f7r11 k a0 a1 o10 o13 o16)) ?_
          refine bindE (fun o18 => ?_)
          refine Eq.trans (k_region rfl (f7r12 k a0 o10 o13 o16 o18)) ?_
          refine bindE (fun o20 => ?_)
          refine Eq.trans k_assoc ?_
          refine Eq.trans (k_region0 rfl (f7r13 k a0 o10 o13 o16 o18 o20)) ?_
          refine Eq.trans (k_block rfl) ?_
          refine Eq.trans k_loop ?_
          refine law24_ScreenPlaces_L1_ok k a0 a1 o10 o13 o16 o18 _ _ ?h_law24_ScreenPlaces_L1_0 ?hr_law24_ScreenPlaces_L1 k 0 o20
          · intro y159 y160
            refine Eq.trans blk_exit ?_
            refine Eq.trans k_assoc ?_
            refine Eq.trans (k_region0 rfl (f7r28 k a0 o10 o13 o16 o18 y159 y160)) ?_
            refine Eq.trans (k_block rfl) ?_
            refine Eq.trans k_loop ?_
            refine law24_ScreenPlaces_L3_ok k a0 a1 y160 _ _ ?h_law24_ScreenPlaces_L3_0 ?hr_law24_ScreenPlaces_L3 k 0
            · intro y170
              refine Eq.trans blk_exit ?_
              refine Eq.trans (k_region rfl (f7r33 k a0 y160 y170)) ?_
              refine bindE (fun o172 => ?_)
              refine Eq.trans k_lret ?_
              rfl
            · intro s; exact rfl
          · intro s; exact rfl
end
end Go.AE
