/- Texts that the proof needs (part 2). -/
import Derived.Test.YtlnogaoihkinbaaMs1
set_option linter.unusedVariables false
set_option linter.unusedSimpArgs false
namespace Go.Proofs.Ytlnogaoihkinbaa
open Go.Gk Go.RowKit
theorem ca113 : cellsAgg Try.prog 113 = some (some 3) := by kernel_rfl
theorem cl106 : callable Try.prog 106 = true := by kernel_rfl
theorem cl113 : callable Try.prog 113 = true := by kernel_rfl
theorem cl44 : callable Try.prog 44 = true := by kernel_rfl
theorem cl68 : callable Try.prog 68 = true := by kernel_rfl
theorem cl70 : callable Try.prog 70 = true := by kernel_rfl
theorem cl76 : callable Try.prog 76 = true := by kernel_rfl
theorem fo113_0 : fieldOff Try.prog 113 0 = some 0 := by kernel_rfl
theorem fo113_1 : fieldOff Try.prog 113 1 = some 1 := by kernel_rfl
theorem fo113_2 : fieldOff Try.prog 113 2 = some 2 := by kernel_rfl
theorem fo116_0 : fieldOff Try.prog 116 0 = some 0 := by kernel_rfl
theorem fo116_1 : fieldOff Try.prog 116 1 = some 1 := by kernel_rfl
theorem fo116_2 : fieldOff Try.prog 116 2 = some 2 := by kernel_rfl
theorem fo168_0 : fieldOff Try.prog 168 0 = some 0 := by kernel_rfl
theorem fo168_1 : fieldOff Try.prog 168 1 = some 1 := by kernel_rfl
theorem ts113 : tySize Try.prog 113 = some 3 := by kernel_rfl
theorem ts3 : tySize Try.prog 3 = some 1 := by kernel_rfl
theorem ts33 : tySize Try.prog 33 = some 3 := by kernel_rfl
theorem tz113 : tyZero Try.prog 113 = some (.agg #[.int .i64 0, .int .i64 0, .int .i64 0]) := by kernel_rfl
theorem tz33 : tyZero Try.prog 33 = some (.agg #[.int .i64 0, .int .i64 0, .int .i64 0]) := by kernel_rfl
theorem next_c (s : Spec) (r o : Int) (w0 : World) (hs : chk s = 0) (h0r : 0 ≤ r) (h1r : r < s.Wide * s.High) :
    Calls Try.prog 89 #[.agg #[.int .i64 s.Wide, .int .i64 s.High, .int .i64 s.Room], .int .i64 r, .int .i64 o] w0 fun e w' => ∃ v, e = .returned v ∧ (v = .tuple #[.int .i64 (nextR s r o), .bool (nextB s r o)] ∧ Below w0.heap.size w0 w') := by
  obtain ⟨hs1, hs2, hs3, hs4, hs5, hs6⟩ := chk_ok hs
  obtain ⟨hm1, hm2⟩ := mul64 hs
  obtain ⟨har, hbr, hcr, hdr⟩ := cellb hs h0r h1r
  refine calls_of (n := 67) (l := [.agg #[.int .i64 s.Wide, .int .i64 s.High, .int .i64 s.Room], .int .i64 r, .int .i64 o]) Try.func89 rfl rfl rfl ?_
  have H := Hp.start w0
  refine V_seq rfl ?_
  refine V_region rfl ?_
  refine Rg_op rfl (o_box (v := .agg #[.int .i64 s.Wide, .int .i64 s.High, .int .i64 s.Room]) rfl rfl H fun b1 w2 hA H => ?_)
  refine Rg_op rfl (o_val (v := .int .i64 0) (d := 6) rfl rfl (ex_assign rfl) ?_)
  refine Rg_op rfl (o_val (v := .bool false) (d := 7) rfl rfl (ex_assign rfl) ?_)
  refine Rg_end ?_
  refine V_seq rfl ?_
  refine V_region rfl ?_
  refine Rg_op rfl (o_val (v := .agg #[.int .i64 s.Wide, .int .i64 s.High, .int .i64 s.Room]) (d := 9) rfl rfl (ex_loadN (vs := [.int .i64 s.Wide, .int .i64 s.High, .int .i64 s.Room]) ca33 rfl rfl (blk_cells (H.rd 0 rfl) rfl)) ?_)
  refine Rg_op rfl (o_val (v := .int .i64 r) (d := 10) rfl rfl (ex_move rfl) ?_)
  refine Rg_op rfl (o_call (fv := []) (cap := []) (vs := [.agg #[.int .i64 s.Wide, .int .i64 s.High, .int .i64 s.Room], .int .i64 r]) rfl rfl cl70 rfl (at_c s r _ (by omega) (by omega) (by omega)) fun v w3 hS => ?_)
  obtain ⟨rfl, hB⟩ := hS
  have H := H.keep hB
  refine Rg_op rfl (o_alloc rfl tz168 H fun b4 w5 hA H => ?_)
  refine Rg_op rfl (o_store (vs := [.int .i64 (r % s.Wide), .int .i64 (r / s.Wide)]) rfl ts168 rfl rfl rfl rfl 0 rfl rfl rfl rfl H fun w6 hA H => ?_)
  refine Rg_end ?_
  refine V_cut rfl (fun σ w => ∃ (px : Int) (py : Int), σ 3 = .pointer (some ⟨b1, 0, none⟩) ∧ σ 6 = .int .i64 0 ∧ σ 7 = .bool false ∧ σ 8 = .pointer (some ⟨b4, 0, none⟩) ∧ σ 1000000 = undef ∧ Hp w0.heap.size w0 w [SA.cel b4 #[.int .i64 px, .int .i64 py] 168, SA.cel b1 #[.int .i64 s.Wide, .int .i64 s.High, .int .i64 s.Room] 33] ∧ moved s r o = (px, py)) ?_ (fun σ w hI => ?_)
  · skip
    refine V_seq rfl ?_
    refine V_region rfl ?_
    refine Rg_op rfl (o_val (v := .int .i64 o) (d := 12) rfl rfl (ex_move rfl) ?_)
    refine Rg_end ?_
    refine V_block rfl ?_
    refine V_seq rfl ?_
    refine V_region rfl ?_
    refine Rg_op rfl (o_val (v := .bool (decide (o = 1))) (d := 14) rfl rfl (ex_eql rfl rfl) ?_)
    refine Rg_op rfl (o_val (v := .bool (decide (o = 1))) (d := 13) rfl rfl (ex_assign rfl) ?_)
    refine Rg_end ?_
    refine V_cond (b := (decide (o = 1))) rfl rfl (fun hb7 => ?_) (fun hb7 => ?_)
    · have hb7 : o = 1 := of_decide_eq_true hb7
      refine V_region rfl ?_
      refine Rg_op rfl (o_val (v := .pointer (some ⟨b4, 0, none⟩)) (d := 15) rfl rfl (ex_fieldAddr fo168_0 rfl rfl) ?_)
      refine Rg_op rfl (o_val (v := .int .i64 (r % s.Wide)) (d := 16) rfl rfl (ex_load ca3 rfl (cell_of (H.rd 0 rfl))) ?_)
      refine Rg_op rfl (o_val (v := .int .i64 ((r % s.Wide) + 1)) (d := 17) rfl rfl (ex_add rfl rfl (by omega)) ?_)
      refine Rg_op rfl (o_val (v := .pointer (some ⟨b4, 0, none⟩)) (d := 18) rfl rfl (ex_fieldAddr fo168_0 rfl rfl) ?_)
      refine Rg_op rfl (o_store (vs := [.int .i64 ((r % s.Wide) + 1)]) rfl ts3 rfl rfl rfl rfl 0 rfl rfl rfl rfl H fun w8 hA H => ?_)
      refine Rg_end ?_
      exact ⟨(r % s.Wide) + 1, r / s.Wide, rfl, rfl, rfl, rfl, rfl, H, by simp only [moved]; (repeat' split) <;> first | contradiction | rfl | (simp_all; done) | skip⟩
    · have hb7 : ¬ (o = 1) := of_decide_eq_false hb7
      refine V_seq rfl ?_
      refine V_region rfl ?_
      refine Rg_op rfl (o_val (v := .bool (decide (o = 2))) (d := 20) rfl rfl (ex_eql rfl rfl) ?_)
      refine Rg_op rfl (o_val (v := .bool (decide (o = 2))) (d := 19) rfl rfl (ex_assign rfl) ?_)
      refine Rg_end ?_
      refine V_cond (b := (decide (o = 2))) rfl rfl (fun hb9 => ?_) (fun hb9 => ?_)
      · have hb9 : o = 2 := of_decide_eq_true hb9
        refine V_region rfl ?_
        refine Rg_op rfl (o_val (v := .pointer (some ⟨b4, 1, none⟩)) (d := 21) rfl rfl (ex_fieldAddr fo168_1 rfl rfl) ?_)
        refine Rg_op rfl (o_val (v := .int .i64 (r / s.Wide)) (d := 22) rfl rfl (ex_load ca3 rfl (cell_of (H.rd 0 rfl))) ?_)
        refine Rg_op rfl (o_val (v := .int .i64 ((r / s.Wide) + 1)) (d := 23) rfl rfl (ex_add rfl rfl (by omega)) ?_)
        refine Rg_op rfl (o_val (v := .pointer (some ⟨b4, 1, none⟩)) (d := 24) rfl rfl (ex_fieldAddr fo168_1 rfl rfl) ?_)
        refine Rg_op rfl (o_store (vs := [.int .i64 ((r / s.Wide) + 1)]) rfl ts3 rfl rfl rfl rfl 0 rfl rfl rfl rfl H fun w10 hA H => ?_)
        refine Rg_end ?_
        exact ⟨r % s.Wide, (r / s.Wide) + 1, rfl, rfl, rfl, rfl, rfl, H, by simp only [moved]; (repeat' split) <;> first | contradiction | rfl | (simp_all; done) | skip⟩
      · have hb9 : ¬ (o = 2) := of_decide_eq_false hb9
        refine V_seq rfl ?_
        refine V_region rfl ?_
        refine Rg_op rfl (o_val (v := .bool (decide (o = 4))) (d := 26) rfl rfl (ex_eql rfl rfl) ?_)
        refine Rg_op rfl (o_val (v := .bool (decide (o = 4))) (d := 25) rfl rfl (ex_assign rfl) ?_)
        refine Rg_end ?_
        refine V_cond (b := (decide (o = 4))) rfl rfl (fun hb11 => ?_) (fun hb11 => ?_)
        · have hb11 : o = 4 := of_decide_eq_true hb11
          refine V_region rfl ?_
          refine Rg_op rfl (o_val (v := .pointer (some ⟨b4, 0, none⟩)) (d := 27) rfl rfl (ex_fieldAddr fo168_0 rfl rfl) ?_)
          refine Rg_op rfl (o_val (v := .int .i64 (r % s.Wide)) (d := 28) rfl rfl (ex_load ca3 rfl (cell_of (H.rd 0 rfl))) ?_)
          refine Rg_op rfl (o_val (v := .int .i64 ((r % s.Wide) - 1)) (d := 29) rfl rfl (ex_sub rfl rfl (by omega)) ?_)
          refine Rg_op rfl (o_val (v := .pointer (some ⟨b4, 0, none⟩)) (d := 30) rfl rfl (ex_fieldAddr fo168_0 rfl rfl) ?_)
          refine Rg_op rfl (o_store (vs := [.int .i64 ((r % s.Wide) - 1)]) rfl ts3 rfl rfl rfl rfl 0 rfl rfl rfl rfl H fun w12 hA H => ?_)
          refine Rg_end ?_
          exact ⟨(r % s.Wide) - 1, r / s.Wide, rfl, rfl, rfl, rfl, rfl, H, by simp only [moved]; (repeat' split) <;> first | contradiction | rfl | (simp_all; done) | skip⟩
        · have hb11 : ¬ (o = 4) := of_decide_eq_false hb11
          refine V_seq rfl ?_
          refine V_region rfl ?_
          refine Rg_op rfl (o_val (v := .bool (decide (o = 8))) (d := 32) rfl rfl (ex_eql rfl rfl) ?_)
          refine Rg_op rfl (o_val (v := .bool (decide (o = 8))) (d := 31) rfl rfl (ex_assign rfl) ?_)
          refine Rg_end ?_
          refine V_cond (b := (decide (o = 8))) rfl rfl (fun hb13 => ?_) (fun hb13 => ?_)
          · have hb13 : o = 8 := of_decide_eq_true hb13
            refine V_region rfl ?_
            refine Rg_op rfl (o_val (v := .pointer (some ⟨b4, 1, none⟩)) (d := 33) rfl rfl (ex_fieldAddr fo168_1 rfl rfl) ?_)
            refine Rg_op rfl (o_val (v := .int .i64 (r / s.Wide)) (d := 34) rfl rfl (ex_load ca3 rfl (cell_of (H.rd 0 rfl))) ?_)
            refine Rg_op rfl (o_val (v := .int .i64 ((r / s.Wide) - 1)) (d := 35) rfl rfl (ex_sub rfl rfl (by omega)) ?_)
            refine Rg_op rfl (o_val (v := .pointer (some ⟨b4, 1, none⟩)) (d := 36) rfl rfl (ex_fieldAddr fo168_1 rfl rfl) ?_)
            refine Rg_op rfl (o_store (vs := [.int .i64 ((r / s.Wide) - 1)]) rfl ts3 rfl rfl rfl rfl 0 rfl rfl rfl rfl H fun w14 hA H => ?_)
            refine Rg_end ?_
            exact ⟨r % s.Wide, (r / s.Wide) - 1, rfl, rfl, rfl, rfl, rfl, H, by simp only [moved]; (repeat' split) <;> first | contradiction | rfl | (simp_all; done) | skip⟩
          · have hb13 : ¬ (o = 8) := of_decide_eq_false hb13
            refine V_skip rfl ?_
            exact ⟨r % s.Wide, r / s.Wide, rfl, rfl, rfl, rfl, rfl, H, by simp only [moved]; (repeat' split) <;> first | contradiction | rfl | (simp_all; done) | skip⟩
  obtain ⟨px, py, hI⟩ := hI
  obtain ⟨s3, s6, s7, s8, s1000000, H, hp⟩ := hI
  have hb1 := moved_b hs h0r h1r hp
  have hm := mulb (a := py) (b := s.Wide) (by omega) (by omega)
  refine V_seq rfl ?_
  refine V_join (fun σ w => σ 6 = .int .i64 ((py * s.Wide) + px) ∧ σ 7 = .bool (decide ((((0 ≤ px) ∧ (px < s.Wide)) ∧ (0 ≤ py)) ∧ (py < s.High))) ∧ σ 1000000 = undef ∧ Hp w0.heap.size w0 w [SA.cel b4 #[.int .i64 px, .int .i64 py] 168, SA.cel b1 #[.int .i64 s.Wide, .int .i64 s.High, .int .i64 s.Room] 33]) ?_ (fun σ w hI => ?_)
  · skip
    refine V_draw [0, 2, 4, 5, 7, 8, 10, 11, 12, 14, 16, 17, 18, 19, 21, 22, 23, 24, 26, 28, 29, 30, 31] (.p 0 (.q 1 (.p 2 (.q 3 (.p 4 (.p 5 (.q 6 (.p 7 (.p 8 (.q 9 (.p 10 (.p 11 (.p 12 (.q 13 (.p 14 (.q 15 (.p 16 (.p 17 (.p 18 (.p 19 (.q 20 (.p 21 (.p 22 (.p 23 (.p 24 (.q 25 (.p 26 (.q 27 (.p 28 (.p 29 (.p 30 (.p 31 .done)))))))))))))))))))))))))))))))) (fun _ => False) rfl mixed (by kernel_rfl) fun w15 hD => ?_
    have H := H.drew hD
    refine c_p (v := .pointer (some ⟨b4, 1, none⟩)) (d := 37) rfl rfl rfl (fun w' => ex_fieldAddr fo168_1 s8 rfl) ?_
    refine c_q (v := .int .i64 py) (d := 38) rfl rfl rfl (fun w' hG => ex_load ca3 rfl (hG.cell (cell_of (H.rd 0 rfl)) id)) ?_
    refine c_p (v := .pointer (some ⟨b1, 0, none⟩)) (d := 39) rfl rfl rfl (fun w' => ex_fieldAddr fo33_0 s3 rfl) ?_
    refine c_q (v := .int .i64 s.Wide) (d := 40) rfl rfl rfl (fun w' hG => ex_load ca3 rfl (hG.cell (cell_of (H.rd 1 rfl)) id)) ?_
    refine c_p (v := .int .i64 (py * s.Wide)) (d := 41) rfl rfl rfl (fun w' => ex_mul rfl rfl (by omega)) ?_
    refine c_p (v := .pointer (some ⟨b4, 0, none⟩)) (d := 42) rfl rfl rfl (fun w' => ex_fieldAddr fo168_0 s8 rfl) ?_
    refine c_q (v := .int .i64 px) (d := 43) rfl rfl rfl (fun w' hG => ex_load ca3 rfl (hG.cell (cell_of (H.rd 0 rfl)) id)) ?_
    refine c_p (v := .int .i64 ((py * s.Wide) + px)) (d := 44) rfl rfl rfl (fun w' => ex_add rfl rfl (by omega)) ?_
    refine c_p (v := .pointer (some ⟨b4, 0, none⟩)) (d := 45) rfl rfl rfl (fun w' => ex_fieldAddr fo168_0 s8 rfl) ?_
    refine c_q (v := .int .i64 px) (d := 46) rfl rfl rfl (fun w' hG => ex_load ca3 rfl (hG.cell (cell_of (H.rd 0 rfl)) id)) ?_
    refine c_p (v := .bool (decide (0 ≤ px))) (d := 47) rfl rfl rfl (fun w' => ex_geq rfl rfl) ?_
    refine c_p (v := .bool (decide (0 ≤ px))) (d := 48) rfl rfl rfl (fun w' => ex_move rfl) ?_
    by_cases hg16 : 0 ≤ px
    · skip
      refine c_pg (v := .pointer (some ⟨b4, 0, none⟩)) (d := 49) rfl rfl rfl (wanted_yes (b := (decide (0 ≤ px))) rfl rfl rfl (decide_eq_true hg16)) (fun w' => ex_fieldAddr fo168_0 s8 rfl) ?_
      refine c_qg (v := .int .i64 px) (d := 50) rfl rfl rfl (wanted_yes (b := (decide (0 ≤ px))) rfl rfl rfl (decide_eq_true hg16)) (fun w' hG => ex_load ca3 rfl (hG.cell (cell_of (H.rd 0 rfl)) id)) ?_
      refine c_pg (v := .pointer (some ⟨b1, 0, none⟩)) (d := 51) rfl rfl rfl (wanted_yes (b := (decide (0 ≤ px))) rfl rfl rfl (decide_eq_true hg16)) (fun w' => ex_fieldAddr fo33_0 s3 rfl) ?_
      refine c_qg (v := .int .i64 s.Wide) (d := 52) rfl rfl rfl (wanted_yes (b := (decide (0 ≤ px))) rfl rfl rfl (decide_eq_true hg16)) (fun w' hG => ex_load ca3 rfl (hG.cell (cell_of (H.rd 1 rfl)) id)) ?_
      refine c_pg (v := .bool (decide (px < s.Wide))) (d := 53) rfl rfl rfl (wanted_yes (b := (decide (0 ≤ px))) rfl rfl rfl (decide_eq_true hg16)) (fun w' => ex_lss rfl rfl) ?_
      refine c_p (v := .bool (decide (px < s.Wide))) (d := 54) rfl rfl rfl (fun w' => ex_pick (q := (decide (0 ≤ px))) rfl (fun h => rfl) (fun h => absurd hg16 (of_decide_eq_false h))) ?_
      refine c_p (v := .bool (decide (px < s.Wide))) (d := 55) rfl rfl rfl (fun w' => ex_move rfl) ?_
      by_cases hg17 : px < s.Wide
      · skip
        refine c_pg (v := .pointer (some ⟨b4, 1, none⟩)) (d := 56) rfl rfl rfl (wanted_yes (b := (decide (px < s.Wide))) rfl rfl rfl (decide_eq_true hg17)) (fun w' => ex_fieldAddr fo168_1 s8 rfl) ?_
        refine c_qg (v := .int .i64 py) (d := 57) rfl rfl rfl (wanted_yes (b := (decide (px < s.Wide))) rfl rfl rfl (decide_eq_true hg17)) (fun w' hG => ex_load ca3 rfl (hG.cell (cell_of (H.rd 0 rfl)) id)) ?_
        refine c_pg (v := .bool (decide (0 ≤ py))) (d := 58) rfl rfl rfl (wanted_yes (b := (decide (px < s.Wide))) rfl rfl rfl (decide_eq_true hg17)) (fun w' => ex_geq rfl rfl) ?_
        refine c_p (v := .bool (decide (0 ≤ py))) (d := 59) rfl rfl rfl (fun w' => ex_pick (q := (decide (px < s.Wide))) rfl (fun h => rfl) (fun h => absurd hg17 (of_decide_eq_false h))) ?_
        refine c_p (v := .bool (decide (0 ≤ py))) (d := 60) rfl rfl rfl (fun w' => ex_move rfl) ?_
        by_cases hg18 : 0 ≤ py
        · skip
          refine c_pg (v := .pointer (some ⟨b4, 1, none⟩)) (d := 61) rfl rfl rfl (wanted_yes (b := (decide (0 ≤ py))) rfl rfl rfl (decide_eq_true hg18)) (fun w' => ex_fieldAddr fo168_1 s8 rfl) ?_
          refine c_qg (v := .int .i64 py) (d := 62) rfl rfl rfl (wanted_yes (b := (decide (0 ≤ py))) rfl rfl rfl (decide_eq_true hg18)) (fun w' hG => ex_load ca3 rfl (hG.cell (cell_of (H.rd 0 rfl)) id)) ?_
          refine c_pg (v := .pointer (some ⟨b1, 1, none⟩)) (d := 63) rfl rfl rfl (wanted_yes (b := (decide (0 ≤ py))) rfl rfl rfl (decide_eq_true hg18)) (fun w' => ex_fieldAddr fo33_1 s3 rfl) ?_
          refine c_qg (v := .int .i64 s.High) (d := 64) rfl rfl rfl (wanted_yes (b := (decide (0 ≤ py))) rfl rfl rfl (decide_eq_true hg18)) (fun w' hG => ex_load ca3 rfl (hG.cell (cell_of (H.rd 1 rfl)) id)) ?_
          refine c_pg (v := .bool (decide (py < s.High))) (d := 65) rfl rfl rfl (wanted_yes (b := (decide (0 ≤ py))) rfl rfl rfl (decide_eq_true hg18)) (fun w' => ex_lss rfl rfl) ?_
          refine c_p (v := .bool (decide (py < s.High))) (d := 66) rfl rfl rfl (fun w' => ex_pick (q := (decide (0 ≤ py))) rfl (fun h => rfl) (fun h => absurd hg18 (of_decide_eq_false h))) ?_
          refine c_p (v := .int .i64 ((py * s.Wide) + px)) (d := 6) rfl rfl rfl (fun w' => ex_assign rfl) ?_
          refine c_p (v := .bool (decide (py < s.High))) (d := 7) rfl rfl rfl (fun w' => ex_assign rfl) ?_
          refine c_done ?_
          exact ⟨rfl, (show (.bool (decide (py < s.High)) : Value) = .bool (decide ((((0 ≤ px) ∧ (px < s.Wide)) ∧ (0 ≤ py)) ∧ (py < s.High))) from by first | (simp only [hg16, hg17, hg18, true_or, or_true, false_or, or_false, true_and, and_true, false_and, and_false, decide_true, decide_false, Bool.not_true, Bool.not_false]; done) | (simp [hg16, hg17, hg18]; done) | (simp [hg16, hg17, hg18]; rfl)), s1000000, H⟩
        · skip
          refine c_ps (d := 61) rfl rfl rfl (wanted_no (b := (decide (0 ≤ py))) rfl rfl rfl (decide_eq_false hg18)) ?_
          refine c_qs (d := 62) rfl rfl rfl (wanted_no (b := (decide (0 ≤ py))) rfl rfl rfl (decide_eq_false hg18)) ?_
          refine c_ps (d := 63) rfl rfl rfl (wanted_no (b := (decide (0 ≤ py))) rfl rfl rfl (decide_eq_false hg18)) ?_
          refine c_qs (d := 64) rfl rfl rfl (wanted_no (b := (decide (0 ≤ py))) rfl rfl rfl (decide_eq_false hg18)) ?_
          refine c_ps (d := 65) rfl rfl rfl (wanted_no (b := (decide (0 ≤ py))) rfl rfl rfl (decide_eq_false hg18)) ?_
          refine c_p (v := .bool false) (d := 66) rfl rfl rfl (fun w' => ex_pick (q := (decide (0 ≤ py))) rfl (fun h => absurd (of_decide_eq_true h) hg18) (fun h => rfl)) ?_
          refine c_p (v := .int .i64 ((py * s.Wide) + px)) (d := 6) rfl rfl rfl (fun w' => ex_assign rfl) ?_
          refine c_p (v := .bool false) (d := 7) rfl rfl rfl (fun w' => ex_assign rfl) ?_
          refine c_done ?_
          exact ⟨rfl, (show (.bool false : Value) = .bool (decide ((((0 ≤ px) ∧ (px < s.Wide)) ∧ (0 ≤ py)) ∧ (py < s.High))) from by first | (simp only [hg16, hg17, hg18, true_or, or_true, false_or, or_false, true_and, and_true, false_and, and_false, decide_true, decide_false, Bool.not_true, Bool.not_false]; done) | (simp [hg16, hg17, hg18]; done) | (simp [hg16, hg17, hg18]; rfl)), s1000000, H⟩
      · skip
        refine c_ps (d := 56) rfl rfl rfl (wanted_no (b := (decide (px < s.Wide))) rfl rfl rfl (decide_eq_false hg17)) ?_
        refine c_qs (d := 57) rfl rfl rfl (wanted_no (b := (decide (px < s.Wide))) rfl rfl rfl (decide_eq_false hg17)) ?_
        refine c_ps (d := 58) rfl rfl rfl (wanted_no (b := (decide (px < s.Wide))) rfl rfl rfl (decide_eq_false hg17)) ?_
        refine c_p (v := .bool false) (d := 59) rfl rfl rfl (fun w' => ex_pick (q := (decide (px < s.Wide))) rfl (fun h => absurd (of_decide_eq_true h) hg17) (fun h => rfl)) ?_
        refine c_p (v := .bool false) (d := 60) rfl rfl rfl (fun w' => ex_move rfl) ?_
        refine c_ps (d := 61) rfl rfl rfl (wanted_no (b := false) rfl rfl rfl rfl) ?_
        refine c_qs (d := 62) rfl rfl rfl (wanted_no (b := false) rfl rfl rfl rfl) ?_
        refine c_ps (d := 63) rfl rfl rfl (wanted_no (b := false) rfl rfl rfl rfl) ?_
        refine c_qs (d := 64) rfl rfl rfl (wanted_no (b := false) rfl rfl rfl rfl) ?_
        refine c_ps (d := 65) rfl rfl rfl (wanted_no (b := false) rfl rfl rfl rfl) ?_
        refine c_p (v := .bool false) (d := 66) rfl rfl rfl (fun w' => ex_pick (q := false) rfl (fun h => by cases h) (fun h => rfl)) ?_
        refine c_p (v := .int .i64 ((py * s.Wide) + px)) (d := 6) rfl rfl rfl (fun w' => ex_assign rfl) ?_
        refine c_p (v := .bool false) (d := 7) rfl rfl rfl (fun w' => ex_assign rfl) ?_
        refine c_done ?_
        exact ⟨rfl, (show (.bool false : Value) = .bool (decide ((((0 ≤ px) ∧ (px < s.Wide)) ∧ (0 ≤ py)) ∧ (py < s.High))) from by first | (simp only [hg16, hg17, true_or, or_true, false_or, or_false, true_and, and_true, false_and, and_false, decide_true, decide_false, Bool.not_true, Bool.not_false]; done) | (simp [hg16, hg17]; done) | (simp [hg16, hg17]; rfl)), s1000000, H⟩
    · skip
      refine c_ps (d := 49) rfl rfl rfl (wanted_no (b := (decide (0 ≤ px))) rfl rfl rfl (decide_eq_false hg16)) ?_
      refine c_qs (d := 50) rfl rfl rfl (wanted_no (b := (decide (0 ≤ px))) rfl rfl rfl (decide_eq_false hg16)) ?_
      refine c_ps (d := 51) rfl rfl rfl (wanted_no (b := (decide (0 ≤ px))) rfl rfl rfl (decide_eq_false hg16)) ?_
      refine c_qs (d := 52) rfl rfl rfl (wanted_no (b := (decide (0 ≤ px))) rfl rfl rfl (decide_eq_false hg16)) ?_
      refine c_ps (d := 53) rfl rfl rfl (wanted_no (b := (decide (0 ≤ px))) rfl rfl rfl (decide_eq_false hg16)) ?_
      refine c_p (v := .bool false) (d := 54) rfl rfl rfl (fun w' => ex_pick (q := (decide (0 ≤ px))) rfl (fun h => absurd (of_decide_eq_true h) hg16) (fun h => rfl)) ?_
      refine c_p (v := .bool false) (d := 55) rfl rfl rfl (fun w' => ex_move rfl) ?_
      refine c_ps (d := 56) rfl rfl rfl (wanted_no (b := false) rfl rfl rfl rfl) ?_
      refine c_qs (d := 57) rfl rfl rfl (wanted_no (b := false) rfl rfl rfl rfl) ?_
      refine c_ps (d := 58) rfl rfl rfl (wanted_no (b := false) rfl rfl rfl rfl) ?_
      refine c_p (v := .bool false) (d := 59) rfl rfl rfl (fun w' => ex_pick (q := false) rfl (fun h => by cases h) (fun h => rfl)) ?_
      refine c_p (v := .bool false) (d := 60) rfl rfl rfl (fun w' => ex_move rfl) ?_
      refine c_ps (d := 61) rfl rfl rfl (wanted_no (b := false) rfl rfl rfl rfl) ?_
      refine c_qs (d := 62) rfl rfl rfl (wanted_no (b := false) rfl rfl rfl rfl) ?_
      refine c_ps (d := 63) rfl rfl rfl (wanted_no (b := false) rfl rfl rfl rfl) ?_
      refine c_qs (d := 64) rfl rfl rfl (wanted_no (b := false) rfl rfl rfl rfl) ?_
      refine c_ps (d := 65) rfl rfl rfl (wanted_no (b := false) rfl rfl rfl rfl) ?_
      refine c_p (v := .bool false) (d := 66) rfl rfl rfl (fun w' => ex_pick (q := false) rfl (fun h => by cases h) (fun h => rfl)) ?_
      refine c_p (v := .int .i64 ((py * s.Wide) + px)) (d := 6) rfl rfl rfl (fun w' => ex_assign rfl) ?_
      refine c_p (v := .bool false) (d := 7) rfl rfl rfl (fun w' => ex_assign rfl) ?_
      refine c_done ?_
      exact ⟨rfl, (show (.bool false : Value) = .bool (decide ((((0 ≤ px) ∧ (px < s.Wide)) ∧ (0 ≤ py)) ∧ (py < s.High))) from by first | (simp only [hg16, true_or, or_true, false_or, or_false, true_and, and_true, false_and, and_false, decide_true, decide_false, Bool.not_true, Bool.not_false]; done) | (simp [hg16]; done) | (simp [hg16]; rfl)), s1000000, H⟩
  obtain ⟨s6, s7, s1000000, H⟩ := hI
  refine V_ret rfl (end0 (v := .tuple #[.int .i64 ((py * s.Wide) + px), .bool (decide ((((0 ≤ px) ∧ (px < s.Wide)) ∧ (0 ≤ py)) ∧ (py < s.High)))]) s1000000 (res_tmp2 Try.results89 s6 s7) ?_)
  exact ⟨by simp only [nextR, nextB, hp], H.below⟩

theorem turn_c (s : Spec) (r q : Int) (w0 : World) (hs : chk s = 0) (h0r : 0 ≤ r) (h1r : r < s.Wide * s.High) (h0q : 0 ≤ q) (h1q : q < s.Wide * s.High) :
    Calls Try.prog 71 #[.agg #[.int .i64 s.Wide, .int .i64 s.High, .int .i64 s.Room], .int .i64 r, .int .i64 q] w0 fun e w' => ∃ v, e = .returned v ∧ (v = .int .i64 (turn s r q) ∧ Below w0.heap.size w0 w') := by
  obtain ⟨hs1, hs2, hs3, hs4, hs5, hs6⟩ := chk_ok hs
  obtain ⟨hm1, hm2⟩ := mul64 hs
  refine calls_of (n := 39) (l := [.agg #[.int .i64 s.Wide, .int .i64 s.High, .int .i64 s.Room], .int .i64 r, .int .i64 q]) Try.func71 rfl rfl rfl ?_
  have H := Hp.start w0
  refine V_seq rfl ?_
  refine V_region rfl ?_
  refine Rg_op rfl (o_box (v := .agg #[.int .i64 s.Wide, .int .i64 s.High, .int .i64 s.Room]) rfl rfl H fun b1 w2 hA H => ?_)
  refine Rg_op rfl (o_val (v := .int .i64 0) (d := 6) rfl rfl (ex_assign rfl) ?_)
  refine Rg_end ?_
  refine V_seq rfl ?_
  refine V_join (fun σ w => ∃ (b_1_7 : Nat) (b_1_6 : Nat), σ 6 = .int .i64 0 ∧ σ 7 = .pointer (some ⟨b_1_6, 0, none⟩) ∧ σ 8 = .pointer (some ⟨b_1_7, 0, none⟩) ∧ σ 1000000 = undef ∧ Hp w0.heap.size w0 w [SA.cel b_1_7 #[.int .i64 (q % s.Wide), .int .i64 (q / s.Wide)] 168, SA.cel b_1_6 #[.int .i64 (r % s.Wide), .int .i64 (r / s.Wide)] 168, SA.cel b1 #[.int .i64 s.Wide, .int .i64 s.High, .int .i64 s.Room] 33]) ?_ (fun σ w hI => ?_)
  · skip
    refine V_draw [1, 4] (.q 0 (.p 1 (.q 3 (.p 4 (.l3 2 6 7 (.l3 5 6 7 (.l2 6 7 (.l 7 (.l 8 (.l 9 .done))) (.l 6 (.l 8 (.l 9 .done)))) (.l2 5 7 (.l 7 (.l 8 (.l 9 .done))) (.l 5 (.l 8 (.l 9 .done)))) (.l2 5 6 (.l 6 (.l 8 (.l 9 .done))) (.l 5 (.l 8 (.l 9 .done))))) (.l2 2 7 (.l2 5 7 (.l 7 (.l 8 (.l 9 .done))) (.l 5 (.l 8 (.l 9 .done)))) (.l 2 (.l 5 (.l 8 (.l 9 .done))))) (.l2 2 6 (.l2 5 6 (.l 6 (.l 8 (.l 9 .done))) (.l 5 (.l 8 (.l 9 .done)))) (.l 2 (.l 5 (.l 8 (.l 9 .done)))))))))) (fun _ => False) rfl mixed (by kernel_rfl) fun w9 hD => ?_
    have H := H.drew hD
    refine c_q (v := .agg #[.int .i64 s.Wide, .int .i64 s.High, .int .i64 s.Room]) (d := 9) rfl rfl rfl (fun w' hG => ex_loadN (vs := [.int .i64 s.Wide, .int .i64 s.High, .int .i64 s.Room]) ca33 rfl rfl (fun j u hj => hG.cell (blk_cells (vs := [.int .i64 s.Wide, .int .i64 s.High, .int .i64 s.Room]) (H.rd 0 rfl) rfl j u hj) id)) ?_
    refine c_p (v := .int .i64 r) (d := 10) rfl rfl rfl (fun w' => ex_move rfl) ?_
    refine c_q (v := .agg #[.int .i64 s.Wide, .int .i64 s.High, .int .i64 s.Room]) (d := 12) rfl rfl rfl (fun w' hG => ex_loadN (vs := [.int .i64 s.Wide, .int .i64 s.High, .int .i64 s.Room]) ca33 rfl rfl (fun j u hj => hG.cell (blk_cells (vs := [.int .i64 s.Wide, .int .i64 s.High, .int .i64 s.Room]) (H.rd 0 rfl) rfl j u hj) id)) ?_
    refine c_p (v := .int .i64 q) (d := 13) rfl rfl rfl (fun w' => ex_move rfl) ?_
    refine c_l3 rfl rfl rfl ?_ ?_ ?_
    · skip
      refine o_call (fv := []) (cap := []) (vs := [.agg #[.int .i64 s.Wide, .int .i64 s.High, .int .i64 s.Room], .int .i64 r]) rfl rfl cl70 rfl (at_c s r _ (by omega) (by omega) (by omega)) fun v w10 hS => ?_
      obtain ⟨rfl, hB⟩ := hS
      refine ⟨.inr (Below.agr hB), ?_⟩
      have H := H.keep hB
      refine c_l3 rfl rfl rfl ?_ ?_ ?_
      · skip
        refine o_call (fv := []) (cap := []) (vs := [.agg #[.int .i64 s.Wide, .int .i64 s.High, .int .i64 s.Room], .int .i64 q]) rfl rfl cl70 rfl (at_c s q _ (by omega) (by omega) (by omega)) fun v w11 hS => ?_
        obtain ⟨rfl, hB⟩ := hS
        refine ⟨.inr (Below.agr hB), ?_⟩
        have H := H.keep hB
        refine c_l2 rfl rfl ?_ ?_
        · skip
          refine o_alloc rfl tz168 H fun b_1_6 w12 hA H => ⟨.inr (Below.agr hA), ?_⟩
          refine c_l rfl (o_alloc rfl tz168 H fun b_1_7 w13 hA H => ⟨.inr (Below.agr hA), ?_⟩)
          refine c_l rfl (o_store (vs := [.int .i64 (r % s.Wide), .int .i64 (r / s.Wide)]) rfl ts168 rfl rfl rfl rfl 1 rfl rfl rfl rfl H fun w14 hA H => ⟨.inl (by kernel_rfl), ?_⟩)
          refine c_l rfl (o_store (vs := [.int .i64 (q % s.Wide), .int .i64 (q / s.Wide)]) rfl ts168 rfl rfl rfl rfl 1 rfl rfl rfl rfl H fun w15 hA H => ⟨.inl (by kernel_rfl), ?_⟩)
          refine c_done ?_
          exact ⟨b_1_7, b_1_6, rfl, rfl, rfl, rfl, H⟩
        · skip
          refine o_alloc rfl tz168 H fun b_1_7 w16 hA H => ⟨.inr (Below.agr hA), ?_⟩
          refine c_l rfl (o_alloc rfl tz168 H fun b_1_6 w17 hA H => ⟨.inr (Below.agr hA), ?_⟩)
          refine c_l rfl (o_store (vs := [.int .i64 (r % s.Wide), .int .i64 (r / s.Wide)]) rfl ts168 rfl rfl rfl rfl 0 rfl rfl rfl rfl H fun w18 hA H => ⟨.inl (by kernel_rfl), ?_⟩)
          refine c_l rfl (o_store (vs := [.int .i64 (q % s.Wide), .int .i64 (q / s.Wide)]) rfl ts168 rfl rfl rfl rfl 1 rfl rfl rfl rfl H fun w19 hA H => ⟨.inl (by kernel_rfl), ?_⟩)
          refine c_done ?_
          exact ⟨b_1_7, b_1_6, rfl, rfl, rfl, rfl, H⟩
      · skip
        refine o_alloc rfl tz168 H fun b_1_6 w20 hA H => ⟨.inr (Below.agr hA), ?_⟩
        refine c_l2 rfl rfl ?_ ?_
        · skip
          refine o_call (fv := []) (cap := []) (vs := [.agg #[.int .i64 s.Wide, .int .i64 s.High, .int .i64 s.Room], .int .i64 q]) rfl rfl cl70 rfl (at_c s q _ (by omega) (by omega) (by omega)) fun v w21 hS => ?_
          obtain ⟨rfl, hB⟩ := hS
          refine ⟨.inr (Below.agr hB), ?_⟩
          have H := H.keep hB
          refine c_l rfl (o_alloc rfl tz168 H fun b_1_7 w22 hA H => ⟨.inr (Below.agr hA), ?_⟩)
          refine c_l rfl (o_store (vs := [.int .i64 (r % s.Wide), .int .i64 (r / s.Wide)]) rfl ts168 rfl rfl rfl rfl 1 rfl rfl rfl rfl H fun w23 hA H => ⟨.inl (by kernel_rfl), ?_⟩)
          refine c_l rfl (o_store (vs := [.int .i64 (q % s.Wide), .int .i64 (q / s.Wide)]) rfl ts168 rfl rfl rfl rfl 1 rfl rfl rfl rfl H fun w24 hA H => ⟨.inl (by kernel_rfl), ?_⟩)
          refine c_done ?_
          exact ⟨b_1_7, b_1_6, rfl, rfl, rfl, rfl, H⟩
        · skip
          refine o_alloc rfl tz168 H fun b_1_7 w25 hA H => ⟨.inr (Below.agr hA), ?_⟩
          refine c_l rfl (o_call (fv := []) (cap := []) (vs := [.agg #[.int .i64 s.Wide, .int .i64 s.High, .int .i64 s.Room], .int .i64 q]) rfl rfl cl70 rfl (at_c s q _ (by omega) (by omega) (by omega)) fun v w26 hS => ?_)
          obtain ⟨rfl, hB⟩ := hS
          refine ⟨.inr (Below.agr hB), ?_⟩
          have H := H.keep hB
          refine c_l rfl (o_store (vs := [.int .i64 (r % s.Wide), .int .i64 (r / s.Wide)]) rfl ts168 rfl rfl rfl rfl 1 rfl rfl rfl rfl H fun w27 hA H => ⟨.inl (by kernel_rfl), ?_⟩)
          refine c_l rfl (o_store (vs := [.int .i64 (q % s.Wide), .int .i64 (q / s.Wide)]) rfl ts168 rfl rfl rfl rfl 1 rfl rfl rfl rfl H fun w28 hA H => ⟨.inl (by kernel_rfl), ?_⟩)
          refine c_done ?_
          exact ⟨b_1_7, b_1_6, rfl, rfl, rfl, rfl, H⟩
      · skip
        refine o_alloc rfl tz168 H fun b_1_7 w29 hA H => ⟨.inr (Below.agr hA), ?_⟩
        refine c_l2 rfl rfl ?_ ?_
        · skip
          refine o_call (fv := []) (cap := []) (vs := [.agg #[.int .i64 s.Wide, .int .i64 s.High, .int .i64 s.Room], .int .i64 q]) rfl rfl cl70 rfl (at_c s q _ (by omega) (by omega) (by omega)) fun v w30 hS => ?_
          obtain ⟨rfl, hB⟩ := hS
          refine ⟨.inr (Below.agr hB), ?_⟩
          have H := H.keep hB
          refine c_l rfl (o_alloc rfl tz168 H fun b_1_6 w31 hA H => ⟨.inr (Below.agr hA), ?_⟩)
          refine c_l rfl (o_store (vs := [.int .i64 (r % s.Wide), .int .i64 (r / s.Wide)]) rfl ts168 rfl rfl rfl rfl 0 rfl rfl rfl rfl H fun w32 hA H => ⟨.inl (by kernel_rfl), ?_⟩)
          refine c_l rfl (o_store (vs := [.int .i64 (q % s.Wide), .int .i64 (q / s.Wide)]) rfl ts168 rfl rfl rfl rfl 1 rfl rfl rfl rfl H fun w33 hA H => ⟨.inl (by kernel_rfl), ?_⟩)
          refine c_done ?_
          exact ⟨b_1_7, b_1_6, rfl, rfl, rfl, rfl, H⟩
        · skip
          refine o_alloc rfl tz168 H fun b_1_6 w34 hA H => ⟨.inr (Below.agr hA), ?_⟩
          refine c_l rfl (o_call (fv := []) (cap := []) (vs := [.agg #[.int .i64 s.Wide, .int .i64 s.High, .int .i64 s.Room], .int .i64 q]) rfl rfl cl70 rfl (at_c s q _ (by omega) (by omega) (by omega)) fun v w35 hS => ?_)
          obtain ⟨rfl, hB⟩ := hS
          refine ⟨.inr (Below.agr hB), ?_⟩
          have H := H.keep hB
          refine c_l rfl (o_store (vs := [.int .i64 (r % s.Wide), .int .i64 (r / s.Wide)]) rfl ts168 rfl rfl rfl rfl 0 rfl rfl rfl rfl H fun w36 hA H => ⟨.inl (by kernel_rfl), ?_⟩)
          refine c_l rfl (o_store (vs := [.int .i64 (q % s.Wide), .int .i64 (q / s.Wide)]) rfl ts168 rfl rfl rfl rfl 1 rfl rfl rfl rfl H fun w37 hA H => ⟨.inl (by kernel_rfl), ?_⟩)
          refine c_done ?_
          exact ⟨b_1_7, b_1_6, rfl, rfl, rfl, rfl, H⟩
    · skip
      refine o_alloc rfl tz168 H fun b_1_6 w38 hA H => ⟨.inr (Below.agr hA), ?_⟩
      refine c_l2 rfl rfl ?_ ?_
      · skip
        refine o_call (fv := []) (cap := []) (vs := [.agg #[.int .i64 s.Wide, .int .i64 s.High, .int .i64 s.Room], .int .i64 r]) rfl rfl cl70 rfl (at_c s r _ (by omega) (by omega) (by omega)) fun v w39 hS => ?_
        obtain ⟨rfl, hB⟩ := hS
        refine ⟨.inr (Below.agr hB), ?_⟩
        have H := H.keep hB
        refine c_l2 rfl rfl ?_ ?_
        · skip
          refine o_call (fv := []) (cap := []) (vs := [.agg #[.int .i64 s.Wide, .int .i64 s.High, .int .i64 s.Room], .int .i64 q]) rfl rfl cl70 rfl (at_c s q _ (by omega) (by omega) (by omega)) fun v w40 hS => ?_
          obtain ⟨rfl, hB⟩ := hS
          refine ⟨.inr (Below.agr hB), ?_⟩
          have H := H.keep hB
          refine c_l rfl (o_alloc rfl tz168 H fun b_1_7 w41 hA H => ⟨.inr (Below.agr hA), ?_⟩)
          refine c_l rfl (o_store (vs := [.int .i64 (r % s.Wide), .int .i64 (r / s.Wide)]) rfl ts168 rfl rfl rfl rfl 1 rfl rfl rfl rfl H fun w42 hA H => ⟨.inl (by kernel_rfl), ?_⟩)
          refine c_l rfl (o_store (vs := [.int .i64 (q % s.Wide), .int .i64 (q / s.Wide)]) rfl ts168 rfl rfl rfl rfl 1 rfl rfl rfl rfl H fun w43 hA H => ⟨.inl (by kernel_rfl), ?_⟩)
          refine c_done ?_
          exact ⟨b_1_7, b_1_6, rfl, rfl, rfl, rfl, H⟩
        · skip
          refine o_alloc rfl tz168 H fun b_1_7 w44 hA H => ⟨.inr (Below.agr hA), ?_⟩
          refine c_l rfl (o_call (fv := []) (cap := []) (vs := [.agg #[.int .i64 s.Wide, .int .i64 s.High, .int .i64 s.Room], .int .i64 q]) rfl rfl cl70 rfl (at_c s q _ (by omega) (by omega) (by omega)) fun v w45 hS => ?_)
          obtain ⟨rfl, hB⟩ := hS
          refine ⟨.inr (Below.agr hB), ?_⟩
          have H := H.keep hB
          refine c_l rfl (o_store (vs := [.int .i64 (r % s.Wide), .int .i64 (r / s.Wide)]) rfl ts168 rfl rfl rfl rfl 1 rfl rfl rfl rfl H fun w46 hA H => ⟨.inl (by kernel_rfl), ?_⟩)
          refine c_l rfl (o_store (vs := [.int .i64 (q % s.Wide), .int .i64 (q / s.Wide)]) rfl ts168 rfl rfl rfl rfl 1 rfl rfl rfl rfl H fun w47 hA H => ⟨.inl (by kernel_rfl), ?_⟩)
          refine c_done ?_
          exact ⟨b_1_7, b_1_6, rfl, rfl, rfl, rfl, H⟩
      · skip
        refine o_alloc rfl tz168 H fun b_1_7 w48 hA H => ⟨.inr (Below.agr hA), ?_⟩
        refine c_l rfl (o_call (fv := []) (cap := []) (vs := [.agg #[.int .i64 s.Wide, .int .i64 s.High, .int .i64 s.Room], .int .i64 r]) rfl rfl cl70 rfl (at_c s r _ (by omega) (by omega) (by omega)) fun v w49 hS => ?_)
        obtain ⟨rfl, hB⟩ := hS
        refine ⟨.inr (Below.agr hB), ?_⟩
        have H := H.keep hB
        refine c_l rfl (o_call (fv := []) (cap := []) (vs := [.agg #[.int .i64 s.Wide, .int .i64 s.High, .int .i64 s.Room], .int .i64 q]) rfl rfl cl70 rfl (at_c s q _ (by omega) (by omega) (by omega)) fun v w50 hS => ?_)
        obtain ⟨rfl, hB⟩ := hS
        refine ⟨.inr (Below.agr hB), ?_⟩
        have H := H.keep hB
        refine c_l rfl (o_store (vs := [.int .i64 (r % s.Wide), .int .i64 (r / s.Wide)]) rfl ts168 rfl rfl rfl rfl 1 rfl rfl rfl rfl H fun w51 hA H => ⟨.inl (by kernel_rfl), ?_⟩)
        refine c_l rfl (o_store (vs := [.int .i64 (q % s.Wide), .int .i64 (q / s.Wide)]) rfl ts168 rfl rfl rfl rfl 1 rfl rfl rfl rfl H fun w52 hA H => ⟨.inl (by kernel_rfl), ?_⟩)
        refine c_done ?_
        exact ⟨b_1_7, b_1_6, rfl, rfl, rfl, rfl, H⟩
    · skip
      refine o_alloc rfl tz168 H fun b_1_7 w53 hA H => ⟨.inr (Below.agr hA), ?_⟩
      refine c_l2 rfl rfl ?_ ?_
      · skip
        refine o_call (fv := []) (cap := []) (vs := [.agg #[.int .i64 s.Wide, .int .i64 s.High, .int .i64 s.Room], .int .i64 r]) rfl rfl cl70 rfl (at_c s r _ (by omega) (by omega) (by omega)) fun v w54 hS => ?_
        obtain ⟨rfl, hB⟩ := hS
        refine ⟨.inr (Below.agr hB), ?_⟩
        have H := H.keep hB
        refine c_l2 rfl rfl ?_ ?_
        · skip
          refine o_call (fv := []) (cap := []) (vs := [.agg #[.int .i64 s.Wide, .int .i64 s.High, .int .i64 s.Room], .int .i64 q]) rfl rfl cl70 rfl (at_c s q _ (by omega) (by omega) (by omega)) fun v w55 hS => ?_
          obtain ⟨rfl, hB⟩ := hS
          refine ⟨.inr (Below.agr hB), ?_⟩
          have H := H.keep hB
          refine c_l rfl (o_alloc rfl tz168 H fun b_1_6 w56 hA H => ⟨.inr (Below.agr hA), ?_⟩)
          refine c_l rfl (o_store (vs := [.int .i64 (r % s.Wide), .int .i64 (r / s.Wide)]) rfl ts168 rfl rfl rfl rfl 0 rfl rfl rfl rfl H fun w57 hA H => ⟨.inl (by kernel_rfl), ?_⟩)
          refine c_l rfl (o_store (vs := [.int .i64 (q % s.Wide), .int .i64 (q / s.Wide)]) rfl ts168 rfl rfl rfl rfl 1 rfl rfl rfl rfl H fun w58 hA H => ⟨.inl (by kernel_rfl), ?_⟩)
          refine c_done ?_
          exact ⟨b_1_7, b_1_6, rfl, rfl, rfl, rfl, H⟩
        · skip
          refine o_alloc rfl tz168 H fun b_1_6 w59 hA H => ⟨.inr (Below.agr hA), ?_⟩
          refine c_l rfl (o_call (fv := []) (cap := []) (vs := [.agg #[.int .i64 s.Wide, .int .i64 s.High, .int .i64 s.Room], .int .i64 q]) rfl rfl cl70 rfl (at_c s q _ (by omega) (by omega) (by omega)) fun v w60 hS => ?_)
          obtain ⟨rfl, hB⟩ := hS
          refine ⟨.inr (Below.agr hB), ?_⟩
          have H := H.keep hB
          refine c_l rfl (o_store (vs := [.int .i64 (r % s.Wide), .int .i64 (r / s.Wide)]) rfl ts168 rfl rfl rfl rfl 0 rfl rfl rfl rfl H fun w61 hA H => ⟨.inl (by kernel_rfl), ?_⟩)
          refine c_l rfl (o_store (vs := [.int .i64 (q % s.Wide), .int .i64 (q / s.Wide)]) rfl ts168 rfl rfl rfl rfl 1 rfl rfl rfl rfl H fun w62 hA H => ⟨.inl (by kernel_rfl), ?_⟩)
          refine c_done ?_
          exact ⟨b_1_7, b_1_6, rfl, rfl, rfl, rfl, H⟩
      · skip
        refine o_alloc rfl tz168 H fun b_1_6 w63 hA H => ⟨.inr (Below.agr hA), ?_⟩
        refine c_l rfl (o_call (fv := []) (cap := []) (vs := [.agg #[.int .i64 s.Wide, .int .i64 s.High, .int .i64 s.Room], .int .i64 r]) rfl rfl cl70 rfl (at_c s r _ (by omega) (by omega) (by omega)) fun v w64 hS => ?_)
        obtain ⟨rfl, hB⟩ := hS
        refine ⟨.inr (Below.agr hB), ?_⟩
        have H := H.keep hB
        refine c_l rfl (o_call (fv := []) (cap := []) (vs := [.agg #[.int .i64 s.Wide, .int .i64 s.High, .int .i64 s.Room], .int .i64 q]) rfl rfl cl70 rfl (at_c s q _ (by omega) (by omega) (by omega)) fun v w65 hS => ?_)
        obtain ⟨rfl, hB⟩ := hS
        refine ⟨.inr (Below.agr hB), ?_⟩
        have H := H.keep hB
        refine c_l rfl (o_store (vs := [.int .i64 (r % s.Wide), .int .i64 (r / s.Wide)]) rfl ts168 rfl rfl rfl rfl 0 rfl rfl rfl rfl H fun w66 hA H => ⟨.inl (by kernel_rfl), ?_⟩)
        refine c_l rfl (o_store (vs := [.int .i64 (q % s.Wide), .int .i64 (q / s.Wide)]) rfl ts168 rfl rfl rfl rfl 1 rfl rfl rfl rfl H fun w67 hA H => ⟨.inl (by kernel_rfl), ?_⟩)
        refine c_done ?_
        exact ⟨b_1_7, b_1_6, rfl, rfl, rfl, rfl, H⟩
  obtain ⟨b_1_7, b_1_6, hI⟩ := hI
  obtain ⟨s6, s7, s8, s1000000, H⟩ := hI
  refine V_seq rfl ?_
  refine V_block rfl ?_
  refine V_seq rfl ?_
  refine V_region rfl ?_
  refine Rg_op rfl (o_val (v := .pointer (some ⟨b_1_6, 0, none⟩)) (d := 16) rfl rfl (ex_fieldAddr fo168_0 s7 rfl) ?_)
  refine Rg_op rfl (o_val (v := .int .i64 (r % s.Wide)) (d := 17) rfl rfl (ex_load ca3 rfl (cell_of (H.rd 1 rfl))) ?_)
  refine Rg_op rfl (o_val (v := .pointer (some ⟨b_1_7, 0, none⟩)) (d := 18) rfl rfl (ex_fieldAddr fo168_0 s8 rfl) ?_)
  refine Rg_op rfl (o_val (v := .int .i64 (q % s.Wide)) (d := 19) rfl rfl (ex_load ca3 rfl (cell_of (H.rd 0 rfl))) ?_)
  refine Rg_op rfl (o_val (v := .bool (decide ((r % s.Wide) < (q % s.Wide)))) (d := 20) rfl rfl (ex_lss rfl rfl) ?_)
  refine Rg_op rfl (o_val (v := .bool (decide ((r % s.Wide) < (q % s.Wide)))) (d := 15) rfl rfl (ex_assign rfl) ?_)
  refine Rg_end ?_
  refine V_cond (b := (decide ((r % s.Wide) < (q % s.Wide)))) rfl rfl (fun hb68 => ?_) (fun hb68 => ?_)
  · have hb68 : (r % s.Wide) < (q % s.Wide) := of_decide_eq_true hb68
    refine V_seq rfl ?_
    refine V_region rfl ?_
    refine Rg_op rfl (o_val (v := .int .i64 1) (d := 6) rfl rfl (ex_assign rfl) ?_)
    refine Rg_end ?_
    refine V_ret rfl (end0 (v := .int .i64 1) s1000000 (res_tmp Try.results71 rfl) ?_)
    exact ⟨by simp only [turn]; (repeat' split) <;> first | contradiction | rfl | (simp_all; done) | skip, H.below⟩
  · have hb68 : ¬ ((r % s.Wide) < (q % s.Wide)) := of_decide_eq_false hb68
    refine V_seq rfl ?_
    refine V_region rfl ?_
    refine Rg_op rfl (o_val (v := .pointer (some ⟨b_1_6, 0, none⟩)) (d := 22) rfl rfl (ex_fieldAddr fo168_0 s7 rfl) ?_)
    refine Rg_op rfl (o_val (v := .int .i64 (r % s.Wide)) (d := 23) rfl rfl (ex_load ca3 rfl (cell_of (H.rd 1 rfl))) ?_)
    refine Rg_op rfl (o_val (v := .pointer (some ⟨b_1_7, 0, none⟩)) (d := 24) rfl rfl (ex_fieldAddr fo168_0 s8 rfl) ?_)
    refine Rg_op rfl (o_val (v := .int .i64 (q % s.Wide)) (d := 25) rfl rfl (ex_load ca3 rfl (cell_of (H.rd 0 rfl))) ?_)
    refine Rg_op rfl (o_val (v := .bool (decide ((q % s.Wide) < (r % s.Wide)))) (d := 26) rfl rfl (ex_gtr rfl rfl) ?_)
    refine Rg_op rfl (o_val (v := .bool (decide ((q % s.Wide) < (r % s.Wide)))) (d := 21) rfl rfl (ex_assign rfl) ?_)
    refine Rg_end ?_
    refine V_cond (b := (decide ((q % s.Wide) < (r % s.Wide)))) rfl rfl (fun hb69 => ?_) (fun hb69 => ?_)
    · have hb69 : (q % s.Wide) < (r % s.Wide) := of_decide_eq_true hb69
      refine V_seq rfl ?_
      refine V_region rfl ?_
      refine Rg_op rfl (o_val (v := .int .i64 4) (d := 6) rfl rfl (ex_assign rfl) ?_)
      refine Rg_end ?_
      refine V_ret rfl (end0 (v := .int .i64 4) s1000000 (res_tmp Try.results71 rfl) ?_)
      exact ⟨by simp only [turn]; (repeat' split) <;> first | contradiction | rfl | (simp_all; done) | skip, H.below⟩
    · have hb69 : ¬ ((q % s.Wide) < (r % s.Wide)) := of_decide_eq_false hb69
      refine V_seq rfl ?_
      refine V_region rfl ?_
      refine Rg_op rfl (o_val (v := .pointer (some ⟨b_1_6, 1, none⟩)) (d := 28) rfl rfl (ex_fieldAddr fo168_1 s7 rfl) ?_)
      refine Rg_op rfl (o_val (v := .int .i64 (r / s.Wide)) (d := 29) rfl rfl (ex_load ca3 rfl (cell_of (H.rd 1 rfl))) ?_)
      refine Rg_op rfl (o_val (v := .pointer (some ⟨b_1_7, 1, none⟩)) (d := 30) rfl rfl (ex_fieldAddr fo168_1 s8 rfl) ?_)
      refine Rg_op rfl (o_val (v := .int .i64 (q / s.Wide)) (d := 31) rfl rfl (ex_load ca3 rfl (cell_of (H.rd 0 rfl))) ?_)
      refine Rg_op rfl (o_val (v := .bool (decide ((r / s.Wide) < (q / s.Wide)))) (d := 32) rfl rfl (ex_lss rfl rfl) ?_)
      refine Rg_op rfl (o_val (v := .bool (decide ((r / s.Wide) < (q / s.Wide)))) (d := 27) rfl rfl (ex_assign rfl) ?_)
      refine Rg_end ?_
      refine V_cond (b := (decide ((r / s.Wide) < (q / s.Wide)))) rfl rfl (fun hb70 => ?_) (fun hb70 => ?_)
      · have hb70 : (r / s.Wide) < (q / s.Wide) := of_decide_eq_true hb70
        refine V_seq rfl ?_
        refine V_region rfl ?_
        refine Rg_op rfl (o_val (v := .int .i64 2) (d := 6) rfl rfl (ex_assign rfl) ?_)
        refine Rg_end ?_
        refine V_ret rfl (end0 (v := .int .i64 2) s1000000 (res_tmp Try.results71 rfl) ?_)
        exact ⟨by simp only [turn]; (repeat' split) <;> first | contradiction | rfl | (simp_all; done) | skip, H.below⟩
      · have hb70 : ¬ ((r / s.Wide) < (q / s.Wide)) := of_decide_eq_false hb70
        refine V_seq rfl ?_
        refine V_region rfl ?_
        refine Rg_op rfl (o_val (v := .pointer (some ⟨b_1_6, 1, none⟩)) (d := 34) rfl rfl (ex_fieldAddr fo168_1 s7 rfl) ?_)
        refine Rg_op rfl (o_val (v := .int .i64 (r / s.Wide)) (d := 35) rfl rfl (ex_load ca3 rfl (cell_of (H.rd 1 rfl))) ?_)
        refine Rg_op rfl (o_val (v := .pointer (some ⟨b_1_7, 1, none⟩)) (d := 36) rfl rfl (ex_fieldAddr fo168_1 s8 rfl) ?_)
        refine Rg_op rfl (o_val (v := .int .i64 (q / s.Wide)) (d := 37) rfl rfl (ex_load ca3 rfl (cell_of (H.rd 0 rfl))) ?_)
        refine Rg_op rfl (o_val (v := .bool (decide ((q / s.Wide) < (r / s.Wide)))) (d := 38) rfl rfl (ex_gtr rfl rfl) ?_)
        refine Rg_op rfl (o_val (v := .bool (decide ((q / s.Wide) < (r / s.Wide)))) (d := 33) rfl rfl (ex_assign rfl) ?_)
        refine Rg_end ?_
        refine V_cond (b := (decide ((q / s.Wide) < (r / s.Wide)))) rfl rfl (fun hb71 => ?_) (fun hb71 => ?_)
        · have hb71 : (q / s.Wide) < (r / s.Wide) := of_decide_eq_true hb71
          refine V_seq rfl ?_
          refine V_region rfl ?_
          refine Rg_op rfl (o_val (v := .int .i64 8) (d := 6) rfl rfl (ex_assign rfl) ?_)
          refine Rg_end ?_
          refine V_ret rfl (end0 (v := .int .i64 8) s1000000 (res_tmp Try.results71 rfl) ?_)
          exact ⟨by simp only [turn]; (repeat' split) <;> first | contradiction | rfl | (simp_all; done) | skip, H.below⟩
        · have hb71 : ¬ ((q / s.Wide) < (r / s.Wide)) := of_decide_eq_false hb71
          refine V_skip rfl ?_
          refine V_seq rfl ?_
          refine V_region rfl ?_
          refine Rg_op rfl (o_val (v := .int .i64 16) (d := 6) rfl rfl (ex_assign rfl) ?_)
          refine Rg_end ?_
          refine V_ret rfl (end0 (v := .int .i64 16) s1000000 (res_tmp Try.results71 rfl) ?_)
          exact ⟨by simp only [turn]; (repeat' split) <;> first | contradiction | rfl | (simp_all; done) | skip, H.below⟩

theorem distance_c (s : Spec) (a b : Int) (w0 : World) :
    Calls Try.prog 30 #[.agg #[.int .i64 s.Wide, .int .i64 s.High, .int .i64 s.Room], .int .i64 a, .int .i64 b] w0 fun e w' => ∃ v, e = .returned v ∧ (v = .tuple #[.int .i64 (if known s [a, b] ≠ 0 then 0 else dist s a b), .int .i64 (known s [a, b])] ∧ Below w0.heap.size w0 w') := by
  refine calls_of (n := 48) (l := [.agg #[.int .i64 s.Wide, .int .i64 s.High, .int .i64 s.Room], .int .i64 a, .int .i64 b]) Try.func30 rfl rfl rfl ?_
  have H := Hp.start w0
  refine V_seq rfl ?_
  refine V_region rfl ?_
  refine Rg_op rfl (o_box (v := .agg #[.int .i64 s.Wide, .int .i64 s.High, .int .i64 s.Room]) rfl rfl H fun b1 w2 hA H => ?_)
  refine Rg_op rfl (o_val (v := .int .i64 0) (d := 6) rfl rfl (ex_assign rfl) ?_)
  refine Rg_op rfl (o_val (v := .int .i64 0) (d := 7) rfl rfl (ex_assign rfl) ?_)
  refine Rg_end ?_
  refine V_seq rfl ?_
  refine V_seq rfl ?_
  refine V_region rfl ?_
  refine Rg_op rfl (o_val (v := .agg #[.int .i64 s.Wide, .int .i64 s.High, .int .i64 s.Room]) (d := 11) rfl rfl (ex_loadN (vs := [.int .i64 s.Wide, .int .i64 s.High, .int .i64 s.Room]) ca33 rfl rfl (blk_cells (H.rd 0 rfl) rfl)) ?_)
  refine Rg_op rfl (o_val (v := .int .i64 a) (d := 12) rfl rfl (ex_move rfl) ?_)
  refine Rg_op rfl (o_val (v := .int .i64 b) (d := 13) rfl rfl (ex_move rfl) ?_)
  refine Rg_op rfl (o_lit (cs := [.int .i64 a, .int .i64 b]) (e := 3) rfl (fun W => by kernel_rfl) H fun b3 w4 hA H => ?_)
  refine Rg_op rfl (o_call (fv := []) (cap := []) (vs := [.agg #[.int .i64 s.Wide, .int .i64 s.High, .int .i64 s.Room], .slice (some ⟨b3, 0, none⟩) 2 2]) rfl rfl cl68 rfl (known_c s _ _ ([a, b]) _ (row_litF (zs := [a, b]) (H.rd 0 rfl) rfl) (by first | omega | (simp only [List.length_append, List.length_cons, List.length_nil]; omega))) fun v w5 hS => ?_)
  obtain ⟨rfl, hB⟩ := hS
  have H := H.keep hB
  refine Rg_op rfl (o_val (v := .int .i64 (known s ([a, b]))) (d := 8) rfl rfl (ex_assign rfl) ?_)
  refine Rg_end ?_
  refine V_seq rfl ?_
  refine V_region rfl ?_
  refine Rg_op rfl (o_val (v := .int .i64 (known s ([a, b]))) (d := 16) rfl rfl (ex_move rfl) ?_)
  refine Rg_op rfl (o_val (v := .bool (decide ((known s ([a, b])) ≠ 0))) (d := 17) rfl rfl (ex_neq rfl rfl) ?_)
  refine Rg_end ?_
  refine V_cond (b := (decide ((known s ([a, b])) ≠ 0))) rfl rfl (fun hb6 => ?_) (fun hb6 => ?_)
  · have hb6 : (known s ([a, b])) ≠ 0 := of_decide_eq_true hb6
    refine V_seq rfl ?_
    refine V_region rfl ?_
    refine Rg_op rfl (o_val (v := .int .i64 (known s ([a, b]))) (d := 18) rfl rfl (ex_move rfl) ?_)
    refine Rg_op rfl (o_val (v := .int .i64 0) (d := 6) rfl rfl (ex_assign rfl) ?_)
    refine Rg_op rfl (o_val (v := .int .i64 (known s ([a, b]))) (d := 7) rfl rfl (ex_assign rfl) ?_)
    refine Rg_end ?_
    refine V_ret rfl (end0 (v := .tuple #[.int .i64 0, .int .i64 (known s ([a, b]))]) rfl (res_tmp2 Try.results30 rfl rfl) ?_)
    exact ⟨by rw [if_pos (by assumption)], H.below⟩
  · have hb6 : ¬ ((known s ([a, b])) ≠ 0) := of_decide_eq_false hb6
    obtain ⟨hs, h0a, h1a, h0b, h1b⟩ := known2 (by omega : known s [a, b] = 0)
    obtain ⟨hs1, hs2, hs3, hs4, hs5, hs6⟩ := chk_ok hs
    obtain ⟨hm1, hm2⟩ := mul64 hs
    obtain ⟨haa, hba, hca, hda⟩ := cellb hs h0a h1a
    obtain ⟨hab, hbb, hcb, hdb⟩ := cellb hs h0b h1b
    refine V_skip rfl ?_
    refine V_seq rfl ?_
    refine V_join (fun σ w => ∃ (b_4_7 : Nat) (b_4_6 : Nat), σ 6 = .int .i64 0 ∧ σ 7 = .int .i64 0 ∧ σ 9 = .pointer (some ⟨b_4_6, 0, none⟩) ∧ σ 10 = .pointer (some ⟨b_4_7, 0, none⟩) ∧ σ 1000000 = undef ∧ Hp w0.heap.size w0 w [SA.cel b_4_7 #[.int .i64 (b % s.Wide), .int .i64 (b / s.Wide)] 168, SA.cel b_4_6 #[.int .i64 (a % s.Wide), .int .i64 (a / s.Wide)] 168, SA.cel b3 #[.int .i64 a, .int .i64 b] 3, SA.cel b1 #[.int .i64 s.Wide, .int .i64 s.High, .int .i64 s.Room] 33]) ?_ (fun σ w hI => ?_)
    · skip
      refine V_draw [1, 4] (.q 0 (.p 1 (.q 3 (.p 4 (.l3 2 6 7 (.l3 5 6 7 (.l2 6 7 (.l 7 (.l 8 (.l 9 .done))) (.l 6 (.l 8 (.l 9 .done)))) (.l2 5 7 (.l 7 (.l 8 (.l 9 .done))) (.l 5 (.l 8 (.l 9 .done)))) (.l2 5 6 (.l 6 (.l 8 (.l 9 .done))) (.l 5 (.l 8 (.l 9 .done))))) (.l2 2 7 (.l2 5 7 (.l 7 (.l 8 (.l 9 .done))) (.l 5 (.l 8 (.l 9 .done)))) (.l 2 (.l 5 (.l 8 (.l 9 .done))))) (.l2 2 6 (.l2 5 6 (.l 6 (.l 8 (.l 9 .done))) (.l 5 (.l 8 (.l 9 .done)))) (.l 2 (.l 5 (.l 8 (.l 9 .done)))))))))) (fun _ => False) rfl mixed (by kernel_rfl) fun w13 hD => ?_
      have H := H.drew hD
      refine c_q (v := .agg #[.int .i64 s.Wide, .int .i64 s.High, .int .i64 s.Room]) (d := 19) rfl rfl rfl (fun w' hG => ex_loadN (vs := [.int .i64 s.Wide, .int .i64 s.High, .int .i64 s.Room]) ca33 rfl rfl (fun j u hj => hG.cell (blk_cells (vs := [.int .i64 s.Wide, .int .i64 s.High, .int .i64 s.Room]) (H.rd 1 rfl) rfl j u hj) id)) ?_
      refine c_p (v := .int .i64 a) (d := 20) rfl rfl rfl (fun w' => ex_move rfl) ?_
      refine c_q (v := .agg #[.int .i64 s.Wide, .int .i64 s.High, .int .i64 s.Room]) (d := 22) rfl rfl rfl (fun w' hG => ex_loadN (vs := [.int .i64 s.Wide, .int .i64 s.High, .int .i64 s.Room]) ca33 rfl rfl (fun j u hj => hG.cell (blk_cells (vs := [.int .i64 s.Wide, .int .i64 s.High, .int .i64 s.Room]) (H.rd 1 rfl) rfl j u hj) id)) ?_
      refine c_p (v := .int .i64 b) (d := 23) rfl rfl rfl (fun w' => ex_move rfl) ?_
      refine c_l3 rfl rfl rfl ?_ ?_ ?_
      · skip
        refine o_call (fv := []) (cap := []) (vs := [.agg #[.int .i64 s.Wide, .int .i64 s.High, .int .i64 s.Room], .int .i64 a]) rfl rfl cl70 rfl (at_c s a _ (by omega) (by omega) (by omega)) fun v w14 hS => ?_
        obtain ⟨rfl, hB⟩ := hS
        refine ⟨.inr (Below.agr hB), ?_⟩
        have H := H.keep hB
        refine c_l3 rfl rfl rfl ?_ ?_ ?_
        · skip
          refine o_call (fv := []) (cap := []) (vs := [.agg #[.int .i64 s.Wide, .int .i64 s.High, .int .i64 s.Room], .int .i64 b]) rfl rfl cl70 rfl (at_c s b _ (by omega) (by omega) (by omega)) fun v w15 hS => ?_
          obtain ⟨rfl, hB⟩ := hS
          refine ⟨.inr (Below.agr hB), ?_⟩
          have H := H.keep hB
          refine c_l2 rfl rfl ?_ ?_
          · skip
            refine o_alloc rfl tz168 H fun b_4_6 w16 hA H => ⟨.inr (Below.agr hA), ?_⟩
            refine c_l rfl (o_alloc rfl tz168 H fun b_4_7 w17 hA H => ⟨.inr (Below.agr hA), ?_⟩)
            refine c_l rfl (o_store (vs := [.int .i64 (a % s.Wide), .int .i64 (a / s.Wide)]) rfl ts168 rfl rfl rfl rfl 1 rfl rfl rfl rfl H fun w18 hA H => ⟨.inl (by kernel_rfl), ?_⟩)
            refine c_l rfl (o_store (vs := [.int .i64 (b % s.Wide), .int .i64 (b / s.Wide)]) rfl ts168 rfl rfl rfl rfl 1 rfl rfl rfl rfl H fun w19 hA H => ⟨.inl (by kernel_rfl), ?_⟩)
            refine c_done ?_
            exact ⟨b_4_7, b_4_6, rfl, rfl, rfl, rfl, rfl, H⟩
          · skip
            refine o_alloc rfl tz168 H fun b_4_7 w20 hA H => ⟨.inr (Below.agr hA), ?_⟩
            refine c_l rfl (o_alloc rfl tz168 H fun b_4_6 w21 hA H => ⟨.inr (Below.agr hA), ?_⟩)
            refine c_l rfl (o_store (vs := [.int .i64 (a % s.Wide), .int .i64 (a / s.Wide)]) rfl ts168 rfl rfl rfl rfl 0 rfl rfl rfl rfl H fun w22 hA H => ⟨.inl (by kernel_rfl), ?_⟩)
            refine c_l rfl (o_store (vs := [.int .i64 (b % s.Wide), .int .i64 (b / s.Wide)]) rfl ts168 rfl rfl rfl rfl 1 rfl rfl rfl rfl H fun w23 hA H => ⟨.inl (by kernel_rfl), ?_⟩)
            refine c_done ?_
            exact ⟨b_4_7, b_4_6, rfl, rfl, rfl, rfl, rfl, H⟩
        · skip
          refine o_alloc rfl tz168 H fun b_4_6 w24 hA H => ⟨.inr (Below.agr hA), ?_⟩
          refine c_l2 rfl rfl ?_ ?_
          · skip
            refine o_call (fv := []) (cap := []) (vs := [.agg #[.int .i64 s.Wide, .int .i64 s.High, .int .i64 s.Room], .int .i64 b]) rfl rfl cl70 rfl (at_c s b _ (by omega) (by omega) (by omega)) fun v w25 hS => ?_
            obtain ⟨rfl, hB⟩ := hS
            refine ⟨.inr (Below.agr hB), ?_⟩
            have H := H.keep hB
            refine c_l rfl (o_alloc rfl tz168 H fun b_4_7 w26 hA H => ⟨.inr (Below.agr hA), ?_⟩)
            refine c_l rfl (o_store (vs := [.int .i64 (a % s.Wide), .int .i64 (a / s.Wide)]) rfl ts168 rfl rfl rfl rfl 1 rfl rfl rfl rfl H fun w27 hA H => ⟨.inl (by kernel_rfl), ?_⟩)
            refine c_l rfl (o_store (vs := [.int .i64 (b % s.Wide), .int .i64 (b / s.Wide)]) rfl ts168 rfl rfl rfl rfl 1 rfl rfl rfl rfl H fun w28 hA H => ⟨.inl (by kernel_rfl), ?_⟩)
            refine c_done ?_
            exact ⟨b_4_7, b_4_6, rfl, rfl, rfl, rfl, rfl, H⟩
          · skip
            refine o_alloc rfl tz168 H fun b_4_7 w29 hA H => ⟨.inr (Below.agr hA), ?_⟩
            refine c_l rfl (o_call (fv := []) (cap := []) (vs := [.agg #[.int .i64 s.Wide, .int .i64 s.High, .int .i64 s.Room], .int .i64 b]) rfl rfl cl70 rfl (at_c s b _ (by omega) (by omega) (by omega)) fun v w30 hS => ?_)
            obtain ⟨rfl, hB⟩ := hS
            refine ⟨.inr (Below.agr hB), ?_⟩
            have H := H.keep hB
            refine c_l rfl (o_store (vs := [.int .i64 (a % s.Wide), .int .i64 (a / s.Wide)]) rfl ts168 rfl rfl rfl rfl 1 rfl rfl rfl rfl H fun w31 hA H => ⟨.inl (by kernel_rfl), ?_⟩)
            refine c_l rfl (o_store (vs := [.int .i64 (b % s.Wide), .int .i64 (b / s.Wide)]) rfl ts168 rfl rfl rfl rfl 1 rfl rfl rfl rfl H fun w32 hA H => ⟨.inl (by kernel_rfl), ?_⟩)
            refine c_done ?_
            exact ⟨b_4_7, b_4_6, rfl, rfl, rfl, rfl, rfl, H⟩
        · skip
          refine o_alloc rfl tz168 H fun b_4_7 w33 hA H => ⟨.inr (Below.agr hA), ?_⟩
          refine c_l2 rfl rfl ?_ ?_
          · skip
            refine o_call (fv := []) (cap := []) (vs := [.agg #[.int .i64 s.Wide, .int .i64 s.High, .int .i64 s.Room], .int .i64 b]) rfl rfl cl70 rfl (at_c s b _ (by omega) (by omega) (by omega)) fun v w34 hS => ?_
            obtain ⟨rfl, hB⟩ := hS
            refine ⟨.inr (Below.agr hB), ?_⟩
            have H := H.keep hB
            refine c_l rfl (o_alloc rfl tz168 H fun b_4_6 w35 hA H => ⟨.inr (Below.agr hA), ?_⟩)
            refine c_l rfl (o_store (vs := [.int .i64 (a % s.Wide), .int .i64 (a / s.Wide)]) rfl ts168 rfl rfl rfl rfl 0 rfl rfl rfl rfl H fun w36 hA H => ⟨.inl (by kernel_rfl), ?_⟩)
            refine c_l rfl (o_store (vs := [.int .i64 (b % s.Wide), .int .i64 (b / s.Wide)]) rfl ts168 rfl rfl rfl rfl 1 rfl rfl rfl rfl H fun w37 hA H => ⟨.inl (by kernel_rfl), ?_⟩)
            refine c_done ?_
            exact ⟨b_4_7, b_4_6, rfl, rfl, rfl, rfl, rfl, H⟩
          · skip
            refine o_alloc rfl tz168 H fun b_4_6 w38 hA H => ⟨.inr (Below.agr hA), ?_⟩
            refine c_l rfl (o_call (fv := []) (cap := []) (vs := [.agg #[.int .i64 s.Wide, .int .i64 s.High, .int .i64 s.Room], .int .i64 b]) rfl rfl cl70 rfl (at_c s b _ (by omega) (by omega) (by omega)) fun v w39 hS => ?_)
            obtain ⟨rfl, hB⟩ := hS
            refine ⟨.inr (Below.agr hB), ?_⟩
            have H := H.keep hB
            refine c_l rfl (o_store (vs := [.int .i64 (a % s.Wide), .int .i64 (a / s.Wide)]) rfl ts168 rfl rfl rfl rfl 0 rfl rfl rfl rfl H fun w40 hA H => ⟨.inl (by kernel_rfl), ?_⟩)
            refine c_l rfl (o_store (vs := [.int .i64 (b % s.Wide), .int .i64 (b / s.Wide)]) rfl ts168 rfl rfl rfl rfl 1 rfl rfl rfl rfl H fun w41 hA H => ⟨.inl (by kernel_rfl), ?_⟩)
            refine c_done ?_
            exact ⟨b_4_7, b_4_6, rfl, rfl, rfl, rfl, rfl, H⟩
      · skip
        refine o_alloc rfl tz168 H fun b_4_6 w42 hA H => ⟨.inr (Below.agr hA), ?_⟩
        refine c_l2 rfl rfl ?_ ?_
        · skip
          refine o_call (fv := []) (cap := []) (vs := [.agg #[.int .i64 s.Wide, .int .i64 s.High, .int .i64 s.Room], .int .i64 a]) rfl rfl cl70 rfl (at_c s a _ (by omega) (by omega) (by omega)) fun v w43 hS => ?_
          obtain ⟨rfl, hB⟩ := hS
          refine ⟨.inr (Below.agr hB), ?_⟩
          have H := H.keep hB
          refine c_l2 rfl rfl ?_ ?_
          · skip
            refine o_call (fv := []) (cap := []) (vs := [.agg #[.int .i64 s.Wide, .int .i64 s.High, .int .i64 s.Room], .int .i64 b]) rfl rfl cl70 rfl (at_c s b _ (by omega) (by omega) (by omega)) fun v w44 hS => ?_
            obtain ⟨rfl, hB⟩ := hS
            refine ⟨.inr (Below.agr hB), ?_⟩
            have H := H.keep hB
            refine c_l rfl (o_alloc rfl tz168 H fun b_4_7 w45 hA H => ⟨.inr (Below.agr hA), ?_⟩)
            refine c_l rfl (o_store (vs := [.int .i64 (a % s.Wide), .int .i64 (a / s.Wide)]) rfl ts168 rfl rfl rfl rfl 1 rfl rfl rfl rfl H fun w46 hA H => ⟨.inl (by kernel_rfl), ?_⟩)
            refine c_l rfl (o_store (vs := [.int .i64 (b % s.Wide), .int .i64 (b / s.Wide)]) rfl ts168 rfl rfl rfl rfl 1 rfl rfl rfl rfl H fun w47 hA H => ⟨.inl (by kernel_rfl), ?_⟩)
            refine c_done ?_
            exact ⟨b_4_7, b_4_6, rfl, rfl, rfl, rfl, rfl, H⟩
          · skip
            refine o_alloc rfl tz168 H fun b_4_7 w48 hA H => ⟨.inr (Below.agr hA), ?_⟩
            refine c_l rfl (o_call (fv := []) (cap := []) (vs := [.agg #[.int .i64 s.Wide, .int .i64 s.High, .int .i64 s.Room], .int .i64 b]) rfl rfl cl70 rfl (at_c s b _ (by omega) (by omega) (by omega)) fun v w49 hS => ?_)
            obtain ⟨rfl, hB⟩ := hS
            refine ⟨.inr (Below.agr hB), ?_⟩
            have H := H.keep hB
            refine c_l rfl (o_store (vs := [.int .i64 (a % s.Wide), .int .i64 (a / s.Wide)]) rfl ts168 rfl rfl rfl rfl 1 rfl rfl rfl rfl H fun w50 hA H => ⟨.inl (by kernel_rfl), ?_⟩)
            refine c_l rfl (o_store (vs := [.int .i64 (b % s.Wide), .int .i64 (b / s.Wide)]) rfl ts168 rfl rfl rfl rfl 1 rfl rfl rfl rfl H fun w51 hA H => ⟨.inl (by kernel_rfl), ?_⟩)
            refine c_done ?_
            exact ⟨b_4_7, b_4_6, rfl, rfl, rfl, rfl, rfl, H⟩
        · skip
          refine o_alloc rfl tz168 H fun b_4_7 w52 hA H => ⟨.inr (Below.agr hA), ?_⟩
          refine c_l rfl (o_call (fv := []) (cap := []) (vs := [.agg #[.int .i64 s.Wide, .int .i64 s.High, .int .i64 s.Room], .int .i64 a]) rfl rfl cl70 rfl (at_c s a _ (by omega) (by omega) (by omega)) fun v w53 hS => ?_)
          obtain ⟨rfl, hB⟩ := hS
          refine ⟨.inr (Below.agr hB), ?_⟩
          have H := H.keep hB
          refine c_l rfl (o_call (fv := []) (cap := []) (vs := [.agg #[.int .i64 s.Wide, .int .i64 s.High, .int .i64 s.Room], .int .i64 b]) rfl rfl cl70 rfl (at_c s b _ (by omega) (by omega) (by omega)) fun v w54 hS => ?_)
          obtain ⟨rfl, hB⟩ := hS
          refine ⟨.inr (Below.agr hB), ?_⟩
          have H := H.keep hB
          refine c_l rfl (o_store (vs := [.int .i64 (a % s.Wide), .int .i64 (a / s.Wide)]) rfl ts168 rfl rfl rfl rfl 1 rfl rfl rfl rfl H fun w55 hA H => ⟨.inl (by kernel_rfl), ?_⟩)
          refine c_l rfl (o_store (vs := [.int .i64 (b % s.Wide), .int .i64 (b / s.Wide)]) rfl ts168 rfl rfl rfl rfl 1 rfl rfl rfl rfl H fun w56 hA H => ⟨.inl (by kernel_rfl), ?_⟩)
          refine c_done ?_
          exact ⟨b_4_7, b_4_6, rfl, rfl, rfl, rfl, rfl, H⟩
      · skip
        refine o_alloc rfl tz168 H fun b_4_7 w57 hA H => ⟨.inr (Below.agr hA), ?_⟩
        refine c_l2 rfl rfl ?_ ?_
        · skip
          refine o_call (fv := []) (cap := []) (vs := [.agg #[.int .i64 s.Wide, .int .i64 s.High, .int .i64 s.Room], .int .i64 a]) rfl rfl cl70 rfl (at_c s a _ (by omega) (by omega) (by omega)) fun v w58 hS => ?_
          obtain ⟨rfl, hB⟩ := hS
          refine ⟨.inr (Below.agr hB), ?_⟩
          have H := H.keep hB
          refine c_l2 rfl rfl ?_ ?_
          · skip
            refine o_call (fv := []) (cap := []) (vs := [.agg #[.int .i64 s.Wide, .int .i64 s.High, .int .i64 s.Room], .int .i64 b]) rfl rfl cl70 rfl (at_c s b _ (by omega) (by omega) (by omega)) fun v w59 hS => ?_
            obtain ⟨rfl, hB⟩ := hS
            refine ⟨.inr (Below.agr hB), ?_⟩
            have H := H.keep hB
            refine c_l rfl (o_alloc rfl tz168 H fun b_4_6 w60 hA H => ⟨.inr (Below.agr hA), ?_⟩)
            refine c_l rfl (o_store (vs := [.int .i64 (a % s.Wide), .int .i64 (a / s.Wide)]) rfl ts168 rfl rfl rfl rfl 0 rfl rfl rfl rfl H fun w61 hA H => ⟨.inl (by kernel_rfl), ?_⟩)
            refine c_l rfl (o_store (vs := [.int .i64 (b % s.Wide), .int .i64 (b / s.Wide)]) rfl ts168 rfl rfl rfl rfl 1 rfl rfl rfl rfl H fun w62 hA H => ⟨.inl (by kernel_rfl), ?_⟩)
            refine c_done ?_
            exact ⟨b_4_7, b_4_6, rfl, rfl, rfl, rfl, rfl, H⟩
          · skip
            refine o_alloc rfl tz168 H fun b_4_6 w63 hA H => ⟨.inr (Below.agr hA), ?_⟩
            refine c_l rfl (o_call (fv := []) (cap := []) (vs := [.agg #[.int .i64 s.Wide, .int .i64 s.High, .int .i64 s.Room], .int .i64 b]) rfl rfl cl70 rfl (at_c s b _ (by omega) (by omega) (by omega)) fun v w64 hS => ?_)
            obtain ⟨rfl, hB⟩ := hS
            refine ⟨.inr (Below.agr hB), ?_⟩
            have H := H.keep hB
            refine c_l rfl (o_store (vs := [.int .i64 (a % s.Wide), .int .i64 (a / s.Wide)]) rfl ts168 rfl rfl rfl rfl 0 rfl rfl rfl rfl H fun w65 hA H => ⟨.inl (by kernel_rfl), ?_⟩)
            refine c_l rfl (o_store (vs := [.int .i64 (b % s.Wide), .int .i64 (b / s.Wide)]) rfl ts168 rfl rfl rfl rfl 1 rfl rfl rfl rfl H fun w66 hA H => ⟨.inl (by kernel_rfl), ?_⟩)
            refine c_done ?_
            exact ⟨b_4_7, b_4_6, rfl, rfl, rfl, rfl, rfl, H⟩
        · skip
          refine o_alloc rfl tz168 H fun b_4_6 w67 hA H => ⟨.inr (Below.agr hA), ?_⟩
          refine c_l rfl (o_call (fv := []) (cap := []) (vs := [.agg #[.int .i64 s.Wide, .int .i64 s.High, .int .i64 s.Room], .int .i64 a]) rfl rfl cl70 rfl (at_c s a _ (by omega) (by omega) (by omega)) fun v w68 hS => ?_)
          obtain ⟨rfl, hB⟩ := hS
          refine ⟨.inr (Below.agr hB), ?_⟩
          have H := H.keep hB
          refine c_l rfl (o_call (fv := []) (cap := []) (vs := [.agg #[.int .i64 s.Wide, .int .i64 s.High, .int .i64 s.Room], .int .i64 b]) rfl rfl cl70 rfl (at_c s b _ (by omega) (by omega) (by omega)) fun v w69 hS => ?_)
          obtain ⟨rfl, hB⟩ := hS
          refine ⟨.inr (Below.agr hB), ?_⟩
          have H := H.keep hB
          refine c_l rfl (o_store (vs := [.int .i64 (a % s.Wide), .int .i64 (a / s.Wide)]) rfl ts168 rfl rfl rfl rfl 0 rfl rfl rfl rfl H fun w70 hA H => ⟨.inl (by kernel_rfl), ?_⟩)
          refine c_l rfl (o_store (vs := [.int .i64 (b % s.Wide), .int .i64 (b / s.Wide)]) rfl ts168 rfl rfl rfl rfl 1 rfl rfl rfl rfl H fun w71 hA H => ⟨.inl (by kernel_rfl), ?_⟩)
          refine c_done ?_
          exact ⟨b_4_7, b_4_6, rfl, rfl, rfl, rfl, rfl, H⟩
    obtain ⟨b_4_7, b_4_6, hI⟩ := hI
    obtain ⟨s6, s7, s9, s10, s1000000, H⟩ := hI
    refine V_seq rfl ?_
    refine V_region rfl ?_
    refine Rg_op rfl (o_val (v := .pointer (some ⟨b_4_6, 0, none⟩)) (d := 25) rfl rfl (ex_fieldAddr fo168_0 s9 rfl) ?_)
    refine Rg_op rfl (o_val (v := .int .i64 (a % s.Wide)) (d := 26) rfl rfl (ex_load ca3 rfl (cell_of (H.rd 1 rfl))) ?_)
    refine Rg_op rfl (o_val (v := .pointer (some ⟨b_4_7, 0, none⟩)) (d := 27) rfl rfl (ex_fieldAddr fo168_0 s10 rfl) ?_)
    refine Rg_op rfl (o_val (v := .int .i64 (b % s.Wide)) (d := 28) rfl rfl (ex_load ca3 rfl (cell_of (H.rd 0 rfl))) ?_)
    refine Rg_op rfl (o_val (v := .int .i64 ((a % s.Wide) - (b % s.Wide))) (d := 29) rfl rfl (ex_sub rfl rfl (by omega)) ?_)
    refine Rg_op rfl (o_val (v := .pointer (some ⟨b_4_7, 0, none⟩)) (d := 30) rfl rfl (ex_fieldAddr fo168_0 s10 rfl) ?_)
    refine Rg_op rfl (o_val (v := .int .i64 (b % s.Wide)) (d := 31) rfl rfl (ex_load ca3 rfl (cell_of (H.rd 0 rfl))) ?_)
    refine Rg_op rfl (o_val (v := .pointer (some ⟨b_4_6, 0, none⟩)) (d := 32) rfl rfl (ex_fieldAddr fo168_0 s9 rfl) ?_)
    refine Rg_op rfl (o_val (v := .int .i64 (a % s.Wide)) (d := 33) rfl rfl (ex_load ca3 rfl (cell_of (H.rd 1 rfl))) ?_)
    refine Rg_op rfl (o_val (v := .int .i64 ((b % s.Wide) - (a % s.Wide))) (d := 34) rfl rfl (ex_sub rfl rfl (by omega)) ?_)
    refine Rg_op rfl (o_val (v := .int .i64 (max ((a % s.Wide) - (b % s.Wide)) ((b % s.Wide) - (a % s.Wide)))) (d := 35) rfl rfl (ex_max2 rfl rfl) ?_)
    refine Rg_op rfl (o_val (v := .pointer (some ⟨b_4_6, 1, none⟩)) (d := 36) rfl rfl (ex_fieldAddr fo168_1 s9 rfl) ?_)
    refine Rg_op rfl (o_val (v := .int .i64 (a / s.Wide)) (d := 37) rfl rfl (ex_load ca3 rfl (cell_of (H.rd 1 rfl))) ?_)
    refine Rg_op rfl (o_val (v := .pointer (some ⟨b_4_7, 1, none⟩)) (d := 38) rfl rfl (ex_fieldAddr fo168_1 s10 rfl) ?_)
    refine Rg_op rfl (o_val (v := .int .i64 (b / s.Wide)) (d := 39) rfl rfl (ex_load ca3 rfl (cell_of (H.rd 0 rfl))) ?_)
    refine Rg_op rfl (o_val (v := .int .i64 ((a / s.Wide) - (b / s.Wide))) (d := 40) rfl rfl (ex_sub rfl rfl (by omega)) ?_)
    refine Rg_op rfl (o_val (v := .pointer (some ⟨b_4_7, 1, none⟩)) (d := 41) rfl rfl (ex_fieldAddr fo168_1 s10 rfl) ?_)
    refine Rg_op rfl (o_val (v := .int .i64 (b / s.Wide)) (d := 42) rfl rfl (ex_load ca3 rfl (cell_of (H.rd 0 rfl))) ?_)
    refine Rg_op rfl (o_val (v := .pointer (some ⟨b_4_6, 1, none⟩)) (d := 43) rfl rfl (ex_fieldAddr fo168_1 s9 rfl) ?_)
    refine Rg_op rfl (o_val (v := .int .i64 (a / s.Wide)) (d := 44) rfl rfl (ex_load ca3 rfl (cell_of (H.rd 1 rfl))) ?_)
    refine Rg_op rfl (o_val (v := .int .i64 ((b / s.Wide) - (a / s.Wide))) (d := 45) rfl rfl (ex_sub rfl rfl (by omega)) ?_)
    refine Rg_op rfl (o_val (v := .int .i64 (max ((a / s.Wide) - (b / s.Wide)) ((b / s.Wide) - (a / s.Wide)))) (d := 46) rfl rfl (ex_max2 rfl rfl) ?_)
    refine Rg_op rfl (o_val (v := .int .i64 ((max ((a % s.Wide) - (b % s.Wide)) ((b % s.Wide) - (a % s.Wide))) + (max ((a / s.Wide) - (b / s.Wide)) ((b / s.Wide) - (a / s.Wide))))) (d := 47) rfl rfl (ex_add rfl rfl (by omega)) ?_)
    refine Rg_op rfl (o_val (v := .int .i64 ((max ((a % s.Wide) - (b % s.Wide)) ((b % s.Wide) - (a % s.Wide))) + (max ((a / s.Wide) - (b / s.Wide)) ((b / s.Wide) - (a / s.Wide))))) (d := 6) rfl rfl (ex_assign rfl) ?_)
    refine Rg_op rfl (o_val (v := .int .i64 0) (d := 7) rfl rfl (ex_assign rfl) ?_)
    refine Rg_end ?_
    refine V_ret rfl (end0 (v := .tuple #[.int .i64 ((max ((a % s.Wide) - (b % s.Wide)) ((b % s.Wide) - (a % s.Wide))) + (max ((a / s.Wide) - (b / s.Wide)) ((b / s.Wide) - (a / s.Wide)))), .int .i64 0]) s1000000 (res_tmp2 Try.results30 rfl rfl) ?_)
    exact ⟨by rw [if_neg (by assumption)]; rw [show known s [a, b] = 0 from by omega]; rfl, H.below⟩

theorem back_c (o : Int) (w0 : World) :
    Calls Try.prog 92 #[.int .i64 o] w0 fun e w' => ∃ v, e = .returned v ∧ (v = .int .i64 (back o) ∧ Below w0.heap.size w0 w') := by
  refine calls_of (n := 9) (l := [.int .i64 o]) Try.func92 rfl rfl rfl ?_
  have H := Hp.start w0
  refine V_seq rfl ?_
  refine V_region rfl ?_
  refine Rg_op rfl (o_val (v := .int .i64 0) (d := 2) rfl rfl (ex_assign rfl) ?_)
  refine Rg_end ?_
  refine V_seq rfl ?_
  refine V_seq rfl ?_
  refine V_region rfl ?_
  refine Rg_op rfl (o_val (v := .int .i64 o) (d := 3) rfl rfl (ex_move rfl) ?_)
  refine Rg_op rfl (o_val (v := .bool (decide (o ≤ 2))) (d := 4) rfl rfl (ex_leq rfl rfl) ?_)
  refine Rg_end ?_
  refine V_cond (b := (decide (o ≤ 2))) rfl rfl (fun hb1 => ?_) (fun hb1 => ?_)
  · have hb1 : o ≤ 2 := of_decide_eq_true hb1
    refine V_seq rfl ?_
    refine V_region rfl ?_
    refine Rg_op rfl (o_val (v := .int .i64 o) (d := 5) rfl rfl (ex_move rfl) ?_)
    refine Rg_op rfl (o_val (v := .int .i64 (IntKind.i64.wrap (o * 2 ^ min 2 IntKind.i64.bits))) (d := 6) rfl rfl (ex_shl (j := 2) rfl rfl) ?_)
    refine Rg_op rfl (o_val (v := .int .i64 (IntKind.i64.wrap (o * 2 ^ min 2 IntKind.i64.bits))) (d := 2) rfl rfl (ex_assign rfl) ?_)
    refine Rg_end ?_
    refine V_ret rfl (end0 (v := .int .i64 (IntKind.i64.wrap (o * 2 ^ min 2 IntKind.i64.bits))) rfl (res_tmp Try.results92 rfl) ?_)
    exact ⟨by simp only [back]; (repeat' split) <;> first | contradiction | rfl | (simp_all; done) | skip; rfl, H.below⟩
  · have hb1 : ¬ (o ≤ 2) := of_decide_eq_false hb1
    refine V_skip rfl ?_
    refine V_seq rfl ?_
    refine V_region rfl ?_
    refine Rg_op rfl (o_val (v := .int .i64 o) (d := 7) rfl rfl (ex_move rfl) ?_)
    refine Rg_op rfl (o_val (v := .int .i64 (Int.fdiv o (2 ^ min 2 IntKind.i64.bits))) (d := 8) rfl rfl (ex_shr (j := 2) rfl rfl) ?_)
    refine Rg_op rfl (o_val (v := .int .i64 (Int.fdiv o (2 ^ min 2 IntKind.i64.bits))) (d := 2) rfl rfl (ex_assign rfl) ?_)
    refine Rg_end ?_
    refine V_ret rfl (end0 (v := .int .i64 (Int.fdiv o (2 ^ min 2 IntKind.i64.bits))) rfl (res_tmp Try.results92 rfl) ?_)
    exact ⟨by simp only [back]; (repeat' split) <;> first | contradiction | rfl | (simp_all; done) | skip; rfl, H.below⟩

theorem valid_c (x : Entry) (w0 : World) :
    Calls Try.prog 49 #[.agg #[.int .i64 x.Key, .int .i64 x.Mask, .int .i64 x.Outs]] w0 fun e w' => ∃ v, e = .returned v ∧ (v = .bool (decide (ent x)) ∧ Below w0.heap.size w0 w') := by
  refine calls_of (n := 32) (l := [.agg #[.int .i64 x.Key, .int .i64 x.Mask, .int .i64 x.Outs]]) Try.func49 rfl rfl rfl ?_
  have H := Hp.start w0
  refine V_seq rfl ?_
  refine V_region rfl ?_
  refine Rg_op rfl (o_box (v := .agg #[.int .i64 x.Key, .int .i64 x.Mask, .int .i64 x.Outs]) rfl rfl H fun b1 w2 hA H => ?_)
  refine Rg_op rfl (o_val (v := .bool false) (d := 2) rfl rfl (ex_assign rfl) ?_)
  refine Rg_end ?_
  refine V_seq rfl ?_
  refine V_join (fun σ w => σ 2 = .bool (decide (((((0 ≤ (min x.Key x.Mask)) ∧ (x.Mask ≤ 65535)) ∧ ((bAndNot .i64 x.Key x.Mask) = 0)) ∧ (1 ≤ x.Outs)) ∧ (x.Outs ≤ 31))) ∧ σ 1000000 = undef ∧ Hp w0.heap.size w0 w [SA.cel b1 #[.int .i64 x.Key, .int .i64 x.Mask, .int .i64 x.Outs] 113]) ?_ (fun σ w hI => ?_)
  · skip
    refine V_region rfl ?_
    refine Rg_op rfl (o_val (v := .pointer (some ⟨b1, 0, none⟩)) (d := 3) rfl rfl (ex_fieldAddr fo113_0 rfl rfl) ?_)
    refine Rg_op rfl (o_val (v := .int .i64 x.Key) (d := 4) rfl rfl (ex_load ca3 rfl (cell_of (H.rd 0 rfl))) ?_)
    refine Rg_op rfl (o_val (v := .pointer (some ⟨b1, 1, none⟩)) (d := 5) rfl rfl (ex_fieldAddr fo113_1 rfl rfl) ?_)
    refine Rg_op rfl (o_val (v := .int .i64 x.Mask) (d := 6) rfl rfl (ex_load ca3 rfl (cell_of (H.rd 0 rfl))) ?_)
    refine Rg_op rfl (o_val (v := .int .i64 (min x.Key x.Mask)) (d := 7) rfl rfl (ex_min2 rfl rfl) ?_)
    refine Rg_op rfl (o_val (v := .bool (decide (0 ≤ (min x.Key x.Mask)))) (d := 8) rfl rfl (ex_geq rfl rfl) ?_)
    refine Rg_op rfl (o_val (v := .bool (decide (0 ≤ (min x.Key x.Mask)))) (d := 9) rfl rfl (ex_move rfl) ?_)
    by_cases hg3 : 0 ≤ (min x.Key x.Mask)
    · skip
      refine Rg_op rfl (o_valg (v := .pointer (some ⟨b1, 1, none⟩)) (d := 10) rfl rfl (wanted_yes (b := (decide (0 ≤ (min x.Key x.Mask)))) rfl rfl rfl (decide_eq_true hg3)) (ex_fieldAddr fo113_1 rfl rfl) ?_)
      refine Rg_op rfl (o_valg (v := .int .i64 x.Mask) (d := 11) rfl rfl (wanted_yes (b := (decide (0 ≤ (min x.Key x.Mask)))) rfl rfl rfl (decide_eq_true hg3)) (ex_load ca3 rfl (cell_of (H.rd 0 rfl))) ?_)
      refine Rg_op rfl (o_valg (v := .bool (decide (x.Mask ≤ 65535))) (d := 12) rfl rfl (wanted_yes (b := (decide (0 ≤ (min x.Key x.Mask)))) rfl rfl rfl (decide_eq_true hg3)) (ex_leq rfl rfl) ?_)
      refine Rg_op rfl (o_val (v := .bool (decide (x.Mask ≤ 65535))) (d := 13) rfl rfl (ex_pick (q := (decide (0 ≤ (min x.Key x.Mask)))) rfl (fun h => rfl) (fun h => absurd hg3 (of_decide_eq_false h))) ?_)
      refine Rg_op rfl (o_val (v := .bool (decide (x.Mask ≤ 65535))) (d := 14) rfl rfl (ex_move rfl) ?_)
      by_cases hg4 : x.Mask ≤ 65535
      · skip
        refine Rg_op rfl (o_valg (v := .pointer (some ⟨b1, 0, none⟩)) (d := 15) rfl rfl (wanted_yes (b := (decide (x.Mask ≤ 65535))) rfl rfl rfl (decide_eq_true hg4)) (ex_fieldAddr fo113_0 rfl rfl) ?_)
        refine Rg_op rfl (o_valg (v := .int .i64 x.Key) (d := 16) rfl rfl (wanted_yes (b := (decide (x.Mask ≤ 65535))) rfl rfl rfl (decide_eq_true hg4)) (ex_load ca3 rfl (cell_of (H.rd 0 rfl))) ?_)
        refine Rg_op rfl (o_valg (v := .pointer (some ⟨b1, 1, none⟩)) (d := 17) rfl rfl (wanted_yes (b := (decide (x.Mask ≤ 65535))) rfl rfl rfl (decide_eq_true hg4)) (ex_fieldAddr fo113_1 rfl rfl) ?_)
        refine Rg_op rfl (o_valg (v := .int .i64 x.Mask) (d := 18) rfl rfl (wanted_yes (b := (decide (x.Mask ≤ 65535))) rfl rfl rfl (decide_eq_true hg4)) (ex_load ca3 rfl (cell_of (H.rd 0 rfl))) ?_)
        refine Rg_op rfl (o_valg (v := .int .i64 (bAndNot .i64 x.Key x.Mask)) (d := 19) rfl rfl (wanted_yes (b := (decide (x.Mask ≤ 65535))) rfl rfl rfl (decide_eq_true hg4)) (ex_andNot rfl rfl) ?_)
        refine Rg_op rfl (o_valg (v := .bool (decide ((bAndNot .i64 x.Key x.Mask) = 0))) (d := 20) rfl rfl (wanted_yes (b := (decide (x.Mask ≤ 65535))) rfl rfl rfl (decide_eq_true hg4)) (ex_eql rfl rfl) ?_)
        refine Rg_op rfl (o_val (v := .bool (decide ((bAndNot .i64 x.Key x.Mask) = 0))) (d := 21) rfl rfl (ex_pick (q := (decide (x.Mask ≤ 65535))) rfl (fun h => rfl) (fun h => absurd hg4 (of_decide_eq_false h))) ?_)
        refine Rg_op rfl (o_val (v := .bool (decide ((bAndNot .i64 x.Key x.Mask) = 0))) (d := 22) rfl rfl (ex_move rfl) ?_)
        by_cases hg5 : (bAndNot .i64 x.Key x.Mask) = 0
        · skip
          refine Rg_op rfl (o_valg (v := .pointer (some ⟨b1, 2, none⟩)) (d := 23) rfl rfl (wanted_yes (b := (decide ((bAndNot .i64 x.Key x.Mask) = 0))) rfl rfl rfl (decide_eq_true hg5)) (ex_fieldAddr fo113_2 rfl rfl) ?_)
          refine Rg_op rfl (o_valg (v := .int .i64 x.Outs) (d := 24) rfl rfl (wanted_yes (b := (decide ((bAndNot .i64 x.Key x.Mask) = 0))) rfl rfl rfl (decide_eq_true hg5)) (ex_load ca3 rfl (cell_of (H.rd 0 rfl))) ?_)
          refine Rg_op rfl (o_valg (v := .bool (decide (1 ≤ x.Outs))) (d := 25) rfl rfl (wanted_yes (b := (decide ((bAndNot .i64 x.Key x.Mask) = 0))) rfl rfl rfl (decide_eq_true hg5)) (ex_geq rfl rfl) ?_)
          refine Rg_op rfl (o_val (v := .bool (decide (1 ≤ x.Outs))) (d := 26) rfl rfl (ex_pick (q := (decide ((bAndNot .i64 x.Key x.Mask) = 0))) rfl (fun h => rfl) (fun h => absurd hg5 (of_decide_eq_false h))) ?_)
          refine Rg_op rfl (o_val (v := .bool (decide (1 ≤ x.Outs))) (d := 27) rfl rfl (ex_move rfl) ?_)
          by_cases hg6 : 1 ≤ x.Outs
          · skip
            refine Rg_op rfl (o_valg (v := .pointer (some ⟨b1, 2, none⟩)) (d := 28) rfl rfl (wanted_yes (b := (decide (1 ≤ x.Outs))) rfl rfl rfl (decide_eq_true hg6)) (ex_fieldAddr fo113_2 rfl rfl) ?_)
            refine Rg_op rfl (o_valg (v := .int .i64 x.Outs) (d := 29) rfl rfl (wanted_yes (b := (decide (1 ≤ x.Outs))) rfl rfl rfl (decide_eq_true hg6)) (ex_load ca3 rfl (cell_of (H.rd 0 rfl))) ?_)
            refine Rg_op rfl (o_valg (v := .bool (decide (x.Outs ≤ 31))) (d := 30) rfl rfl (wanted_yes (b := (decide (1 ≤ x.Outs))) rfl rfl rfl (decide_eq_true hg6)) (ex_leq rfl rfl) ?_)
            refine Rg_op rfl (o_val (v := .bool (decide (x.Outs ≤ 31))) (d := 31) rfl rfl (ex_pick (q := (decide (1 ≤ x.Outs))) rfl (fun h => rfl) (fun h => absurd hg6 (of_decide_eq_false h))) ?_)
            refine Rg_op rfl (o_val (v := .bool (decide (x.Outs ≤ 31))) (d := 2) rfl rfl (ex_assign rfl) ?_)
            refine Rg_end ?_
            exact ⟨(show (.bool (decide (x.Outs ≤ 31)) : Value) = .bool (decide (((((0 ≤ (min x.Key x.Mask)) ∧ (x.Mask ≤ 65535)) ∧ ((bAndNot .i64 x.Key x.Mask) = 0)) ∧ (1 ≤ x.Outs)) ∧ (x.Outs ≤ 31))) from by first | (simp only [hg3, hg4, hg5, hg6, true_or, or_true, false_or, or_false, true_and, and_true, false_and, and_false, decide_true, decide_false, Bool.not_true, Bool.not_false]; done) | (simp [hg3, hg4, hg5, hg6]; done) | (simp [hg3, hg4, hg5, hg6]; rfl)), rfl, H⟩
          · skip
            refine Rg_op rfl (o_skip (d := 28) rfl rfl (wanted_no (b := (decide (1 ≤ x.Outs))) rfl rfl rfl (decide_eq_false hg6)) ?_)
            refine Rg_op rfl (o_skip (d := 29) rfl rfl (wanted_no (b := (decide (1 ≤ x.Outs))) rfl rfl rfl (decide_eq_false hg6)) ?_)
            refine Rg_op rfl (o_skip (d := 30) rfl rfl (wanted_no (b := (decide (1 ≤ x.Outs))) rfl rfl rfl (decide_eq_false hg6)) ?_)
            refine Rg_op rfl (o_val (v := .bool false) (d := 31) rfl rfl (ex_pick (q := (decide (1 ≤ x.Outs))) rfl (fun h => absurd (of_decide_eq_true h) hg6) (fun h => rfl)) ?_)
            refine Rg_op rfl (o_val (v := .bool false) (d := 2) rfl rfl (ex_assign rfl) ?_)
            refine Rg_end ?_
            exact ⟨(show (.bool false : Value) = .bool (decide (((((0 ≤ (min x.Key x.Mask)) ∧ (x.Mask ≤ 65535)) ∧ ((bAndNot .i64 x.Key x.Mask) = 0)) ∧ (1 ≤ x.Outs)) ∧ (x.Outs ≤ 31))) from by first | (simp only [hg3, hg4, hg5, hg6, true_or, or_true, false_or, or_false, true_and, and_true, false_and, and_false, decide_true, decide_false, Bool.not_true, Bool.not_false]; done) | (simp [hg3, hg4, hg5, hg6]; done) | (simp [hg3, hg4, hg5, hg6]; rfl)), rfl, H⟩
        · skip
          refine Rg_op rfl (o_skip (d := 23) rfl rfl (wanted_no (b := (decide ((bAndNot .i64 x.Key x.Mask) = 0))) rfl rfl rfl (decide_eq_false hg5)) ?_)
          refine Rg_op rfl (o_skip (d := 24) rfl rfl (wanted_no (b := (decide ((bAndNot .i64 x.Key x.Mask) = 0))) rfl rfl rfl (decide_eq_false hg5)) ?_)
          refine Rg_op rfl (o_skip (d := 25) rfl rfl (wanted_no (b := (decide ((bAndNot .i64 x.Key x.Mask) = 0))) rfl rfl rfl (decide_eq_false hg5)) ?_)
          refine Rg_op rfl (o_val (v := .bool false) (d := 26) rfl rfl (ex_pick (q := (decide ((bAndNot .i64 x.Key x.Mask) = 0))) rfl (fun h => absurd (of_decide_eq_true h) hg5) (fun h => rfl)) ?_)
          refine Rg_op rfl (o_val (v := .bool false) (d := 27) rfl rfl (ex_move rfl) ?_)
          refine Rg_op rfl (o_skip (d := 28) rfl rfl (wanted_no (b := false) rfl rfl rfl rfl) ?_)
          refine Rg_op rfl (o_skip (d := 29) rfl rfl (wanted_no (b := false) rfl rfl rfl rfl) ?_)
          refine Rg_op rfl (o_skip (d := 30) rfl rfl (wanted_no (b := false) rfl rfl rfl rfl) ?_)
          refine Rg_op rfl (o_val (v := .bool false) (d := 31) rfl rfl (ex_pick (q := false) rfl (fun h => by cases h) (fun h => rfl)) ?_)
          refine Rg_op rfl (o_val (v := .bool false) (d := 2) rfl rfl (ex_assign rfl) ?_)
          refine Rg_end ?_
          exact ⟨(show (.bool false : Value) = .bool (decide (((((0 ≤ (min x.Key x.Mask)) ∧ (x.Mask ≤ 65535)) ∧ ((bAndNot .i64 x.Key x.Mask) = 0)) ∧ (1 ≤ x.Outs)) ∧ (x.Outs ≤ 31))) from by first | (simp only [hg3, hg4, hg5, true_or, or_true, false_or, or_false, true_and, and_true, false_and, and_false, decide_true, decide_false, Bool.not_true, Bool.not_false]; done) | (simp [hg3, hg4, hg5]; done) | (simp [hg3, hg4, hg5]; rfl)), rfl, H⟩
      · skip
        refine Rg_op rfl (o_skip (d := 15) rfl rfl (wanted_no (b := (decide (x.Mask ≤ 65535))) rfl rfl rfl (decide_eq_false hg4)) ?_)
        refine Rg_op rfl (o_skip (d := 16) rfl rfl (wanted_no (b := (decide (x.Mask ≤ 65535))) rfl rfl rfl (decide_eq_false hg4)) ?_)
        refine Rg_op rfl (o_skip (d := 17) rfl rfl (wanted_no (b := (decide (x.Mask ≤ 65535))) rfl rfl rfl (decide_eq_false hg4)) ?_)
        refine Rg_op rfl (o_skip (d := 18) rfl rfl (wanted_no (b := (decide (x.Mask ≤ 65535))) rfl rfl rfl (decide_eq_false hg4)) ?_)
        refine Rg_op rfl (o_skip (d := 19) rfl rfl (wanted_no (b := (decide (x.Mask ≤ 65535))) rfl rfl rfl (decide_eq_false hg4)) ?_)
        refine Rg_op rfl (o_skip (d := 20) rfl rfl (wanted_no (b := (decide (x.Mask ≤ 65535))) rfl rfl rfl (decide_eq_false hg4)) ?_)
        refine Rg_op rfl (o_val (v := .bool false) (d := 21) rfl rfl (ex_pick (q := (decide (x.Mask ≤ 65535))) rfl (fun h => absurd (of_decide_eq_true h) hg4) (fun h => rfl)) ?_)
        refine Rg_op rfl (o_val (v := .bool false) (d := 22) rfl rfl (ex_move rfl) ?_)
        refine Rg_op rfl (o_skip (d := 23) rfl rfl (wanted_no (b := false) rfl rfl rfl rfl) ?_)
        refine Rg_op rfl (o_skip (d := 24) rfl rfl (wanted_no (b := false) rfl rfl rfl rfl) ?_)
        refine Rg_op rfl (o_skip (d := 25) rfl rfl (wanted_no (b := false) rfl rfl rfl rfl) ?_)
        refine Rg_op rfl (o_val (v := .bool false) (d := 26) rfl rfl (ex_pick (q := false) rfl (fun h => by cases h) (fun h => rfl)) ?_)
        refine Rg_op rfl (o_val (v := .bool false) (d := 27) rfl rfl (ex_move rfl) ?_)
        refine Rg_op rfl (o_skip (d := 28) rfl rfl (wanted_no (b := false) rfl rfl rfl rfl) ?_)
        refine Rg_op rfl (o_skip (d := 29) rfl rfl (wanted_no (b := false) rfl rfl rfl rfl) ?_)
        refine Rg_op rfl (o_skip (d := 30) rfl rfl (wanted_no (b := false) rfl rfl rfl rfl) ?_)
        refine Rg_op rfl (o_val (v := .bool false) (d := 31) rfl rfl (ex_pick (q := false) rfl (fun h => by cases h) (fun h => rfl)) ?_)
        refine Rg_op rfl (o_val (v := .bool false) (d := 2) rfl rfl (ex_assign rfl) ?_)
        refine Rg_end ?_
        exact ⟨(show (.bool false : Value) = .bool (decide (((((0 ≤ (min x.Key x.Mask)) ∧ (x.Mask ≤ 65535)) ∧ ((bAndNot .i64 x.Key x.Mask) = 0)) ∧ (1 ≤ x.Outs)) ∧ (x.Outs ≤ 31))) from by first | (simp only [hg3, hg4, true_or, or_true, false_or, or_false, true_and, and_true, false_and, and_false, decide_true, decide_false, Bool.not_true, Bool.not_false]; done) | (simp [hg3, hg4]; done) | (simp [hg3, hg4]; rfl)), rfl, H⟩
    · skip
      refine Rg_op rfl (o_skip (d := 10) rfl rfl (wanted_no (b := (decide (0 ≤ (min x.Key x.Mask)))) rfl rfl rfl (decide_eq_false hg3)) ?_)
      refine Rg_op rfl (o_skip (d := 11) rfl rfl (wanted_no (b := (decide (0 ≤ (min x.Key x.Mask)))) rfl rfl rfl (decide_eq_false hg3)) ?_)
      refine Rg_op rfl (o_skip (d := 12) rfl rfl (wanted_no (b := (decide (0 ≤ (min x.Key x.Mask)))) rfl rfl rfl (decide_eq_false hg3)) ?_)
      refine Rg_op rfl (o_val (v := .bool false) (d := 13) rfl rfl (ex_pick (q := (decide (0 ≤ (min x.Key x.Mask)))) rfl (fun h => absurd (of_decide_eq_true h) hg3) (fun h => rfl)) ?_)
      refine Rg_op rfl (o_val (v := .bool false) (d := 14) rfl rfl (ex_move rfl) ?_)
      refine Rg_op rfl (o_skip (d := 15) rfl rfl (wanted_no (b := false) rfl rfl rfl rfl) ?_)
      refine Rg_op rfl (o_skip (d := 16) rfl rfl (wanted_no (b := false) rfl rfl rfl rfl) ?_)
      refine Rg_op rfl (o_skip (d := 17) rfl rfl (wanted_no (b := false) rfl rfl rfl rfl) ?_)
      refine Rg_op rfl (o_skip (d := 18) rfl rfl (wanted_no (b := false) rfl rfl rfl rfl) ?_)
      refine Rg_op rfl (o_skip (d := 19) rfl rfl (wanted_no (b := false) rfl rfl rfl rfl) ?_)
      refine Rg_op rfl (o_skip (d := 20) rfl rfl (wanted_no (b := false) rfl rfl rfl rfl) ?_)
      refine Rg_op rfl (o_val (v := .bool false) (d := 21) rfl rfl (ex_pick (q := false) rfl (fun h => by cases h) (fun h => rfl)) ?_)
      refine Rg_op rfl (o_val (v := .bool false) (d := 22) rfl rfl (ex_move rfl) ?_)
      refine Rg_op rfl (o_skip (d := 23) rfl rfl (wanted_no (b := false) rfl rfl rfl rfl) ?_)
      refine Rg_op rfl (o_skip (d := 24) rfl rfl (wanted_no (b := false) rfl rfl rfl rfl) ?_)
      refine Rg_op rfl (o_skip (d := 25) rfl rfl (wanted_no (b := false) rfl rfl rfl rfl) ?_)
      refine Rg_op rfl (o_val (v := .bool false) (d := 26) rfl rfl (ex_pick (q := false) rfl (fun h => by cases h) (fun h => rfl)) ?_)
      refine Rg_op rfl (o_val (v := .bool false) (d := 27) rfl rfl (ex_move rfl) ?_)
      refine Rg_op rfl (o_skip (d := 28) rfl rfl (wanted_no (b := false) rfl rfl rfl rfl) ?_)
      refine Rg_op rfl (o_skip (d := 29) rfl rfl (wanted_no (b := false) rfl rfl rfl rfl) ?_)
      refine Rg_op rfl (o_skip (d := 30) rfl rfl (wanted_no (b := false) rfl rfl rfl rfl) ?_)
      refine Rg_op rfl (o_val (v := .bool false) (d := 31) rfl rfl (ex_pick (q := false) rfl (fun h => by cases h) (fun h => rfl)) ?_)
      refine Rg_op rfl (o_val (v := .bool false) (d := 2) rfl rfl (ex_assign rfl) ?_)
      refine Rg_end ?_
      exact ⟨(show (.bool false : Value) = .bool (decide (((((0 ≤ (min x.Key x.Mask)) ∧ (x.Mask ≤ 65535)) ∧ ((bAndNot .i64 x.Key x.Mask) = 0)) ∧ (1 ≤ x.Outs)) ∧ (x.Outs ≤ 31))) from by first | (simp only [hg3, true_or, or_true, false_or, or_false, true_and, and_true, false_and, and_false, decide_true, decide_false, Bool.not_true, Bool.not_false]; done) | (simp [hg3]; done) | (simp [hg3]; rfl)), rfl, H⟩
  obtain ⟨s2, s1000000, H⟩ := hI
  refine V_ret rfl (end0 (v := .bool (decide (((((0 ≤ (min x.Key x.Mask)) ∧ (x.Mask ≤ 65535)) ∧ ((bAndNot .i64 x.Key x.Mask) = 0)) ∧ (1 ≤ x.Outs)) ∧ (x.Outs ≤ 31)))) s1000000 (res_tmp Try.results49 s2) ?_)
  exact ⟨rfl, H.below⟩

theorem isNaN_c (x : Int) (w0 : World) :
    Calls Try.prog 76 #[.int .i64 x] w0 fun e w' => ∃ v, e = .returned v ∧ (v = .bool false ∧ Below w0.heap.size w0 w') := by
  refine calls_of (n := 6) (l := [.int .i64 x]) Try.func76 rfl rfl rfl ?_
  have H := Hp.start w0
  refine V_seq rfl ?_
  refine V_region rfl ?_
  refine Rg_op rfl (o_val (v := .bool false) (d := 2) rfl rfl (ex_assign rfl) ?_)
  refine Rg_end ?_
  refine V_seq rfl ?_
  refine V_region rfl ?_
  refine Rg_op rfl (o_val (v := .int .i64 x) (d := 3) rfl rfl (ex_move rfl) ?_)
  refine Rg_op rfl (o_val (v := .int .i64 x) (d := 4) rfl rfl (ex_move rfl) ?_)
  refine Rg_op rfl (o_val (v := .bool (decide (x ≠ x))) (d := 5) rfl rfl (ex_neq rfl rfl) ?_)
  refine Rg_op rfl (o_val (v := .bool (decide (x ≠ x))) (d := 2) rfl rfl (ex_assign rfl) ?_)
  refine Rg_end ?_
  refine V_ret rfl (end0 (v := .bool (decide (x ≠ x))) rfl (res_tmp Try.results76 rfl) ?_)
  exact ⟨by simp, H.below⟩

theorem cmp_c (x y : Int) (w0 : World) :
    Calls Try.prog 44 #[.int .i64 x, .int .i64 y] w0 fun e w' => ∃ v, e = .returned v ∧ (v = .int .i64 (cmp3 x y) ∧ Below w0.heap.size w0 w') := by
  refine calls_of (n := 20) (l := [.int .i64 x, .int .i64 y]) Try.func44 rfl rfl rfl ?_
  have H := Hp.start w0
  refine V_seq rfl ?_
  refine V_region rfl ?_
  refine Rg_op rfl (o_val (v := .int .i64 0) (d := 4) rfl rfl (ex_assign rfl) ?_)
  refine Rg_end ?_
  refine V_seq rfl ?_
  refine V_region rfl ?_
  refine Rg_op rfl (o_val (v := .int .i64 x) (d := 7) rfl rfl (ex_move rfl) ?_)
  refine Rg_op rfl (o_call (fv := []) (cap := []) (vs := [.int .i64 x]) rfl rfl cl76 rfl (isNaN_c x _) fun v w1 hS => ?_)
  obtain ⟨rfl, hB⟩ := hS
  have H := H.keep hB
  refine Rg_op rfl (o_val (v := .bool false) (d := 5) rfl rfl (ex_assign rfl) ?_)
  refine Rg_end ?_
  refine V_seq rfl ?_
  refine V_region rfl ?_
  refine Rg_op rfl (o_val (v := .int .i64 y) (d := 9) rfl rfl (ex_move rfl) ?_)
  refine Rg_op rfl (o_call (fv := []) (cap := []) (vs := [.int .i64 y]) rfl rfl cl76 rfl (isNaN_c y _) fun v w2 hS => ?_)
  obtain ⟨rfl, hB⟩ := hS
  have H := H.keep hB
  refine Rg_op rfl (o_val (v := .bool false) (d := 6) rfl rfl (ex_assign rfl) ?_)
  refine Rg_end ?_
  refine V_seq rfl ?_
  refine V_seq rfl ?_
  refine V_region rfl ?_
  refine Rg_op rfl (o_val (v := .bool false) (d := 11) rfl rfl (ex_move rfl) ?_)
  refine Rg_end ?_
  refine V_false rfl rfl ?_
  refine V_skip rfl ?_
  refine V_seq rfl ?_
  refine V_seq rfl ?_
  refine V_region rfl ?_
  refine Rg_op rfl (o_val (v := .bool false) (d := 13) rfl rfl (ex_move rfl) ?_)
  refine Rg_end ?_
  refine V_false rfl rfl ?_
  refine V_skip rfl ?_
  refine V_seq rfl ?_
  refine V_seq rfl ?_
  refine V_region rfl ?_
  refine Rg_op rfl (o_val (v := .int .i64 x) (d := 14) rfl rfl (ex_move rfl) ?_)
  refine Rg_op rfl (o_val (v := .int .i64 y) (d := 15) rfl rfl (ex_move rfl) ?_)
  refine Rg_op rfl (o_val (v := .bool (decide (x < y))) (d := 16) rfl rfl (ex_lss rfl rfl) ?_)
  refine Rg_end ?_
  refine V_cond (b := (decide (x < y))) rfl rfl (fun hb3 => ?_) (fun hb3 => ?_)
  · have hb3 : x < y := of_decide_eq_true hb3
    refine V_seq rfl ?_
    refine V_region rfl ?_
    refine Rg_op rfl (o_val (v := .int .i64 (-1)) (d := 4) rfl rfl (ex_assign rfl) ?_)
    refine Rg_end ?_
    refine V_ret rfl (end0 (v := .int .i64 (-1)) rfl (res_tmp Try.results44 rfl) ?_)
    exact ⟨by simp only [cmp3]; (repeat' split) <;> first | contradiction | rfl | (simp_all; done) | skip, H.below⟩
  · have hb3 : ¬ (x < y) := of_decide_eq_false hb3
    refine V_skip rfl ?_
    refine V_seq rfl ?_
    refine V_seq rfl ?_
    refine V_region rfl ?_
    refine Rg_op rfl (o_val (v := .int .i64 x) (d := 17) rfl rfl (ex_move rfl) ?_)
    refine Rg_op rfl (o_val (v := .int .i64 y) (d := 18) rfl rfl (ex_move rfl) ?_)
    refine Rg_op rfl (o_val (v := .bool (decide (y < x))) (d := 19) rfl rfl (ex_gtr rfl rfl) ?_)
    refine Rg_end ?_
    refine V_cond (b := (decide (y < x))) rfl rfl (fun hb4 => ?_) (fun hb4 => ?_)
    · have hb4 : y < x := of_decide_eq_true hb4
      refine V_seq rfl ?_
      refine V_region rfl ?_
      refine Rg_op rfl (o_val (v := .int .i64 1) (d := 4) rfl rfl (ex_assign rfl) ?_)
      refine Rg_end ?_
      refine V_ret rfl (end0 (v := .int .i64 1) rfl (res_tmp Try.results44 rfl) ?_)
      exact ⟨by simp only [cmp3]; (repeat' split) <;> first | contradiction | rfl | (simp_all; done) | skip, H.below⟩
    · have hb4 : ¬ (y < x) := of_decide_eq_false hb4
      refine V_skip rfl ?_
      refine V_seq rfl ?_
      refine V_region rfl ?_
      refine Rg_op rfl (o_val (v := .int .i64 0) (d := 4) rfl rfl (ex_assign rfl) ?_)
      refine Rg_end ?_
      refine V_ret rfl (end0 (v := .int .i64 0) rfl (res_tmp Try.results44 rfl) ?_)
      exact ⟨by simp only [cmp3]; (repeat' split) <;> first | contradiction | rfl | (simp_all; done) | skip, H.below⟩

theorem cmpE_c (x y : Entry) (w0 : World) :
    Calls Try.prog 43 #[.agg #[.int .i64 x.Key, .int .i64 x.Mask, .int .i64 x.Outs], .agg #[.int .i64 y.Key, .int .i64 y.Mask, .int .i64 y.Outs]] w0 fun e w' => ∃ v, e = .returned v ∧ (v = .int .i64 (cmp3 x.Key y.Key) ∧ Below w0.heap.size w0 w') := by
  refine calls_of (n := 10) (l := [.agg #[.int .i64 x.Key, .int .i64 x.Mask, .int .i64 x.Outs], .agg #[.int .i64 y.Key, .int .i64 y.Mask, .int .i64 y.Outs]]) Try.func43 rfl rfl rfl ?_
  have H := Hp.start w0
  refine V_seq rfl ?_
  refine V_region rfl ?_
  refine Rg_op rfl (o_box (v := .agg #[.int .i64 x.Key, .int .i64 x.Mask, .int .i64 x.Outs]) rfl rfl H fun b1 w2 hA H => ?_)
  refine Rg_op rfl (o_box (v := .agg #[.int .i64 y.Key, .int .i64 y.Mask, .int .i64 y.Outs]) rfl rfl H fun b3 w4 hA H => ?_)
  refine Rg_op rfl (o_val (v := .int .i64 0) (d := 4) rfl rfl (ex_assign rfl) ?_)
  refine Rg_end ?_
  refine V_seq rfl ?_
  refine V_region rfl ?_
  refine Rg_op rfl (o_val (v := .pointer (some ⟨b1, 0, none⟩)) (d := 5) rfl rfl (ex_fieldAddr fo113_0 rfl rfl) ?_)
  refine Rg_op rfl (o_val (v := .int .i64 x.Key) (d := 6) rfl rfl (ex_load ca3 rfl (cell_of (H.rd 1 rfl))) ?_)
  refine Rg_op rfl (o_val (v := .pointer (some ⟨b3, 0, none⟩)) (d := 7) rfl rfl (ex_fieldAddr fo113_0 rfl rfl) ?_)
  refine Rg_op rfl (o_val (v := .int .i64 y.Key) (d := 8) rfl rfl (ex_load ca3 rfl (cell_of (H.rd 0 rfl))) ?_)
  refine Rg_op rfl (o_call (fv := []) (cap := []) (vs := [.int .i64 x.Key, .int .i64 y.Key]) rfl rfl cl44 rfl (cmp_c x.Key y.Key _) fun v w5 hS => ?_)
  obtain ⟨rfl, hB⟩ := hS
  have H := H.keep hB
  refine Rg_op rfl (o_val (v := .int .i64 (cmp3 x.Key y.Key)) (d := 4) rfl rfl (ex_assign rfl) ?_)
  refine Rg_end ?_
  refine V_ret rfl (end0 (v := .int .i64 (cmp3 x.Key y.Key)) rfl (res_tmp Try.results43 rfl) ?_)
  exact ⟨rfl, H.below⟩

theorem ones64_c (x : Int) (w0 : World) :
    Calls Try.prog 113 #[.int .u64 x] w0 fun e w' => ∃ v, e = .returned v ∧ (v = .int .i64 (ones x) ∧ Below w0.heap.size w0 w') := by
  refine calls_of (n := 35) (l := [.int .u64 x]) Try.func113 rfl rfl rfl ?_
  have H := Hp.start w0
  refine V_seq rfl ?_
  refine V_region rfl ?_
  refine Rg_op rfl (o_val (v := .int .i64 0) (d := 2) rfl rfl (ex_assign rfl) ?_)
  refine Rg_end ?_
  refine V_cut rfl (fun σ w => σ 0 = .int .u64 (ones1 x) ∧ σ 2 = .int .i64 0 ∧ σ 1000000 = undef ∧ Hp w0.heap.size w0 w []) ?_ (fun σ w hI => ?_)
  · skip
    refine V_region rfl ?_
    refine Rg_op rfl (o_val (v := .int .u64 x) (d := 3) rfl rfl (ex_move rfl) ?_)
    refine Rg_op rfl (o_val (v := .int .u64 (Int.fdiv x (2 ^ min 1 IntKind.u64.bits))) (d := 4) rfl rfl (ex_shr (j := 1) rfl rfl) ?_)
    refine Rg_op rfl (o_val (v := .int .u64 (bAnd .u64 (Int.fdiv x (2 ^ min 1 IntKind.u64.bits)) 6148914691236517205)) (d := 5) rfl rfl (ex_and rfl rfl) ?_)
    refine Rg_op rfl (o_val (v := .int .u64 x) (d := 6) rfl rfl (ex_move rfl) ?_)
    refine Rg_op rfl (o_val (v := .int .u64 (bAnd .u64 x 6148914691236517205)) (d := 7) rfl rfl (ex_and rfl rfl) ?_)
    refine Rg_op rfl (o_val (v := .int .u64 (IntKind.u64.wrap ((bAnd .u64 (Int.fdiv x (2 ^ min 1 IntKind.u64.bits)) 6148914691236517205) + (bAnd .u64 x 6148914691236517205)))) (d := 8) rfl rfl (ex_addk rfl rfl) ?_)
    refine Rg_op rfl (o_val (v := .int .u64 (IntKind.u64.wrap ((bAnd .u64 (Int.fdiv x (2 ^ min 1 IntKind.u64.bits)) 6148914691236517205) + (bAnd .u64 x 6148914691236517205)))) (d := 0) rfl rfl (ex_assign rfl) ?_)
    refine Rg_end ?_
    exact ⟨rfl, rfl, rfl, H⟩
  obtain ⟨s0, s2, s1000000, H⟩ := hI
  refine V_cut rfl (fun σ w => σ 0 = .int .u64 (ones2 (ones1 x)) ∧ σ 2 = .int .i64 0 ∧ σ 1000000 = undef ∧ Hp w0.heap.size w0 w []) ?_ (fun σ w hI => ?_)
  · skip
    refine V_region rfl ?_
    refine Rg_op rfl (o_val (v := .int .u64 (ones1 x)) (d := 9) rfl rfl (ex_move s0) ?_)
    refine Rg_op rfl (o_val (v := .int .u64 (Int.fdiv (ones1 x) (2 ^ min 2 IntKind.u64.bits))) (d := 10) rfl rfl (ex_shr (j := 2) rfl rfl) ?_)
    refine Rg_op rfl (o_val (v := .int .u64 (bAnd .u64 (Int.fdiv (ones1 x) (2 ^ min 2 IntKind.u64.bits)) 3689348814741910323)) (d := 11) rfl rfl (ex_and rfl rfl) ?_)
    refine Rg_op rfl (o_val (v := .int .u64 (ones1 x)) (d := 12) rfl rfl (ex_move s0) ?_)
    refine Rg_op rfl (o_val (v := .int .u64 (bAnd .u64 (ones1 x) 3689348814741910323)) (d := 13) rfl rfl (ex_and rfl rfl) ?_)
    refine Rg_op rfl (o_val (v := .int .u64 (IntKind.u64.wrap ((bAnd .u64 (Int.fdiv (ones1 x) (2 ^ min 2 IntKind.u64.bits)) 3689348814741910323) + (bAnd .u64 (ones1 x) 3689348814741910323)))) (d := 14) rfl rfl (ex_addk rfl rfl) ?_)
    refine Rg_op rfl (o_val (v := .int .u64 (IntKind.u64.wrap ((bAnd .u64 (Int.fdiv (ones1 x) (2 ^ min 2 IntKind.u64.bits)) 3689348814741910323) + (bAnd .u64 (ones1 x) 3689348814741910323)))) (d := 0) rfl rfl (ex_assign rfl) ?_)
    refine Rg_end ?_
    exact ⟨rfl, s2, s1000000, H⟩
  obtain ⟨s0, s2, s1000000, H⟩ := hI
  refine V_cut rfl (fun σ w => σ 0 = .int .u64 (ones3 (ones2 (ones1 x))) ∧ σ 2 = .int .i64 0 ∧ σ 1000000 = undef ∧ Hp w0.heap.size w0 w []) ?_ (fun σ w hI => ?_)
  · skip
    refine V_region rfl ?_
    refine Rg_op rfl (o_val (v := .int .u64 (ones2 (ones1 x))) (d := 15) rfl rfl (ex_move s0) ?_)
    refine Rg_op rfl (o_val (v := .int .u64 (Int.fdiv (ones2 (ones1 x)) (2 ^ min 4 IntKind.u64.bits))) (d := 16) rfl rfl (ex_shr (j := 4) rfl rfl) ?_)
    refine Rg_op rfl (o_val (v := .int .u64 (ones2 (ones1 x))) (d := 17) rfl rfl (ex_move s0) ?_)
    refine Rg_op rfl (o_val (v := .int .u64 (IntKind.u64.wrap ((Int.fdiv (ones2 (ones1 x)) (2 ^ min 4 IntKind.u64.bits)) + (ones2 (ones1 x))))) (d := 18) rfl rfl (ex_addk rfl rfl) ?_)
    refine Rg_op rfl (o_val (v := .int .u64 (bAnd .u64 (IntKind.u64.wrap ((Int.fdiv (ones2 (ones1 x)) (2 ^ min 4 IntKind.u64.bits)) + (ones2 (ones1 x)))) 1085102592571150095)) (d := 19) rfl rfl (ex_and rfl rfl) ?_)
    refine Rg_op rfl (o_val (v := .int .u64 (bAnd .u64 (IntKind.u64.wrap ((Int.fdiv (ones2 (ones1 x)) (2 ^ min 4 IntKind.u64.bits)) + (ones2 (ones1 x)))) 1085102592571150095)) (d := 0) rfl rfl (ex_assign rfl) ?_)
    refine Rg_end ?_
    exact ⟨rfl, s2, s1000000, H⟩
  obtain ⟨s0, s2, s1000000, H⟩ := hI
  refine V_cut rfl (fun σ w => σ 0 = .int .u64 (ones4 8 (ones3 (ones2 (ones1 x)))) ∧ σ 2 = .int .i64 0 ∧ σ 1000000 = undef ∧ Hp w0.heap.size w0 w []) ?_ (fun σ w hI => ?_)
  · skip
    refine V_region rfl ?_
    refine Rg_op rfl (o_val (v := .int .u64 (ones3 (ones2 (ones1 x)))) (d := 20) rfl rfl (ex_move s0) ?_)
    refine Rg_op rfl (o_val (v := .int .u64 (ones3 (ones2 (ones1 x)))) (d := 21) rfl rfl (ex_move s0) ?_)
    refine Rg_op rfl (o_val (v := .int .u64 (Int.fdiv (ones3 (ones2 (ones1 x))) (2 ^ min 8 IntKind.u64.bits))) (d := 22) rfl rfl (ex_shr (j := 8) rfl rfl) ?_)
    refine Rg_op rfl (o_val (v := .int .u64 (IntKind.u64.wrap ((ones3 (ones2 (ones1 x))) + (Int.fdiv (ones3 (ones2 (ones1 x))) (2 ^ min 8 IntKind.u64.bits))))) (d := 23) rfl rfl (ex_addk rfl rfl) ?_)
    refine Rg_op rfl (o_val (v := .int .u64 (IntKind.u64.wrap ((ones3 (ones2 (ones1 x))) + (Int.fdiv (ones3 (ones2 (ones1 x))) (2 ^ min 8 IntKind.u64.bits))))) (d := 0) rfl rfl (ex_assign rfl) ?_)
    refine Rg_end ?_
    exact ⟨rfl, s2, s1000000, H⟩
  obtain ⟨s0, s2, s1000000, H⟩ := hI
  refine V_cut rfl (fun σ w => σ 0 = .int .u64 (ones4 16 (ones4 8 (ones3 (ones2 (ones1 x))))) ∧ σ 2 = .int .i64 0 ∧ σ 1000000 = undef ∧ Hp w0.heap.size w0 w []) ?_ (fun σ w hI => ?_)
  · skip
    refine V_region rfl ?_
    refine Rg_op rfl (o_val (v := .int .u64 (ones4 8 (ones3 (ones2 (ones1 x))))) (d := 24) rfl rfl (ex_move s0) ?_)
    refine Rg_op rfl (o_val (v := .int .u64 (ones4 8 (ones3 (ones2 (ones1 x))))) (d := 25) rfl rfl (ex_move s0) ?_)
    refine Rg_op rfl (o_val (v := .int .u64 (Int.fdiv (ones4 8 (ones3 (ones2 (ones1 x)))) (2 ^ min 16 IntKind.u64.bits))) (d := 26) rfl rfl (ex_shr (j := 16) rfl rfl) ?_)
    refine Rg_op rfl (o_val (v := .int .u64 (IntKind.u64.wrap ((ones4 8 (ones3 (ones2 (ones1 x)))) + (Int.fdiv (ones4 8 (ones3 (ones2 (ones1 x)))) (2 ^ min 16 IntKind.u64.bits))))) (d := 27) rfl rfl (ex_addk rfl rfl) ?_)
    refine Rg_op rfl (o_val (v := .int .u64 (IntKind.u64.wrap ((ones4 8 (ones3 (ones2 (ones1 x)))) + (Int.fdiv (ones4 8 (ones3 (ones2 (ones1 x)))) (2 ^ min 16 IntKind.u64.bits))))) (d := 0) rfl rfl (ex_assign rfl) ?_)
    refine Rg_end ?_
    exact ⟨rfl, s2, s1000000, H⟩
  obtain ⟨s0, s2, s1000000, H⟩ := hI
  refine V_cut rfl (fun σ w => σ 0 = .int .u64 (ones4 32 (ones4 16 (ones4 8 (ones3 (ones2 (ones1 x)))))) ∧ σ 2 = .int .i64 0 ∧ σ 1000000 = undef ∧ Hp w0.heap.size w0 w []) ?_ (fun σ w hI => ?_)
  · skip
    refine V_region rfl ?_
    refine Rg_op rfl (o_val (v := .int .u64 (ones4 16 (ones4 8 (ones3 (ones2 (ones1 x)))))) (d := 28) rfl rfl (ex_move s0) ?_)
    refine Rg_op rfl (o_val (v := .int .u64 (ones4 16 (ones4 8 (ones3 (ones2 (ones1 x)))))) (d := 29) rfl rfl (ex_move s0) ?_)
    refine Rg_op rfl (o_val (v := .int .u64 (Int.fdiv (ones4 16 (ones4 8 (ones3 (ones2 (ones1 x))))) (2 ^ min 32 IntKind.u64.bits))) (d := 30) rfl rfl (ex_shr (j := 32) rfl rfl) ?_)
    refine Rg_op rfl (o_val (v := .int .u64 (IntKind.u64.wrap ((ones4 16 (ones4 8 (ones3 (ones2 (ones1 x))))) + (Int.fdiv (ones4 16 (ones4 8 (ones3 (ones2 (ones1 x))))) (2 ^ min 32 IntKind.u64.bits))))) (d := 31) rfl rfl (ex_addk rfl rfl) ?_)
    refine Rg_op rfl (o_val (v := .int .u64 (IntKind.u64.wrap ((ones4 16 (ones4 8 (ones3 (ones2 (ones1 x))))) + (Int.fdiv (ones4 16 (ones4 8 (ones3 (ones2 (ones1 x))))) (2 ^ min 32 IntKind.u64.bits))))) (d := 0) rfl rfl (ex_assign rfl) ?_)
    refine Rg_end ?_
    exact ⟨rfl, s2, s1000000, H⟩
  obtain ⟨s0, s2, s1000000, H⟩ := hI
  refine V_seq rfl ?_
  refine V_region rfl ?_
  refine Rg_op rfl (o_val (v := .int .u64 (ones4 32 (ones4 16 (ones4 8 (ones3 (ones2 (ones1 x))))))) (d := 32) rfl rfl (ex_move s0) ?_)
  refine Rg_op rfl (o_val (v := .int .i64 (IntKind.i64.wrap (ones4 32 (ones4 16 (ones4 8 (ones3 (ones2 (ones1 x)))))))) (d := 33) rfl rfl (ex_conv Try.underlying198 Try.underlying3 rfl) ?_)
  refine Rg_op rfl (o_val (v := .int .i64 (bAnd .i64 (IntKind.i64.wrap (ones4 32 (ones4 16 (ones4 8 (ones3 (ones2 (ones1 x))))))) 127)) (d := 34) rfl rfl (ex_and rfl rfl) ?_)
  refine Rg_op rfl (o_val (v := .int .i64 (bAnd .i64 (IntKind.i64.wrap (ones4 32 (ones4 16 (ones4 8 (ones3 (ones2 (ones1 x))))))) 127)) (d := 2) rfl rfl (ex_assign rfl) ?_)
  refine Rg_end ?_
  refine V_ret rfl (end0 (v := .int .i64 (bAnd .i64 (IntKind.i64.wrap (ones4 32 (ones4 16 (ones4 8 (ones3 (ones2 (ones1 x))))))) 127)) s1000000 (res_tmp Try.results113 rfl) ?_)
  exact ⟨rfl, H.below⟩

theorem ones_c (x : Int) (w0 : World) :
    Calls Try.prog 106 #[.int .u64 x] w0 fun e w' => ∃ v, e = .returned v ∧ (v = .int .i64 (ones x) ∧ Below w0.heap.size w0 w') := by
  refine calls_of (n := 8) (l := [.int .u64 x]) Try.func106 rfl rfl rfl ?_
  have H := Hp.start w0
  refine V_seq rfl ?_
  refine V_region rfl ?_
  refine Rg_op rfl (o_val (v := .int .i64 0) (d := 2) rfl rfl (ex_assign rfl) ?_)
  refine Rg_end ?_
  refine V_seq rfl ?_
  refine V_false rfl rfl ?_
  refine V_skip rfl ?_
  refine V_seq rfl ?_
  refine V_region rfl ?_
  refine Rg_op rfl (o_val (v := .int .u64 x) (d := 6) rfl rfl (ex_move rfl) ?_)
  refine Rg_op rfl (o_call (fv := []) (cap := []) (vs := [.int .u64 x]) rfl rfl cl113 rfl (ones64_c x _) fun v w1 hS => ?_)
  obtain ⟨rfl, hB⟩ := hS
  have H := H.keep hB
  refine Rg_op rfl (o_val (v := .int .i64 (ones x)) (d := 2) rfl rfl (ex_assign rfl) ?_)
  refine Rg_end ?_
  refine V_ret rfl (end0 (v := .int .i64 (ones x)) rfl (res_tmp Try.results106 rfl) ?_)
  exact ⟨rfl, H.below⟩

theorem join_c (x y : Entry) (w0 : World) :
    Calls Try.prog 82 #[.agg #[.int .i64 x.Key, .int .i64 x.Mask, .int .i64 x.Outs], .agg #[.int .i64 y.Key, .int .i64 y.Mask, .int .i64 y.Outs]] w0 fun e w' => ∃ v, e = .returned v ∧ (v = .tuple #[.agg #[.int .i64 ((joinE x y).Key), .int .i64 ((joinE x y).Mask), .int .i64 ((joinE x y).Outs)], .bool (canJoin x y)] ∧ Below w0.heap.size w0 w') := by
  refine calls_of (n := 42) (l := [.agg #[.int .i64 x.Key, .int .i64 x.Mask, .int .i64 x.Outs], .agg #[.int .i64 y.Key, .int .i64 y.Mask, .int .i64 y.Outs]]) Try.func82 rfl rfl rfl ?_
  have H := Hp.start w0
  refine V_seq rfl ?_
  refine V_region rfl ?_
  refine Rg_op rfl (o_box (v := .agg #[.int .i64 x.Key, .int .i64 x.Mask, .int .i64 x.Outs]) rfl rfl H fun b1 w2 hA H => ?_)
  refine Rg_op rfl (o_box (v := .agg #[.int .i64 y.Key, .int .i64 y.Mask, .int .i64 y.Outs]) rfl rfl H fun b3 w4 hA H => ?_)
  refine Rg_op rfl (o_alloc rfl tz113 H fun b5 w6 hA H => ?_)
  refine Rg_op rfl (o_val (v := .bool false) (d := 5) rfl rfl (ex_assign rfl) ?_)
  refine Rg_end ?_
  refine V_seq rfl ?_
  refine V_region rfl ?_
  refine Rg_op rfl (o_val (v := .pointer (some ⟨b1, 0, none⟩)) (d := 7) rfl rfl (ex_fieldAddr fo113_0 rfl rfl) ?_)
  refine Rg_op rfl (o_val (v := .int .i64 x.Key) (d := 8) rfl rfl (ex_load ca3 rfl (cell_of (H.rd 2 rfl))) ?_)
  refine Rg_op rfl (o_val (v := .pointer (some ⟨b3, 0, none⟩)) (d := 9) rfl rfl (ex_fieldAddr fo113_0 rfl rfl) ?_)
  refine Rg_op rfl (o_val (v := .int .i64 y.Key) (d := 10) rfl rfl (ex_load ca3 rfl (cell_of (H.rd 1 rfl))) ?_)
  refine Rg_op rfl (o_val (v := .int .i64 (bXor .i64 x.Key y.Key)) (d := 11) rfl rfl (ex_xor rfl rfl) ?_)
  refine Rg_op rfl (o_val (v := .int .i64 (bXor .i64 x.Key y.Key)) (d := 6) rfl rfl (ex_assign rfl) ?_)
  refine Rg_end ?_
  refine V_seq rfl ?_
  refine V_seq rfl ?_
  refine V_region rfl ?_
  refine Rg_op rfl (o_val (v := .pointer (some ⟨b1, 1, none⟩)) (d := 12) rfl rfl (ex_fieldAddr fo113_1 rfl rfl) ?_)
  refine Rg_op rfl (o_val (v := .int .i64 x.Mask) (d := 13) rfl rfl (ex_load ca3 rfl (cell_of (H.rd 2 rfl))) ?_)
  refine Rg_op rfl (o_val (v := .pointer (some ⟨b3, 1, none⟩)) (d := 14) rfl rfl (ex_fieldAddr fo113_1 rfl rfl) ?_)
  refine Rg_op rfl (o_val (v := .int .i64 y.Mask) (d := 15) rfl rfl (ex_load ca3 rfl (cell_of (H.rd 1 rfl))) ?_)
  refine Rg_op rfl (o_val (v := .bool (decide (x.Mask ≠ y.Mask))) (d := 16) rfl rfl (ex_neq rfl rfl) ?_)
  refine Rg_op rfl (o_val (v := .bool (decide (x.Mask ≠ y.Mask))) (d := 17) rfl rfl (ex_move rfl) ?_)
  by_cases hg7 : x.Mask ≠ y.Mask
  · skip
    refine Rg_op rfl (o_skip (d := 18) rfl rfl (wanted_no (b := (decide (x.Mask ≠ y.Mask))) rfl rfl rfl (decide_eq_true hg7)) ?_)
    refine Rg_op rfl (o_skip (d := 19) rfl rfl (wanted_no (b := (decide (x.Mask ≠ y.Mask))) rfl rfl rfl (decide_eq_true hg7)) ?_)
    refine Rg_op rfl (o_skip (d := 20) rfl rfl (wanted_no (b := (decide (x.Mask ≠ y.Mask))) rfl rfl rfl (decide_eq_true hg7)) ?_)
    refine Rg_op rfl (o_skip (d := 21) rfl rfl (wanted_no (b := (decide (x.Mask ≠ y.Mask))) rfl rfl rfl (decide_eq_true hg7)) ?_)
    refine Rg_op rfl (o_skip (d := 22) rfl rfl (wanted_no (b := (decide (x.Mask ≠ y.Mask))) rfl rfl rfl (decide_eq_true hg7)) ?_)
    refine Rg_op rfl (o_val (v := .bool true) (d := 23) rfl rfl (ex_pick (q := (decide (x.Mask ≠ y.Mask))) rfl (fun h => rfl) (fun h => absurd hg7 (of_decide_eq_false h))) ?_)
    refine Rg_op rfl (o_val (v := .bool true) (d := 24) rfl rfl (ex_move rfl) ?_)
    refine Rg_op rfl (o_skip (d := 25) rfl rfl (wanted_no (b := true) rfl rfl rfl rfl) ?_)
    refine Rg_op rfl (o_skip (d := 26) rfl rfl (wanted_no (b := true) rfl rfl rfl rfl) ?_)
    refine Rg_op rfl (o_skip (d := 27) rfl rfl (wanted_no (b := true) rfl rfl rfl rfl) ?_)
    refine Rg_op rfl (o_skip (d := 28) rfl rfl (wanted_no (b := true) rfl rfl rfl rfl) ?_)
    refine Rg_op rfl (o_val (v := .bool true) (d := 29) rfl rfl (ex_pick (q := true) rfl (fun h => rfl) (fun h => by cases h)) ?_)
    refine Rg_end ?_
    refine V_true rfl rfl ?_
    refine V_seq rfl ?_
    refine V_region rfl ?_
    refine Rg_op rfl (o_val (v := .agg #[.int .i64 0, .int .i64 0, .int .i64 0]) (d := 30) rfl rfl (ex_eq (by kernel_rfl)) ?_)
    refine Rg_op rfl (o_store (vs := [.int .i64 0, .int .i64 0, .int .i64 0]) rfl ts113 rfl rfl rfl rfl 0 rfl rfl rfl rfl H fun w8 hA H => ?_)
    refine Rg_op rfl (o_val (v := .bool false) (d := 5) rfl rfl (ex_assign rfl) ?_)
    refine Rg_end ?_
    refine V_ret rfl (end0 (v := .tuple #[.agg #[.int .i64 0, .int .i64 0, .int .i64 0], .bool false]) rfl (res_ct Try.results82 rfl (load_blk (vs := [.int .i64 0, .int .i64 0, .int .i64 0]) ca113 (H.rd 0 rfl) rfl rfl) rfl) ?_)
    obtain ⟨e1, e2⟩ := join_no (x := x) (y := y) (by first | exact .inl (by assumption) | exact .inr (.inl (by assumption)) | exact .inr (.inr (by assumption)))
    exact ⟨by rw [e1, e2], H.below⟩
  · skip
    refine Rg_op rfl (o_valg (v := .pointer (some ⟨b1, 2, none⟩)) (d := 18) rfl rfl (wanted_yes (b := (decide (x.Mask ≠ y.Mask))) rfl rfl rfl (decide_eq_false hg7)) (ex_fieldAddr fo113_2 rfl rfl) ?_)
    refine Rg_op rfl (o_valg (v := .int .i64 x.Outs) (d := 19) rfl rfl (wanted_yes (b := (decide (x.Mask ≠ y.Mask))) rfl rfl rfl (decide_eq_false hg7)) (ex_load ca3 rfl (cell_of (H.rd 2 rfl))) ?_)
    refine Rg_op rfl (o_valg (v := .pointer (some ⟨b3, 2, none⟩)) (d := 20) rfl rfl (wanted_yes (b := (decide (x.Mask ≠ y.Mask))) rfl rfl rfl (decide_eq_false hg7)) (ex_fieldAddr fo113_2 rfl rfl) ?_)
    refine Rg_op rfl (o_valg (v := .int .i64 y.Outs) (d := 21) rfl rfl (wanted_yes (b := (decide (x.Mask ≠ y.Mask))) rfl rfl rfl (decide_eq_false hg7)) (ex_load ca3 rfl (cell_of (H.rd 1 rfl))) ?_)
    refine Rg_op rfl (o_valg (v := .bool (decide (x.Outs ≠ y.Outs))) (d := 22) rfl rfl (wanted_yes (b := (decide (x.Mask ≠ y.Mask))) rfl rfl rfl (decide_eq_false hg7)) (ex_neq rfl rfl) ?_)
    refine Rg_op rfl (o_val (v := .bool (decide (x.Outs ≠ y.Outs))) (d := 23) rfl rfl (ex_pick (q := (decide (x.Mask ≠ y.Mask))) rfl (fun h => absurd (of_decide_eq_true h) hg7) (fun h => rfl)) ?_)
    refine Rg_op rfl (o_val (v := .bool (decide (x.Outs ≠ y.Outs))) (d := 24) rfl rfl (ex_move rfl) ?_)
    by_cases hg9 : x.Outs ≠ y.Outs
    · skip
      refine Rg_op rfl (o_skip (d := 25) rfl rfl (wanted_no (b := (decide (x.Outs ≠ y.Outs))) rfl rfl rfl (decide_eq_true hg9)) ?_)
      refine Rg_op rfl (o_skip (d := 26) rfl rfl (wanted_no (b := (decide (x.Outs ≠ y.Outs))) rfl rfl rfl (decide_eq_true hg9)) ?_)
      refine Rg_op rfl (o_skip (d := 27) rfl rfl (wanted_no (b := (decide (x.Outs ≠ y.Outs))) rfl rfl rfl (decide_eq_true hg9)) ?_)
      refine Rg_op rfl (o_skip (d := 28) rfl rfl (wanted_no (b := (decide (x.Outs ≠ y.Outs))) rfl rfl rfl (decide_eq_true hg9)) ?_)
      refine Rg_op rfl (o_val (v := .bool true) (d := 29) rfl rfl (ex_pick (q := (decide (x.Outs ≠ y.Outs))) rfl (fun h => rfl) (fun h => absurd hg9 (of_decide_eq_false h))) ?_)
      refine Rg_end ?_
      refine V_true rfl rfl ?_
      refine V_seq rfl ?_
      refine V_region rfl ?_
      refine Rg_op rfl (o_val (v := .agg #[.int .i64 0, .int .i64 0, .int .i64 0]) (d := 30) rfl rfl (ex_eq (by kernel_rfl)) ?_)
      refine Rg_op rfl (o_store (vs := [.int .i64 0, .int .i64 0, .int .i64 0]) rfl ts113 rfl rfl rfl rfl 0 rfl rfl rfl rfl H fun w10 hA H => ?_)
      refine Rg_op rfl (o_val (v := .bool false) (d := 5) rfl rfl (ex_assign rfl) ?_)
      refine Rg_end ?_
      refine V_ret rfl (end0 (v := .tuple #[.agg #[.int .i64 0, .int .i64 0, .int .i64 0], .bool false]) rfl (res_ct Try.results82 rfl (load_blk (vs := [.int .i64 0, .int .i64 0, .int .i64 0]) ca113 (H.rd 0 rfl) rfl rfl) rfl) ?_)
      obtain ⟨e1, e2⟩ := join_no (x := x) (y := y) (by first | exact .inl (by assumption) | exact .inr (.inl (by assumption)) | exact .inr (.inr (by assumption)))
      exact ⟨by rw [e1, e2], H.below⟩
    · skip
      refine Rg_op rfl (o_valg (v := .int .i64 (bXor .i64 x.Key y.Key)) (d := 25) rfl rfl (wanted_yes (b := (decide (x.Outs ≠ y.Outs))) rfl rfl rfl (decide_eq_false hg9)) (ex_move rfl) ?_)
      refine Rg_op rfl (o_valg (v := .int .u64 (IntKind.u64.wrap (bXor .i64 x.Key y.Key))) (d := 26) rfl rfl (wanted_yes (b := (decide (x.Outs ≠ y.Outs))) rfl rfl rfl (decide_eq_false hg9)) (ex_conv Try.underlying3 Try.underlying175 rfl) ?_)
      refine Rg_op rfl (o_g (wanted_yes (b := (decide (x.Outs ≠ y.Outs))) rfl rfl rfl (decide_eq_false hg9)) (o_call (fv := []) (cap := []) (vs := [.int .u64 (IntKind.u64.wrap (bXor .i64 x.Key y.Key))]) rfl rfl cl106 rfl (ones_c (IntKind.u64.wrap (bXor .i64 x.Key y.Key)) _) fun v w11 hS => ?_))
      obtain ⟨rfl, hB⟩ := hS
      have H := H.keep hB
      refine Rg_op rfl (o_valg (v := .bool (decide ((ones (IntKind.u64.wrap (bXor .i64 x.Key y.Key))) ≠ 1))) (d := 28) rfl rfl (wanted_yes (b := (decide (x.Outs ≠ y.Outs))) rfl rfl rfl (decide_eq_false hg9)) (ex_neq rfl rfl) ?_)
      refine Rg_op rfl (o_val (v := .bool (decide ((ones (IntKind.u64.wrap (bXor .i64 x.Key y.Key))) ≠ 1))) (d := 29) rfl rfl (ex_pick (q := (decide (x.Outs ≠ y.Outs))) rfl (fun h => absurd (of_decide_eq_true h) hg9) (fun h => rfl)) ?_)
      refine Rg_end ?_
      refine V_cond (b := (decide ((ones (IntKind.u64.wrap (bXor .i64 x.Key y.Key))) ≠ 1))) rfl rfl (fun hb12 => ?_) (fun hb12 => ?_)
      · have hb12 : (ones (IntKind.u64.wrap (bXor .i64 x.Key y.Key))) ≠ 1 := of_decide_eq_true hb12
        refine V_seq rfl ?_
        refine V_region rfl ?_
        refine Rg_op rfl (o_val (v := .agg #[.int .i64 0, .int .i64 0, .int .i64 0]) (d := 30) rfl rfl (ex_eq (by kernel_rfl)) ?_)
        refine Rg_op rfl (o_store (vs := [.int .i64 0, .int .i64 0, .int .i64 0]) rfl ts113 rfl rfl rfl rfl 0 rfl rfl rfl rfl H fun w13 hA H => ?_)
        refine Rg_op rfl (o_val (v := .bool false) (d := 5) rfl rfl (ex_assign rfl) ?_)
        refine Rg_end ?_
        refine V_ret rfl (end0 (v := .tuple #[.agg #[.int .i64 0, .int .i64 0, .int .i64 0], .bool false]) rfl (res_ct Try.results82 rfl (load_blk (vs := [.int .i64 0, .int .i64 0, .int .i64 0]) ca113 (H.rd 0 rfl) rfl rfl) rfl) ?_)
        obtain ⟨e1, e2⟩ := join_no (x := x) (y := y) (by first | exact .inl (by assumption) | exact .inr (.inl (by assumption)) | exact .inr (.inr (by assumption)))
        exact ⟨by rw [e1, e2], H.below⟩
      · have hb12 : ¬ ((ones (IntKind.u64.wrap (bXor .i64 x.Key y.Key))) ≠ 1) := of_decide_eq_false hb12
        refine V_skip rfl ?_
        refine V_seq rfl ?_
        refine V_region rfl ?_
        refine Rg_op rfl (o_val (v := .pointer (some ⟨b1, 0, none⟩)) (d := 31) rfl rfl (ex_fieldAddr fo113_0 rfl rfl) ?_)
        refine Rg_op rfl (o_val (v := .int .i64 x.Key) (d := 32) rfl rfl (ex_load ca3 rfl (cell_of (H.rd 2 rfl))) ?_)
        refine Rg_op rfl (o_val (v := .int .i64 (bXor .i64 x.Key y.Key)) (d := 33) rfl rfl (ex_move rfl) ?_)
        refine Rg_op rfl (o_val (v := .int .i64 (bAndNot .i64 x.Key (bXor .i64 x.Key y.Key))) (d := 34) rfl rfl (ex_andNot rfl rfl) ?_)
        refine Rg_op rfl (o_val (v := .pointer (some ⟨b1, 1, none⟩)) (d := 35) rfl rfl (ex_fieldAddr fo113_1 rfl rfl) ?_)
        refine Rg_op rfl (o_val (v := .int .i64 x.Mask) (d := 36) rfl rfl (ex_load ca3 rfl (cell_of (H.rd 2 rfl))) ?_)
        refine Rg_op rfl (o_val (v := .int .i64 (bXor .i64 x.Key y.Key)) (d := 37) rfl rfl (ex_move rfl) ?_)
        refine Rg_op rfl (o_val (v := .int .i64 (bAndNot .i64 x.Mask (bXor .i64 x.Key y.Key))) (d := 38) rfl rfl (ex_andNot rfl rfl) ?_)
        refine Rg_op rfl (o_val (v := .pointer (some ⟨b1, 2, none⟩)) (d := 39) rfl rfl (ex_fieldAddr fo113_2 rfl rfl) ?_)
        refine Rg_op rfl (o_val (v := .int .i64 x.Outs) (d := 40) rfl rfl (ex_load ca3 rfl (cell_of (H.rd 2 rfl))) ?_)
        refine Rg_op rfl (o_val (v := .agg #[.int .i64 (bAndNot .i64 x.Key (bXor .i64 x.Key y.Key)), .int .i64 (bAndNot .i64 x.Mask (bXor .i64 x.Key y.Key)), .int .i64 x.Outs]) (d := 41) rfl rfl (ex_eq (by kernel_rfl)) ?_)
        refine Rg_op rfl (o_store (vs := [.int .i64 (bAndNot .i64 x.Key (bXor .i64 x.Key y.Key)), .int .i64 (bAndNot .i64 x.Mask (bXor .i64 x.Key y.Key)), .int .i64 x.Outs]) rfl ts113 rfl rfl rfl rfl 0 rfl rfl rfl rfl H fun w14 hA H => ?_)
        refine Rg_op rfl (o_val (v := .bool true) (d := 5) rfl rfl (ex_assign rfl) ?_)
        refine Rg_end ?_
        refine V_ret rfl (end0 (v := .tuple #[.agg #[.int .i64 (bAndNot .i64 x.Key (bXor .i64 x.Key y.Key)), .int .i64 (bAndNot .i64 x.Mask (bXor .i64 x.Key y.Key)), .int .i64 x.Outs], .bool true]) rfl (res_ct Try.results82 rfl (load_blk (vs := [.int .i64 (bAndNot .i64 x.Key (bXor .i64 x.Key y.Key)), .int .i64 (bAndNot .i64 x.Mask (bXor .i64 x.Key y.Key)), .int .i64 x.Outs]) ca113 (H.rd 0 rfl) rfl rfl) rfl) ?_)
        obtain ⟨e1, e2⟩ := join_yes (x := x) (y := y) (by assumption) (by assumption) (by assumption)
        exact ⟨by rw [e1, e2]; rfl, H.below⟩

end Go.Proofs.Ytlnogaoihkinbaa
namespace Go.Proofs.Ytlnogaoihkinbaa
open Go.Gk Go.RowKit
theorem cl49 : callable Try.prog 49 = true := by kernel_rfl
theorem cl57 : callable Try.prog 57 = true := by kernel_rfl
theorem cl58 : callable Try.prog 58 = true := by kernel_rfl
theorem cl81 : callable Try.prog 81 = true := by kernel_rfl
theorem sl41 : sliceT Try.prog 41 = some ⟨113, 3, 24, .agg #[.int .i64 0, .int .i64 0, .int .i64 0]⟩ := by kernel_rfl
theorem sl42 : sliceT Try.prog 42 = some ⟨116, 3, 24, .agg #[.int .i64 0, .int .i64 0, .int .i64 0]⟩ := by kernel_rfl
theorem numbers_c (A : Option Addr) (c : Nat) (xs : List Int) (A2 : Option Addr) (c2 : Nat) (ys : List Int) (w0 : World) (hX : Row kInt w0.cell? A xs) (hY : Row kInt w0.cell? A2 ys) (hl : xs.length ≤ 9223372036854775807) :
    Calls Try.prog 34 #[.slice A xs.length c, .slice A2 ys.length c2] w0 fun e w' => ∃ v, e = .returned v ∧ (v = .bool (decide (xs = ys)) ∧ Below w0.heap.size w0 w') := by
  refine calls_of (n := 26) (l := [.slice A xs.length c, .slice A2 ys.length c2]) Try.func34 rfl rfl rfl ?_
  have H := Hp.start w0
  refine V_seq rfl ?_
  refine V_region rfl ?_
  refine Rg_op rfl (o_val (v := .bool false) (d := 4) rfl rfl (ex_assign rfl) ?_)
  refine Rg_end ?_
  refine V_seq rfl ?_
  refine V_seq rfl ?_
  refine V_region rfl ?_
  refine Rg_op rfl (o_val (v := .slice A xs.length c) (d := 6) rfl rfl (ex_move rfl) ?_)
  refine Rg_op rfl (o_val (v := .int .i64 ((xs.length : Nat) : Int)) (d := 7) rfl rfl (ex_len (ts := #[]) sl26 rfl) ?_)
  refine Rg_op rfl (o_val (v := .slice A2 ys.length c2) (d := 8) rfl rfl (ex_move rfl) ?_)
  refine Rg_op rfl (o_val (v := .int .i64 ((ys.length : Nat) : Int)) (d := 9) rfl rfl (ex_len (ts := #[]) sl26 rfl) ?_)
  refine Rg_op rfl (o_val (v := .bool (decide (((xs.length : Nat) : Int) ≠ ((ys.length : Nat) : Int)))) (d := 10) rfl rfl (ex_neq rfl rfl) ?_)
  refine Rg_end ?_
  refine V_cond (b := (decide (((xs.length : Nat) : Int) ≠ ((ys.length : Nat) : Int)))) rfl rfl (fun hb1 => ?_) (fun hb1 => ?_)
  · have hb1 : ((xs.length : Nat) : Int) ≠ ((ys.length : Nat) : Int) := of_decide_eq_true hb1
    refine V_seq rfl ?_
    refine V_region rfl ?_
    refine Rg_op rfl (o_val (v := .bool false) (d := 4) rfl rfl (ex_assign rfl) ?_)
    refine Rg_end ?_
    refine V_ret rfl (end0 (v := .bool false) rfl (res_tmp Try.results34 rfl) ?_)
    exact ⟨by rw [decide_eq_false (fun e => by have := congrArg List.length e; omega)], H.below⟩
  · have hb1 : ¬ (((xs.length : Nat) : Int) ≠ ((ys.length : Nat) : Int)) := of_decide_eq_false hb1
    refine V_skip rfl ?_
    refine V_seq rfl ?_
    refine V_seq rfl ?_
    refine V_region rfl ?_
    refine Rg_op rfl (o_val (v := .int .i64 0) (d := 5) rfl rfl (ex_assign rfl) ?_)
    refine Rg_end ?_
    refine V_block rfl ?_
    refine V_loop rfl (γ := Nat) (fun k σ w => σ 0 = .slice A xs.length c ∧ σ 1 = .slice A2 ys.length c2 ∧ σ 4 = .bool false ∧ σ 5 = .int .i64 ((k : Nat) : Int) ∧ σ 1000000 = undef ∧ Hp w0.heap.size w0 w [] ∧ k ≤ xs.length ∧ (∀ j : Nat, j < k → xs[j]? = ys[j]?)) (fun k => xs.length - k) (0) ⟨rfl, rfl, rfl, rfl, rfl, H, by omega, fun j hj => absurd hj (by omega)⟩ (fun k σ w hI => ?_)
    obtain ⟨s0, s1, s4, s5, s1000000, H, hk, heq⟩ := hI
    refine V_seq rfl ?_
    refine V_seq rfl ?_
    refine V_region rfl ?_
    refine Rg_op rfl (o_val (v := .int .i64 ((k : Nat) : Int)) (d := 11) rfl rfl (ex_move s5) ?_)
    refine Rg_op rfl (o_val (v := .slice A xs.length c) (d := 12) rfl rfl (ex_move s0) ?_)
    refine Rg_op rfl (o_val (v := .int .i64 ((xs.length : Nat) : Int)) (d := 13) rfl rfl (ex_len (ts := #[]) sl26 rfl) ?_)
    refine Rg_op rfl (o_val (v := .bool (decide (((k : Nat) : Int) < ((xs.length : Nat) : Int)))) (d := 14) rfl rfl (ex_lss rfl rfl) ?_)
    refine Rg_end ?_
    refine V_cond (b := (decide (((k : Nat) : Int) < ((xs.length : Nat) : Int)))) rfl rfl (fun hb2 => ?_) (fun hb2 => ?_)
    · have hb2 : ((k : Nat) : Int) < ((xs.length : Nat) : Int) := of_decide_eq_true hb2
      refine V_skip rfl ?_
      refine V_seq rfl ?_
      refine V_block rfl ?_
      refine V_seq rfl ?_
      refine V_draw [0, 1, 2, 4, 5, 6, 8] (.p 0 (.p 1 (.p 2 (.q 3 (.p 4 (.p 5 (.p 6 (.q 7 (.p 8 .done))))))))) (fun _ => False) rfl mixed (by kernel_rfl) fun w3 hD => ?_
      have H := H.drew hD
      refine c_p (v := .slice A xs.length c) (d := 17) rfl rfl rfl (fun w' => ex_move s0) ?_
      refine c_p (v := .int .i64 ((k : Nat) : Int)) (d := 18) rfl rfl rfl (fun w' => ex_move s5) ?_
      obtain ⟨ad4, x4, cs4, hA4, hx4, hR4, hc4⟩ := Row.get hX ((k : Nat) : Int) (by omega) (by omega)
      obtain rfl := hR4
      refine c_p (v := .pointer (some (ad4.add ((((k : Nat) : Int)).toNat * 1)))) (d := 19) rfl rfl rfl (fun w' => ex_indexAddr sl26 rfl hA4 rfl (by omega) (by omega) rfl) ?_
      refine c_q (v := .int .i64 x4) (d := 20) rfl rfl rfl (fun w' hG => ex_load ca3 rfl (hG.cell (H.cell0 (hc4 0 _ rfl)) id)) ?_
      refine c_p (v := .slice A2 ys.length c2) (d := 21) rfl rfl rfl (fun w' => ex_move s1) ?_
      refine c_p (v := .int .i64 ((k : Nat) : Int)) (d := 22) rfl rfl rfl (fun w' => ex_move s5) ?_
      obtain ⟨ad5, x5, cs5, hA5, hx5, hR5, hc5⟩ := Row.get hY ((k : Nat) : Int) (by omega) (by omega)
      obtain rfl := hR5
      refine c_p (v := .pointer (some (ad5.add ((((k : Nat) : Int)).toNat * 1)))) (d := 23) rfl rfl rfl (fun w' => ex_indexAddr sl26 rfl hA5 rfl (by omega) (by omega) rfl) ?_
      refine c_q (v := .int .i64 x5) (d := 24) rfl rfl rfl (fun w' hG => ex_load ca3 rfl (hG.cell (H.cell0 (hc5 0 _ rfl)) id)) ?_
      refine c_p (v := .bool (decide (x4 ≠ x5))) (d := 25) rfl rfl rfl (fun w' => ex_neq rfl rfl) ?_
      refine c_done ?_
      refine V_cond (b := (decide (x4 ≠ x5))) rfl rfl (fun hb6 => ?_) (fun hb6 => ?_)
      · have hb6 : x4 ≠ x5 := of_decide_eq_true hb6
        refine V_seq rfl ?_
        refine V_region rfl ?_
        refine Rg_op rfl (o_val (v := .bool false) (d := 4) rfl rfl (ex_assign rfl) ?_)
        refine Rg_end ?_
        refine V_ret rfl (end0 (v := .bool false) s1000000 (res_tmp Try.results34 rfl) ?_)
        exact ⟨by rw [decide_eq_false]; intro e; rw [e, hx5] at hx4; injection hx4 with e; subst e; contradiction, H.below⟩
      · have hb6 : ¬ (x4 ≠ x5) := of_decide_eq_false hb6
        refine V_skip rfl ?_
        refine V_region rfl ?_
        refine Rg_op rfl (o_val (v := .int .i64 ((k : Nat) : Int)) (d := 15) rfl rfl (ex_move s5) ?_)
        refine Rg_op rfl (o_val (v := .int .i64 (((k : Nat) : Int) + 1)) (d := 16) rfl rfl (ex_add rfl rfl (by omega)) ?_)
        refine Rg_op rfl (o_val (v := .int .i64 (((k : Nat) : Int) + 1)) (d := 5) rfl rfl (ex_assign rfl) ?_)
        refine Rg_end ?_
        exact ⟨k + 1, ⟨s0, s1, s4, rfl, s1000000, H, by omega, agree_next heq hx4 hx5 (by omega)⟩, by omega⟩
    · have hb2 : ¬ (((k : Nat) : Int) < ((xs.length : Nat) : Int)) := of_decide_eq_false hb2
      refine V_exit rfl ?_
      refine V_seq rfl ?_
      refine V_region rfl ?_
      refine Rg_op rfl (o_val (v := .bool true) (d := 4) rfl rfl (ex_assign rfl) ?_)
      refine Rg_end ?_
      refine V_ret rfl (end0 (v := .bool true) s1000000 (res_tmp Try.results34 rfl) ?_)
      exact ⟨by rw [decide_eq_true (list_eq (by omega) fun j hj => heq j (by omega))], H.below⟩

theorem entries_c (A : Option Addr) (c : Nat) (xs : List Entry) (A2 : Option Addr) (c2 : Nat) (ys : List Entry) (w0 : World) (hX : Row kEnt w0.cell? A xs) (hY : Row kEnt w0.cell? A2 ys) (hl : xs.length ≤ 9223372036854775807) :
    Calls Try.prog 15 #[.slice A xs.length c, .slice A2 ys.length c2] w0 fun e w' => ∃ v, e = .returned v ∧ (v = .bool (decide (xs = ys)) ∧ Below w0.heap.size w0 w') := by
  refine calls_of (n := 54) (l := [.slice A xs.length c, .slice A2 ys.length c2]) Try.func15 rfl rfl rfl ?_
  have H := Hp.start w0
  refine V_seq rfl ?_
  refine V_region rfl ?_
  refine Rg_op rfl (o_val (v := .bool false) (d := 4) rfl rfl (ex_assign rfl) ?_)
  refine Rg_end ?_
  refine V_seq rfl ?_
  refine V_seq rfl ?_
  refine V_region rfl ?_
  refine Rg_op rfl (o_val (v := .slice A xs.length c) (d := 6) rfl rfl (ex_move rfl) ?_)
  refine Rg_op rfl (o_val (v := .int .i64 ((xs.length : Nat) : Int)) (d := 7) rfl rfl (ex_len (ts := #[]) sl41 rfl) ?_)
  refine Rg_op rfl (o_val (v := .slice A2 ys.length c2) (d := 8) rfl rfl (ex_move rfl) ?_)
  refine Rg_op rfl (o_val (v := .int .i64 ((ys.length : Nat) : Int)) (d := 9) rfl rfl (ex_len (ts := #[]) sl42 rfl) ?_)
  refine Rg_op rfl (o_val (v := .bool (decide (((xs.length : Nat) : Int) ≠ ((ys.length : Nat) : Int)))) (d := 10) rfl rfl (ex_neq rfl rfl) ?_)
  refine Rg_end ?_
  refine V_cond (b := (decide (((xs.length : Nat) : Int) ≠ ((ys.length : Nat) : Int)))) rfl rfl (fun hb1 => ?_) (fun hb1 => ?_)
  · have hb1 : ((xs.length : Nat) : Int) ≠ ((ys.length : Nat) : Int) := of_decide_eq_true hb1
    refine V_seq rfl ?_
    refine V_region rfl ?_
    refine Rg_op rfl (o_val (v := .bool false) (d := 4) rfl rfl (ex_assign rfl) ?_)
    refine Rg_end ?_
    refine V_ret rfl (end0 (v := .bool false) rfl (res_tmp Try.results15 rfl) ?_)
    exact ⟨by rw [decide_eq_false (fun e => by have := congrArg List.length e; omega)], H.below⟩
  · have hb1 : ¬ (((xs.length : Nat) : Int) ≠ ((ys.length : Nat) : Int)) := of_decide_eq_false hb1
    refine V_skip rfl ?_
    refine V_seq rfl ?_
    refine V_seq rfl ?_
    refine V_region rfl ?_
    refine Rg_op rfl (o_val (v := .int .i64 0) (d := 5) rfl rfl (ex_assign rfl) ?_)
    refine Rg_end ?_
    refine V_block rfl ?_
    refine V_loop rfl (γ := Nat) (fun k σ w => σ 0 = .slice A xs.length c ∧ σ 1 = .slice A2 ys.length c2 ∧ σ 4 = .bool false ∧ σ 5 = .int .i64 ((k : Nat) : Int) ∧ σ 1000000 = undef ∧ Hp w0.heap.size w0 w [] ∧ k ≤ xs.length ∧ (∀ j : Nat, j < k → xs[j]? = ys[j]?)) (fun k => xs.length - k) (0) ⟨rfl, rfl, rfl, rfl, rfl, H, by omega, fun j hj => absurd hj (by omega)⟩ (fun k σ w hI => ?_)
    obtain ⟨s0, s1, s4, s5, s1000000, H, hk, heq⟩ := hI
    refine V_seq rfl ?_
    refine V_seq rfl ?_
    refine V_region rfl ?_
    refine Rg_op rfl (o_val (v := .int .i64 ((k : Nat) : Int)) (d := 11) rfl rfl (ex_move s5) ?_)
    refine Rg_op rfl (o_val (v := .slice A xs.length c) (d := 12) rfl rfl (ex_move s0) ?_)
    refine Rg_op rfl (o_val (v := .int .i64 ((xs.length : Nat) : Int)) (d := 13) rfl rfl (ex_len (ts := #[]) sl41 rfl) ?_)
    refine Rg_op rfl (o_val (v := .bool (decide (((k : Nat) : Int) < ((xs.length : Nat) : Int)))) (d := 14) rfl rfl (ex_lss rfl rfl) ?_)
    refine Rg_end ?_
    refine V_cond (b := (decide (((k : Nat) : Int) < ((xs.length : Nat) : Int)))) rfl rfl (fun hb2 => ?_) (fun hb2 => ?_)
    · have hb2 : ((k : Nat) : Int) < ((xs.length : Nat) : Int) := of_decide_eq_true hb2
      refine V_skip rfl ?_
      refine V_seq rfl ?_
      refine V_block rfl ?_
      refine V_seq rfl ?_
      obtain ⟨ad3, x3, cs3, hA3, hx3, hR3, hc3⟩ := Row.get hX ((k : Nat) : Int) (by omega) (by omega)
      obtain rfl := hR3
      obtain ⟨ad4, x4, cs4, hA4, hx4, hR4, hc4⟩ := Row.get hY ((k : Nat) : Int) (by omega) (by omega)
      obtain rfl := hR4
      refine V_join (fun σ w => σ 0 = .slice A xs.length c ∧ σ 1 = .slice A2 ys.length c2 ∧ σ 4 = .bool false ∧ σ 5 = .int .i64 ((k : Nat) : Int) ∧ σ 11 = .int .i64 ((k : Nat) : Int) ∧ σ 12 = .slice A xs.length c ∧ σ 13 = .int .i64 ((xs.length : Nat) : Int) ∧ σ 14 = .bool (decide (((k : Nat) : Int) < ((xs.length : Nat) : Int))) ∧ σ 17 = .slice A xs.length c ∧ σ 18 = .int .i64 ((k : Nat) : Int) ∧ σ 19 = .pointer (some (ad3.add ((((k : Nat) : Int)).toNat * 3))) ∧ σ 20 = .pointer (some (ad3.add ((((k : Nat) : Int)).toNat * 3 + 0))) ∧ σ 21 = .int .i64 x3.Key ∧ σ 22 = .slice A2 ys.length c2 ∧ σ 23 = .int .i64 ((k : Nat) : Int) ∧ σ 24 = .pointer (some (ad4.add ((((k : Nat) : Int)).toNat * 3))) ∧ σ 25 = .pointer (some (ad4.add ((((k : Nat) : Int)).toNat * 3 + 0))) ∧ σ 26 = .int .i64 x4.Key ∧ σ 27 = .bool (decide (x3.Key ≠ x4.Key)) ∧ σ 28 = .bool (decide (x3.Key ≠ x4.Key)) ∧ σ 40 = .bool (decide ((x3.Key ≠ x4.Key) ∨ (x3.Mask ≠ x4.Mask))) ∧ σ 41 = .bool (decide ((x3.Key ≠ x4.Key) ∨ (x3.Mask ≠ x4.Mask))) ∧ σ 53 = .bool (decide (((x3.Key ≠ x4.Key) ∨ (x3.Mask ≠ x4.Mask)) ∨ (x3.Outs ≠ x4.Outs))) ∧ σ 1000000 = undef ∧ Hp w0.heap.size w0 w []) ?_ (fun σ w hI => ?_)
      · skip
        refine V_draw [0, 1, 2, 3, 5, 6, 7, 8, 10, 11, 12, 13, 14, 15, 17, 18, 19, 20, 22, 23, 24, 25, 26, 27, 28, 30, 31, 32, 33, 35, 36] (.p 0 (.p 1 (.p 2 (.p 3 (.q 4 (.p 5 (.p 6 (.p 7 (.p 8 (.q 9 (.p 10 (.p 11 (.p 12 (.p 13 (.p 14 (.p 15 (.q 16 (.p 17 (.p 18 (.p 19 (.p 20 (.q 21 (.p 22 (.p 23 (.p 24 (.p 25 (.p 26 (.p 27 (.p 28 (.q 29 (.p 30 (.p 31 (.p 32 (.p 33 (.q 34 (.p 35 (.p 36 .done))))))))))))))))))))))))))))))))))))) (fun _ => False) rfl mixed (by kernel_rfl) fun w5 hD => ?_
        have H := H.drew hD
        refine c_p (v := .slice A xs.length c) (d := 17) rfl rfl rfl (fun w' => ex_move s0) ?_
        refine c_p (v := .int .i64 ((k : Nat) : Int)) (d := 18) rfl rfl rfl (fun w' => ex_move s5) ?_
        refine c_p (v := .pointer (some (ad3.add ((((k : Nat) : Int)).toNat * 3)))) (d := 19) rfl rfl rfl (fun w' => ex_indexAddr sl41 rfl hA3 rfl (by omega) (by omega) rfl) ?_
        refine c_p (v := .pointer (some (ad3.add ((((k : Nat) : Int)).toNat * 3 + 0)))) (d := 20) rfl rfl rfl (fun w' => ex_fieldAddr fo113_0 rfl (add_add _ _ _)) ?_
        refine c_q (v := .int .i64 x3.Key) (d := 21) rfl rfl rfl (fun w' hG => ex_load ca3 rfl (hG.cell (H.cell0 (hc3 0 _ rfl)) id)) ?_
        refine c_p (v := .slice A2 ys.length c2) (d := 22) rfl rfl rfl (fun w' => ex_move s1) ?_
        refine c_p (v := .int .i64 ((k : Nat) : Int)) (d := 23) rfl rfl rfl (fun w' => ex_move s5) ?_
        refine c_p (v := .pointer (some (ad4.add ((((k : Nat) : Int)).toNat * 3)))) (d := 24) rfl rfl rfl (fun w' => ex_indexAddr sl42 rfl hA4 rfl (by omega) (by omega) rfl) ?_
        refine c_p (v := .pointer (some (ad4.add ((((k : Nat) : Int)).toNat * 3 + 0)))) (d := 25) rfl rfl rfl (fun w' => ex_fieldAddr fo116_0 rfl (add_add _ _ _)) ?_
        refine c_q (v := .int .i64 x4.Key) (d := 26) rfl rfl rfl (fun w' hG => ex_load ca3 rfl (hG.cell (H.cell0 (hc4 0 _ rfl)) id)) ?_
        refine c_p (v := .bool (decide (x3.Key ≠ x4.Key))) (d := 27) rfl rfl rfl (fun w' => ex_neq rfl rfl) ?_
        refine c_p (v := .bool (decide (x3.Key ≠ x4.Key))) (d := 28) rfl rfl rfl (fun w' => ex_move rfl) ?_
        by_cases hg6 : x3.Key ≠ x4.Key
        · skip
          refine c_ps (d := 29) rfl rfl rfl (wanted_no (b := (decide (x3.Key ≠ x4.Key))) rfl rfl rfl (decide_eq_true hg6)) ?_
          refine c_ps (d := 30) rfl rfl rfl (wanted_no (b := (decide (x3.Key ≠ x4.Key))) rfl rfl rfl (decide_eq_true hg6)) ?_
          refine c_ps (d := 31) rfl rfl rfl (wanted_no (b := (decide (x3.Key ≠ x4.Key))) rfl rfl rfl (decide_eq_true hg6)) ?_
          refine c_ps (d := 32) rfl rfl rfl (wanted_no (b := (decide (x3.Key ≠ x4.Key))) rfl rfl rfl (decide_eq_true hg6)) ?_
          refine c_qs (d := 33) rfl rfl rfl (wanted_no (b := (decide (x3.Key ≠ x4.Key))) rfl rfl rfl (decide_eq_true hg6)) ?_
          refine c_ps (d := 34) rfl rfl rfl (wanted_no (b := (decide (x3.Key ≠ x4.Key))) rfl rfl rfl (decide_eq_true hg6)) ?_
          refine c_ps (d := 35) rfl rfl rfl (wanted_no (b := (decide (x3.Key ≠ x4.Key))) rfl rfl rfl (decide_eq_true hg6)) ?_
          refine c_ps (d := 36) rfl rfl rfl (wanted_no (b := (decide (x3.Key ≠ x4.Key))) rfl rfl rfl (decide_eq_true hg6)) ?_
          refine c_ps (d := 37) rfl rfl rfl (wanted_no (b := (decide (x3.Key ≠ x4.Key))) rfl rfl rfl (decide_eq_true hg6)) ?_
          refine c_qs (d := 38) rfl rfl rfl (wanted_no (b := (decide (x3.Key ≠ x4.Key))) rfl rfl rfl (decide_eq_true hg6)) ?_
          refine c_ps (d := 39) rfl rfl rfl (wanted_no (b := (decide (x3.Key ≠ x4.Key))) rfl rfl rfl (decide_eq_true hg6)) ?_
          refine c_p (v := .bool true) (d := 40) rfl rfl rfl (fun w' => ex_pick (q := (decide (x3.Key ≠ x4.Key))) rfl (fun h => rfl) (fun h => absurd hg6 (of_decide_eq_false h))) ?_
          refine c_p (v := .bool true) (d := 41) rfl rfl rfl (fun w' => ex_move rfl) ?_
          refine c_ps (d := 42) rfl rfl rfl (wanted_no (b := true) rfl rfl rfl rfl) ?_
          refine c_ps (d := 43) rfl rfl rfl (wanted_no (b := true) rfl rfl rfl rfl) ?_
          refine c_ps (d := 44) rfl rfl rfl (wanted_no (b := true) rfl rfl rfl rfl) ?_
          refine c_ps (d := 45) rfl rfl rfl (wanted_no (b := true) rfl rfl rfl rfl) ?_
          refine c_qs (d := 46) rfl rfl rfl (wanted_no (b := true) rfl rfl rfl rfl) ?_
          refine c_ps (d := 47) rfl rfl rfl (wanted_no (b := true) rfl rfl rfl rfl) ?_
          refine c_ps (d := 48) rfl rfl rfl (wanted_no (b := true) rfl rfl rfl rfl) ?_
          refine c_ps (d := 49) rfl rfl rfl (wanted_no (b := true) rfl rfl rfl rfl) ?_
          refine c_ps (d := 50) rfl rfl rfl (wanted_no (b := true) rfl rfl rfl rfl) ?_
          refine c_qs (d := 51) rfl rfl rfl (wanted_no (b := true) rfl rfl rfl rfl) ?_
          refine c_ps (d := 52) rfl rfl rfl (wanted_no (b := true) rfl rfl rfl rfl) ?_
          refine c_p (v := .bool true) (d := 53) rfl rfl rfl (fun w' => ex_pick (q := true) rfl (fun h => rfl) (fun h => by cases h)) ?_
          refine c_done ?_
          exact ⟨s0, s1, s4, s5, rfl, rfl, rfl, rfl, rfl, rfl, rfl, rfl, rfl, rfl, rfl, rfl, rfl, rfl, rfl, rfl, (show (.bool true : Value) = .bool (decide ((x3.Key ≠ x4.Key) ∨ (x3.Mask ≠ x4.Mask))) from by first | (simp only [hg6, true_or, or_true, false_or, or_false, true_and, and_true, false_and, and_false, decide_true, decide_false, Bool.not_true, Bool.not_false]; done) | (simp [hg6]; done) | (simp [hg6]; rfl)), (show (.bool true : Value) = .bool (decide ((x3.Key ≠ x4.Key) ∨ (x3.Mask ≠ x4.Mask))) from by first | (simp only [hg6, true_or, or_true, false_or, or_false, true_and, and_true, false_and, and_false, decide_true, decide_false, Bool.not_true, Bool.not_false]; done) | (simp [hg6]; done) | (simp [hg6]; rfl)), (show (.bool true : Value) = .bool (decide (((x3.Key ≠ x4.Key) ∨ (x3.Mask ≠ x4.Mask)) ∨ (x3.Outs ≠ x4.Outs))) from by first | (simp only [hg6, true_or, or_true, false_or, or_false, true_and, and_true, false_and, and_false, decide_true, decide_false, Bool.not_true, Bool.not_false]; done) | (simp [hg6]; done) | (simp [hg6]; rfl)), s1000000, H⟩
        · skip
          refine c_pg (v := .slice A xs.length c) (d := 29) rfl rfl rfl (wanted_yes (b := (decide (x3.Key ≠ x4.Key))) rfl rfl rfl (decide_eq_false hg6)) (fun w' => ex_move s0) ?_
          refine c_pg (v := .int .i64 ((k : Nat) : Int)) (d := 30) rfl rfl rfl (wanted_yes (b := (decide (x3.Key ≠ x4.Key))) rfl rfl rfl (decide_eq_false hg6)) (fun w' => ex_move s5) ?_
          refine c_pg (v := .pointer (some (ad3.add ((((k : Nat) : Int)).toNat * 3)))) (d := 31) rfl rfl rfl (wanted_yes (b := (decide (x3.Key ≠ x4.Key))) rfl rfl rfl (decide_eq_false hg6)) (fun w' => ex_indexAddr sl41 rfl hA3 rfl (by omega) (by omega) rfl) ?_
          refine c_pg (v := .pointer (some (ad3.add ((((k : Nat) : Int)).toNat * 3 + 1)))) (d := 32) rfl rfl rfl (wanted_yes (b := (decide (x3.Key ≠ x4.Key))) rfl rfl rfl (decide_eq_false hg6)) (fun w' => ex_fieldAddr fo113_1 rfl (add_add _ _ _)) ?_
          refine c_qg (v := .int .i64 x3.Mask) (d := 33) rfl rfl rfl (wanted_yes (b := (decide (x3.Key ≠ x4.Key))) rfl rfl rfl (decide_eq_false hg6)) (fun w' hG => ex_load ca3 rfl (hG.cell (H.cell0 (hc3 1 _ rfl)) id)) ?_
          refine c_pg (v := .slice A2 ys.length c2) (d := 34) rfl rfl rfl (wanted_yes (b := (decide (x3.Key ≠ x4.Key))) rfl rfl rfl (decide_eq_false hg6)) (fun w' => ex_move s1) ?_
          refine c_pg (v := .int .i64 ((k : Nat) : Int)) (d := 35) rfl rfl rfl (wanted_yes (b := (decide (x3.Key ≠ x4.Key))) rfl rfl rfl (decide_eq_false hg6)) (fun w' => ex_move s5) ?_
          refine c_pg (v := .pointer (some (ad4.add ((((k : Nat) : Int)).toNat * 3)))) (d := 36) rfl rfl rfl (wanted_yes (b := (decide (x3.Key ≠ x4.Key))) rfl rfl rfl (decide_eq_false hg6)) (fun w' => ex_indexAddr sl42 rfl hA4 rfl (by omega) (by omega) rfl) ?_
          refine c_pg (v := .pointer (some (ad4.add ((((k : Nat) : Int)).toNat * 3 + 1)))) (d := 37) rfl rfl rfl (wanted_yes (b := (decide (x3.Key ≠ x4.Key))) rfl rfl rfl (decide_eq_false hg6)) (fun w' => ex_fieldAddr fo116_1 rfl (add_add _ _ _)) ?_
          refine c_qg (v := .int .i64 x4.Mask) (d := 38) rfl rfl rfl (wanted_yes (b := (decide (x3.Key ≠ x4.Key))) rfl rfl rfl (decide_eq_false hg6)) (fun w' hG => ex_load ca3 rfl (hG.cell (H.cell0 (hc4 1 _ rfl)) id)) ?_
          refine c_pg (v := .bool (decide (x3.Mask ≠ x4.Mask))) (d := 39) rfl rfl rfl (wanted_yes (b := (decide (x3.Key ≠ x4.Key))) rfl rfl rfl (decide_eq_false hg6)) (fun w' => ex_neq rfl rfl) ?_
          refine c_p (v := .bool (decide (x3.Mask ≠ x4.Mask))) (d := 40) rfl rfl rfl (fun w' => ex_pick (q := (decide (x3.Key ≠ x4.Key))) rfl (fun h => absurd (of_decide_eq_true h) hg6) (fun h => rfl)) ?_
          refine c_p (v := .bool (decide (x3.Mask ≠ x4.Mask))) (d := 41) rfl rfl rfl (fun w' => ex_move rfl) ?_
          by_cases hg7 : x3.Mask ≠ x4.Mask
          · skip
            refine c_ps (d := 42) rfl rfl rfl (wanted_no (b := (decide (x3.Mask ≠ x4.Mask))) rfl rfl rfl (decide_eq_true hg7)) ?_
            refine c_ps (d := 43) rfl rfl rfl (wanted_no (b := (decide (x3.Mask ≠ x4.Mask))) rfl rfl rfl (decide_eq_true hg7)) ?_
            refine c_ps (d := 44) rfl rfl rfl (wanted_no (b := (decide (x3.Mask ≠ x4.Mask))) rfl rfl rfl (decide_eq_true hg7)) ?_
            refine c_ps (d := 45) rfl rfl rfl (wanted_no (b := (decide (x3.Mask ≠ x4.Mask))) rfl rfl rfl (decide_eq_true hg7)) ?_
            refine c_qs (d := 46) rfl rfl rfl (wanted_no (b := (decide (x3.Mask ≠ x4.Mask))) rfl rfl rfl (decide_eq_true hg7)) ?_
            refine c_ps (d := 47) rfl rfl rfl (wanted_no (b := (decide (x3.Mask ≠ x4.Mask))) rfl rfl rfl (decide_eq_true hg7)) ?_
            refine c_ps (d := 48) rfl rfl rfl (wanted_no (b := (decide (x3.Mask ≠ x4.Mask))) rfl rfl rfl (decide_eq_true hg7)) ?_
            refine c_ps (d := 49) rfl rfl rfl (wanted_no (b := (decide (x3.Mask ≠ x4.Mask))) rfl rfl rfl (decide_eq_true hg7)) ?_
            refine c_ps (d := 50) rfl rfl rfl (wanted_no (b := (decide (x3.Mask ≠ x4.Mask))) rfl rfl rfl (decide_eq_true hg7)) ?_
            refine c_qs (d := 51) rfl rfl rfl (wanted_no (b := (decide (x3.Mask ≠ x4.Mask))) rfl rfl rfl (decide_eq_true hg7)) ?_
            refine c_ps (d := 52) rfl rfl rfl (wanted_no (b := (decide (x3.Mask ≠ x4.Mask))) rfl rfl rfl (decide_eq_true hg7)) ?_
            refine c_p (v := .bool true) (d := 53) rfl rfl rfl (fun w' => ex_pick (q := (decide (x3.Mask ≠ x4.Mask))) rfl (fun h => rfl) (fun h => absurd hg7 (of_decide_eq_false h))) ?_
            refine c_done ?_
            exact ⟨s0, s1, s4, s5, rfl, rfl, rfl, rfl, rfl, rfl, rfl, rfl, rfl, rfl, rfl, rfl, rfl, rfl, rfl, rfl, (show (.bool (decide (x3.Mask ≠ x4.Mask)) : Value) = .bool (decide ((x3.Key ≠ x4.Key) ∨ (x3.Mask ≠ x4.Mask))) from by first | (simp only [hg6, hg7, true_or, or_true, false_or, or_false, true_and, and_true, false_and, and_false, decide_true, decide_false, Bool.not_true, Bool.not_false]; done) | (simp [hg6, hg7]; done) | (simp [hg6, hg7]; rfl)), (show (.bool (decide (x3.Mask ≠ x4.Mask)) : Value) = .bool (decide ((x3.Key ≠ x4.Key) ∨ (x3.Mask ≠ x4.Mask))) from by first | (simp only [hg6, hg7, true_or, or_true, false_or, or_false, true_and, and_true, false_and, and_false, decide_true, decide_false, Bool.not_true, Bool.not_false]; done) | (simp [hg6, hg7]; done) | (simp [hg6, hg7]; rfl)), (show (.bool true : Value) = .bool (decide (((x3.Key ≠ x4.Key) ∨ (x3.Mask ≠ x4.Mask)) ∨ (x3.Outs ≠ x4.Outs))) from by first | (simp only [hg6, hg7, true_or, or_true, false_or, or_false, true_and, and_true, false_and, and_false, decide_true, decide_false, Bool.not_true, Bool.not_false]; done) | (simp [hg6, hg7]; done) | (simp [hg6, hg7]; rfl)), s1000000, H⟩
          · skip
            refine c_pg (v := .slice A xs.length c) (d := 42) rfl rfl rfl (wanted_yes (b := (decide (x3.Mask ≠ x4.Mask))) rfl rfl rfl (decide_eq_false hg7)) (fun w' => ex_move s0) ?_
            refine c_pg (v := .int .i64 ((k : Nat) : Int)) (d := 43) rfl rfl rfl (wanted_yes (b := (decide (x3.Mask ≠ x4.Mask))) rfl rfl rfl (decide_eq_false hg7)) (fun w' => ex_move s5) ?_
            refine c_pg (v := .pointer (some (ad3.add ((((k : Nat) : Int)).toNat * 3)))) (d := 44) rfl rfl rfl (wanted_yes (b := (decide (x3.Mask ≠ x4.Mask))) rfl rfl rfl (decide_eq_false hg7)) (fun w' => ex_indexAddr sl41 rfl hA3 rfl (by omega) (by omega) rfl) ?_
            refine c_pg (v := .pointer (some (ad3.add ((((k : Nat) : Int)).toNat * 3 + 2)))) (d := 45) rfl rfl rfl (wanted_yes (b := (decide (x3.Mask ≠ x4.Mask))) rfl rfl rfl (decide_eq_false hg7)) (fun w' => ex_fieldAddr fo113_2 rfl (add_add _ _ _)) ?_
            refine c_qg (v := .int .i64 x3.Outs) (d := 46) rfl rfl rfl (wanted_yes (b := (decide (x3.Mask ≠ x4.Mask))) rfl rfl rfl (decide_eq_false hg7)) (fun w' hG => ex_load ca3 rfl (hG.cell (H.cell0 (hc3 2 _ rfl)) id)) ?_
            refine c_pg (v := .slice A2 ys.length c2) (d := 47) rfl rfl rfl (wanted_yes (b := (decide (x3.Mask ≠ x4.Mask))) rfl rfl rfl (decide_eq_false hg7)) (fun w' => ex_move s1) ?_
            refine c_pg (v := .int .i64 ((k : Nat) : Int)) (d := 48) rfl rfl rfl (wanted_yes (b := (decide (x3.Mask ≠ x4.Mask))) rfl rfl rfl (decide_eq_false hg7)) (fun w' => ex_move s5) ?_
            refine c_pg (v := .pointer (some (ad4.add ((((k : Nat) : Int)).toNat * 3)))) (d := 49) rfl rfl rfl (wanted_yes (b := (decide (x3.Mask ≠ x4.Mask))) rfl rfl rfl (decide_eq_false hg7)) (fun w' => ex_indexAddr sl42 rfl hA4 rfl (by omega) (by omega) rfl) ?_
            refine c_pg (v := .pointer (some (ad4.add ((((k : Nat) : Int)).toNat * 3 + 2)))) (d := 50) rfl rfl rfl (wanted_yes (b := (decide (x3.Mask ≠ x4.Mask))) rfl rfl rfl (decide_eq_false hg7)) (fun w' => ex_fieldAddr fo116_2 rfl (add_add _ _ _)) ?_
            refine c_qg (v := .int .i64 x4.Outs) (d := 51) rfl rfl rfl (wanted_yes (b := (decide (x3.Mask ≠ x4.Mask))) rfl rfl rfl (decide_eq_false hg7)) (fun w' hG => ex_load ca3 rfl (hG.cell (H.cell0 (hc4 2 _ rfl)) id)) ?_
            refine c_pg (v := .bool (decide (x3.Outs ≠ x4.Outs))) (d := 52) rfl rfl rfl (wanted_yes (b := (decide (x3.Mask ≠ x4.Mask))) rfl rfl rfl (decide_eq_false hg7)) (fun w' => ex_neq rfl rfl) ?_
            refine c_p (v := .bool (decide (x3.Outs ≠ x4.Outs))) (d := 53) rfl rfl rfl (fun w' => ex_pick (q := (decide (x3.Mask ≠ x4.Mask))) rfl (fun h => absurd (of_decide_eq_true h) hg7) (fun h => rfl)) ?_
            refine c_done ?_
            exact ⟨s0, s1, s4, s5, rfl, rfl, rfl, rfl, rfl, rfl, rfl, rfl, rfl, rfl, rfl, rfl, rfl, rfl, rfl, rfl, (show (.bool (decide (x3.Mask ≠ x4.Mask)) : Value) = .bool (decide ((x3.Key ≠ x4.Key) ∨ (x3.Mask ≠ x4.Mask))) from by first | (simp only [hg6, hg7, true_or, or_true, false_or, or_false, true_and, and_true, false_and, and_false, decide_true, decide_false, Bool.not_true, Bool.not_false]; done) | (simp [hg6, hg7]; done) | (simp [hg6, hg7]; rfl)), (show (.bool (decide (x3.Mask ≠ x4.Mask)) : Value) = .bool (decide ((x3.Key ≠ x4.Key) ∨ (x3.Mask ≠ x4.Mask))) from by first | (simp only [hg6, hg7, true_or, or_true, false_or, or_false, true_and, and_true, false_and, and_false, decide_true, decide_false, Bool.not_true, Bool.not_false]; done) | (simp [hg6, hg7]; done) | (simp [hg6, hg7]; rfl)), (show (.bool (decide (x3.Outs ≠ x4.Outs)) : Value) = .bool (decide (((x3.Key ≠ x4.Key) ∨ (x3.Mask ≠ x4.Mask)) ∨ (x3.Outs ≠ x4.Outs))) from by first | (simp only [hg6, hg7, true_or, or_true, false_or, or_false, true_and, and_true, false_and, and_false, decide_true, decide_false, Bool.not_true, Bool.not_false]; done) | (simp [hg6, hg7]; done) | (simp [hg6, hg7]; rfl)), s1000000, H⟩
      obtain ⟨s0, s1, s4, s5, s11, s12, s13, s14, s17, s18, s19, s20, s21, s22, s23, s24, s25, s26, s27, s28, s40, s41, s53, s1000000, H⟩ := hI
      refine V_cond (b := (decide (((x3.Key ≠ x4.Key) ∨ (x3.Mask ≠ x4.Mask)) ∨ (x3.Outs ≠ x4.Outs)))) rfl s53 (fun hb8 => ?_) (fun hb8 => ?_)
      · have hb8 : ((x3.Key ≠ x4.Key) ∨ (x3.Mask ≠ x4.Mask)) ∨ (x3.Outs ≠ x4.Outs) := of_decide_eq_true hb8
        refine V_seq rfl ?_
        refine V_region rfl ?_
        refine Rg_op rfl (o_val (v := .bool false) (d := 4) rfl rfl (ex_assign rfl) ?_)
        refine Rg_end ?_
        refine V_ret rfl (end0 (v := .bool false) s1000000 (res_tmp Try.results15 rfl) ?_)
        exact ⟨by rw [decide_eq_false]; intro e; rw [e, hx4] at hx3; injection hx3 with e; subst e; simp_all, H.below⟩
      · have hb8 : ¬ (((x3.Key ≠ x4.Key) ∨ (x3.Mask ≠ x4.Mask)) ∨ (x3.Outs ≠ x4.Outs)) := of_decide_eq_false hb8
        refine V_skip rfl ?_
        refine V_region rfl ?_
        refine Rg_op rfl (o_val (v := .int .i64 ((k : Nat) : Int)) (d := 15) rfl rfl (ex_move s5) ?_)
        refine Rg_op rfl (o_val (v := .int .i64 (((k : Nat) : Int) + 1)) (d := 16) rfl rfl (ex_add rfl rfl (by omega)) ?_)
        refine Rg_op rfl (o_val (v := .int .i64 (((k : Nat) : Int) + 1)) (d := 5) rfl rfl (ex_assign rfl) ?_)
        refine Rg_end ?_
        exact ⟨k + 1, ⟨s0, s1, s4, rfl, s1000000, H, by omega, agree_next heq hx3 hx4 (by have h1 := x3; have h2 := x4; cases x3; cases x4; simp_all)⟩, by omega⟩
    · have hb2 : ¬ (((k : Nat) : Int) < ((xs.length : Nat) : Int)) := of_decide_eq_false hb2
      refine V_exit rfl ?_
      refine V_seq rfl ?_
      refine V_region rfl ?_
      refine Rg_op rfl (o_val (v := .bool true) (d := 4) rfl rfl (ex_assign rfl) ?_)
      refine Rg_end ?_
      refine V_ret rfl (end0 (v := .bool true) s1000000 (res_tmp Try.results15 rfl) ?_)
      exact ⟨by rw [decide_eq_true (list_eq (by omega) fun j hj => heq j (by omega))], H.below⟩

theorem indexE_c (A : Option Addr) (c : Nat) (xs : List Entry) (p : Entry → Bool) (F : Nat) (fv cap : List Value) (w0 : World) (hX : Row kEnt w0.cell? A xs) (hl : xs.length ≤ 9223372036854775807) (hcl : callable Try.prog F = true) (hF : ∀ x w, Below w0.heap.size w0 w → Calls Try.prog F (fv ++ [(.agg #[.int .i64 x.Key, .int .i64 x.Mask, .int .i64 x.Outs] : Value)] ++ cap).toArray w fun e w' => ∃ v, e = .returned v ∧ (v = .bool (p x) ∧ Below w.heap.size w w')) :
    Calls Try.prog 57 #[.slice A xs.length c, .func (.func F) fv.toArray cap.toArray] w0 fun e w' => ∃ v, e = .returned v ∧ (v = .int .i64 (idx p xs) ∧ Below w0.heap.size w0 w') := by
  refine calls_of (n := 19) (l := [.slice A xs.length c, .func (.func F) fv.toArray cap.toArray]) Try.func57 rfl rfl rfl ?_
  have H := Hp.start w0
  refine V_seq rfl ?_
  refine V_region rfl ?_
  refine Rg_op rfl (o_val (v := .int .i64 0) (d := 4) rfl rfl (ex_assign rfl) ?_)
  refine Rg_end ?_
  refine V_seq rfl ?_
  refine V_seq rfl ?_
  refine V_region rfl ?_
  refine Rg_op rfl (o_val (v := .slice A xs.length c) (d := 6) rfl rfl (ex_move rfl) ?_)
  refine Rg_op rfl (o_val (v := .int .i64 ((xs.length : Nat) : Int)) (d := 7) rfl rfl (ex_len (ts := #[]) sl41 rfl) ?_)
  refine Rg_op rfl (o_val (v := .int .i64 0) (d := 8) rfl rfl (ex_move rfl) ?_)
  refine Rg_end ?_
  refine V_block rfl ?_
  refine V_loop rfl (γ := Nat) (fun k σ w => σ 0 = .slice A xs.length c ∧ σ 1 = .func (.func F) fv.toArray cap.toArray ∧ σ 4 = .int .i64 0 ∧ σ 7 = .int .i64 ((xs.length : Nat) : Int) ∧ σ 8 = .int .i64 ((k : Nat) : Int) ∧ σ 1000000 = undef ∧ Hp w0.heap.size w0 w [] ∧ k ≤ xs.length ∧ (∀ y ∈ xs.take k, p y = false)) (fun k => xs.length - k) (0) ⟨rfl, rfl, rfl, rfl, rfl, rfl, H, by omega, by simp⟩ (fun k σ w hI => ?_)
  obtain ⟨s0, s1, s4, s7, s8, s1000000, H, hk, hall⟩ := hI
  refine V_seq rfl ?_
  refine V_region rfl ?_
  refine Rg_op rfl (o_val (v := .bool (decide (((k : Nat) : Int) < ((xs.length : Nat) : Int)))) (d := 9) rfl rfl (ex_lss s8 s7) ?_)
  refine Rg_end ?_
  refine V_seq rfl ?_
  refine V_cond (b := (decide (((k : Nat) : Int) < ((xs.length : Nat) : Int)))) rfl rfl (fun hb1 => ?_) (fun hb1 => ?_)
  · have hb1 : ((k : Nat) : Int) < ((xs.length : Nat) : Int) := of_decide_eq_true hb1
    refine V_skip rfl ?_
    refine V_seq rfl ?_
    refine V_block rfl ?_
    refine V_seq rfl ?_
    refine V_region rfl ?_
    refine Rg_op rfl (o_val (v := .int .i64 ((k : Nat) : Int)) (d := 10) rfl rfl (ex_move s8) ?_)
    refine Rg_op rfl (o_val (v := .int .i64 ((k : Nat) : Int)) (d := 5) rfl rfl (ex_assign rfl) ?_)
    refine Rg_end ?_
    refine V_seq rfl ?_
    refine V_region rfl ?_
    refine Rg_op rfl (o_val (v := .func (.func F) fv.toArray cap.toArray) (d := 11) rfl rfl (ex_move s1) ?_)
    refine Rg_op rfl (o_val (v := .slice A xs.length c) (d := 12) rfl rfl (ex_move s0) ?_)
    refine Rg_op rfl (o_val (v := .int .i64 ((k : Nat) : Int)) (d := 13) rfl rfl (ex_move rfl) ?_)
    obtain ⟨ad2, x2, cs2, hA2, hx2, hR2, hc2⟩ := Row.get hX ((k : Nat) : Int) (by omega) (by omega)
    obtain rfl := hR2
    refine Rg_op rfl (o_val (v := .pointer (some (ad2.add ((((k : Nat) : Int)).toNat * 3)))) (d := 14) rfl rfl (ex_indexAddr sl41 rfl hA2 rfl (by omega) (by omega) rfl) ?_)
    refine Rg_op rfl (o_val (v := .agg #[.int .i64 x2.Key, .int .i64 x2.Mask, .int .i64 x2.Outs]) (d := 15) rfl rfl (ex_loadN (vs := [.int .i64 x2.Key, .int .i64 x2.Mask, .int .i64 x2.Outs]) ca113 rfl rfl (fun j u hj => by rw [add_add]; exact H.cell0 (hc2 j u hj))) ?_)
    refine Rg_op rfl (o_callp (fv := fv) (cap := cap) (xs := [.agg #[.int .i64 x2.Key, .int .i64 x2.Mask, .int .i64 x2.Outs]]) rfl rfl hcl rfl (hF x2 _ H.below) fun v w3 hS => ?_)
    obtain ⟨rfl, hB⟩ := hS
    have H := H.keep hB
    refine Rg_end ?_
    refine V_cond (b := (p x2)) rfl rfl (fun hb4 => ?_) (fun hb4 => ?_)
    · skip
      refine V_seq rfl ?_
      refine V_region rfl ?_
      refine Rg_op rfl (o_val (v := .int .i64 ((k : Nat) : Int)) (d := 17) rfl rfl (ex_move rfl) ?_)
      refine Rg_op rfl (o_val (v := .int .i64 ((k : Nat) : Int)) (d := 4) rfl rfl (ex_assign rfl) ?_)
      refine Rg_end ?_
      refine V_ret rfl (end0 (v := .int .i64 ((k : Nat) : Int)) s1000000 (res_tmp Try.results57 rfl) ?_)
      exact ⟨by rw [idx_at hall hx2 (by assumption)], H.below⟩
    · skip
      have hb := hb4
      refine V_skip rfl ?_
      refine V_region rfl ?_
      refine Rg_op rfl (o_val (v := .int .i64 (((k : Nat) : Int) + 1)) (d := 18) rfl rfl (ex_add s8 rfl (by omega)) ?_)
      refine Rg_op rfl (o_val (v := .int .i64 (((k : Nat) : Int) + 1)) (d := 8) rfl rfl (ex_move rfl) ?_)
      refine Rg_end ?_
      exact ⟨k + 1, ⟨s0, s1, s4, s7, rfl, s1000000, H, by omega, take_all hall hx2 (by simpa using hb)⟩, by omega⟩
  · have hb1 : ¬ (((k : Nat) : Int) < ((xs.length : Nat) : Int)) := of_decide_eq_false hb1
    refine V_exit rfl ?_
    refine V_seq rfl ?_
    refine V_region rfl ?_
    refine Rg_op rfl (o_val (v := .int .i64 (-1)) (d := 4) rfl rfl (ex_assign rfl) ?_)
    refine Rg_end ?_
    refine V_ret rfl (end0 (v := .int .i64 (-1)) s1000000 (res_tmp Try.results57 rfl) ?_)
    exact ⟨by rw [idx_no (fun y hy => hall y (by rwa [List.take_of_length_le (by omega)]))], H.below⟩

theorem containsE_c (A : Option Addr) (c : Nat) (xs : List Entry) (p : Entry → Bool) (F : Nat) (fv cap : List Value) (w0 : World) (hX : Row kEnt w0.cell? A xs) (hl : xs.length ≤ 9223372036854775807) (hcl : callable Try.prog F = true) (hF : ∀ x w, Below w0.heap.size w0 w → Calls Try.prog F (fv ++ [(.agg #[.int .i64 x.Key, .int .i64 x.Mask, .int .i64 x.Outs] : Value)] ++ cap).toArray w fun e w' => ∃ v, e = .returned v ∧ (v = .bool (p x) ∧ Below w.heap.size w w')) :
    Calls Try.prog 47 #[.slice A xs.length c, .func (.func F) fv.toArray cap.toArray] w0 fun e w' => ∃ v, e = .returned v ∧ (v = .bool (xs.any p) ∧ Below w0.heap.size w0 w') := by
  refine calls_of (n := 9) (l := [.slice A xs.length c, .func (.func F) fv.toArray cap.toArray]) Try.func47 rfl rfl rfl ?_
  have H := Hp.start w0
  refine V_seq rfl ?_
  refine V_region rfl ?_
  refine Rg_op rfl (o_val (v := .bool false) (d := 4) rfl rfl (ex_assign rfl) ?_)
  refine Rg_end ?_
  refine V_seq rfl ?_
  refine V_region rfl ?_
  refine Rg_op rfl (o_val (v := .slice A xs.length c) (d := 5) rfl rfl (ex_move rfl) ?_)
  refine Rg_op rfl (o_val (v := .func (.func F) fv.toArray cap.toArray) (d := 6) rfl rfl (ex_move rfl) ?_)
  refine Rg_op rfl (o_call (fv := []) (cap := []) (vs := [.slice A xs.length c, .func (.func F) fv.toArray cap.toArray]) rfl rfl cl57 rfl (indexE_c _ _ xs p F fv cap _ (hX.mono (fun _ _ h => H.cell0 h)) (by first | omega | (simp only [List.length_append, List.length_cons, List.length_nil]; omega)) hcl hF) fun v w1 hS => ?_)
  obtain ⟨rfl, hB⟩ := hS
  have H := H.keep hB
  refine Rg_op rfl (o_val (v := .bool (decide (0 ≤ (idx p xs)))) (d := 8) rfl rfl (ex_geq rfl rfl) ?_)
  refine Rg_op rfl (o_val (v := .bool (decide (0 ≤ (idx p xs)))) (d := 4) rfl rfl (ex_assign rfl) ?_)
  refine Rg_end ?_
  refine V_ret rfl (end0 (v := .bool (decide (0 ≤ (idx p xs)))) rfl (res_tmp Try.results47 rfl) ?_)
  exact ⟨by rw [← idx_any], H.below⟩

theorem indexI_c (A : Option Addr) (c : Nat) (xs : List Int) (p : Int → Bool) (F : Nat) (fv cap : List Value) (w0 : World) (hX : Row kInt w0.cell? A xs) (hl : xs.length ≤ 9223372036854775807) (hcl : callable Try.prog F = true) (hF : ∀ x w, Below w0.heap.size w0 w → Calls Try.prog F (fv ++ [(.int .i64 x : Value)] ++ cap).toArray w fun e w' => ∃ v, e = .returned v ∧ (v = .bool (p x) ∧ Below w.heap.size w w')) :
    Calls Try.prog 81 #[.slice A xs.length c, .func (.func F) fv.toArray cap.toArray] w0 fun e w' => ∃ v, e = .returned v ∧ (v = .int .i64 (idx p xs) ∧ Below w0.heap.size w0 w') := by
  refine calls_of (n := 19) (l := [.slice A xs.length c, .func (.func F) fv.toArray cap.toArray]) Try.func81 rfl rfl rfl ?_
  have H := Hp.start w0
  refine V_seq rfl ?_
  refine V_region rfl ?_
  refine Rg_op rfl (o_val (v := .int .i64 0) (d := 4) rfl rfl (ex_assign rfl) ?_)
  refine Rg_end ?_
  refine V_seq rfl ?_
  refine V_seq rfl ?_
  refine V_region rfl ?_
  refine Rg_op rfl (o_val (v := .slice A xs.length c) (d := 6) rfl rfl (ex_move rfl) ?_)
  refine Rg_op rfl (o_val (v := .int .i64 ((xs.length : Nat) : Int)) (d := 7) rfl rfl (ex_len (ts := #[]) sl26 rfl) ?_)
  refine Rg_op rfl (o_val (v := .int .i64 0) (d := 8) rfl rfl (ex_move rfl) ?_)
  refine Rg_end ?_
  refine V_block rfl ?_
  refine V_loop rfl (γ := Nat) (fun k σ w => σ 0 = .slice A xs.length c ∧ σ 1 = .func (.func F) fv.toArray cap.toArray ∧ σ 4 = .int .i64 0 ∧ σ 7 = .int .i64 ((xs.length : Nat) : Int) ∧ σ 8 = .int .i64 ((k : Nat) : Int) ∧ σ 1000000 = undef ∧ Hp w0.heap.size w0 w [] ∧ k ≤ xs.length ∧ (∀ y ∈ xs.take k, p y = false)) (fun k => xs.length - k) (0) ⟨rfl, rfl, rfl, rfl, rfl, rfl, H, by omega, by simp⟩ (fun k σ w hI => ?_)
  obtain ⟨s0, s1, s4, s7, s8, s1000000, H, hk, hall⟩ := hI
  refine V_seq rfl ?_
  refine V_region rfl ?_
  refine Rg_op rfl (o_val (v := .bool (decide (((k : Nat) : Int) < ((xs.length : Nat) : Int)))) (d := 9) rfl rfl (ex_lss s8 s7) ?_)
  refine Rg_end ?_
  refine V_seq rfl ?_
  refine V_cond (b := (decide (((k : Nat) : Int) < ((xs.length : Nat) : Int)))) rfl rfl (fun hb1 => ?_) (fun hb1 => ?_)
  · have hb1 : ((k : Nat) : Int) < ((xs.length : Nat) : Int) := of_decide_eq_true hb1
    refine V_skip rfl ?_
    refine V_seq rfl ?_
    refine V_block rfl ?_
    refine V_seq rfl ?_
    refine V_region rfl ?_
    refine Rg_op rfl (o_val (v := .int .i64 ((k : Nat) : Int)) (d := 10) rfl rfl (ex_move s8) ?_)
    refine Rg_op rfl (o_val (v := .int .i64 ((k : Nat) : Int)) (d := 5) rfl rfl (ex_assign rfl) ?_)
    refine Rg_end ?_
    refine V_seq rfl ?_
    refine V_region rfl ?_
    refine Rg_op rfl (o_val (v := .func (.func F) fv.toArray cap.toArray) (d := 11) rfl rfl (ex_move s1) ?_)
    refine Rg_op rfl (o_val (v := .slice A xs.length c) (d := 12) rfl rfl (ex_move s0) ?_)
    refine Rg_op rfl (o_val (v := .int .i64 ((k : Nat) : Int)) (d := 13) rfl rfl (ex_move rfl) ?_)
    obtain ⟨ad2, x2, cs2, hA2, hx2, hR2, hc2⟩ := Row.get hX ((k : Nat) : Int) (by omega) (by omega)
    obtain rfl := hR2
    refine Rg_op rfl (o_val (v := .pointer (some (ad2.add ((((k : Nat) : Int)).toNat * 1)))) (d := 14) rfl rfl (ex_indexAddr sl26 rfl hA2 rfl (by omega) (by omega) rfl) ?_)
    refine Rg_op rfl (o_val (v := .int .i64 x2) (d := 15) rfl rfl (ex_load ca3 rfl (H.cell0 (hc2 0 _ rfl))) ?_)
    refine Rg_op rfl (o_callp (fv := fv) (cap := cap) (xs := [.int .i64 x2]) rfl rfl hcl rfl (hF x2 _ H.below) fun v w3 hS => ?_)
    obtain ⟨rfl, hB⟩ := hS
    have H := H.keep hB
    refine Rg_end ?_
    refine V_cond (b := (p x2)) rfl rfl (fun hb4 => ?_) (fun hb4 => ?_)
    · skip
      refine V_seq rfl ?_
      refine V_region rfl ?_
      refine Rg_op rfl (o_val (v := .int .i64 ((k : Nat) : Int)) (d := 17) rfl rfl (ex_move rfl) ?_)
      refine Rg_op rfl (o_val (v := .int .i64 ((k : Nat) : Int)) (d := 4) rfl rfl (ex_assign rfl) ?_)
      refine Rg_end ?_
      refine V_ret rfl (end0 (v := .int .i64 ((k : Nat) : Int)) s1000000 (res_tmp Try.results81 rfl) ?_)
      exact ⟨by rw [idx_at hall hx2 (by assumption)], H.below⟩
    · skip
      have hb := hb4
      refine V_skip rfl ?_
      refine V_region rfl ?_
      refine Rg_op rfl (o_val (v := .int .i64 (((k : Nat) : Int) + 1)) (d := 18) rfl rfl (ex_add s8 rfl (by omega)) ?_)
      refine Rg_op rfl (o_val (v := .int .i64 (((k : Nat) : Int) + 1)) (d := 8) rfl rfl (ex_move rfl) ?_)
      refine Rg_end ?_
      exact ⟨k + 1, ⟨s0, s1, s4, s7, rfl, s1000000, H, by omega, take_all hall hx2 (by simpa using hb)⟩, by omega⟩
  · have hb1 : ¬ (((k : Nat) : Int) < ((xs.length : Nat) : Int)) := of_decide_eq_false hb1
    refine V_exit rfl ?_
    refine V_seq rfl ?_
    refine V_region rfl ?_
    refine Rg_op rfl (o_val (v := .int .i64 (-1)) (d := 4) rfl rfl (ex_assign rfl) ?_)
    refine Rg_end ?_
    refine V_ret rfl (end0 (v := .int .i64 (-1)) s1000000 (res_tmp Try.results81 rfl) ?_)
    exact ⟨by rw [idx_no (fun y hy => hall y (by rwa [List.take_of_length_le (by omega)]))], H.below⟩

theorem containsI_c (A : Option Addr) (c : Nat) (xs : List Int) (p : Int → Bool) (F : Nat) (fv cap : List Value) (w0 : World) (hX : Row kInt w0.cell? A xs) (hl : xs.length ≤ 9223372036854775807) (hcl : callable Try.prog F = true) (hF : ∀ x w, Below w0.heap.size w0 w → Calls Try.prog F (fv ++ [(.int .i64 x : Value)] ++ cap).toArray w fun e w' => ∃ v, e = .returned v ∧ (v = .bool (p x) ∧ Below w.heap.size w w')) :
    Calls Try.prog 50 #[.slice A xs.length c, .func (.func F) fv.toArray cap.toArray] w0 fun e w' => ∃ v, e = .returned v ∧ (v = .bool (xs.any p) ∧ Below w0.heap.size w0 w') := by
  refine calls_of (n := 9) (l := [.slice A xs.length c, .func (.func F) fv.toArray cap.toArray]) Try.func50 rfl rfl rfl ?_
  have H := Hp.start w0
  refine V_seq rfl ?_
  refine V_region rfl ?_
  refine Rg_op rfl (o_val (v := .bool false) (d := 4) rfl rfl (ex_assign rfl) ?_)
  refine Rg_end ?_
  refine V_seq rfl ?_
  refine V_region rfl ?_
  refine Rg_op rfl (o_val (v := .slice A xs.length c) (d := 5) rfl rfl (ex_move rfl) ?_)
  refine Rg_op rfl (o_val (v := .func (.func F) fv.toArray cap.toArray) (d := 6) rfl rfl (ex_move rfl) ?_)
  refine Rg_op rfl (o_call (fv := []) (cap := []) (vs := [.slice A xs.length c, .func (.func F) fv.toArray cap.toArray]) rfl rfl cl81 rfl (indexI_c _ _ xs p F fv cap _ (hX.mono (fun _ _ h => H.cell0 h)) (by first | omega | (simp only [List.length_append, List.length_cons, List.length_nil]; omega)) hcl hF) fun v w1 hS => ?_)
  obtain ⟨rfl, hB⟩ := hS
  have H := H.keep hB
  refine Rg_op rfl (o_val (v := .bool (decide (0 ≤ (idx p xs)))) (d := 8) rfl rfl (ex_geq rfl rfl) ?_)
  refine Rg_op rfl (o_val (v := .bool (decide (0 ≤ (idx p xs)))) (d := 4) rfl rfl (ex_assign rfl) ?_)
  refine Rg_end ?_
  refine V_ret rfl (end0 (v := .bool (decide (0 ≤ (idx p xs)))) rfl (res_tmp Try.results50 rfl) ?_)
  exact ⟨by rw [← idx_any], H.below⟩

theorem find1_c (x : Entry) (key : Int) (b : Nat) (w0 : World) (hb : w0.cell? ⟨b, 0, none⟩ = some (.int .i64 key)) :
    Calls Try.prog 58 #[.agg #[.int .i64 x.Key, .int .i64 x.Mask, .int .i64 x.Outs], .pointer (some ⟨b, 0, none⟩)] w0 fun e w' => ∃ v, e = .returned v ∧ (v = .bool (hit key x) ∧ Below w0.heap.size w0 w') := by
  refine calls_of (n := 11) (l := [.agg #[.int .i64 x.Key, .int .i64 x.Mask, .int .i64 x.Outs], .pointer (some ⟨b, 0, none⟩)]) Try.func58 rfl rfl rfl ?_
  have H := Hp.start w0
  refine V_seq rfl ?_
  refine V_region rfl ?_
  refine Rg_op rfl (o_box (v := .agg #[.int .i64 x.Key, .int .i64 x.Mask, .int .i64 x.Outs]) rfl rfl H fun b1 w2 hA H => ?_)
  refine Rg_op rfl (o_val (v := .bool false) (d := 3) rfl rfl (ex_assign rfl) ?_)
  refine Rg_end ?_
  refine V_seq rfl ?_
  refine V_region rfl ?_
  refine Rg_op rfl (o_val (v := .int .i64 key) (d := 4) rfl rfl (ex_load ca3 rfl (H.cell0 hb)) ?_)
  refine Rg_op rfl (o_val (v := .pointer (some ⟨b1, 1, none⟩)) (d := 5) rfl rfl (ex_fieldAddr fo113_1 rfl rfl) ?_)
  refine Rg_op rfl (o_val (v := .int .i64 x.Mask) (d := 6) rfl rfl (ex_load ca3 rfl (cell_of (H.rd 0 rfl))) ?_)
  refine Rg_op rfl (o_val (v := .int .i64 (bAnd .i64 key x.Mask)) (d := 7) rfl rfl (ex_and rfl rfl) ?_)
  refine Rg_op rfl (o_val (v := .pointer (some ⟨b1, 0, none⟩)) (d := 8) rfl rfl (ex_fieldAddr fo113_0 rfl rfl) ?_)
  refine Rg_op rfl (o_val (v := .int .i64 x.Key) (d := 9) rfl rfl (ex_load ca3 rfl (cell_of (H.rd 0 rfl))) ?_)
  refine Rg_op rfl (o_val (v := .bool (decide ((bAnd .i64 key x.Mask) = x.Key))) (d := 10) rfl rfl (ex_eql rfl rfl) ?_)
  refine Rg_op rfl (o_val (v := .bool (decide ((bAnd .i64 key x.Mask) = x.Key))) (d := 3) rfl rfl (ex_assign rfl) ?_)
  refine Rg_end ?_
  refine V_ret rfl (end0 (v := .bool (decide ((bAnd .i64 key x.Mask) = x.Key))) rfl (res_tmp Try.results58 rfl) ?_)
  exact ⟨rfl, H.below⟩

theorem bad1_c (x : Entry) (w0 : World) :
    Calls Try.prog 48 #[.agg #[.int .i64 x.Key, .int .i64 x.Mask, .int .i64 x.Outs]] w0 fun e w' => ∃ v, e = .returned v ∧ (v = .bool (!decide (ent x)) ∧ Below w0.heap.size w0 w') := by
  refine calls_of (n := 6) (l := [.agg #[.int .i64 x.Key, .int .i64 x.Mask, .int .i64 x.Outs]]) Try.func48 rfl rfl rfl ?_
  have H := Hp.start w0
  refine V_seq rfl ?_
  refine V_region rfl ?_
  refine Rg_op rfl (o_box (v := .agg #[.int .i64 x.Key, .int .i64 x.Mask, .int .i64 x.Outs]) rfl rfl H fun b1 w2 hA H => ?_)
  refine Rg_op rfl (o_val (v := .bool false) (d := 2) rfl rfl (ex_assign rfl) ?_)
  refine Rg_end ?_
  refine V_seq rfl ?_
  refine V_region rfl ?_
  refine Rg_op rfl (o_val (v := .agg #[.int .i64 x.Key, .int .i64 x.Mask, .int .i64 x.Outs]) (d := 3) rfl rfl (ex_loadN (vs := [.int .i64 x.Key, .int .i64 x.Mask, .int .i64 x.Outs]) ca113 rfl rfl (blk_cells (H.rd 0 rfl) rfl)) ?_)
  refine Rg_op rfl (o_call (fv := []) (cap := []) (vs := [.agg #[.int .i64 x.Key, .int .i64 x.Mask, .int .i64 x.Outs]]) rfl rfl cl49 rfl (valid_c x _) fun v w3 hS => ?_)
  obtain ⟨rfl, hB⟩ := hS
  have H := H.keep hB
  refine Rg_op rfl (o_val (v := .bool (!decide (ent x))) (d := 5) rfl rfl (ex_not rfl) ?_)
  refine Rg_op rfl (o_val (v := .bool (!decide (ent x))) (d := 2) rfl rfl (ex_assign rfl) ?_)
  refine Rg_end ?_
  refine V_ret rfl (end0 (v := .bool (!decide (ent x))) rfl (res_tmp Try.results48 rfl) ?_)
  exact ⟨rfl, H.below⟩

theorem bad2_c (x : Entry) (w0 : World) :
    Calls Try.prog 67 #[.agg #[.int .i64 x.Key, .int .i64 x.Mask, .int .i64 x.Outs]] w0 fun e w' => ∃ v, e = .returned v ∧ (v = .bool (!decide (ent x)) ∧ Below w0.heap.size w0 w') := by
  refine calls_of (n := 6) (l := [.agg #[.int .i64 x.Key, .int .i64 x.Mask, .int .i64 x.Outs]]) Try.func67 rfl rfl rfl ?_
  have H := Hp.start w0
  refine V_seq rfl ?_
  refine V_region rfl ?_
  refine Rg_op rfl (o_box (v := .agg #[.int .i64 x.Key, .int .i64 x.Mask, .int .i64 x.Outs]) rfl rfl H fun b1 w2 hA H => ?_)
  refine Rg_op rfl (o_val (v := .bool false) (d := 2) rfl rfl (ex_assign rfl) ?_)
  refine Rg_end ?_
  refine V_seq rfl ?_
  refine V_region rfl ?_
  refine Rg_op rfl (o_val (v := .agg #[.int .i64 x.Key, .int .i64 x.Mask, .int .i64 x.Outs]) (d := 3) rfl rfl (ex_loadN (vs := [.int .i64 x.Key, .int .i64 x.Mask, .int .i64 x.Outs]) ca113 rfl rfl (blk_cells (H.rd 0 rfl) rfl)) ?_)
  refine Rg_op rfl (o_call (fv := []) (cap := []) (vs := [.agg #[.int .i64 x.Key, .int .i64 x.Mask, .int .i64 x.Outs]]) rfl rfl cl49 rfl (valid_c x _) fun v w3 hS => ?_)
  obtain ⟨rfl, hB⟩ := hS
  have H := H.keep hB
  refine Rg_op rfl (o_val (v := .bool (!decide (ent x))) (d := 5) rfl rfl (ex_not rfl) ?_)
  refine Rg_op rfl (o_val (v := .bool (!decide (ent x))) (d := 2) rfl rfl (ex_assign rfl) ?_)
  refine Rg_end ?_
  refine V_ret rfl (end0 (v := .bool (!decide (ent x))) rfl (res_tmp Try.results67 rfl) ?_)
  exact ⟨rfl, H.below⟩

theorem badKey_c (x : Int) (w0 : World) :
    Calls Try.prog 51 #[.int .i64 x] w0 fun e w' => ∃ v, e = .returned v ∧ (v = .bool (decide (x < 0 ∨ 65535 < x)) ∧ Below w0.heap.size w0 w') := by
  refine calls_of (n := 9) (l := [.int .i64 x]) Try.func51 rfl rfl rfl ?_
  have H := Hp.start w0
  refine V_seq rfl ?_
  refine V_region rfl ?_
  refine Rg_op rfl (o_val (v := .bool false) (d := 2) rfl rfl (ex_assign rfl) ?_)
  refine Rg_end ?_
  refine V_seq rfl ?_
  refine V_join (fun σ w => σ 2 = .bool (decide ((x < 0) ∨ (65535 < x))) ∧ σ 1000000 = undef ∧ Hp w0.heap.size w0 w []) ?_ (fun σ w hI => ?_)
  · skip
    refine V_region rfl ?_
    refine Rg_op rfl (o_val (v := .int .i64 x) (d := 3) rfl rfl (ex_move rfl) ?_)
    refine Rg_op rfl (o_val (v := .bool (decide (x < 0))) (d := 4) rfl rfl (ex_lss rfl rfl) ?_)
    refine Rg_op rfl (o_val (v := .bool (decide (x < 0))) (d := 5) rfl rfl (ex_move rfl) ?_)
    by_cases hg1 : x < 0
    · skip
      refine Rg_op rfl (o_skip (d := 6) rfl rfl (wanted_no (b := (decide (x < 0))) rfl rfl rfl (decide_eq_true hg1)) ?_)
      refine Rg_op rfl (o_skip (d := 7) rfl rfl (wanted_no (b := (decide (x < 0))) rfl rfl rfl (decide_eq_true hg1)) ?_)
      refine Rg_op rfl (o_val (v := .bool true) (d := 8) rfl rfl (ex_pick (q := (decide (x < 0))) rfl (fun h => rfl) (fun h => absurd hg1 (of_decide_eq_false h))) ?_)
      refine Rg_op rfl (o_val (v := .bool true) (d := 2) rfl rfl (ex_assign rfl) ?_)
      refine Rg_end ?_
      exact ⟨(show (.bool true : Value) = .bool (decide ((x < 0) ∨ (65535 < x))) from by first | (simp only [hg1, true_or, or_true, false_or, or_false, true_and, and_true, false_and, and_false, decide_true, decide_false, Bool.not_true, Bool.not_false]; done) | (simp [hg1]; done) | (simp [hg1]; rfl)), rfl, H⟩
    · skip
      refine Rg_op rfl (o_valg (v := .int .i64 x) (d := 6) rfl rfl (wanted_yes (b := (decide (x < 0))) rfl rfl rfl (decide_eq_false hg1)) (ex_move rfl) ?_)
      refine Rg_op rfl (o_valg (v := .bool (decide (65535 < x))) (d := 7) rfl rfl (wanted_yes (b := (decide (x < 0))) rfl rfl rfl (decide_eq_false hg1)) (ex_gtr rfl rfl) ?_)
      refine Rg_op rfl (o_val (v := .bool (decide (65535 < x))) (d := 8) rfl rfl (ex_pick (q := (decide (x < 0))) rfl (fun h => absurd (of_decide_eq_true h) hg1) (fun h => rfl)) ?_)
      refine Rg_op rfl (o_val (v := .bool (decide (65535 < x))) (d := 2) rfl rfl (ex_assign rfl) ?_)
      refine Rg_end ?_
      exact ⟨(show (.bool (decide (65535 < x)) : Value) = .bool (decide ((x < 0) ∨ (65535 < x))) from by first | (simp only [hg1, true_or, or_true, false_or, or_false, true_and, and_true, false_and, and_false, decide_true, decide_false, Bool.not_true, Bool.not_false]; done) | (simp [hg1]; done) | (simp [hg1]; rfl)), rfl, H⟩
  obtain ⟨s2, s1000000, H⟩ := hI
  refine V_ret rfl (end0 (v := .bool (decide ((x < 0) ∨ (65535 < x)))) s1000000 (res_tmp Try.results51 s2) ?_)
  exact ⟨rfl, H.below⟩

theorem find_c (A : Option Addr) (c : Nat) (xs : List Entry) (key : Int) (w0 : World) (hX : Row kEnt w0.cell? A xs) (hl : xs.length ≤ 9223372036854775807) :
    Calls Try.prog 19 #[.slice A xs.length c, .int .i64 key] w0 fun e w' => ∃ v, e = .returned v ∧ (v = .tuple #[.int .i64 (find xs key).1, .bool (find xs key).2] ∧ Below w0.heap.size w0 w') := by
  refine calls_of (n := 17) (l := [.slice A xs.length c, .int .i64 key]) Try.func19 rfl rfl rfl ?_
  have H := Hp.start w0
  refine V_seq rfl ?_
  refine V_region rfl ?_
  refine Rg_op rfl (o_box (v := .int .i64 key) rfl rfl H fun b1 w2 hA H => ?_)
  refine Rg_op rfl (o_val (v := .int .i64 0) (d := 4) rfl rfl (ex_assign rfl) ?_)
  refine Rg_op rfl (o_val (v := .bool false) (d := 5) rfl rfl (ex_assign rfl) ?_)
  refine Rg_end ?_
  refine V_seq rfl ?_
  refine V_region rfl ?_
  refine Rg_op rfl (o_val (v := .slice A xs.length c) (d := 7) rfl rfl (ex_move rfl) ?_)
  refine Rg_op rfl (o_val (v := .func (.func 58) #[] #[.pointer (some ⟨b1, 0, none⟩)]) (d := 8) rfl rfl (ex_makeFunc (fv := []) (cv := [.pointer (some ⟨b1, 0, none⟩)]) rfl rfl) ?_)
  refine Rg_op rfl (o_call (fv := []) (cap := []) (vs := [.slice A xs.length c, .func (.func 58) #[] #[.pointer (some ⟨b1, 0, none⟩)]]) rfl rfl cl57 rfl (indexE_c _ _ xs (hit key) 58 [] [.pointer (some ⟨b1, 0, none⟩)] _ (hX.mono (fun _ _ h => H.cell0 h)) (by first | omega | (simp only [List.length_append, List.length_cons, List.length_nil]; omega)) cl58 (fun x w hw => find1_c x key _ w (cell_of ((hw.block _ (H.lo 0 rfl).2).trans (H.rd 0 rfl))))) fun v w3 hS => ?_)
  obtain ⟨rfl, hB⟩ := hS
  have H := H.keep hB
  refine Rg_op rfl (o_val (v := .int .i64 (idx (hit key) xs)) (d := 6) rfl rfl (ex_assign rfl) ?_)
  refine Rg_end ?_
  refine V_seq rfl ?_
  refine V_seq rfl ?_
  refine V_region rfl ?_
  refine Rg_op rfl (o_val (v := .int .i64 (idx (hit key) xs)) (d := 10) rfl rfl (ex_move rfl) ?_)
  refine Rg_op rfl (o_val (v := .bool (decide ((idx (hit key) xs) < 0))) (d := 11) rfl rfl (ex_lss rfl rfl) ?_)
  refine Rg_end ?_
  refine V_cond (b := (decide ((idx (hit key) xs) < 0))) rfl rfl (fun hb4 => ?_) (fun hb4 => ?_)
  · have hb4 : (idx (hit key) xs) < 0 := of_decide_eq_true hb4
    refine V_seq rfl ?_
    refine V_region rfl ?_
    refine Rg_op rfl (o_val (v := .int .i64 0) (d := 4) rfl rfl (ex_assign rfl) ?_)
    refine Rg_op rfl (o_val (v := .bool false) (d := 5) rfl rfl (ex_assign rfl) ?_)
    refine Rg_end ?_
    refine V_ret rfl (end0 (v := .tuple #[.int .i64 0, .bool false]) rfl (res_tmp2 Try.results19 rfl rfl) ?_)
    rcases idx_cases (hit key) xs with ⟨hi, hall⟩ | ⟨i, x, hi, _⟩
    · exact ⟨by rw [find_no hall], H.below⟩
    · omega
  · have hb4 : ¬ ((idx (hit key) xs) < 0) := of_decide_eq_false hb4
    refine V_skip rfl ?_
    refine V_seq rfl ?_
    refine V_region rfl ?_
    refine Rg_op rfl (o_val (v := .slice A xs.length c) (d := 12) rfl rfl (ex_move rfl) ?_)
    refine Rg_op rfl (o_val (v := .int .i64 (idx (hit key) xs)) (d := 13) rfl rfl (ex_move rfl) ?_)
    rcases idx_cases (hit key) xs with ⟨hi, _⟩ | ⟨i, x, hi, hx, hp, hall⟩
    · omega
    have hil := (List.getElem?_eq_some_iff.1 hx).1
    obtain ⟨ad5, x5, cs5, hA5, hx5, hR5, hc5⟩ := Row.get hX (idx (hit key) xs) (by omega) (by omega)
    obtain rfl := hR5
    refine Rg_op rfl (o_val (v := .pointer (some (ad5.add ((idx (hit key) xs).toNat * 3)))) (d := 14) rfl rfl (ex_indexAddr sl41 rfl hA5 rfl (by omega) (by omega) rfl) ?_)
    refine Rg_op rfl (o_val (v := .pointer (some (ad5.add ((idx (hit key) xs).toNat * 3 + 2)))) (d := 15) rfl rfl (ex_fieldAddr fo113_2 rfl (add_add _ _ _)) ?_)
    refine Rg_op rfl (o_val (v := .int .i64 x5.Outs) (d := 16) rfl rfl (ex_load ca3 rfl (H.cell0 (hc5 2 _ rfl))) ?_)
    refine Rg_op rfl (o_val (v := .int .i64 x5.Outs) (d := 4) rfl rfl (ex_assign rfl) ?_)
    refine Rg_op rfl (o_val (v := .bool true) (d := 5) rfl rfl (ex_assign rfl) ?_)
    refine Rg_end ?_
    refine V_ret rfl (end0 (v := .tuple #[.int .i64 x5.Outs, .bool true]) rfl (res_tmp2 Try.results19 rfl rfl) ?_)
    exact ⟨by rw [find_at hall hx hp, show x = x5 from by have h1 := hx5; rw [hi] at h1; simp only [Int.toNat_natCast] at h1; rw [hx] at h1; injection h1], H.below⟩

end Go.Proofs.Ytlnogaoihkinbaa
namespace Go.Proofs.Ytlnogaoihkinbaa
open Go.Gk Go.RowKit
theorem ca41 : cellsAgg Try.prog 41 = some none := by kernel_rfl
theorem ca58 : cellsAgg Try.prog 58 = some (some 4) := by kernel_rfl
theorem cl47 : callable Try.prog 47 = true := by kernel_rfl
theorem cl67 : callable Try.prog 67 = true := by kernel_rfl
theorem fo58_0 : fieldOff Try.prog 58 0 = some 0 := by kernel_rfl
theorem fo58_1 : fieldOff Try.prog 58 1 = some 1 := by kernel_rfl
theorem fo58_2 : fieldOff Try.prog 58 2 = some 2 := by kernel_rfl
theorem fo58_3 : fieldOff Try.prog 58 3 = some 3 := by kernel_rfl
theorem sl29 : sliceT Try.prog 29 = some ⟨41, 1, 24, .slice none 0 0⟩ := by kernel_rfl
theorem sl55 : sliceT Try.prog 55 = some ⟨58, 4, 32, .agg #[.int .i64 0, .int .i64 0, .int .i64 0, .int .i64 0]⟩ := by kernel_rfl
theorem ts58 : tySize Try.prog 58 = some 4 := by kernel_rfl
theorem tz58 : tyZero Try.prog 58 = some (.agg #[.int .i64 0, .int .i64 0, .int .i64 0, .int .i64 0]) := by kernel_rfl
theorem checkT_c (s : Spec) (A : Option Addr) (c : Nat) (ts : List (List Entry)) (w0 : World) (hX : Row (kSl kEnt) w0.cell? A ts) (hl : ts.length ≤ 9223372036854775807) :
    Calls Try.prog 25 #[.agg #[.int .i64 s.Wide, .int .i64 s.High, .int .i64 s.Room], .slice A ts.length c] w0 fun e w' => ∃ v, e = .returned v ∧ (v = .int .i64 (chkT s ts) ∧ Below w0.heap.size w0 w') := by
  refine calls_of (n := 33) (l := [.agg #[.int .i64 s.Wide, .int .i64 s.High, .int .i64 s.Room], .slice A ts.length c]) Try.func25 rfl rfl rfl ?_
  have H := Hp.start w0
  refine V_seq rfl ?_
  refine V_region rfl ?_
  refine Rg_op rfl (o_box (v := .agg #[.int .i64 s.Wide, .int .i64 s.High, .int .i64 s.Room]) rfl rfl H fun b1 w2 hA H => ?_)
  refine Rg_op rfl (o_val (v := .int .i64 0) (d := 4) rfl rfl (ex_assign rfl) ?_)
  refine Rg_end ?_
  refine V_seq rfl ?_
  refine V_seq rfl ?_
  refine V_region rfl ?_
  refine Rg_op rfl (o_val (v := .agg #[.int .i64 s.Wide, .int .i64 s.High, .int .i64 s.Room]) (d := 8) rfl rfl (ex_loadN (vs := [.int .i64 s.Wide, .int .i64 s.High, .int .i64 s.Room]) ca33 rfl rfl (blk_cells (H.rd 0 rfl) rfl)) ?_)
  refine Rg_op rfl (o_call (fv := []) (cap := []) (vs := [.agg #[.int .i64 s.Wide, .int .i64 s.High, .int .i64 s.Room]]) rfl rfl cl41 rfl (check_c s _) fun v w3 hS => ?_)
  obtain ⟨rfl, hB⟩ := hS
  have H := H.keep hB
  refine Rg_op rfl (o_val (v := .int .i64 (chk s)) (d := 5) rfl rfl (ex_assign rfl) ?_)
  refine Rg_end ?_
  refine V_seq rfl ?_
  refine V_region rfl ?_
  refine Rg_op rfl (o_val (v := .int .i64 (chk s)) (d := 10) rfl rfl (ex_move rfl) ?_)
  refine Rg_op rfl (o_val (v := .bool (decide ((chk s) ≠ 0))) (d := 11) rfl rfl (ex_neq rfl rfl) ?_)
  refine Rg_end ?_
  refine V_cond (b := (decide ((chk s) ≠ 0))) rfl rfl (fun hb4 => ?_) (fun hb4 => ?_)
  · have hb4 : (chk s) ≠ 0 := of_decide_eq_true hb4
    refine V_seq rfl ?_
    refine V_region rfl ?_
    refine Rg_op rfl (o_val (v := .int .i64 (chk s)) (d := 12) rfl rfl (ex_move rfl) ?_)
    refine Rg_op rfl (o_val (v := .int .i64 (chk s)) (d := 4) rfl rfl (ex_assign rfl) ?_)
    refine Rg_end ?_
    refine V_ret rfl (end0 (v := .int .i64 (chk s)) rfl (res_tmp Try.results25 rfl) ?_)
    exact ⟨by simp only [chkT]; (repeat' split) <;> first | contradiction | rfl | (simp_all; done) | skip, H.below⟩
  · have hb4 : ¬ ((chk s) ≠ 0) := of_decide_eq_false hb4
    have hs : chk s = 0 := by omega
    obtain ⟨hs1, hs2, hs3, hs4, hs5, hs6⟩ := chk_ok hs
    obtain ⟨hm1, hm2⟩ := mul64 hs
    refine V_skip rfl ?_
    refine V_seq rfl ?_
    refine V_seq rfl ?_
    refine V_region rfl ?_
    refine Rg_op rfl (o_val (v := .slice A ts.length c) (d := 13) rfl rfl (ex_move rfl) ?_)
    refine Rg_op rfl (o_val (v := .int .i64 ((ts.length : Nat) : Int)) (d := 14) rfl rfl (ex_len (ts := #[]) sl29 rfl) ?_)
    refine Rg_op rfl (o_val (v := .pointer (some ⟨b1, 0, none⟩)) (d := 15) rfl rfl (ex_fieldAddr fo33_0 rfl rfl) ?_)
    refine Rg_op rfl (o_val (v := .int .i64 s.Wide) (d := 16) rfl rfl (ex_load ca3 rfl (cell_of (H.rd 0 rfl))) ?_)
    refine Rg_op rfl (o_val (v := .pointer (some ⟨b1, 1, none⟩)) (d := 17) rfl rfl (ex_fieldAddr fo33_1 rfl rfl) ?_)
    refine Rg_op rfl (o_val (v := .int .i64 s.High) (d := 18) rfl rfl (ex_load ca3 rfl (cell_of (H.rd 0 rfl))) ?_)
    refine Rg_op rfl (o_val (v := .int .i64 (s.Wide * s.High)) (d := 19) rfl rfl (ex_mul rfl rfl (by omega)) ?_)
    refine Rg_op rfl (o_val (v := .bool (decide (((ts.length : Nat) : Int) ≠ (s.Wide * s.High)))) (d := 20) rfl rfl (ex_neq rfl rfl) ?_)
    refine Rg_end ?_
    refine V_cond (b := (decide (((ts.length : Nat) : Int) ≠ (s.Wide * s.High)))) rfl rfl (fun hb5 => ?_) (fun hb5 => ?_)
    · have hb5 : ((ts.length : Nat) : Int) ≠ (s.Wide * s.High) := of_decide_eq_true hb5
      refine V_seq rfl ?_
      refine V_region rfl ?_
      refine Rg_op rfl (o_val (v := .int .i64 13) (d := 4) rfl rfl (ex_assign rfl) ?_)
      refine Rg_end ?_
      refine V_ret rfl (end0 (v := .int .i64 13) rfl (res_tmp Try.results25 rfl) ?_)
      exact ⟨by simp only [chkT]; (repeat' split) <;> first | contradiction | rfl | (simp_all; done) | skip, H.below⟩
    · have hb5 : ¬ (((ts.length : Nat) : Int) ≠ (s.Wide * s.High)) := of_decide_eq_false hb5
      refine V_skip rfl ?_
      refine V_seq rfl ?_
      refine V_seq rfl ?_
      refine V_region rfl ?_
      refine Rg_op rfl (o_val (v := .slice A ts.length c) (d := 21) rfl rfl (ex_move rfl) ?_)
      refine Rg_op rfl (o_val (v := .int .i64 ((ts.length : Nat) : Int)) (d := 22) rfl rfl (ex_len (ts := #[]) sl29 rfl) ?_)
      refine Rg_op rfl (o_val (v := .int .i64 0) (d := 23) rfl rfl (ex_move rfl) ?_)
      refine Rg_end ?_
      refine V_block rfl ?_
      refine V_loop rfl (γ := Nat) (fun k σ w => σ 4 = .int .i64 0 ∧ σ 21 = .slice A ts.length c ∧ σ 22 = .int .i64 ((ts.length : Nat) : Int) ∧ σ 23 = .int .i64 ((k : Nat) : Int) ∧ σ 1000000 = undef ∧ Hp w0.heap.size w0 w [SA.cel b1 #[.int .i64 s.Wide, .int .i64 s.High, .int .i64 s.Room] 33] ∧ k ≤ ts.length ∧ (∀ y ∈ ts.take k, tabE y = 0)) (fun k => ts.length - k) (0) ⟨rfl, rfl, rfl, rfl, rfl, H, by omega, by simp⟩ (fun k σ w hI => ?_)
      obtain ⟨s4, s21, s22, s23, s1000000, H, hk, hall⟩ := hI
      refine V_seq rfl ?_
      refine V_region rfl ?_
      refine Rg_op rfl (o_val (v := .bool (decide (((k : Nat) : Int) < ((ts.length : Nat) : Int)))) (d := 24) rfl rfl (ex_lss s23 s22) ?_)
      refine Rg_end ?_
      refine V_seq rfl ?_
      refine V_cond (b := (decide (((k : Nat) : Int) < ((ts.length : Nat) : Int)))) rfl rfl (fun hb6 => ?_) (fun hb6 => ?_)
      · have hb6 : ((k : Nat) : Int) < ((ts.length : Nat) : Int) := of_decide_eq_true hb6
        refine V_skip rfl ?_
        refine V_seq rfl ?_
        refine V_block rfl ?_
        refine V_seq rfl ?_
        refine V_region rfl ?_
        obtain ⟨ad7, x7, cs7, hA7, hx7, hR7, hc7⟩ := Row.get hX ((k : Nat) : Int) (by omega) (by omega)
        obtain ⟨Ae8, ce8, rfl, hle8, hme8, hWe8⟩ := hR7
        refine Rg_op rfl (o_val (v := .pointer (some (ad7.add ((((k : Nat) : Int)).toNat * 1)))) (d := 25) rfl rfl (ex_indexAddr sl29 s21 hA7 s23 (by omega) (by omega) rfl) ?_)
        refine Rg_op rfl (o_val (v := .slice Ae8 x7.length ce8) (d := 26) rfl rfl (ex_load ca41 rfl (H.cell0 (hc7 0 _ rfl))) ?_)
        refine Rg_op rfl (o_val (v := .slice Ae8 x7.length ce8) (d := 7) rfl rfl (ex_assign rfl) ?_)
        refine Rg_end ?_
        refine V_seq rfl ?_
        refine V_seq rfl ?_
        refine V_region rfl ?_
        refine Rg_op rfl (o_val (v := .slice Ae8 x7.length ce8) (d := 27) rfl rfl (ex_move rfl) ?_)
        refine Rg_op rfl (o_val (v := .int .i64 ((x7.length : Nat) : Int)) (d := 28) rfl rfl (ex_len (ts := #[]) sl41 rfl) ?_)
        refine Rg_op rfl (o_val (v := .bool (decide (1024 < ((x7.length : Nat) : Int)))) (d := 29) rfl rfl (ex_gtr rfl rfl) ?_)
        refine Rg_end ?_
        refine V_cond (b := (decide (1024 < ((x7.length : Nat) : Int)))) rfl rfl (fun hb9 => ?_) (fun hb9 => ?_)
        · have hb9 : 1024 < ((x7.length : Nat) : Int) := of_decide_eq_true hb9
          refine V_seq rfl ?_
          refine V_region rfl ?_
          refine Rg_op rfl (o_val (v := .int .i64 9) (d := 4) rfl rfl (ex_assign rfl) ?_)
          refine Rg_end ?_
          refine V_ret rfl (end0 (v := .int .i64 9) s1000000 (res_tmp Try.results25 rfl) ?_)
          have hf : tabE x7 = 9 := by simp only [tabE]; (repeat' split) <;> first | contradiction | rfl | (simp_all; done) | skip
          exact ⟨by simp only [chkT]; (repeat' split) <;> first | contradiction | rfl | (simp_all; done) | skip; rw [first_at hall hx7 (by rw [hf]; decide), hf], H.below⟩
        · have hb9 : ¬ (1024 < ((x7.length : Nat) : Int)) := of_decide_eq_false hb9
          refine V_skip rfl ?_
          refine V_seq rfl ?_
          refine V_region rfl ?_
          refine Rg_op rfl (o_val (v := .slice Ae8 x7.length ce8) (d := 30) rfl rfl (ex_move rfl) ?_)
          refine Rg_op rfl (o_call (fv := []) (cap := []) (vs := [.slice Ae8 x7.length ce8, .func (.func 67) #[] #[]]) rfl rfl cl47 rfl (containsE_c _ _ x7 (fun x => !decide (ent x)) 67 [] [] _ (hWe8.mono (fun _ _ h => H.cell0 h)) (by omega) cl67 (fun x w _ => bad2_c x w)) fun v w10 hS => ?_)
          obtain ⟨rfl, hB⟩ := hS
          have H := H.keep hB
          refine Rg_end ?_
          refine V_cond (b := (x7.any (fun x => !decide (ent x)))) rfl rfl (fun hb11 => ?_) (fun hb11 => ?_)
          · skip
            refine V_seq rfl ?_
            refine V_region rfl ?_
            refine Rg_op rfl (o_val (v := .int .i64 2) (d := 4) rfl rfl (ex_assign rfl) ?_)
            refine Rg_end ?_
            refine V_ret rfl (end0 (v := .int .i64 2) s1000000 (res_tmp Try.results25 rfl) ?_)
            have hf : tabE x7 = 2 := by simp only [tabE]; (repeat' split) <;> first | contradiction | rfl | (simp_all; done) | skip
            exact ⟨by simp only [chkT]; (repeat' split) <;> first | contradiction | rfl | (simp_all; done) | skip; rw [first_at hall hx7 (by rw [hf]; decide), hf], H.below⟩
          · skip
            refine V_skip rfl ?_
            refine V_region rfl ?_
            refine Rg_op rfl (o_val (v := .int .i64 (((k : Nat) : Int) + 1)) (d := 32) rfl rfl (ex_add s23 rfl (by omega)) ?_)
            refine Rg_op rfl (o_val (v := .int .i64 (((k : Nat) : Int) + 1)) (d := 23) rfl rfl (ex_move rfl) ?_)
            refine Rg_end ?_
            exact ⟨k + 1, ⟨s4, s21, s22, rfl, s1000000, H, by omega, take_all hall hx7 (by simp only [tabE]; (repeat' split) <;> first | contradiction | rfl | (simp_all; done) | skip)⟩, by omega⟩
      · have hb6 : ¬ (((k : Nat) : Int) < ((ts.length : Nat) : Int)) := of_decide_eq_false hb6
        refine V_exit rfl ?_
        refine V_seq rfl ?_
        refine V_region rfl ?_
        refine Rg_op rfl (o_val (v := .int .i64 0) (d := 4) rfl rfl (ex_assign rfl) ?_)
        refine Rg_end ?_
        refine V_ret rfl (end0 (v := .int .i64 0) s1000000 (res_tmp Try.results25 rfl) ?_)
        exact ⟨by simp only [chkT]; (repeat' split) <;> first | contradiction | rfl | (simp_all; done) | skip; rw [first_no (take_full hall (by omega))], H.below⟩

theorem checkP_c (s : Spec) (A : Option Addr) (c : Nat) (l : List Packet) (w0 : World) (hs : chk s = 0) (hX : Row kPkt w0.cell? A l) (hl : l.length ≤ 9223372036854775807) :
    Calls Try.prog 59 #[.agg #[.int .i64 s.Wide, .int .i64 s.High, .int .i64 s.Room], .slice A l.length c] w0 fun e w' => ∃ v, e = .returned v ∧ (v = .int .i64 (chkP s l) ∧ Below w0.heap.size w0 w') := by
  obtain ⟨hs1, hs2, hs3, hs4, hs5, hs6⟩ := chk_ok hs
  obtain ⟨hm1, hm2⟩ := mul64 hs
  refine calls_of (n := 58) (l := [.agg #[.int .i64 s.Wide, .int .i64 s.High, .int .i64 s.Room], .slice A l.length c]) Try.func59 rfl rfl rfl ?_
  have H := Hp.start w0
  refine V_seq rfl ?_
  refine V_region rfl ?_
  refine Rg_op rfl (o_box (v := .agg #[.int .i64 s.Wide, .int .i64 s.High, .int .i64 s.Room]) rfl rfl H fun b1 w2 hA H => ?_)
  refine Rg_op rfl (o_val (v := .int .i64 0) (d := 4) rfl rfl (ex_assign rfl) ?_)
  refine Rg_end ?_
  refine V_seq rfl ?_
  refine V_seq rfl ?_
  refine V_region rfl ?_
  refine Rg_op rfl (o_val (v := .slice A l.length c) (d := 7) rfl rfl (ex_move rfl) ?_)
  refine Rg_op rfl (o_val (v := .int .i64 ((l.length : Nat) : Int)) (d := 8) rfl rfl (ex_len (ts := #[]) sl55 rfl) ?_)
  refine Rg_op rfl (o_val (v := .bool (decide (1024 < ((l.length : Nat) : Int)))) (d := 9) rfl rfl (ex_gtr rfl rfl) ?_)
  refine Rg_end ?_
  refine V_cond (b := (decide (1024 < ((l.length : Nat) : Int)))) rfl rfl (fun hb3 => ?_) (fun hb3 => ?_)
  · have hb3 : 1024 < ((l.length : Nat) : Int) := of_decide_eq_true hb3
    refine V_seq rfl ?_
    refine V_region rfl ?_
    refine Rg_op rfl (o_val (v := .int .i64 9) (d := 4) rfl rfl (ex_assign rfl) ?_)
    refine Rg_end ?_
    refine V_ret rfl (end0 (v := .int .i64 9) rfl (res_tmp Try.results59 rfl) ?_)
    exact ⟨by simp only [chkP]; (repeat' split) <;> first | contradiction | rfl | (simp_all; done) | skip, H.below⟩
  · have hb3 : ¬ (1024 < ((l.length : Nat) : Int)) := of_decide_eq_false hb3
    refine V_skip rfl ?_
    refine V_seq rfl ?_
    refine V_seq rfl ?_
    refine V_region rfl ?_
    refine Rg_op rfl (o_val (v := .slice A l.length c) (d := 10) rfl rfl (ex_move rfl) ?_)
    refine Rg_op rfl (o_val (v := .int .i64 ((l.length : Nat) : Int)) (d := 11) rfl rfl (ex_len (ts := #[]) sl55 rfl) ?_)
    refine Rg_op rfl (o_val (v := .int .i64 0) (d := 12) rfl rfl (ex_move rfl) ?_)
    refine Rg_end ?_
    refine V_block rfl ?_
    refine V_loop rfl (γ := Nat) (fun k σ w => σ 2 = .pointer (some ⟨b1, 0, none⟩) ∧ σ 4 = .int .i64 0 ∧ σ 10 = .slice A l.length c ∧ σ 11 = .int .i64 ((l.length : Nat) : Int) ∧ σ 12 = .int .i64 ((k : Nat) : Int) ∧ σ 1000000 = undef ∧ Hp w0.heap.size w0 w [SA.cel b1 #[.int .i64 s.Wide, .int .i64 s.High, .int .i64 s.Room] 33] ∧ k ≤ l.length ∧ (∀ y ∈ l.take k, pktE s y = 0)) (fun k => l.length - k) (0) ⟨rfl, rfl, rfl, rfl, rfl, rfl, H, by omega, by simp⟩ (fun k σ w hI => ?_)
    obtain ⟨s2, s4, s10, s11, s12, s1000000, H, hk, hall⟩ := hI
    refine V_seq rfl ?_
    refine V_region rfl ?_
    refine Rg_op rfl (o_val (v := .bool (decide (((k : Nat) : Int) < ((l.length : Nat) : Int)))) (d := 13) rfl rfl (ex_lss s12 s11) ?_)
    refine Rg_end ?_
    refine V_seq rfl ?_
    refine V_cond (b := (decide (((k : Nat) : Int) < ((l.length : Nat) : Int)))) rfl rfl (fun hb4 => ?_) (fun hb4 => ?_)
    · have hb4 : ((k : Nat) : Int) < ((l.length : Nat) : Int) := of_decide_eq_true hb4
      refine V_skip rfl ?_
      refine V_seq rfl ?_
      refine V_block rfl ?_
      refine V_seq rfl ?_
      refine V_region rfl ?_
      obtain ⟨ad5, x5, cs5, hA5, hx5, hR5, hc5⟩ := Row.get hX ((k : Nat) : Int) (by omega) (by omega)
      obtain rfl := hR5
      refine Rg_op rfl (o_val (v := .pointer (some (ad5.add ((((k : Nat) : Int)).toNat * 4)))) (d := 14) rfl rfl (ex_indexAddr sl55 s10 hA5 s12 (by omega) (by omega) rfl) ?_)
      refine Rg_op rfl (o_val (v := .agg #[.int .i64 x5.Tick, .int .i64 x5.Source, .int .i64 x5.Key, .int .i64 x5.Class]) (d := 15) rfl rfl (ex_loadN (vs := [.int .i64 x5.Tick, .int .i64 x5.Source, .int .i64 x5.Key, .int .i64 x5.Class]) ca58 rfl rfl (fun j u hj => by rw [add_add]; exact H.cell0 (hc5 j u hj))) ?_)
      refine Rg_op rfl (o_alloc rfl tz58 H fun b6 w7 hA H => ?_)
      refine Rg_op rfl (o_store (vs := [.int .i64 x5.Tick, .int .i64 x5.Source, .int .i64 x5.Key, .int .i64 x5.Class]) rfl ts58 rfl rfl rfl rfl 0 rfl rfl rfl rfl H fun w8 hA H => ?_)
      refine Rg_end ?_
      refine V_block rfl ?_
      refine V_seq rfl ?_
      refine V_join (fun σ w => σ 2 = .pointer (some ⟨b1, 0, none⟩) ∧ σ 4 = .int .i64 0 ∧ σ 6 = .pointer (some ⟨b6, 0, none⟩) ∧ σ 10 = .slice A l.length c ∧ σ 11 = .int .i64 ((l.length : Nat) : Int) ∧ σ 12 = .int .i64 ((k : Nat) : Int) ∧ σ 13 = .bool (decide (((k : Nat) : Int) < ((l.length : Nat) : Int))) ∧ σ 14 = .pointer (some (ad5.add ((((k : Nat) : Int)).toNat * 4))) ∧ σ 15 = .agg #[.int .i64 x5.Tick, .int .i64 x5.Source, .int .i64 x5.Key, .int .i64 x5.Class] ∧ σ 16 = .bool (decide ((x5.Tick < 0) ∨ (10000 < x5.Tick))) ∧ σ 17 = .pointer (some ⟨b6, 0, none⟩) ∧ σ 18 = .int .i64 x5.Tick ∧ σ 19 = .bool (decide (x5.Tick < 0)) ∧ σ 20 = .bool (decide (x5.Tick < 0)) ∧ σ 24 = .bool (decide ((x5.Tick < 0) ∨ (10000 < x5.Tick))) ∧ σ 1000000 = undef ∧ Hp w0.heap.size w0 w [SA.cel b6 #[.int .i64 x5.Tick, .int .i64 x5.Source, .int .i64 x5.Key, .int .i64 x5.Class] 58, SA.cel b1 #[.int .i64 s.Wide, .int .i64 s.High, .int .i64 s.Room] 33]) ?_ (fun σ w hI => ?_)
      · skip
        refine V_region rfl ?_
        refine Rg_op rfl (o_val (v := .pointer (some ⟨b6, 0, none⟩)) (d := 17) rfl rfl (ex_fieldAddr fo58_0 rfl rfl) ?_)
        refine Rg_op rfl (o_val (v := .int .i64 x5.Tick) (d := 18) rfl rfl (ex_load ca3 rfl (cell_of (H.rd 0 rfl))) ?_)
        refine Rg_op rfl (o_val (v := .bool (decide (x5.Tick < 0))) (d := 19) rfl rfl (ex_lss rfl rfl) ?_)
        refine Rg_op rfl (o_val (v := .bool (decide (x5.Tick < 0))) (d := 20) rfl rfl (ex_move rfl) ?_)
        by_cases hg9 : x5.Tick < 0
        · skip
          refine Rg_op rfl (o_skip (d := 21) rfl rfl (wanted_no (b := (decide (x5.Tick < 0))) rfl rfl rfl (decide_eq_true hg9)) ?_)
          refine Rg_op rfl (o_skip (d := 22) rfl rfl (wanted_no (b := (decide (x5.Tick < 0))) rfl rfl rfl (decide_eq_true hg9)) ?_)
          refine Rg_op rfl (o_skip (d := 23) rfl rfl (wanted_no (b := (decide (x5.Tick < 0))) rfl rfl rfl (decide_eq_true hg9)) ?_)
          refine Rg_op rfl (o_val (v := .bool true) (d := 24) rfl rfl (ex_pick (q := (decide (x5.Tick < 0))) rfl (fun h => rfl) (fun h => absurd hg9 (of_decide_eq_false h))) ?_)
          refine Rg_op rfl (o_val (v := .bool true) (d := 16) rfl rfl (ex_assign rfl) ?_)
          refine Rg_end ?_
          exact ⟨s2, s4, rfl, s10, s11, s12, rfl, rfl, rfl, (show (.bool true : Value) = .bool (decide ((x5.Tick < 0) ∨ (10000 < x5.Tick))) from by first | (simp only [hg9, true_or, or_true, false_or, or_false, true_and, and_true, false_and, and_false, decide_true, decide_false, Bool.not_true, Bool.not_false]; done) | (simp [hg9]; done) | (simp [hg9]; rfl)), rfl, rfl, rfl, rfl, (show (.bool true : Value) = .bool (decide ((x5.Tick < 0) ∨ (10000 < x5.Tick))) from by first | (simp only [hg9, true_or, or_true, false_or, or_false, true_and, and_true, false_and, and_false, decide_true, decide_false, Bool.not_true, Bool.not_false]; done) | (simp [hg9]; done) | (simp [hg9]; rfl)), s1000000, H⟩
        · skip
          refine Rg_op rfl (o_valg (v := .pointer (some ⟨b6, 0, none⟩)) (d := 21) rfl rfl (wanted_yes (b := (decide (x5.Tick < 0))) rfl rfl rfl (decide_eq_false hg9)) (ex_fieldAddr fo58_0 rfl rfl) ?_)
          refine Rg_op rfl (o_valg (v := .int .i64 x5.Tick) (d := 22) rfl rfl (wanted_yes (b := (decide (x5.Tick < 0))) rfl rfl rfl (decide_eq_false hg9)) (ex_load ca3 rfl (cell_of (H.rd 0 rfl))) ?_)
          refine Rg_op rfl (o_valg (v := .bool (decide (10000 < x5.Tick))) (d := 23) rfl rfl (wanted_yes (b := (decide (x5.Tick < 0))) rfl rfl rfl (decide_eq_false hg9)) (ex_gtr rfl rfl) ?_)
          refine Rg_op rfl (o_val (v := .bool (decide (10000 < x5.Tick))) (d := 24) rfl rfl (ex_pick (q := (decide (x5.Tick < 0))) rfl (fun h => absurd (of_decide_eq_true h) hg9) (fun h => rfl)) ?_)
          refine Rg_op rfl (o_val (v := .bool (decide (10000 < x5.Tick))) (d := 16) rfl rfl (ex_assign rfl) ?_)
          refine Rg_end ?_
          exact ⟨s2, s4, rfl, s10, s11, s12, rfl, rfl, rfl, (show (.bool (decide (10000 < x5.Tick)) : Value) = .bool (decide ((x5.Tick < 0) ∨ (10000 < x5.Tick))) from by first | (simp only [hg9, true_or, or_true, false_or, or_false, true_and, and_true, false_and, and_false, decide_true, decide_false, Bool.not_true, Bool.not_false]; done) | (simp [hg9]; done) | (simp [hg9]; rfl)), rfl, rfl, rfl, rfl, (show (.bool (decide (10000 < x5.Tick)) : Value) = .bool (decide ((x5.Tick < 0) ∨ (10000 < x5.Tick))) from by first | (simp only [hg9, true_or, or_true, false_or, or_false, true_and, and_true, false_and, and_false, decide_true, decide_false, Bool.not_true, Bool.not_false]; done) | (simp [hg9]; done) | (simp [hg9]; rfl)), s1000000, H⟩
      obtain ⟨s2, s4, s6, s10, s11, s12, s13, s14, s15, s16, s17, s18, s19, s20, s24, s1000000, H⟩ := hI
      refine V_cond (b := (decide ((x5.Tick < 0) ∨ (10000 < x5.Tick)))) rfl s16 (fun hb10 => ?_) (fun hb10 => ?_)
      · have hb10 : (x5.Tick < 0) ∨ (10000 < x5.Tick) := of_decide_eq_true hb10
        refine V_seq rfl ?_
        refine V_region rfl ?_
        refine Rg_op rfl (o_val (v := .int .i64 3) (d := 4) rfl rfl (ex_assign rfl) ?_)
        refine Rg_end ?_
        refine V_ret rfl (end0 (v := .int .i64 3) s1000000 (res_tmp Try.results59 rfl) ?_)
        have hf : pktE s x5 = 3 := by simp only [pktE]; (repeat' split) <;> first | contradiction | rfl | (simp_all; done) | skip
        exact ⟨by simp only [chkP]; (repeat' split) <;> first | contradiction | rfl | (simp_all; done) | skip; rw [first_at hall hx5 (by rw [hf]; decide), hf], H.below⟩
      · have hb10 : ¬ ((x5.Tick < 0) ∨ (10000 < x5.Tick)) := of_decide_eq_false hb10
        refine V_seq rfl ?_
        refine V_join (fun σ w => σ 2 = .pointer (some ⟨b1, 0, none⟩) ∧ σ 4 = .int .i64 0 ∧ σ 6 = .pointer (some ⟨b6, 0, none⟩) ∧ σ 10 = .slice A l.length c ∧ σ 11 = .int .i64 ((l.length : Nat) : Int) ∧ σ 12 = .int .i64 ((k : Nat) : Int) ∧ σ 13 = .bool (decide (((k : Nat) : Int) < ((l.length : Nat) : Int))) ∧ σ 14 = .pointer (some (ad5.add ((((k : Nat) : Int)).toNat * 4))) ∧ σ 15 = .agg #[.int .i64 x5.Tick, .int .i64 x5.Source, .int .i64 x5.Key, .int .i64 x5.Class] ∧ σ 16 = .bool (decide ((x5.Tick < 0) ∨ (10000 < x5.Tick))) ∧ σ 17 = .pointer (some ⟨b6, 0, none⟩) ∧ σ 18 = .int .i64 x5.Tick ∧ σ 19 = .bool (decide (x5.Tick < 0)) ∧ σ 20 = .bool (decide (x5.Tick < 0)) ∧ σ 24 = .bool (decide ((x5.Tick < 0) ∨ (10000 < x5.Tick))) ∧ σ 25 = .bool (decide ((x5.Source < 0) ∨ ((s.Wide * s.High) ≤ x5.Source))) ∧ σ 26 = .pointer (some ⟨b6, 1, none⟩) ∧ σ 27 = .int .i64 x5.Source ∧ σ 28 = .bool (decide (x5.Source < 0)) ∧ σ 29 = .bool (decide (x5.Source < 0)) ∧ σ 38 = .bool (decide ((x5.Source < 0) ∨ ((s.Wide * s.High) ≤ x5.Source))) ∧ σ 1000000 = undef ∧ Hp w0.heap.size w0 w [SA.cel b6 #[.int .i64 x5.Tick, .int .i64 x5.Source, .int .i64 x5.Key, .int .i64 x5.Class] 58, SA.cel b1 #[.int .i64 s.Wide, .int .i64 s.High, .int .i64 s.Room] 33]) ?_ (fun σ w hI => ?_)
        · skip
          refine V_region rfl ?_
          refine Rg_op rfl (o_val (v := .pointer (some ⟨b6, 1, none⟩)) (d := 26) rfl rfl (ex_fieldAddr fo58_1 s6 rfl) ?_)
          refine Rg_op rfl (o_val (v := .int .i64 x5.Source) (d := 27) rfl rfl (ex_load ca3 rfl (cell_of (H.rd 0 rfl))) ?_)
          refine Rg_op rfl (o_val (v := .bool (decide (x5.Source < 0))) (d := 28) rfl rfl (ex_lss rfl rfl) ?_)
          refine Rg_op rfl (o_val (v := .bool (decide (x5.Source < 0))) (d := 29) rfl rfl (ex_move rfl) ?_)
          by_cases hg11 : x5.Source < 0
          · skip
            refine Rg_op rfl (o_skip (d := 30) rfl rfl (wanted_no (b := (decide (x5.Source < 0))) rfl rfl rfl (decide_eq_true hg11)) ?_)
            refine Rg_op rfl (o_skip (d := 31) rfl rfl (wanted_no (b := (decide (x5.Source < 0))) rfl rfl rfl (decide_eq_true hg11)) ?_)
            refine Rg_op rfl (o_skip (d := 32) rfl rfl (wanted_no (b := (decide (x5.Source < 0))) rfl rfl rfl (decide_eq_true hg11)) ?_)
            refine Rg_op rfl (o_skip (d := 33) rfl rfl (wanted_no (b := (decide (x5.Source < 0))) rfl rfl rfl (decide_eq_true hg11)) ?_)
            refine Rg_op rfl (o_skip (d := 34) rfl rfl (wanted_no (b := (decide (x5.Source < 0))) rfl rfl rfl (decide_eq_true hg11)) ?_)
            refine Rg_op rfl (o_skip (d := 35) rfl rfl (wanted_no (b := (decide (x5.Source < 0))) rfl rfl rfl (decide_eq_true hg11)) ?_)
            refine Rg_op rfl (o_skip (d := 36) rfl rfl (wanted_no (b := (decide (x5.Source < 0))) rfl rfl rfl (decide_eq_true hg11)) ?_)
            refine Rg_op rfl (o_skip (d := 37) rfl rfl (wanted_no (b := (decide (x5.Source < 0))) rfl rfl rfl (decide_eq_true hg11)) ?_)
            refine Rg_op rfl (o_val (v := .bool true) (d := 38) rfl rfl (ex_pick (q := (decide (x5.Source < 0))) rfl (fun h => rfl) (fun h => absurd hg11 (of_decide_eq_false h))) ?_)
            refine Rg_op rfl (o_val (v := .bool true) (d := 25) rfl rfl (ex_assign rfl) ?_)
            refine Rg_end ?_
            exact ⟨s2, s4, s6, s10, s11, s12, s13, s14, s15, s16, s17, s18, s19, s20, s24, (show (.bool true : Value) = .bool (decide ((x5.Source < 0) ∨ ((s.Wide * s.High) ≤ x5.Source))) from by first | (simp only [hg11, true_or, or_true, false_or, or_false, true_and, and_true, false_and, and_false, decide_true, decide_false, Bool.not_true, Bool.not_false]; done) | (simp [hg11]; done) | (simp [hg11]; rfl)), rfl, rfl, rfl, rfl, (show (.bool true : Value) = .bool (decide ((x5.Source < 0) ∨ ((s.Wide * s.High) ≤ x5.Source))) from by first | (simp only [hg11, true_or, or_true, false_or, or_false, true_and, and_true, false_and, and_false, decide_true, decide_false, Bool.not_true, Bool.not_false]; done) | (simp [hg11]; done) | (simp [hg11]; rfl)), s1000000, H⟩
          · skip
            refine Rg_op rfl (o_valg (v := .pointer (some ⟨b6, 1, none⟩)) (d := 30) rfl rfl (wanted_yes (b := (decide (x5.Source < 0))) rfl rfl rfl (decide_eq_false hg11)) (ex_fieldAddr fo58_1 s6 rfl) ?_)
            refine Rg_op rfl (o_valg (v := .int .i64 x5.Source) (d := 31) rfl rfl (wanted_yes (b := (decide (x5.Source < 0))) rfl rfl rfl (decide_eq_false hg11)) (ex_load ca3 rfl (cell_of (H.rd 0 rfl))) ?_)
            refine Rg_op rfl (o_valg (v := .pointer (some ⟨b1, 0, none⟩)) (d := 32) rfl rfl (wanted_yes (b := (decide (x5.Source < 0))) rfl rfl rfl (decide_eq_false hg11)) (ex_fieldAddr fo33_0 s2 rfl) ?_)
            refine Rg_op rfl (o_valg (v := .int .i64 s.Wide) (d := 33) rfl rfl (wanted_yes (b := (decide (x5.Source < 0))) rfl rfl rfl (decide_eq_false hg11)) (ex_load ca3 rfl (cell_of (H.rd 1 rfl))) ?_)
            refine Rg_op rfl (o_valg (v := .pointer (some ⟨b1, 1, none⟩)) (d := 34) rfl rfl (wanted_yes (b := (decide (x5.Source < 0))) rfl rfl rfl (decide_eq_false hg11)) (ex_fieldAddr fo33_1 s2 rfl) ?_)
            refine Rg_op rfl (o_valg (v := .int .i64 s.High) (d := 35) rfl rfl (wanted_yes (b := (decide (x5.Source < 0))) rfl rfl rfl (decide_eq_false hg11)) (ex_load ca3 rfl (cell_of (H.rd 1 rfl))) ?_)
            refine Rg_op rfl (o_valg (v := .int .i64 (s.Wide * s.High)) (d := 36) rfl rfl (wanted_yes (b := (decide (x5.Source < 0))) rfl rfl rfl (decide_eq_false hg11)) (ex_mul rfl rfl (by omega)) ?_)
            refine Rg_op rfl (o_valg (v := .bool (decide ((s.Wide * s.High) ≤ x5.Source))) (d := 37) rfl rfl (wanted_yes (b := (decide (x5.Source < 0))) rfl rfl rfl (decide_eq_false hg11)) (ex_geq rfl rfl) ?_)
            refine Rg_op rfl (o_val (v := .bool (decide ((s.Wide * s.High) ≤ x5.Source))) (d := 38) rfl rfl (ex_pick (q := (decide (x5.Source < 0))) rfl (fun h => absurd (of_decide_eq_true h) hg11) (fun h => rfl)) ?_)
            refine Rg_op rfl (o_val (v := .bool (decide ((s.Wide * s.High) ≤ x5.Source))) (d := 25) rfl rfl (ex_assign rfl) ?_)
            refine Rg_end ?_
            exact ⟨s2, s4, s6, s10, s11, s12, s13, s14, s15, s16, s17, s18, s19, s20, s24, (show (.bool (decide ((s.Wide * s.High) ≤ x5.Source)) : Value) = .bool (decide ((x5.Source < 0) ∨ ((s.Wide * s.High) ≤ x5.Source))) from by first | (simp only [hg11, true_or, or_true, false_or, or_false, true_and, and_true, false_and, and_false, decide_true, decide_false, Bool.not_true, Bool.not_false]; done) | (simp [hg11]; done) | (simp [hg11]; rfl)), rfl, rfl, rfl, rfl, (show (.bool (decide ((s.Wide * s.High) ≤ x5.Source)) : Value) = .bool (decide ((x5.Source < 0) ∨ ((s.Wide * s.High) ≤ x5.Source))) from by first | (simp only [hg11, true_or, or_true, false_or, or_false, true_and, and_true, false_and, and_false, decide_true, decide_false, Bool.not_true, Bool.not_false]; done) | (simp [hg11]; done) | (simp [hg11]; rfl)), s1000000, H⟩
        obtain ⟨s2, s4, s6, s10, s11, s12, s13, s14, s15, s16, s17, s18, s19, s20, s24, s25, s26, s27, s28, s29, s38, s1000000, H⟩ := hI
        refine V_cond (b := (decide ((x5.Source < 0) ∨ ((s.Wide * s.High) ≤ x5.Source)))) rfl s25 (fun hb12 => ?_) (fun hb12 => ?_)
        · have hb12 : (x5.Source < 0) ∨ ((s.Wide * s.High) ≤ x5.Source) := of_decide_eq_true hb12
          refine V_seq rfl ?_
          refine V_region rfl ?_
          refine Rg_op rfl (o_val (v := .int .i64 4) (d := 4) rfl rfl (ex_assign rfl) ?_)
          refine Rg_end ?_
          refine V_ret rfl (end0 (v := .int .i64 4) s1000000 (res_tmp Try.results59 rfl) ?_)
          have hf : pktE s x5 = 4 := by simp only [pktE]; (repeat' split) <;> first | contradiction | rfl | (simp_all; done) | skip
          exact ⟨by simp only [chkP]; (repeat' split) <;> first | contradiction | rfl | (simp_all; done) | skip; rw [first_at hall hx5 (by rw [hf]; decide), hf], H.below⟩
        · have hb12 : ¬ ((x5.Source < 0) ∨ ((s.Wide * s.High) ≤ x5.Source)) := of_decide_eq_false hb12
          refine V_seq rfl ?_
          refine V_join (fun σ w => σ 2 = .pointer (some ⟨b1, 0, none⟩) ∧ σ 4 = .int .i64 0 ∧ σ 6 = .pointer (some ⟨b6, 0, none⟩) ∧ σ 10 = .slice A l.length c ∧ σ 11 = .int .i64 ((l.length : Nat) : Int) ∧ σ 12 = .int .i64 ((k : Nat) : Int) ∧ σ 13 = .bool (decide (((k : Nat) : Int) < ((l.length : Nat) : Int))) ∧ σ 14 = .pointer (some (ad5.add ((((k : Nat) : Int)).toNat * 4))) ∧ σ 15 = .agg #[.int .i64 x5.Tick, .int .i64 x5.Source, .int .i64 x5.Key, .int .i64 x5.Class] ∧ σ 16 = .bool (decide ((x5.Tick < 0) ∨ (10000 < x5.Tick))) ∧ σ 17 = .pointer (some ⟨b6, 0, none⟩) ∧ σ 18 = .int .i64 x5.Tick ∧ σ 19 = .bool (decide (x5.Tick < 0)) ∧ σ 20 = .bool (decide (x5.Tick < 0)) ∧ σ 24 = .bool (decide ((x5.Tick < 0) ∨ (10000 < x5.Tick))) ∧ σ 25 = .bool (decide ((x5.Source < 0) ∨ ((s.Wide * s.High) ≤ x5.Source))) ∧ σ 26 = .pointer (some ⟨b6, 1, none⟩) ∧ σ 27 = .int .i64 x5.Source ∧ σ 28 = .bool (decide (x5.Source < 0)) ∧ σ 29 = .bool (decide (x5.Source < 0)) ∧ σ 38 = .bool (decide ((x5.Source < 0) ∨ ((s.Wide * s.High) ≤ x5.Source))) ∧ σ 39 = .bool (decide ((x5.Key < 0) ∨ (65535 < x5.Key))) ∧ σ 40 = .pointer (some ⟨b6, 2, none⟩) ∧ σ 41 = .int .i64 x5.Key ∧ σ 42 = .bool (decide (x5.Key < 0)) ∧ σ 43 = .bool (decide (x5.Key < 0)) ∧ σ 47 = .bool (decide ((x5.Key < 0) ∨ (65535 < x5.Key))) ∧ σ 1000000 = undef ∧ Hp w0.heap.size w0 w [SA.cel b6 #[.int .i64 x5.Tick, .int .i64 x5.Source, .int .i64 x5.Key, .int .i64 x5.Class] 58, SA.cel b1 #[.int .i64 s.Wide, .int .i64 s.High, .int .i64 s.Room] 33]) ?_ (fun σ w hI => ?_)
          · skip
            refine V_region rfl ?_
            refine Rg_op rfl (o_val (v := .pointer (some ⟨b6, 2, none⟩)) (d := 40) rfl rfl (ex_fieldAddr fo58_2 s6 rfl) ?_)
            refine Rg_op rfl (o_val (v := .int .i64 x5.Key) (d := 41) rfl rfl (ex_load ca3 rfl (cell_of (H.rd 0 rfl))) ?_)
            refine Rg_op rfl (o_val (v := .bool (decide (x5.Key < 0))) (d := 42) rfl rfl (ex_lss rfl rfl) ?_)
            refine Rg_op rfl (o_val (v := .bool (decide (x5.Key < 0))) (d := 43) rfl rfl (ex_move rfl) ?_)
            by_cases hg13 : x5.Key < 0
            · skip
              refine Rg_op rfl (o_skip (d := 44) rfl rfl (wanted_no (b := (decide (x5.Key < 0))) rfl rfl rfl (decide_eq_true hg13)) ?_)
              refine Rg_op rfl (o_skip (d := 45) rfl rfl (wanted_no (b := (decide (x5.Key < 0))) rfl rfl rfl (decide_eq_true hg13)) ?_)
              refine Rg_op rfl (o_skip (d := 46) rfl rfl (wanted_no (b := (decide (x5.Key < 0))) rfl rfl rfl (decide_eq_true hg13)) ?_)
              refine Rg_op rfl (o_val (v := .bool true) (d := 47) rfl rfl (ex_pick (q := (decide (x5.Key < 0))) rfl (fun h => rfl) (fun h => absurd hg13 (of_decide_eq_false h))) ?_)
              refine Rg_op rfl (o_val (v := .bool true) (d := 39) rfl rfl (ex_assign rfl) ?_)
              refine Rg_end ?_
              exact ⟨s2, s4, s6, s10, s11, s12, s13, s14, s15, s16, s17, s18, s19, s20, s24, s25, s26, s27, s28, s29, s38, (show (.bool true : Value) = .bool (decide ((x5.Key < 0) ∨ (65535 < x5.Key))) from by first | (simp only [hg13, true_or, or_true, false_or, or_false, true_and, and_true, false_and, and_false, decide_true, decide_false, Bool.not_true, Bool.not_false]; done) | (simp [hg13]; done) | (simp [hg13]; rfl)), rfl, rfl, rfl, rfl, (show (.bool true : Value) = .bool (decide ((x5.Key < 0) ∨ (65535 < x5.Key))) from by first | (simp only [hg13, true_or, or_true, false_or, or_false, true_and, and_true, false_and, and_false, decide_true, decide_false, Bool.not_true, Bool.not_false]; done) | (simp [hg13]; done) | (simp [hg13]; rfl)), s1000000, H⟩
            · skip
              refine Rg_op rfl (o_valg (v := .pointer (some ⟨b6, 2, none⟩)) (d := 44) rfl rfl (wanted_yes (b := (decide (x5.Key < 0))) rfl rfl rfl (decide_eq_false hg13)) (ex_fieldAddr fo58_2 s6 rfl) ?_)
              refine Rg_op rfl (o_valg (v := .int .i64 x5.Key) (d := 45) rfl rfl (wanted_yes (b := (decide (x5.Key < 0))) rfl rfl rfl (decide_eq_false hg13)) (ex_load ca3 rfl (cell_of (H.rd 0 rfl))) ?_)
              refine Rg_op rfl (o_valg (v := .bool (decide (65535 < x5.Key))) (d := 46) rfl rfl (wanted_yes (b := (decide (x5.Key < 0))) rfl rfl rfl (decide_eq_false hg13)) (ex_gtr rfl rfl) ?_)
              refine Rg_op rfl (o_val (v := .bool (decide (65535 < x5.Key))) (d := 47) rfl rfl (ex_pick (q := (decide (x5.Key < 0))) rfl (fun h => absurd (of_decide_eq_true h) hg13) (fun h => rfl)) ?_)
              refine Rg_op rfl (o_val (v := .bool (decide (65535 < x5.Key))) (d := 39) rfl rfl (ex_assign rfl) ?_)
              refine Rg_end ?_
              exact ⟨s2, s4, s6, s10, s11, s12, s13, s14, s15, s16, s17, s18, s19, s20, s24, s25, s26, s27, s28, s29, s38, (show (.bool (decide (65535 < x5.Key)) : Value) = .bool (decide ((x5.Key < 0) ∨ (65535 < x5.Key))) from by first | (simp only [hg13, true_or, or_true, false_or, or_false, true_and, and_true, false_and, and_false, decide_true, decide_false, Bool.not_true, Bool.not_false]; done) | (simp [hg13]; done) | (simp [hg13]; rfl)), rfl, rfl, rfl, rfl, (show (.bool (decide (65535 < x5.Key)) : Value) = .bool (decide ((x5.Key < 0) ∨ (65535 < x5.Key))) from by first | (simp only [hg13, true_or, or_true, false_or, or_false, true_and, and_true, false_and, and_false, decide_true, decide_false, Bool.not_true, Bool.not_false]; done) | (simp [hg13]; done) | (simp [hg13]; rfl)), s1000000, H⟩
          obtain ⟨s2, s4, s6, s10, s11, s12, s13, s14, s15, s16, s17, s18, s19, s20, s24, s25, s26, s27, s28, s29, s38, s39, s40, s41, s42, s43, s47, s1000000, H⟩ := hI
          refine V_cond (b := (decide ((x5.Key < 0) ∨ (65535 < x5.Key)))) rfl s39 (fun hb14 => ?_) (fun hb14 => ?_)
          · have hb14 : (x5.Key < 0) ∨ (65535 < x5.Key) := of_decide_eq_true hb14
            refine V_seq rfl ?_
            refine V_region rfl ?_
            refine Rg_op rfl (o_val (v := .int .i64 3) (d := 4) rfl rfl (ex_assign rfl) ?_)
            refine Rg_end ?_
            refine V_ret rfl (end0 (v := .int .i64 3) s1000000 (res_tmp Try.results59 rfl) ?_)
            have hf : pktE s x5 = 3 := by simp only [pktE]; (repeat' split) <;> first | contradiction | rfl | (simp_all; done) | skip
            exact ⟨by simp only [chkP]; (repeat' split) <;> first | contradiction | rfl | (simp_all; done) | skip; rw [first_at hall hx5 (by rw [hf]; decide), hf], H.below⟩
          · have hb14 : ¬ ((x5.Key < 0) ∨ (65535 < x5.Key)) := of_decide_eq_false hb14
            refine V_seq rfl ?_
            refine V_join (fun σ w => σ 2 = .pointer (some ⟨b1, 0, none⟩) ∧ σ 4 = .int .i64 0 ∧ σ 6 = .pointer (some ⟨b6, 0, none⟩) ∧ σ 10 = .slice A l.length c ∧ σ 11 = .int .i64 ((l.length : Nat) : Int) ∧ σ 12 = .int .i64 ((k : Nat) : Int) ∧ σ 13 = .bool (decide (((k : Nat) : Int) < ((l.length : Nat) : Int))) ∧ σ 14 = .pointer (some (ad5.add ((((k : Nat) : Int)).toNat * 4))) ∧ σ 15 = .agg #[.int .i64 x5.Tick, .int .i64 x5.Source, .int .i64 x5.Key, .int .i64 x5.Class] ∧ σ 16 = .bool (decide ((x5.Tick < 0) ∨ (10000 < x5.Tick))) ∧ σ 17 = .pointer (some ⟨b6, 0, none⟩) ∧ σ 18 = .int .i64 x5.Tick ∧ σ 19 = .bool (decide (x5.Tick < 0)) ∧ σ 20 = .bool (decide (x5.Tick < 0)) ∧ σ 24 = .bool (decide ((x5.Tick < 0) ∨ (10000 < x5.Tick))) ∧ σ 25 = .bool (decide ((x5.Source < 0) ∨ ((s.Wide * s.High) ≤ x5.Source))) ∧ σ 26 = .pointer (some ⟨b6, 1, none⟩) ∧ σ 27 = .int .i64 x5.Source ∧ σ 28 = .bool (decide (x5.Source < 0)) ∧ σ 29 = .bool (decide (x5.Source < 0)) ∧ σ 38 = .bool (decide ((x5.Source < 0) ∨ ((s.Wide * s.High) ≤ x5.Source))) ∧ σ 39 = .bool (decide ((x5.Key < 0) ∨ (65535 < x5.Key))) ∧ σ 40 = .pointer (some ⟨b6, 2, none⟩) ∧ σ 41 = .int .i64 x5.Key ∧ σ 42 = .bool (decide (x5.Key < 0)) ∧ σ 43 = .bool (decide (x5.Key < 0)) ∧ σ 47 = .bool (decide ((x5.Key < 0) ∨ (65535 < x5.Key))) ∧ σ 48 = .bool (decide ((x5.Class ≠ 0) ∧ (x5.Class ≠ 1))) ∧ σ 49 = .pointer (some ⟨b6, 3, none⟩) ∧ σ 50 = .int .i64 x5.Class ∧ σ 51 = .bool (decide (x5.Class ≠ 0)) ∧ σ 52 = .bool (decide (x5.Class ≠ 0)) ∧ σ 56 = .bool (decide ((x5.Class ≠ 0) ∧ (x5.Class ≠ 1))) ∧ σ 1000000 = undef ∧ Hp w0.heap.size w0 w [SA.cel b6 #[.int .i64 x5.Tick, .int .i64 x5.Source, .int .i64 x5.Key, .int .i64 x5.Class] 58, SA.cel b1 #[.int .i64 s.Wide, .int .i64 s.High, .int .i64 s.Room] 33]) ?_ (fun σ w hI => ?_)
            · skip
              refine V_region rfl ?_
              refine Rg_op rfl (o_val (v := .pointer (some ⟨b6, 3, none⟩)) (d := 49) rfl rfl (ex_fieldAddr fo58_3 s6 rfl) ?_)
              refine Rg_op rfl (o_val (v := .int .i64 x5.Class) (d := 50) rfl rfl (ex_load ca3 rfl (cell_of (H.rd 0 rfl))) ?_)
              refine Rg_op rfl (o_val (v := .bool (decide (x5.Class ≠ 0))) (d := 51) rfl rfl (ex_neq rfl rfl) ?_)
              refine Rg_op rfl (o_val (v := .bool (decide (x5.Class ≠ 0))) (d := 52) rfl rfl (ex_move rfl) ?_)
              by_cases hg15 : x5.Class ≠ 0
              · skip
                refine Rg_op rfl (o_valg (v := .pointer (some ⟨b6, 3, none⟩)) (d := 53) rfl rfl (wanted_yes (b := (decide (x5.Class ≠ 0))) rfl rfl rfl (decide_eq_true hg15)) (ex_fieldAddr fo58_3 s6 rfl) ?_)
                refine Rg_op rfl (o_valg (v := .int .i64 x5.Class) (d := 54) rfl rfl (wanted_yes (b := (decide (x5.Class ≠ 0))) rfl rfl rfl (decide_eq_true hg15)) (ex_load ca3 rfl (cell_of (H.rd 0 rfl))) ?_)
                refine Rg_op rfl (o_valg (v := .bool (decide (x5.Class ≠ 1))) (d := 55) rfl rfl (wanted_yes (b := (decide (x5.Class ≠ 0))) rfl rfl rfl (decide_eq_true hg15)) (ex_neq rfl rfl) ?_)
                refine Rg_op rfl (o_val (v := .bool (decide (x5.Class ≠ 1))) (d := 56) rfl rfl (ex_pick (q := (decide (x5.Class ≠ 0))) rfl (fun h => rfl) (fun h => absurd hg15 (of_decide_eq_false h))) ?_)
                refine Rg_op rfl (o_val (v := .bool (decide (x5.Class ≠ 1))) (d := 48) rfl rfl (ex_assign rfl) ?_)
                refine Rg_end ?_
                exact ⟨s2, s4, s6, s10, s11, s12, s13, s14, s15, s16, s17, s18, s19, s20, s24, s25, s26, s27, s28, s29, s38, s39, s40, s41, s42, s43, s47, (show (.bool (decide (x5.Class ≠ 1)) : Value) = .bool (decide ((x5.Class ≠ 0) ∧ (x5.Class ≠ 1))) from by first | (simp only [hg15, true_or, or_true, false_or, or_false, true_and, and_true, false_and, and_false, decide_true, decide_false, Bool.not_true, Bool.not_false]; done) | (simp [hg15]; done) | (simp [hg15]; rfl)), rfl, rfl, rfl, rfl, (show (.bool (decide (x5.Class ≠ 1)) : Value) = .bool (decide ((x5.Class ≠ 0) ∧ (x5.Class ≠ 1))) from by first | (simp only [hg15, true_or, or_true, false_or, or_false, true_and, and_true, false_and, and_false, decide_true, decide_false, Bool.not_true, Bool.not_false]; done) | (simp [hg15]; done) | (simp [hg15]; rfl)), s1000000, H⟩
              · skip
                refine Rg_op rfl (o_skip (d := 53) rfl rfl (wanted_no (b := (decide (x5.Class ≠ 0))) rfl rfl rfl (decide_eq_false hg15)) ?_)
                refine Rg_op rfl (o_skip (d := 54) rfl rfl (wanted_no (b := (decide (x5.Class ≠ 0))) rfl rfl rfl (decide_eq_false hg15)) ?_)
                refine Rg_op rfl (o_skip (d := 55) rfl rfl (wanted_no (b := (decide (x5.Class ≠ 0))) rfl rfl rfl (decide_eq_false hg15)) ?_)
                refine Rg_op rfl (o_val (v := .bool false) (d := 56) rfl rfl (ex_pick (q := (decide (x5.Class ≠ 0))) rfl (fun h => absurd (of_decide_eq_true h) hg15) (fun h => rfl)) ?_)
                refine Rg_op rfl (o_val (v := .bool false) (d := 48) rfl rfl (ex_assign rfl) ?_)
                refine Rg_end ?_
                exact ⟨s2, s4, s6, s10, s11, s12, s13, s14, s15, s16, s17, s18, s19, s20, s24, s25, s26, s27, s28, s29, s38, s39, s40, s41, s42, s43, s47, (show (.bool false : Value) = .bool (decide ((x5.Class ≠ 0) ∧ (x5.Class ≠ 1))) from by first | (simp only [hg15, true_or, or_true, false_or, or_false, true_and, and_true, false_and, and_false, decide_true, decide_false, Bool.not_true, Bool.not_false]; done) | (simp [hg15]; done) | (simp [hg15]; rfl)), rfl, rfl, rfl, rfl, (show (.bool false : Value) = .bool (decide ((x5.Class ≠ 0) ∧ (x5.Class ≠ 1))) from by first | (simp only [hg15, true_or, or_true, false_or, or_false, true_and, and_true, false_and, and_false, decide_true, decide_false, Bool.not_true, Bool.not_false]; done) | (simp [hg15]; done) | (simp [hg15]; rfl)), s1000000, H⟩
            obtain ⟨s2, s4, s6, s10, s11, s12, s13, s14, s15, s16, s17, s18, s19, s20, s24, s25, s26, s27, s28, s29, s38, s39, s40, s41, s42, s43, s47, s48, s49, s50, s51, s52, s56, s1000000, H⟩ := hI
            refine V_cond (b := (decide ((x5.Class ≠ 0) ∧ (x5.Class ≠ 1)))) rfl s48 (fun hb16 => ?_) (fun hb16 => ?_)
            · have hb16 : (x5.Class ≠ 0) ∧ (x5.Class ≠ 1) := of_decide_eq_true hb16
              refine V_seq rfl ?_
              refine V_region rfl ?_
              refine Rg_op rfl (o_val (v := .int .i64 2) (d := 4) rfl rfl (ex_assign rfl) ?_)
              refine Rg_end ?_
              refine V_ret rfl (end0 (v := .int .i64 2) s1000000 (res_tmp Try.results59 rfl) ?_)
              have hf : pktE s x5 = 2 := by simp only [pktE]; (repeat' split) <;> first | contradiction | rfl | (simp_all; done) | skip
              exact ⟨by simp only [chkP]; (repeat' split) <;> first | contradiction | rfl | (simp_all; done) | skip; rw [first_at hall hx5 (by rw [hf]; decide), hf], H.below⟩
            · have hb16 : ¬ ((x5.Class ≠ 0) ∧ (x5.Class ≠ 1)) := of_decide_eq_false hb16
              refine V_skip rfl ?_
              refine V_region rfl ?_
              refine Rg_op rfl (o_val (v := .int .i64 (((k : Nat) : Int) + 1)) (d := 57) rfl rfl (ex_add s12 rfl (by omega)) ?_)
              refine Rg_op rfl (o_val (v := .int .i64 (((k : Nat) : Int) + 1)) (d := 12) rfl rfl (ex_move rfl) ?_)
              refine Rg_end ?_
              exact ⟨k + 1, ⟨s2, s4, s10, s11, rfl, s1000000, (Hp.pull 0 rfl rfl (Hp.drop (Hp.pull 0 rfl rfl H))), by omega, take_all hall hx5 (by simp only [pktE]; (repeat' split) <;> first | contradiction | rfl | (simp_all; done) | skip)⟩, by omega⟩
    · have hb4 : ¬ (((k : Nat) : Int) < ((l.length : Nat) : Int)) := of_decide_eq_false hb4
      refine V_exit rfl ?_
      refine V_seq rfl ?_
      refine V_region rfl ?_
      refine Rg_op rfl (o_val (v := .int .i64 0) (d := 4) rfl rfl (ex_assign rfl) ?_)
      refine Rg_end ?_
      refine V_ret rfl (end0 (v := .int .i64 0) s1000000 (res_tmp Try.results59 rfl) ?_)
      exact ⟨by simp only [chkP]; (repeat' split) <;> first | contradiction | rfl | (simp_all; done) | skip; rw [first_no (take_full hall (by omega))], H.below⟩

end Go.Proofs.Ytlnogaoihkinbaa
namespace Go.Proofs.Ytlnogaoihkinbaa
open Go.Gk Go.RowKit
theorem ca26 : cellsAgg Try.prog 26 = some none := by kernel_rfl
theorem sl35 : sliceT Try.prog 35 = some ⟨99, 3, 40, .agg #[.int .i64 0, .int .i64 0, .slice none 0 0]⟩ := by kernel_rfl
theorem clone_c (A : Option Addr) (c : Nat) (xs : List Entry) (w0 : World) (hX : Row kEnt w0.cell? A xs) (hl : xs.length ≤ 100000) :
    Calls Try.prog 53 #[.slice A xs.length c] w0 fun e w' => ∃ v, e = .returned v ∧ (∃ A' c', v = .slice A' xs.length c' ∧ Below w0.heap.size w0 w' ∧ New (SA.own kEnt 113 A' c' xs) w0 w') := by
  refine calls_of (n := 8) (l := [.slice A xs.length c]) Try.func53 rfl rfl rfl ?_
  have H := Hp.start w0
  refine V_seq rfl ?_
  refine V_region rfl ?_
  refine Rg_op rfl (o_val (v := .slice none 0 0) (d := 2) rfl rfl (ex_assign rfl) ?_)
  refine Rg_end ?_
  refine V_seq rfl ?_
  refine V_seq rfl ?_
  refine V_region rfl ?_
  refine Rg_op rfl (o_val (v := .slice A xs.length c) (d := 3) rfl rfl (ex_move rfl) ?_)
  refine Rg_op rfl (o_val (v := .bool (Option.isNone A)) (d := 4) rfl rfl (ex_isNil sl41 rfl rfl) ?_)
  refine Rg_end ?_
  refine V_cond (b := (Option.isNone A)) rfl rfl (fun hb1 => ?_) (fun hb1 => ?_)
  · skip
    obtain rfl : A = none := by cases A with | none => rfl | some a => cases hb1
    obtain rfl := row_none hX
    refine V_seq rfl ?_
    refine V_region rfl ?_
    refine Rg_op rfl (o_val (v := .slice none 0 0) (d := 2) rfl rfl (ex_assign rfl) ?_)
    refine Rg_end ?_
    have H := own_nil H kEnt 113
    refine V_ret rfl (end0 (v := .slice none 0 0) rfl (res_tmp Try.results53 rfl) ?_)
    exact ⟨_, _, rfl, H.below, H.give⟩
  · skip
    refine V_skip rfl ?_
    refine V_seq rfl ?_
    refine V_region rfl ?_
    refine Rg_op rfl (o_lit (cs := []) (e := 113) rfl (fun W => by kernel_rfl) H fun b3 w4 hA H => ?_)
    refine Rg_op rfl (o_val (v := .slice A xs.length c) (d := 6) rfl rfl (ex_move rfl) ?_)
    have H := H.pull 0 rfl rfl
    have H := own_lit0 (D := kEnt) H
    have H := H.pull 0 rfl rfl
    refine Rg_op rfl (o_append (ys := xs) (ts := #[]) rfl sl41 rfl rfl rfl H (hX.mono (fun _ _ h => H.cell0 h)) (by first | omega | (simp only [List.length_append, List.length_cons, List.length_nil, List.length_map, List.length_take]; omega)) (by first | omega | (simp only [List.length_append, List.length_cons, List.length_nil, List.length_map, List.length_take]; omega)) fun A6 c7 w8 hA H => ?_)
    refine Rg_op rfl (o_val (v := .slice A6 (([] ++ xs).length) c7) (d := 2) rfl rfl (ex_assign rfl) ?_)
    refine Rg_end ?_
    refine V_ret rfl (end0 (v := .slice A6 (([] ++ xs).length) c7) rfl (res_tmp Try.results53 rfl) ?_)
    exact ⟨_, _, rfl, H.below, H.give⟩

end Go.Proofs.Ytlnogaoihkinbaa
namespace Go.Proofs.Ytlnogaoihkinbaa
open Go.Gk Go.RowKit

theorem delete_c (wb w0 : World) (L : List SA) (A : Option Addr) (c : Nat) (xs : List Entry) (i : Nat) (H : Hp wb.heap.size wb w0 (SA.own kEnt 113 A c xs :: L)) (hi : i < xs.length) :
    Calls Try.prog 83 #[.slice A xs.length c, .int .i64 ((i : Nat) : Int), .int .i64 (((i : Nat) : Int) + 1)] w0 fun e w' => ∃ v, e = .returned v ∧ (v = .slice A (xs.eraseIdx i).length c ∧ Hp wb.heap.size wb w' (SA.own kEnt 113 A c (xs.eraseIdx i) :: L)) := by
  refine calls_of (n := 33) (l := [.slice A xs.length c, .int .i64 ((i : Nat) : Int), .int .i64 (((i : Nat) : Int) + 1)]) Try.func83 rfl rfl rfl ?_
  obtain ⟨g, cur, rfl, hcs, hxc, hcm, htk, H⟩ := own_open H (by intro e; simp [e] at hi)
  refine V_seq rfl ?_
  refine V_region rfl ?_
  refine Rg_op rfl (o_val (v := .slice none 0 0) (d := 6) rfl rfl (ex_assign rfl) ?_)
  refine Rg_end ?_
  refine V_seq rfl ?_
  refine V_region rfl ?_
  refine Rg_op rfl (o_val (v := .slice (some ⟨g, 0, none⟩) xs.length c) (d := 8) rfl rfl (ex_move rfl) ?_)
  refine Rg_op rfl (o_val (v := .int .i64 ((i : Nat) : Int)) (d := 9) rfl rfl (ex_move rfl) ?_)
  refine Rg_op rfl (o_val (v := .int .i64 (((i : Nat) : Int) + 1)) (d := 10) rfl rfl (ex_move rfl) ?_)
  refine Rg_op rfl (o_val (v := .slice (some ⟨g, 0, none⟩) xs.length c) (d := 11) rfl rfl (ex_move rfl) ?_)
  refine Rg_op rfl (o_val (v := .int .i64 ((xs.length : Nat) : Int)) (d := 12) rfl rfl (ex_len (ts := #[]) sl41 rfl) ?_)
  refine Rg_op rfl (o_val (v := .slice (cutA (some ⟨g, 0, none⟩) xs.length i 3) ((i + 1) - i) (xs.length - i)) (d := 13) rfl rfl (ex_sliceLHM (a := ((i : Nat) : Int)) (b := ((i : Nat) : Int) + 1) (c := ((xs.length : Nat) : Int)) sl41 rfl rfl rfl rfl (by omega) (by omega) (by omega) (by omega)) ?_)
  refine Rg_end ?_
  refine V_seq rfl ?_
  refine V_seq rfl ?_
  refine V_region rfl ?_
  refine Rg_op rfl (o_val (v := .int .i64 ((i : Nat) : Int)) (d := 14) rfl rfl (ex_move rfl) ?_)
  refine Rg_op rfl (o_val (v := .int .i64 (((i : Nat) : Int) + 1)) (d := 15) rfl rfl (ex_move rfl) ?_)
  refine Rg_op rfl (o_val (v := .bool (decide (((i : Nat) : Int) = (((i : Nat) : Int) + 1)))) (d := 16) rfl rfl (ex_eql rfl rfl) ?_)
  refine Rg_end ?_
  have hb : ¬ (((i : Nat) : Int) = (((i : Nat) : Int) + 1)) := by omega
  refine V_cond (b := (decide (((i : Nat) : Int) = (((i : Nat) : Int) + 1)))) rfl rfl (fun h => absurd (of_decide_eq_true h) hb) (fun _ => ?_)
  refine V_skip rfl ?_
  refine V_seq rfl ?_
  refine V_region rfl ?_
  refine Rg_op rfl (o_val (v := .slice (some ⟨g, 0, none⟩) xs.length c) (d := 18) rfl rfl (ex_move rfl) ?_)
  refine Rg_op rfl (o_val (v := .int .i64 ((xs.length : Nat) : Int)) (d := 19) rfl rfl (ex_len (ts := #[]) sl41 rfl) ?_)
  refine Rg_op rfl (o_val (v := .int .i64 ((xs.length : Nat) : Int)) (d := 7) rfl rfl (ex_assign rfl) ?_)
  refine Rg_end ?_
  refine V_seq rfl ?_
  refine V_draw [0, 1, 2, 3, 4, 5, 7] (.p 0 (.p 1 (.p 2 (.p 3 (.p 4 (.p 5 (.l 6 (.p 7 .done)))))))) (fun _ => False) rfl mixed (by kernel_rfl) fun w1 hD => ?_
  have H := H.drew hD
  refine c_p (v := .slice (some ⟨g, 0, none⟩) xs.length c) (d := 20) rfl rfl rfl (fun w' => ex_move rfl) ?_
  refine c_p (v := .int .i64 ((i : Nat) : Int)) (d := 21) rfl rfl rfl (fun w' => ex_move rfl) ?_
  refine c_p (v := .slice (some ⟨g, 0, none⟩) i c) (d := 22) rfl rfl rfl (fun w' => ex_sliceH (b := ((i : Nat) : Int)) sl41 rfl rfl (by omega) (by omega) rfl) ?_
  refine c_p (v := .slice (some ⟨g, 0, none⟩) xs.length c) (d := 23) rfl rfl rfl (fun w' => ex_move rfl) ?_
  refine c_p (v := .int .i64 (((i : Nat) : Int) + 1)) (d := 24) rfl rfl rfl (fun w' => ex_move rfl) ?_
  refine c_p (v := .slice (cutA (some ⟨g, 0, none⟩) c (i + 1) 3) (xs.length - (i + 1)) (c - (i + 1))) (d := 25) rfl rfl rfl (fun w' => ex_sliceL (a := ((i : Nat) : Int) + 1) sl41 rfl rfl (by omega) (by omega) rfl) ?_
  refine c_l rfl (o_appendIn (k := xs.length - (i + 1)) (i := i) (news := ((cur.toList.drop ((i + 1) * 3)).take ((xs.length - (i + 1)) * 3))) rfl sl41 rfl rfl H (erase_news hcs hxc hi) (cut_news (H.rd 0 rfl) hxc hi) (news_one (fun _ => rfl) hi htk) (by omega) hcs (by omega) fun w2 hA H => ⟨.inl (by kernel_rfl), ?_⟩)
  refine c_p (v := .slice (some ⟨g, 0, none⟩) (i + (xs.length - (i + 1))) c) (d := 0) rfl rfl rfl (fun w' => ex_assign rfl) ?_
  refine c_done ?_
  refine V_seq rfl ?_
  refine V_region rfl ?_
  refine Rg_op rfl (o_val (v := .slice (some ⟨g, 0, none⟩) (i + (xs.length - (i + 1))) c) (d := 27) rfl rfl (ex_move rfl) ?_)
  refine Rg_op rfl (o_val (v := .slice (some ⟨g, 0, none⟩) (i + (xs.length - (i + 1))) c) (d := 28) rfl rfl (ex_move rfl) ?_)
  refine Rg_op rfl (o_val (v := .int .i64 (((i + (xs.length - (i + 1))) : Nat) : Int)) (d := 29) rfl rfl (ex_len (ts := #[]) sl41 rfl) ?_)
  refine Rg_op rfl (o_val (v := .int .i64 ((xs.length : Nat) : Int)) (d := 30) rfl rfl (ex_move rfl) ?_)
  have hcl : Value.slice (cutA (some ⟨g, 0, none⟩) c (i + (xs.length - (i + 1))) 3) (xs.length - (i + (xs.length - (i + 1)))) (c - (i + (xs.length - (i + 1)))) = .slice (some ⟨g, (i + (xs.length - (i + 1))) * 3, none⟩) (0 + 1) (c - (i + (xs.length - (i + 1)))) := by
    unfold cutA
    rw [if_neg (by omega), show xs.length - (i + (xs.length - (i + 1))) = 0 + 1 from by omega]
    simp only [Option.map_some, add_blk]
  refine Rg_op rfl (o_val (v := .slice (some ⟨g, (i + (xs.length - (i + 1))) * 3, none⟩) (0 + 1) (c - (i + (xs.length - (i + 1))))) (d := 31) rfl rfl (hcl ▸ ex_sliceLH (a := (((i + (xs.length - (i + 1))) : Nat) : Int)) (b := ((xs.length : Nat) : Int)) sl41 rfl rfl rfl (by omega) (by omega) (by omega)) ?_)
  refine Rg_op rfl (o_clear (k := 0) (off := (i + (xs.length - (i + 1))) * 3) rfl sl41 rfl H (by kernel_rfl) (by rw [size_setCells, hcs]; show (i + (xs.length - (i + 1))) * 3 + (0 + 1) * 3 ≤ c * 3; omega) fun w3 hA H => ?_)
  refine Rg_end ?_
  refine V_seq rfl ?_
  refine V_region rfl ?_
  refine Rg_op rfl (o_val (v := .slice (some ⟨g, 0, none⟩) (i + (xs.length - (i + 1))) c) (d := 32) rfl rfl (ex_move rfl) ?_)
  refine Rg_op rfl (o_val (v := .slice (some ⟨g, 0, none⟩) (i + (xs.length - (i + 1))) c) (d := 6) rfl rfl (ex_assign rfl) ?_)
  refine Rg_end ?_
  have hlen : (xs.eraseIdx i).length = (i + (xs.length - (i + 1))) := by rw [List.length_eraseIdx, if_pos hi]; omega
  refine V_ret rfl (end0 (v := .slice (some ⟨g, 0, none⟩) (i + (xs.length - (i + 1))) c) rfl (res_tmp Try.results83 rfl) ?_)
  exact ⟨by rw [hlen], own_shut H (by rw [size_setCells, size_setCells]; exact hcs) (by omega) hcm (erase_cells (m := 3) (enc := fun x : Entry => [.int .i64 x.Key, .int .i64 x.Mask, .int .i64 x.Outs]) (fun _ => rfl) hi hcs hxc htk _)⟩

end Go.Proofs.Ytlnogaoihkinbaa
