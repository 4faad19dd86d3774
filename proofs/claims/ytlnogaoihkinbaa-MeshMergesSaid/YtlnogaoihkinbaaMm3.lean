/- Texts that the proof needs (part 3). -/
import Derived.Test.YtlnogaoihkinbaaMm2
set_option linter.unusedVariables false
set_option linter.unusedSimpArgs false
namespace Go.Proofs.Ytlnogaoihkinbaa
open Go.Gk Go.RowKit
theorem ca116 : cellsAgg Try.prog 116 = some (some 3) := by kernel_rfl
theorem ca41 : cellsAgg Try.prog 41 = some none := by kernel_rfl
theorem ca58 : cellsAgg Try.prog 58 = some (some 4) := by kernel_rfl
theorem cl47 : callable Try.prog 47 = true := by kernel_rfl
theorem cl55 : callable Try.prog 55 = true := by kernel_rfl
theorem cl67 : callable Try.prog 67 = true := by kernel_rfl
theorem fo58_0 : fieldOff Try.prog 58 0 = some 0 := by kernel_rfl
theorem fo58_1 : fieldOff Try.prog 58 1 = some 1 := by kernel_rfl
theorem fo58_2 : fieldOff Try.prog 58 2 = some 2 := by kernel_rfl
theorem fo58_3 : fieldOff Try.prog 58 3 = some 3 := by kernel_rfl
theorem sl29 : sliceT Try.prog 29 = some ⟨41, 1, 24, .slice none 0 0⟩ := by kernel_rfl
theorem sl55 : sliceT Try.prog 55 = some ⟨58, 4, 32, .agg #[.int .i64 0, .int .i64 0, .int .i64 0, .int .i64 0]⟩ := by kernel_rfl
theorem ts58 : tySize Try.prog 58 = some 4 := by kernel_rfl
theorem tz58 : tyZero Try.prog 58 = some (.agg #[.int .i64 0, .int .i64 0, .int .i64 0, .int .i64 0]) := by kernel_rfl
theorem checkT_c (s : Spec) (A : Option Addr) (c : Nat) (ts : List (List Entry)) (w0 : World) (hX : Row (kSl kEnt) w0.cell? A ts) (hl : ts.length ≤ 9223372036854775807) :
    Calls Try.prog 25 #[.agg #[.int .i64 s.Wide, .int .i64 s.High, .int .i64 s.Room], .slice A ts.length c] w0 fun e w' => ∃ v, e = .returned v ∧ (v = .int .i64 (chkT s ts) ∧ Below w0.heap.size w0 w') := by
  refine calls_of (n := 33) (l := [.agg #[.int .i64 s.Wide, .int .i64 s.High, .int .i64 s.Room], .slice A ts.length c]) Try.func25 rfl rfl rfl ?_
  have H := Hp.start w0
  refine V_seq rfl ?_
  refine V_region rfl ?_
  refine Rg_op rfl (o_box (v := .agg #[.int .i64 s.Wide, .int .i64 s.High, .int .i64 s.Room]) rfl rfl H fun b1 w2 hA H => ?_)
  refine Rg_op rfl (o_val (v := .int .i64 0) (d := 4) rfl rfl (ex_assign rfl) ?_)
  refine Rg_end ?_
  refine V_seq rfl ?_
  refine V_seq rfl ?_
  refine V_region rfl ?_
  refine Rg_op rfl (o_val (v := .agg #[.int .i64 s.Wide, .int .i64 s.High, .int .i64 s.Room]) (d := 8) rfl rfl (ex_loadN (vs := [.int .i64 s.Wide, .int .i64 s.High, .int .i64 s.Room]) ca33 rfl rfl (blk_cells (H.rd 0 rfl) rfl)) ?_)
  refine Rg_op rfl (o_call (fv := []) (cap := []) (vs := [.agg #[.int .i64 s.Wide, .int .i64 s.High, .int .i64 s.Room]]) rfl rfl cl41 rfl (check_c s _) fun v w3 hS => ?_)
  obtain ⟨rfl, hB⟩ := hS
  have H := H.keep hB
  refine Rg_op rfl (o_val (v := .int .i64 (chk s)) (d := 5) rfl rfl (ex_assign rfl) ?_)
  refine Rg_end ?_
  refine V_seq rfl ?_
  refine V_region rfl ?_
  refine Rg_op rfl (o_val (v := .int .i64 (chk s)) (d := 10) rfl rfl (ex_move rfl) ?_)
  refine Rg_op rfl (o_val (v := .bool (decide ((chk s) ≠ 0))) (d := 11) rfl rfl (ex_neq rfl rfl) ?_)
  refine Rg_end ?_
  refine V_cond (b := (decide ((chk s) ≠ 0))) rfl rfl (fun hb4 => ?_) (fun hb4 => ?_)
  · have hb4 : (chk s) ≠ 0 := of_decide_eq_true hb4
    refine V_seq rfl ?_
    refine V_region rfl ?_
    refine Rg_op rfl (o_val (v := .int .i64 (chk s)) (d := 12) rfl rfl (ex_move rfl) ?_)
    refine Rg_op rfl (o_val (v := .int .i64 (chk s)) (d := 4) rfl rfl (ex_assign rfl) ?_)
    refine Rg_end ?_
    refine V_ret rfl (end0 (v := .int .i64 (chk s)) rfl (res_tmp Try.results25 rfl) ?_)
    exact ⟨by simp only [chkT]; (repeat' split) <;> first | contradiction | rfl | (simp_all; done) | skip, H.below⟩
  · have hb4 : ¬ ((chk s) ≠ 0) := of_decide_eq_false hb4
    have hs : chk s = 0 := by omega
    obtain ⟨hs1, hs2, hs3, hs4, hs5, hs6⟩ := chk_ok hs
    obtain ⟨hm1, hm2⟩ := mul64 hs
    refine V_skip rfl ?_
    refine V_seq rfl ?_
    refine V_seq rfl ?_
    refine V_region rfl ?_
    refine Rg_op rfl (o_val (v := .slice A ts.length c) (d := 13) rfl rfl (ex_move rfl) ?_)
    refine Rg_op rfl (o_val (v := .int .i64 ((ts.length : Nat) : Int)) (d := 14) rfl rfl (ex_len (ts := #[]) sl29 rfl) ?_)
    refine Rg_op rfl (o_val (v := .pointer (some ⟨b1, 0, none⟩)) (d := 15) rfl rfl (ex_fieldAddr fo33_0 rfl rfl) ?_)
    refine Rg_op rfl (o_val (v := .int .i64 s.Wide) (d := 16) rfl rfl (ex_load ca3 rfl (cell_of (H.rd 0 rfl))) ?_)
    refine Rg_op rfl (o_val (v := .pointer (some ⟨b1, 1, none⟩)) (d := 17) rfl rfl (ex_fieldAddr fo33_1 rfl rfl) ?_)
    refine Rg_op rfl (o_val (v := .int .i64 s.High) (d := 18) rfl rfl (ex_load ca3 rfl (cell_of (H.rd 0 rfl))) ?_)
    refine Rg_op rfl (o_val (v := .int .i64 (s.Wide * s.High)) (d := 19) rfl rfl (ex_mul rfl rfl (by omega)) ?_)
    refine Rg_op rfl (o_val (v := .bool (decide (((ts.length : Nat) : Int) ≠ (s.Wide * s.High)))) (d := 20) rfl rfl (ex_neq rfl rfl) ?_)
    refine Rg_end ?_
    refine V_cond (b := (decide (((ts.length : Nat) : Int) ≠ (s.Wide * s.High)))) rfl rfl (fun hb5 => ?_) (fun hb5 => ?_)
    · have hb5 : ((ts.length : Nat) : Int) ≠ (s.Wide * s.High) := of_decide_eq_true hb5
      refine V_seq rfl ?_
      refine V_region rfl ?_
      refine Rg_op rfl (o_val (v := .int .i64 13) (d := 4) rfl rfl (ex_assign rfl) ?_)
      refine Rg_end ?_
      refine V_ret rfl (end0 (v := .int .i64 13) rfl (res_tmp Try.results25 rfl) ?_)
      exact ⟨by simp only [chkT]; (repeat' split) <;> first | contradiction | rfl | (simp_all; done) | skip, H.below⟩
    · have hb5 : ¬ (((ts.length : Nat) : Int) ≠ (s.Wide * s.High)) := of_decide_eq_false hb5
      refine V_skip rfl ?_
      refine V_seq rfl ?_
      refine V_seq rfl ?_
      refine V_region rfl ?_
      refine Rg_op rfl (o_val (v := .slice A ts.length c) (d := 21) rfl rfl (ex_move rfl) ?_)
      refine Rg_op rfl (o_val (v := .int .i64 ((ts.length : Nat) : Int)) (d := 22) rfl rfl (ex_len (ts := #[]) sl29 rfl) ?_)
      refine Rg_op rfl (o_val (v := .int .i64 0) (d := 23) rfl rfl (ex_move rfl) ?_)
      refine Rg_end ?_
      refine V_block rfl ?_
      refine V_loop rfl (γ := Nat) (fun k σ w => σ 4 = .int .i64 0 ∧ σ 21 = .slice A ts.length c ∧ σ 22 = .int .i64 ((ts.length : Nat) : Int) ∧ σ 23 = .int .i64 ((k : Nat) : Int) ∧ σ 1000000 = undef ∧ Hp w0.heap.size w0 w [SA.cel b1 #[.int .i64 s.Wide, .int .i64 s.High, .int .i64 s.Room] 33] ∧ k ≤ ts.length ∧ (∀ y ∈ ts.take k, tabE y = 0)) (fun k => ts.length - k) (0) ⟨rfl, rfl, rfl, rfl, rfl, H, by omega, by simp⟩ (fun k σ w hI => ?_)
      obtain ⟨s4, s21, s22, s23, s1000000, H, hk, hall⟩ := hI
      refine V_seq rfl ?_
      refine V_region rfl ?_
      refine Rg_op rfl (o_val (v := .bool (decide (((k : Nat) : Int) < ((ts.length : Nat) : Int)))) (d := 24) rfl rfl (ex_lss s23 s22) ?_)
      refine Rg_end ?_
      refine V_seq rfl ?_
      refine V_cond (b := (decide (((k : Nat) : Int) < ((ts.length : Nat) : Int)))) rfl rfl (fun hb6 => ?_) (fun hb6 => ?_)
      · have hb6 : ((k : Nat) : Int) < ((ts.length : Nat) : Int) := of_decide_eq_true hb6
        refine V_skip rfl ?_
        refine V_seq rfl ?_
        refine V_block rfl ?_
        refine V_seq rfl ?_
        refine V_region rfl ?_
        obtain ⟨ad7, x7, cs7, hA7, hx7, hR7, hc7⟩ := Row.get hX ((k : Nat) : Int) (by omega) (by omega)
        obtain ⟨Ae8, ce8, rfl, hle8, hme8, hWe8⟩ := hR7
        refine Rg_op rfl (o_val (v := .pointer (some (ad7.add ((((k : Nat) : Int)).toNat * 1)))) (d := 25) rfl rfl (ex_indexAddr sl29 s21 hA7 s23 (by omega) (by omega) rfl) ?_)
        refine Rg_op rfl (o_val (v := .slice Ae8 x7.length ce8) (d := 26) rfl rfl (ex_load ca41 rfl (H.cell0 (hc7 0 _ rfl))) ?_)
        refine Rg_op rfl (o_val (v := .slice Ae8 x7.length ce8) (d := 7) rfl rfl (ex_assign rfl) ?_)
        refine Rg_end ?_
        refine V_seq rfl ?_
        refine V_seq rfl ?_
        refine V_region rfl ?_
        refine Rg_op rfl (o_val (v := .slice Ae8 x7.length ce8) (d := 27) rfl rfl (ex_move rfl) ?_)
        refine Rg_op rfl (o_val (v := .int .i64 ((x7.length : Nat) : Int)) (d := 28) rfl rfl (ex_len (ts := #[]) sl41 rfl) ?_)
        refine Rg_op rfl (o_val (v := .bool (decide (1024 < ((x7.length : Nat) : Int)))) (d := 29) rfl rfl (ex_gtr rfl rfl) ?_)
        refine Rg_end ?_
        refine V_cond (b := (decide (1024 < ((x7.length : Nat) : Int)))) rfl rfl (fun hb9 => ?_) (fun hb9 => ?_)
        · have hb9 : 1024 < ((x7.length : Nat) : Int) := of_decide_eq_true hb9
          refine V_seq rfl ?_
          refine V_region rfl ?_
          refine Rg_op rfl (o_val (v := .int .i64 9) (d := 4) rfl rfl (ex_assign rfl) ?_)
          refine Rg_end ?_
          refine V_ret rfl (end0 (v := .int .i64 9) s1000000 (res_tmp Try.results25 rfl) ?_)
          have hf : tabE x7 = 9 := by simp only [tabE]; (repeat' split) <;> first | contradiction | rfl | (simp_all; done) | skip
          exact ⟨by simp only [chkT]; (repeat' split) <;> first | contradiction | rfl | (simp_all; done) | skip; rw [first_at hall hx7 (by rw [hf]; decide), hf], H.below⟩
        · have hb9 : ¬ (1024 < ((x7.length : Nat) : Int)) := of_decide_eq_false hb9
          refine V_skip rfl ?_
          refine V_seq rfl ?_
          refine V_region rfl ?_
          refine Rg_op rfl (o_val (v := .slice Ae8 x7.length ce8) (d := 30) rfl rfl (ex_move rfl) ?_)
          refine Rg_op rfl (o_call (fv := []) (cap := []) (vs := [.slice Ae8 x7.length ce8, .func (.func 67) #[] #[]]) rfl rfl cl47 rfl (containsE_c _ _ x7 (fun x => !decide (ent x)) 67 [] [] _ (hWe8.mono (fun _ _ h => H.cell0 h)) (by omega) cl67 (fun x w _ => bad2_c x w)) fun v w10 hS => ?_)
          obtain ⟨rfl, hB⟩ := hS
          have H := H.keep hB
          refine Rg_end ?_
          refine V_cond (b := (x7.any (fun x => !decide (ent x)))) rfl rfl (fun hb11 => ?_) (fun hb11 => ?_)
          · skip
            refine V_seq rfl ?_
            refine V_region rfl ?_
            refine Rg_op rfl (o_val (v := .int .i64 2) (d := 4) rfl rfl (ex_assign rfl) ?_)
            refine Rg_end ?_
            refine V_ret rfl (end0 (v := .int .i64 2) s1000000 (res_tmp Try.results25 rfl) ?_)
            have hf : tabE x7 = 2 := by simp only [tabE]; (repeat' split) <;> first | contradiction | rfl | (simp_all; done) | skip
            exact ⟨by simp only [chkT]; (repeat' split) <;> first | contradiction | rfl | (simp_all; done) | skip; rw [first_at hall hx7 (by rw [hf]; decide), hf], H.below⟩
          · skip
            refine V_skip rfl ?_
            refine V_region rfl ?_
            refine Rg_op rfl (o_val (v := .int .i64 (((k : Nat) : Int) + 1)) (d := 32) rfl rfl (ex_add s23 rfl (by omega)) ?_)
            refine Rg_op rfl (o_val (v := .int .i64 (((k : Nat) : Int) + 1)) (d := 23) rfl rfl (ex_move rfl) ?_)
            refine Rg_end ?_
            exact ⟨k + 1, ⟨s4, s21, s22, rfl, s1000000, H, by omega, take_all hall hx7 (by simp only [tabE]; (repeat' split) <;> first | contradiction | rfl | (simp_all; done) | skip)⟩, by omega⟩
      · have hb6 : ¬ (((k : Nat) : Int) < ((ts.length : Nat) : Int)) := of_decide_eq_false hb6
        refine V_exit rfl ?_
        refine V_seq rfl ?_
        refine V_region rfl ?_
        refine Rg_op rfl (o_val (v := .int .i64 0) (d := 4) rfl rfl (ex_assign rfl) ?_)
        refine Rg_end ?_
        refine V_ret rfl (end0 (v := .int .i64 0) s1000000 (res_tmp Try.results25 rfl) ?_)
        exact ⟨by simp only [chkT]; (repeat' split) <;> first | contradiction | rfl | (simp_all; done) | skip; rw [first_no (take_full hall (by omega))], H.below⟩

theorem checkP_c (s : Spec) (A : Option Addr) (c : Nat) (l : List Packet) (w0 : World) (hs : chk s = 0) (hX : Row kPkt w0.cell? A l) (hl : l.length ≤ 9223372036854775807) :
    Calls Try.prog 59 #[.agg #[.int .i64 s.Wide, .int .i64 s.High, .int .i64 s.Room], .slice A l.length c] w0 fun e w' => ∃ v, e = .returned v ∧ (v = .int .i64 (chkP s l) ∧ Below w0.heap.size w0 w') := by
  obtain ⟨hs1, hs2, hs3, hs4, hs5, hs6⟩ := chk_ok hs
  obtain ⟨hm1, hm2⟩ := mul64 hs
  refine calls_of (n := 58) (l := [.agg #[.int .i64 s.Wide, .int .i64 s.High, .int .i64 s.Room], .slice A l.length c]) Try.func59 rfl rfl rfl ?_
  have H := Hp.start w0
  refine V_seq rfl ?_
  refine V_region rfl ?_
  refine Rg_op rfl (o_box (v := .agg #[.int .i64 s.Wide, .int .i64 s.High, .int .i64 s.Room]) rfl rfl H fun b1 w2 hA H => ?_)
  refine Rg_op rfl (o_val (v := .int .i64 0) (d := 4) rfl rfl (ex_assign rfl) ?_)
  refine Rg_end ?_
  refine V_seq rfl ?_
  refine V_seq rfl ?_
  refine V_region rfl ?_
  refine Rg_op rfl (o_val (v := .slice A l.length c) (d := 7) rfl rfl (ex_move rfl) ?_)
  refine Rg_op rfl (o_val (v := .int .i64 ((l.length : Nat) : Int)) (d := 8) rfl rfl (ex_len (ts := #[]) sl55 rfl) ?_)
  refine Rg_op rfl (o_val (v := .bool (decide (1024 < ((l.length : Nat) : Int)))) (d := 9) rfl rfl (ex_gtr rfl rfl) ?_)
  refine Rg_end ?_
  refine V_cond (b := (decide (1024 < ((l.length : Nat) : Int)))) rfl rfl (fun hb3 => ?_) (fun hb3 => ?_)
  · have hb3 : 1024 < ((l.length : Nat) : Int) := of_decide_eq_true hb3
    refine V_seq rfl ?_
    refine V_region rfl ?_
    refine Rg_op rfl (o_val (v := .int .i64 9) (d := 4) rfl rfl (ex_assign rfl) ?_)
    refine Rg_end ?_
    refine V_ret rfl (end0 (v := .int .i64 9) rfl (res_tmp Try.results59 rfl) ?_)
    exact ⟨by simp only [chkP]; (repeat' split) <;> first | contradiction | rfl | (simp_all; done) | skip, H.below⟩
  · have hb3 : ¬ (1024 < ((l.length : Nat) : Int)) := of_decide_eq_false hb3
    refine V_skip rfl ?_
    refine V_seq rfl ?_
    refine V_seq rfl ?_
    refine V_region rfl ?_
    refine Rg_op rfl (o_val (v := .slice A l.length c) (d := 10) rfl rfl (ex_move rfl) ?_)
    refine Rg_op rfl (o_val (v := .int .i64 ((l.length : Nat) : Int)) (d := 11) rfl rfl (ex_len (ts := #[]) sl55 rfl) ?_)
    refine Rg_op rfl (o_val (v := .int .i64 0) (d := 12) rfl rfl (ex_move rfl) ?_)
    refine Rg_end ?_
    refine V_block rfl ?_
    refine V_loop rfl (γ := Nat) (fun k σ w => σ 2 = .pointer (some ⟨b1, 0, none⟩) ∧ σ 4 = .int .i64 0 ∧ σ 10 = .slice A l.length c ∧ σ 11 = .int .i64 ((l.length : Nat) : Int) ∧ σ 12 = .int .i64 ((k : Nat) : Int) ∧ σ 1000000 = undef ∧ Hp w0.heap.size w0 w [SA.cel b1 #[.int .i64 s.Wide, .int .i64 s.High, .int .i64 s.Room] 33] ∧ k ≤ l.length ∧ (∀ y ∈ l.take k, pktE s y = 0)) (fun k => l.length - k) (0) ⟨rfl, rfl, rfl, rfl, rfl, rfl, H, by omega, by simp⟩ (fun k σ w hI => ?_)
    obtain ⟨s2, s4, s10, s11, s12, s1000000, H, hk, hall⟩ := hI
    refine V_seq rfl ?_
    refine V_region rfl ?_
    refine Rg_op rfl (o_val (v := .bool (decide (((k : Nat) : Int) < ((l.length : Nat) : Int)))) (d := 13) rfl rfl (ex_lss s12 s11) ?_)
    refine Rg_end ?_
    refine V_seq rfl ?_
    refine V_cond (b := (decide (((k : Nat) : Int) < ((l.length : Nat) : Int)))) rfl rfl (fun hb4 => ?_) (fun hb4 => ?_)
    · have hb4 : ((k : Nat) : Int) < ((l.length : Nat) : Int) := of_decide_eq_true hb4
      refine V_skip rfl ?_
      refine V_seq rfl ?_
      refine V_block rfl ?_
      refine V_seq rfl ?_
      refine V_region rfl ?_
      obtain ⟨ad5, x5, cs5, hA5, hx5, hR5, hc5⟩ := Row.get hX ((k : Nat) : Int) (by omega) (by omega)
      obtain rfl := hR5
      refine Rg_op rfl (o_val (v := .pointer (some (ad5.add ((((k : Nat) : Int)).toNat * 4)))) (d := 14) rfl rfl (ex_indexAddr sl55 s10 hA5 s12 (by omega) (by omega) rfl) ?_)
      refine Rg_op rfl (o_val (v := .agg #[.int .i64 x5.Tick, .int .i64 x5.Source, .int .i64 x5.Key, .int .i64 x5.Class]) (d := 15) rfl rfl (ex_loadN (vs := [.int .i64 x5.Tick, .int .i64 x5.Source, .int .i64 x5.Key, .int .i64 x5.Class]) ca58 rfl rfl (fun j u hj => by rw [add_add]; exact H.cell0 (hc5 j u hj))) ?_)
      refine Rg_op rfl (o_alloc rfl tz58 H fun b6 w7 hA H => ?_)
      refine Rg_op rfl (o_store (vs := [.int .i64 x5.Tick, .int .i64 x5.Source, .int .i64 x5.Key, .int .i64 x5.Class]) rfl ts58 rfl rfl rfl rfl 0 rfl rfl rfl rfl H fun w8 hA H => ?_)
      refine Rg_end ?_
      refine V_block rfl ?_
      refine V_seq rfl ?_
      refine V_join (fun σ w => σ 2 = .pointer (some ⟨b1, 0, none⟩) ∧ σ 4 = .int .i64 0 ∧ σ 6 = .pointer (some ⟨b6, 0, none⟩) ∧ σ 10 = .slice A l.length c ∧ σ 11 = .int .i64 ((l.length : Nat) : Int) ∧ σ 12 = .int .i64 ((k : Nat) : Int) ∧ σ 13 = .bool (decide (((k : Nat) : Int) < ((l.length : Nat) : Int))) ∧ σ 14 = .pointer (some (ad5.add ((((k : Nat) : Int)).toNat * 4))) ∧ σ 15 = .agg #[.int .i64 x5.Tick, .int .i64 x5.Source, .int .i64 x5.Key, .int .i64 x5.Class] ∧ σ 16 = .bool (decide ((x5.Tick < 0) ∨ (10000 < x5.Tick))) ∧ σ 17 = .pointer (some ⟨b6, 0, none⟩) ∧ σ 18 = .int .i64 x5.Tick ∧ σ 19 = .bool (decide (x5.Tick < 0)) ∧ σ 20 = .bool (decide (x5.Tick < 0)) ∧ σ 24 = .bool (decide ((x5.Tick < 0) ∨ (10000 < x5.Tick))) ∧ σ 1000000 = undef ∧ Hp w0.heap.size w0 w [SA.cel b6 #[.int .i64 x5.Tick, .int .i64 x5.Source, .int .i64 x5.Key, .int .i64 x5.Class] 58, SA.cel b1 #[.int .i64 s.Wide, .int .i64 s.High, .int .i64 s.Room] 33]) ?_ (fun σ w hI => ?_)
      · skip
        refine V_region rfl ?_
        refine Rg_op rfl (o_val (v := .pointer (some ⟨b6, 0, none⟩)) (d := 17) rfl rfl (ex_fieldAddr fo58_0 rfl rfl) ?_)
        refine Rg_op rfl (o_val (v := .int .i64 x5.Tick) (d := 18) rfl rfl (ex_load ca3 rfl (cell_of (H.rd 0 rfl))) ?_)
        refine Rg_op rfl (o_val (v := .bool (decide (x5.Tick < 0))) (d := 19) rfl rfl (ex_lss rfl rfl) ?_)
        refine Rg_op rfl (o_val (v := .bool (decide (x5.Tick < 0))) (d := 20) rfl rfl (ex_move rfl) ?_)
        by_cases hg9 : x5.Tick < 0
        · skip
          refine Rg_op rfl (o_skip (d := 21) rfl rfl (wanted_no (b := (decide (x5.Tick < 0))) rfl rfl rfl (decide_eq_true hg9)) ?_)
          refine Rg_op rfl (o_skip (d := 22) rfl rfl (wanted_no (b := (decide (x5.Tick < 0))) rfl rfl rfl (decide_eq_true hg9)) ?_)
          refine Rg_op rfl (o_skip (d := 23) rfl rfl (wanted_no (b := (decide (x5.Tick < 0))) rfl rfl rfl (decide_eq_true hg9)) ?_)
          refine Rg_op rfl (o_val (v := .bool true) (d := 24) rfl rfl (ex_pick (q := (decide (x5.Tick < 0))) rfl (fun h => rfl) (fun h => absurd hg9 (of_decide_eq_false h))) ?_)
          refine Rg_op rfl (o_val (v := .bool true) (d := 16) rfl rfl (ex_assign rfl) ?_)
          refine Rg_end ?_
          exact ⟨s2, s4, rfl, s10, s11, s12, rfl, rfl, rfl, (show (.bool true : Value) = .bool (decide ((x5.Tick < 0) ∨ (10000 < x5.Tick))) from by first | (simp only [hg9, true_or, or_true, false_or, or_false, true_and, and_true, false_and, and_false, decide_true, decide_false, Bool.not_true, Bool.not_false]; done) | (simp [hg9]; done) | (simp [hg9]; rfl)), rfl, rfl, rfl, rfl, (show (.bool true : Value) = .bool (decide ((x5.Tick < 0) ∨ (10000 < x5.Tick))) from by first | (simp only [hg9, true_or, or_true, false_or, or_false, true_and, and_true, false_and, and_false, decide_true, decide_false, Bool.not_true, Bool.not_false]; done) | (simp [hg9]; done) | (simp [hg9]; rfl)), s1000000, H⟩
        · skip
          refine Rg_op rfl (o_valg (v := .pointer (some ⟨b6, 0, none⟩)) (d := 21) rfl rfl (wanted_yes (b := (decide (x5.Tick < 0))) rfl rfl rfl (decide_eq_false hg9)) (ex_fieldAddr fo58_0 rfl rfl) ?_)
          refine Rg_op rfl (o_valg (v := .int .i64 x5.Tick) (d := 22) rfl rfl (wanted_yes (b := (decide (x5.Tick < 0))) rfl rfl rfl (decide_eq_false hg9)) (ex_load ca3 rfl (cell_of (H.rd 0 rfl))) ?_)
          refine Rg_op rfl (o_valg (v := .bool (decide (10000 < x5.Tick))) (d := 23) rfl rfl (wanted_yes (b := (decide (x5.Tick < 0))) rfl rfl rfl (decide_eq_false hg9)) (ex_gtr rfl rfl) ?_)
          refine Rg_op rfl (o_val (v := .bool (decide (10000 < x5.Tick))) (d := 24) rfl rfl (ex_pick (q := (decide (x5.Tick < 0))) rfl (fun h => absurd (of_decide_eq_true h) hg9) (fun h => rfl)) ?_)
          refine Rg_op rfl (o_val (v := .bool (decide (10000 < x5.Tick))) (d := 16) rfl rfl (ex_assign rfl) ?_)
          refine Rg_end ?_
          exact ⟨s2, s4, rfl, s10, s11, s12, rfl, rfl, rfl, (show (.bool (decide (10000 < x5.Tick)) : Value) = .bool (decide ((x5.Tick < 0) ∨ (10000 < x5.Tick))) from by first | (simp only [hg9, true_or, or_true, false_or, or_false, true_and, and_true, false_and, and_false, decide_true, decide_false, Bool.not_true, Bool.not_false]; done) | (simp [hg9]; done) | (simp [hg9]; rfl)), rfl, rfl, rfl, rfl, (show (.bool (decide (10000 < x5.Tick)) : Value) = .bool (decide ((x5.Tick < 0) ∨ (10000 < x5.Tick))) from by first | (simp only [hg9, true_or, or_true, false_or, or_false, true_and, and_true, false_and, and_false, decide_true, decide_false, Bool.not_true, Bool.not_false]; done) | (simp [hg9]; done) | (simp [hg9]; rfl)), s1000000, H⟩
      obtain ⟨s2, s4, s6, s10, s11, s12, s13, s14, s15, s16, s17, s18, s19, s20, s24, s1000000, H⟩ := hI
      refine V_cond (b := (decide ((x5.Tick < 0) ∨ (10000 < x5.Tick)))) rfl s16 (fun hb10 => ?_) (fun hb10 => ?_)
      · have hb10 : (x5.Tick < 0) ∨ (10000 < x5.Tick) := of_decide_eq_true hb10
        refine V_seq rfl ?_
        refine V_region rfl ?_
        refine Rg_op rfl (o_val (v := .int .i64 3) (d := 4) rfl rfl (ex_assign rfl) ?_)
        refine Rg_end ?_
        refine V_ret rfl (end0 (v := .int .i64 3) s1000000 (res_tmp Try.results59 rfl) ?_)
        have hf : pktE s x5 = 3 := by simp only [pktE]; (repeat' split) <;> first | contradiction | rfl | (simp_all; done) | skip
        exact ⟨by simp only [chkP]; (repeat' split) <;> first | contradiction | rfl | (simp_all; done) | skip; rw [first_at hall hx5 (by rw [hf]; decide), hf], H.below⟩
      · have hb10 : ¬ ((x5.Tick < 0) ∨ (10000 < x5.Tick)) := of_decide_eq_false hb10
        refine V_seq rfl ?_
        refine V_join (fun σ w => σ 2 = .pointer (some ⟨b1, 0, none⟩) ∧ σ 4 = .int .i64 0 ∧ σ 6 = .pointer (some ⟨b6, 0, none⟩) ∧ σ 10 = .slice A l.length c ∧ σ 11 = .int .i64 ((l.length : Nat) : Int) ∧ σ 12 = .int .i64 ((k : Nat) : Int) ∧ σ 13 = .bool (decide (((k : Nat) : Int) < ((l.length : Nat) : Int))) ∧ σ 14 = .pointer (some (ad5.add ((((k : Nat) : Int)).toNat * 4))) ∧ σ 15 = .agg #[.int .i64 x5.Tick, .int .i64 x5.Source, .int .i64 x5.Key, .int .i64 x5.Class] ∧ σ 16 = .bool (decide ((x5.Tick < 0) ∨ (10000 < x5.Tick))) ∧ σ 17 = .pointer (some ⟨b6, 0, none⟩) ∧ σ 18 = .int .i64 x5.Tick ∧ σ 19 = .bool (decide (x5.Tick < 0)) ∧ σ 20 = .bool (decide (x5.Tick < 0)) ∧ σ 24 = .bool (decide ((x5.Tick < 0) ∨ (10000 < x5.Tick))) ∧ σ 25 = .bool (decide ((x5.Source < 0) ∨ ((s.Wide * s.High) ≤ x5.Source))) ∧ σ 26 = .pointer (some ⟨b6, 1, none⟩) ∧ σ 27 = .int .i64 x5.Source ∧ σ 28 = .bool (decide (x5.Source < 0)) ∧ σ 29 = .bool (decide (x5.Source < 0)) ∧ σ 38 = .bool (decide ((x5.Source < 0) ∨ ((s.Wide * s.High) ≤ x5.Source))) ∧ σ 1000000 = undef ∧ Hp w0.heap.size w0 w [SA.cel b6 #[.int .i64 x5.Tick, .int .i64 x5.Source, .int .i64 x5.Key, .int .i64 x5.Class] 58, SA.cel b1 #[.int .i64 s.Wide, .int .i64 s.High, .int .i64 s.Room] 33]) ?_ (fun σ w hI => ?_)
        · skip
          refine V_region rfl ?_
          refine Rg_op rfl (o_val (v := .pointer (some ⟨b6, 1, none⟩)) (d := 26) rfl rfl (ex_fieldAddr fo58_1 s6 rfl) ?_)
          refine Rg_op rfl (o_val (v := .int .i64 x5.Source) (d := 27) rfl rfl (ex_load ca3 rfl (cell_of (H.rd 0 rfl))) ?_)
          refine Rg_op rfl (o_val (v := .bool (decide (x5.Source < 0))) (d := 28) rfl rfl (ex_lss rfl rfl) ?_)
          refine Rg_op rfl (o_val (v := .bool (decide (x5.Source < 0))) (d := 29) rfl rfl (ex_move rfl) ?_)
          by_cases hg11 : x5.Source < 0
          · skip
            refine Rg_op rfl (o_skip (d := 30) rfl rfl (wanted_no (b := (decide (x5.Source < 0))) rfl rfl rfl (decide_eq_true hg11)) ?_)
            refine Rg_op rfl (o_skip (d := 31) rfl rfl (wanted_no (b := (decide (x5.Source < 0))) rfl rfl rfl (decide_eq_true hg11)) ?_)
            refine Rg_op rfl (o_skip (d := 32) rfl rfl (wanted_no (b := (decide (x5.Source < 0))) rfl rfl rfl (decide_eq_true hg11)) ?_)
            refine Rg_op rfl (o_skip (d := 33) rfl rfl (wanted_no (b := (decide (x5.Source < 0))) rfl rfl rfl (decide_eq_true hg11)) ?_)
            refine Rg_op rfl (o_skip (d := 34) rfl rfl (wanted_no (b := (decide (x5.Source < 0))) rfl rfl rfl (decide_eq_true hg11)) ?_)
            refine Rg_op rfl (o_skip (d := 35) rfl rfl (wanted_no (b := (decide (x5.Source < 0))) rfl rfl rfl (decide_eq_true hg11)) ?_)
            refine Rg_op rfl (o_skip (d := 36) rfl rfl (wanted_no (b := (decide (x5.Source < 0))) rfl rfl rfl (decide_eq_true hg11)) ?_)
            refine Rg_op rfl (o_skip (d := 37) rfl rfl (wanted_no (b := (decide (x5.Source < 0))) rfl rfl rfl (decide_eq_true hg11)) ?_)
            refine Rg_op rfl (o_val (v := .bool true) (d := 38) rfl rfl (ex_pick (q := (decide (x5.Source < 0))) rfl (fun h => rfl) (fun h => absurd hg11 (of_decide_eq_false h))) ?_)
            refine Rg_op rfl (o_val (v := .bool true) (d := 25) rfl rfl (ex_assign rfl) ?_)
            refine Rg_end ?_
            exact ⟨s2, s4, s6, s10, s11, s12, s13, s14, s15, s16, s17, s18, s19, s20, s24, (show (.bool true : Value) = .bool (decide ((x5.Source < 0) ∨ ((s.Wide * s.High) ≤ x5.Source))) from by first | (simp only [hg11, true_or, or_true, false_or, or_false, true_and, and_true, false_and, and_false, decide_true, decide_false, Bool.not_true, Bool.not_false]; done) | (simp [hg11]; done) | (simp [hg11]; rfl)), rfl, rfl, rfl, rfl, (show (.bool true : Value) = .bool (decide ((x5.Source < 0) ∨ ((s.Wide * s.High) ≤ x5.Source))) from by first | (simp only [hg11, true_or, or_true, false_or, or_false, true_and, and_true, false_and, and_false, decide_true, decide_false, Bool.not_true, Bool.not_false]; done) | (simp [hg11]; done) | (simp [hg11]; rfl)), s1000000, H⟩
          · skip
            refine Rg_op rfl (o_valg (v := .pointer (some ⟨b6, 1, none⟩)) (d := 30) rfl rfl (wanted_yes (b := (decide (x5.Source < 0))) rfl rfl rfl (decide_eq_false hg11)) (ex_fieldAddr fo58_1 s6 rfl) ?_)
            refine Rg_op rfl (o_valg (v := .int .i64 x5.Source) (d := 31) rfl rfl (wanted_yes (b := (decide (x5.Source < 0))) rfl rfl rfl (decide_eq_false hg11)) (ex_load ca3 rfl (cell_of (H.rd 0 rfl))) ?_)
            refine Rg_op rfl (o_valg (v := .pointer (some ⟨b1, 0, none⟩)) (d := 32) rfl rfl (wanted_yes (b := (decide (x5.Source < 0))) rfl rfl rfl (decide_eq_false hg11)) (ex_fieldAddr fo33_0 s2 rfl) ?_)
            refine Rg_op rfl (o_valg (v := .int .i64 s.Wide) (d := 33) rfl rfl (wanted_yes (b := (decide (x5.Source < 0))) rfl rfl rfl (decide_eq_false hg11)) (ex_load ca3 rfl (cell_of (H.rd 1 rfl))) ?_)
            refine Rg_op rfl (o_valg (v := .pointer (some ⟨b1, 1, none⟩)) (d := 34) rfl rfl (wanted_yes (b := (decide (x5.Source < 0))) rfl rfl rfl (decide_eq_false hg11)) (ex_fieldAddr fo33_1 s2 rfl) ?_)
            refine Rg_op rfl (o_valg (v := .int .i64 s.High) (d := 35) rfl rfl (wanted_yes (b := (decide (x5.Source < 0))) rfl rfl rfl (decide_eq_false hg11)) (ex_load ca3 rfl (cell_of (H.rd 1 rfl))) ?_)
            refine Rg_op rfl (o_valg (v := .int .i64 (s.Wide * s.High)) (d := 36) rfl rfl (wanted_yes (b := (decide (x5.Source < 0))) rfl rfl rfl (decide_eq_false hg11)) (ex_mul rfl rfl (by omega)) ?_)
            refine Rg_op rfl (o_valg (v := .bool (decide ((s.Wide * s.High) ≤ x5.Source))) (d := 37) rfl rfl (wanted_yes (b := (decide (x5.Source < 0))) rfl rfl rfl (decide_eq_false hg11)) (ex_geq rfl rfl) ?_)
            refine Rg_op rfl (o_val (v := .bool (decide ((s.Wide * s.High) ≤ x5.Source))) (d := 38) rfl rfl (ex_pick (q := (decide (x5.Source < 0))) rfl (fun h => absurd (of_decide_eq_true h) hg11) (fun h => rfl)) ?_)
            refine Rg_op rfl (o_val (v := .bool (decide ((s.Wide * s.High) ≤ x5.Source))) (d := 25) rfl rfl (ex_assign rfl) ?_)
            refine Rg_end ?_
            exact ⟨s2, s4, s6, s10, s11, s12, s13, s14, s15, s16, s17, s18, s19, s20, s24, (show (.bool (decide ((s.Wide * s.High) ≤ x5.Source)) : Value) = .bool (decide ((x5.Source < 0) ∨ ((s.Wide * s.High) ≤ x5.Source))) from by first | (simp only [hg11, true_or, or_true, false_or, or_false, true_and, and_true, false_and, and_false, decide_true, decide_false, Bool.not_true, Bool.not_false]; done) | (simp [hg11]; done) | (simp [hg11]; rfl)), rfl, rfl, rfl, rfl, (show (.bool (decide ((s.Wide * s.High) ≤ x5.Source)) : Value) = .bool (decide ((x5.Source < 0) ∨ ((s.Wide * s.High) ≤ x5.Source))) from by first | (simp only [hg11, true_or, or_true, false_or, or_false, true_and, and_true, false_and, and_false, decide_true, decide_false, Bool.not_true, Bool.not_false]; done) | (simp [hg11]; done) | (simp [hg11]; rfl)), s1000000, H⟩
        obtain ⟨s2, s4, s6, s10, s11, s12, s13, s14, s15, s16, s17, s18, s19, s20, s24, s25, s26, s27, s28, s29, s38, s1000000, H⟩ := hI
        refine V_cond (b := (decide ((x5.Source < 0) ∨ ((s.Wide * s.High) ≤ x5.Source)))) rfl s25 (fun hb12 => ?_) (fun hb12 => ?_)
        · have hb12 : (x5.Source < 0) ∨ ((s.Wide * s.High) ≤ x5.Source) := of_decide_eq_true hb12
          refine V_seq rfl ?_
          refine V_region rfl ?_
          refine Rg_op rfl (o_val (v := .int .i64 4) (d := 4) rfl rfl (ex_assign rfl) ?_)
          refine Rg_end ?_
          refine V_ret rfl (end0 (v := .int .i64 4) s1000000 (res_tmp Try.results59 rfl) ?_)
          have hf : pktE s x5 = 4 := by simp only [pktE]; (repeat' split) <;> first | contradiction | rfl | (simp_all; done) | skip
          exact ⟨by simp only [chkP]; (repeat' split) <;> first | contradiction | rfl | (simp_all; done) | skip; rw [first_at hall hx5 (by rw [hf]; decide), hf], H.below⟩
        · have hb12 : ¬ ((x5.Source < 0) ∨ ((s.Wide * s.High) ≤ x5.Source)) := of_decide_eq_false hb12
          refine V_seq rfl ?_
          refine V_join (fun σ w => σ 2 = .pointer (some ⟨b1, 0, none⟩) ∧ σ 4 = .int .i64 0 ∧ σ 6 = .pointer (some ⟨b6, 0, none⟩) ∧ σ 10 = .slice A l.length c ∧ σ 11 = .int .i64 ((l.length : Nat) : Int) ∧ σ 12 = .int .i64 ((k : Nat) : Int) ∧ σ 13 = .bool (decide (((k : Nat) : Int) < ((l.length : Nat) : Int))) ∧ σ 14 = .pointer (some (ad5.add ((((k : Nat) : Int)).toNat * 4))) ∧ σ 15 = .agg #[.int .i64 x5.Tick, .int .i64 x5.Source, .int .i64 x5.Key, .int .i64 x5.Class] ∧ σ 16 = .bool (decide ((x5.Tick < 0) ∨ (10000 < x5.Tick))) ∧ σ 17 = .pointer (some ⟨b6, 0, none⟩) ∧ σ 18 = .int .i64 x5.Tick ∧ σ 19 = .bool (decide (x5.Tick < 0)) ∧ σ 20 = .bool (decide (x5.Tick < 0)) ∧ σ 24 = .bool (decide ((x5.Tick < 0) ∨ (10000 < x5.Tick))) ∧ σ 25 = .bool (decide ((x5.Source < 0) ∨ ((s.Wide * s.High) ≤ x5.Source))) ∧ σ 26 = .pointer (some ⟨b6, 1, none⟩) ∧ σ 27 = .int .i64 x5.Source ∧ σ 28 = .bool (decide (x5.Source < 0)) ∧ σ 29 = .bool (decide (x5.Source < 0)) ∧ σ 38 = .bool (decide ((x5.Source < 0) ∨ ((s.Wide * s.High) ≤ x5.Source))) ∧ σ 39 = .bool (decide ((x5.Key < 0) ∨ (65535 < x5.Key))) ∧ σ 40 = .pointer (some ⟨b6, 2, none⟩) ∧ σ 41 = .int .i64 x5.Key ∧ σ 42 = .bool (decide (x5.Key < 0)) ∧ σ 43 = .bool (decide (x5.Key < 0)) ∧ σ 47 = .bool (decide ((x5.Key < 0) ∨ (65535 < x5.Key))) ∧ σ 1000000 = undef ∧ Hp w0.heap.size w0 w [SA.cel b6 #[.int .i64 x5.Tick, .int .i64 x5.Source, .int .i64 x5.Key, .int .i64 x5.Class] 58, SA.cel b1 #[.int .i64 s.Wide, .int .i64 s.High, .int .i64 s.Room] 33]) ?_ (fun σ w hI => ?_)
          · skip
            refine V_region rfl ?_
            refine Rg_op rfl (o_val (v := .pointer (some ⟨b6, 2, none⟩)) (d := 40) rfl rfl (ex_fieldAddr fo58_2 s6 rfl) ?_)
            refine Rg_op rfl (o_val (v := .int .i64 x5.Key) (d := 41) rfl rfl (ex_load ca3 rfl (cell_of (H.rd 0 rfl))) ?_)
            refine Rg_op rfl (o_val (v := .bool (decide (x5.Key < 0))) (d := 42) rfl rfl (ex_lss rfl rfl) ?_)
            refine Rg_op rfl (o_val (v := .bool (decide (x5.Key < 0))) (d := 43) rfl rfl (ex_move rfl) ?_)
            by_cases hg13 : x5.Key < 0
            · skip
              refine Rg_op rfl (o_skip (d := 44) rfl rfl (wanted_no (b := (decide (x5.Key < 0))) rfl rfl rfl (decide_eq_true hg13)) ?_)
              refine Rg_op rfl (o_skip (d := 45) rfl rfl (wanted_no (b := (decide (x5.Key < 0))) rfl rfl rfl (decide_eq_true hg13)) ?_)
              refine Rg_op rfl (o_skip (d := 46) rfl rfl (wanted_no (b := (decide (x5.Key < 0))) rfl rfl rfl (decide_eq_true hg13)) ?_)
              refine Rg_op rfl (o_val (v := .bool true) (d := 47) rfl rfl (ex_pick (q := (decide (x5.Key < 0))) rfl (fun h => rfl) (fun h => absurd hg13 (of_decide_eq_false h))) ?_)
              refine Rg_op rfl (o_val (v := .bool true) (d := 39) rfl rfl (ex_assign rfl) ?_)
              refine Rg_end ?_
              exact ⟨s2, s4, s6, s10, s11, s12, s13, s14, s15, s16, s17, s18, s19, s20, s24, s25, s26, s27, s28, s29, s38, (show (.bool true : Value) = .bool (decide ((x5.Key < 0) ∨ (65535 < x5.Key))) from by first | (simp only [hg13, true_or, or_true, false_or, or_false, true_and, and_true, false_and, and_false, decide_true, decide_false, Bool.not_true, Bool.not_false]; done) | (simp [hg13]; done) | (simp [hg13]; rfl)), rfl, rfl, rfl, rfl, (show (.bool true : Value) = .bool (decide ((x5.Key < 0) ∨ (65535 < x5.Key))) from by first | (simp only [hg13, true_or, or_true, false_or, or_false, true_and, and_true, false_and, and_false, decide_true, decide_false, Bool.not_true, Bool.not_false]; done) | (simp [hg13]; done) | (simp [hg13]; rfl)), s1000000, H⟩
            · skip
              refine Rg_op rfl (o_valg (v := .pointer (some ⟨b6, 2, none⟩)) (d := 44) rfl rfl (wanted_yes (b := (decide (x5.Key < 0))) rfl rfl rfl (decide_eq_false hg13)) (ex_fieldAddr fo58_2 s6 rfl) ?_)
              refine Rg_op rfl (o_valg (v := .int .i64 x5.Key) (d := 45) rfl rfl (wanted_yes (b := (decide (x5.Key < 0))) rfl rfl rfl (decide_eq_false hg13)) (ex_load ca3 rfl (cell_of (H.rd 0 rfl))) ?_)
              refine Rg_op rfl (o_valg (v := .bool (decide (65535 < x5.Key))) (d := 46) rfl rfl (wanted_yes (b := (decide (x5.Key < 0))) rfl rfl rfl (decide_eq_false hg13)) (ex_gtr rfl rfl) ?_)
              refine Rg_op rfl (o_val (v := .bool (decide (65535 < x5.Key))) (d := 47) rfl rfl (ex_pick (q := (decide (x5.Key < 0))) rfl (fun h => absurd (of_decide_eq_true h) hg13) (fun h => rfl)) ?_)
              refine Rg_op rfl (o_val (v := .bool (decide (65535 < x5.Key))) (d := 39) rfl rfl (ex_assign rfl) ?_)
              refine Rg_end ?_
              exact ⟨s2, s4, s6, s10, s11, s12, s13, s14, s15, s16, s17, s18, s19, s20, s24, s25, s26, s27, s28, s29, s38, (show (.bool (decide (65535 < x5.Key)) : Value) = .bool (decide ((x5.Key < 0) ∨ (65535 < x5.Key))) from by first | (simp only [hg13, true_or, or_true, false_or, or_false, true_and, and_true, false_and, and_false, decide_true, decide_false, Bool.not_true, Bool.not_false]; done) | (simp [hg13]; done) | (simp [hg13]; rfl)), rfl, rfl, rfl, rfl, (show (.bool (decide (65535 < x5.Key)) : Value) = .bool (decide ((x5.Key < 0) ∨ (65535 < x5.Key))) from by first | (simp only [hg13, true_or, or_true, false_or, or_false, true_and, and_true, false_and, and_false, decide_true, decide_false, Bool.not_true, Bool.not_false]; done) | (simp [hg13]; done) | (simp [hg13]; rfl)), s1000000, H⟩
          obtain ⟨s2, s4, s6, s10, s11, s12, s13, s14, s15, s16, s17, s18, s19, s20, s24, s25, s26, s27, s28, s29, s38, s39, s40, s41, s42, s43, s47, s1000000, H⟩ := hI
          refine V_cond (b := (decide ((x5.Key < 0) ∨ (65535 < x5.Key)))) rfl s39 (fun hb14 => ?_) (fun hb14 => ?_)
          · have hb14 : (x5.Key < 0) ∨ (65535 < x5.Key) := of_decide_eq_true hb14
            refine V_seq rfl ?_
            refine V_region rfl ?_
            refine Rg_op rfl (o_val (v := .int .i64 3) (d := 4) rfl rfl (ex_assign rfl) ?_)
            refine Rg_end ?_
            refine V_ret rfl (end0 (v := .int .i64 3) s1000000 (res_tmp Try.results59 rfl) ?_)
            have hf : pktE s x5 = 3 := by simp only [pktE]; (repeat' split) <;> first | contradiction | rfl | (simp_all; done) | skip
            exact ⟨by simp only [chkP]; (repeat' split) <;> first | contradiction | rfl | (simp_all; done) | skip; rw [first_at hall hx5 (by rw [hf]; decide), hf], H.below⟩
          · have hb14 : ¬ ((x5.Key < 0) ∨ (65535 < x5.Key)) := of_decide_eq_false hb14
            refine V_seq rfl ?_
            refine V_join (fun σ w => σ 2 = .pointer (some ⟨b1, 0, none⟩) ∧ σ 4 = .int .i64 0 ∧ σ 6 = .pointer (some ⟨b6, 0, none⟩) ∧ σ 10 = .slice A l.length c ∧ σ 11 = .int .i64 ((l.length : Nat) : Int) ∧ σ 12 = .int .i64 ((k : Nat) : Int) ∧ σ 13 = .bool (decide (((k : Nat) : Int) < ((l.length : Nat) : Int))) ∧ σ 14 = .pointer (some (ad5.add ((((k : Nat) : Int)).toNat * 4))) ∧ σ 15 = .agg #[.int .i64 x5.Tick, .int .i64 x5.Source, .int .i64 x5.Key, .int .i64 x5.Class] ∧ σ 16 = .bool (decide ((x5.Tick < 0) ∨ (10000 < x5.Tick))) ∧ σ 17 = .pointer (some ⟨b6, 0, none⟩) ∧ σ 18 = .int .i64 x5.Tick ∧ σ 19 = .bool (decide (x5.Tick < 0)) ∧ σ 20 = .bool (decide (x5.Tick < 0)) ∧ σ 24 = .bool (decide ((x5.Tick < 0) ∨ (10000 < x5.Tick))) ∧ σ 25 = .bool (decide ((x5.Source < 0) ∨ ((s.Wide * s.High) ≤ x5.Source))) ∧ σ 26 = .pointer (some ⟨b6, 1, none⟩) ∧ σ 27 = .int .i64 x5.Source ∧ σ 28 = .bool (decide (x5.Source < 0)) ∧ σ 29 = .bool (decide (x5.Source < 0)) ∧ σ 38 = .bool (decide ((x5.Source < 0) ∨ ((s.Wide * s.High) ≤ x5.Source))) ∧ σ 39 = .bool (decide ((x5.Key < 0) ∨ (65535 < x5.Key))) ∧ σ 40 = .pointer (some ⟨b6, 2, none⟩) ∧ σ 41 = .int .i64 x5.Key ∧ σ 42 = .bool (decide (x5.Key < 0)) ∧ σ 43 = .bool (decide (x5.Key < 0)) ∧ σ 47 = .bool (decide ((x5.Key < 0) ∨ (65535 < x5.Key))) ∧ σ 48 = .bool (decide ((x5.Class ≠ 0) ∧ (x5.Class ≠ 1))) ∧ σ 49 = .pointer (some ⟨b6, 3, none⟩) ∧ σ 50 = .int .i64 x5.Class ∧ σ 51 = .bool (decide (x5.Class ≠ 0)) ∧ σ 52 = .bool (decide (x5.Class ≠ 0)) ∧ σ 56 = .bool (decide ((x5.Class ≠ 0) ∧ (x5.Class ≠ 1))) ∧ σ 1000000 = undef ∧ Hp w0.heap.size w0 w [SA.cel b6 #[.int .i64 x5.Tick, .int .i64 x5.Source, .int .i64 x5.Key, .int .i64 x5.Class] 58, SA.cel b1 #[.int .i64 s.Wide, .int .i64 s.High, .int .i64 s.Room] 33]) ?_ (fun σ w hI => ?_)
            · skip
              refine V_region rfl ?_
              refine Rg_op rfl (o_val (v := .pointer (some ⟨b6, 3, none⟩)) (d := 49) rfl rfl (ex_fieldAddr fo58_3 s6 rfl) ?_)
              refine Rg_op rfl (o_val (v := .int .i64 x5.Class) (d := 50) rfl rfl (ex_load ca3 rfl (cell_of (H.rd 0 rfl))) ?_)
              refine Rg_op rfl (o_val (v := .bool (decide (x5.Class ≠ 0))) (d := 51) rfl rfl (ex_neq rfl rfl) ?_)
              refine Rg_op rfl (o_val (v := .bool (decide (x5.Class ≠ 0))) (d := 52) rfl rfl (ex_move rfl) ?_)
              by_cases hg15 : x5.Class ≠ 0
              · skip
                refine Rg_op rfl (o_valg (v := .pointer (some ⟨b6, 3, none⟩)) (d := 53) rfl rfl (wanted_yes (b := (decide (x5.Class ≠ 0))) rfl rfl rfl (decide_eq_true hg15)) (ex_fieldAddr fo58_3 s6 rfl) ?_)
                refine Rg_op rfl (o_valg (v := .int .i64 x5.Class) (d := 54) rfl rfl (wanted_yes (b := (decide (x5.Class ≠ 0))) rfl rfl rfl (decide_eq_true hg15)) (ex_load ca3 rfl (cell_of (H.rd 0 rfl))) ?_)
                refine Rg_op rfl (o_valg (v := .bool (decide (x5.Class ≠ 1))) (d := 55) rfl rfl (wanted_yes (b := (decide (x5.Class ≠ 0))) rfl rfl rfl (decide_eq_true hg15)) (ex_neq rfl rfl) ?_)
                refine Rg_op rfl (o_val (v := .bool (decide (x5.Class ≠ 1))) (d := 56) rfl rfl (ex_pick (q := (decide (x5.Class ≠ 0))) rfl (fun h => rfl) (fun h => absurd hg15 (of_decide_eq_false h))) ?_)
                refine Rg_op rfl (o_val (v := .bool (decide (x5.Class ≠ 1))) (d := 48) rfl rfl (ex_assign rfl) ?_)
                refine Rg_end ?_
                exact ⟨s2, s4, s6, s10, s11, s12, s13, s14, s15, s16, s17, s18, s19, s20, s24, s25, s26, s27, s28, s29, s38, s39, s40, s41, s42, s43, s47, (show (.bool (decide (x5.Class ≠ 1)) : Value) = .bool (decide ((x5.Class ≠ 0) ∧ (x5.Class ≠ 1))) from by first | (simp only [hg15, true_or, or_true, false_or, or_false, true_and, and_true, false_and, and_false, decide_true, decide_false, Bool.not_true, Bool.not_false]; done) | (simp [hg15]; done) | (simp [hg15]; rfl)), rfl, rfl, rfl, rfl, (show (.bool (decide (x5.Class ≠ 1)) : Value) = .bool (decide ((x5.Class ≠ 0) ∧ (x5.Class ≠ 1))) from by first | (simp only [hg15, true_or, or_true, false_or, or_false, true_and, and_true, false_and, and_false, decide_true, decide_false, Bool.not_true, Bool.not_false]; done) | (simp [hg15]; done) | (simp [hg15]; rfl)), s1000000, H⟩
              · skip
                refine Rg_op rfl (o_skip (d := 53) rfl rfl (wanted_no (b := (decide (x5.Class ≠ 0))) rfl rfl rfl (decide_eq_false hg15)) ?_)
                refine Rg_op rfl (o_skip (d := 54) rfl rfl (wanted_no (b := (decide (x5.Class ≠ 0))) rfl rfl rfl (decide_eq_false hg15)) ?_)
                refine Rg_op rfl (o_skip (d := 55) rfl rfl (wanted_no (b := (decide (x5.Class ≠ 0))) rfl rfl rfl (decide_eq_false hg15)) ?_)
                refine Rg_op rfl (o_val (v := .bool false) (d := 56) rfl rfl (ex_pick (q := (decide (x5.Class ≠ 0))) rfl (fun h => absurd (of_decide_eq_true h) hg15) (fun h => rfl)) ?_)
                refine Rg_op rfl (o_val (v := .bool false) (d := 48) rfl rfl (ex_assign rfl) ?_)
                refine Rg_end ?_
                exact ⟨s2, s4, s6, s10, s11, s12, s13, s14, s15, s16, s17, s18, s19, s20, s24, s25, s26, s27, s28, s29, s38, s39, s40, s41, s42, s43, s47, (show (.bool false : Value) = .bool (decide ((x5.Class ≠ 0) ∧ (x5.Class ≠ 1))) from by first | (simp only [hg15, true_or, or_true, false_or, or_false, true_and, and_true, false_and, and_false, decide_true, decide_false, Bool.not_true, Bool.not_false]; done) | (simp [hg15]; done) | (simp [hg15]; rfl)), rfl, rfl, rfl, rfl, (show (.bool false : Value) = .bool (decide ((x5.Class ≠ 0) ∧ (x5.Class ≠ 1))) from by first | (simp only [hg15, true_or, or_true, false_or, or_false, true_and, and_true, false_and, and_false, decide_true, decide_false, Bool.not_true, Bool.not_false]; done) | (simp [hg15]; done) | (simp [hg15]; rfl)), s1000000, H⟩
            obtain ⟨s2, s4, s6, s10, s11, s12, s13, s14, s15, s16, s17, s18, s19, s20, s24, s25, s26, s27, s28, s29, s38, s39, s40, s41, s42, s43, s47, s48, s49, s50, s51, s52, s56, s1000000, H⟩ := hI
            refine V_cond (b := (decide ((x5.Class ≠ 0) ∧ (x5.Class ≠ 1)))) rfl s48 (fun hb16 => ?_) (fun hb16 => ?_)
            · have hb16 : (x5.Class ≠ 0) ∧ (x5.Class ≠ 1) := of_decide_eq_true hb16
              refine V_seq rfl ?_
              refine V_region rfl ?_
              refine Rg_op rfl (o_val (v := .int .i64 2) (d := 4) rfl rfl (ex_assign rfl) ?_)
              refine Rg_end ?_
              refine V_ret rfl (end0 (v := .int .i64 2) s1000000 (res_tmp Try.results59 rfl) ?_)
              have hf : pktE s x5 = 2 := by simp only [pktE]; (repeat' split) <;> first | contradiction | rfl | (simp_all; done) | skip
              exact ⟨by simp only [chkP]; (repeat' split) <;> first | contradiction | rfl | (simp_all; done) | skip; rw [first_at hall hx5 (by rw [hf]; decide), hf], H.below⟩
            · have hb16 : ¬ ((x5.Class ≠ 0) ∧ (x5.Class ≠ 1)) := of_decide_eq_false hb16
              refine V_skip rfl ?_
              refine V_region rfl ?_
              refine Rg_op rfl (o_val (v := .int .i64 (((k : Nat) : Int) + 1)) (d := 57) rfl rfl (ex_add s12 rfl (by omega)) ?_)
              refine Rg_op rfl (o_val (v := .int .i64 (((k : Nat) : Int) + 1)) (d := 12) rfl rfl (ex_move rfl) ?_)
              refine Rg_end ?_
              exact ⟨k + 1, ⟨s2, s4, s10, s11, rfl, s1000000, (Hp.pull 0 rfl rfl (Hp.drop (Hp.pull 0 rfl rfl H))), by omega, take_all hall hx5 (by simp only [pktE]; (repeat' split) <;> first | contradiction | rfl | (simp_all; done) | skip)⟩, by omega⟩
    · have hb4 : ¬ (((k : Nat) : Int) < ((l.length : Nat) : Int)) := of_decide_eq_false hb4
      refine V_exit rfl ?_
      refine V_seq rfl ?_
      refine V_region rfl ?_
      refine Rg_op rfl (o_val (v := .int .i64 0) (d := 4) rfl rfl (ex_assign rfl) ?_)
      refine Rg_end ?_
      refine V_ret rfl (end0 (v := .int .i64 0) s1000000 (res_tmp Try.results59 rfl) ?_)
      exact ⟨by simp only [chkP]; (repeat' split) <;> first | contradiction | rfl | (simp_all; done) | skip; rw [first_no (take_full hall (by omega))], H.below⟩

end Go.Proofs.Ytlnogaoihkinbaa
namespace Go.Proofs.Ytlnogaoihkinbaa
open Go.Gk Go.RowKit
theorem ca26 : cellsAgg Try.prog 26 = some none := by kernel_rfl
theorem cl17 : callable Try.prog 17 = true := by kernel_rfl
theorem sl35 : sliceT Try.prog 35 = some ⟨99, 3, 40, .agg #[.int .i64 0, .int .i64 0, .slice none 0 0]⟩ := by kernel_rfl
theorem table_c (A : Option Addr) (c : Nat) (xs : List Entry) (w0 : World) (hX : Row kEnt w0.cell? A xs) (hl : xs.length ≤ 100000) :
    Calls Try.prog 17 #[.slice A xs.length c] w0 fun e w' => ∃ v, e = .returned v ∧ (∃ A' c', v = .slice A' xs.length c' ∧ Below w0.heap.size w0 w' ∧ New (SA.own kEnt 113 A' c' xs) w0 w') := by
  refine calls_of (n := 31) (l := [.slice A xs.length c]) Try.func17 rfl rfl rfl ?_
  have H := Hp.start w0
  refine V_seq rfl ?_
  refine V_region rfl ?_
  refine Rg_op rfl (o_val (v := .slice none 0 0) (d := 2) rfl rfl (ex_assign rfl) ?_)
  refine Rg_end ?_
  refine V_seq rfl ?_
  refine V_region rfl ?_
  refine Rg_op rfl (o_val (v := .slice none 0 0) (d := 3) rfl rfl (ex_assign rfl) ?_)
  refine Rg_end ?_
  refine V_seq rfl ?_
  refine V_seq rfl ?_
  refine V_region rfl ?_
  refine Rg_op rfl (o_val (v := .int .i64 0) (d := 4) rfl rfl (ex_assign rfl) ?_)
  refine Rg_end ?_
  refine V_block rfl ?_
  have H := own_nil H kEnt 113
  have e_out : [] = ((xs.take 0).map id) := rfl
  rw [e_out] at H
  refine V_loop rfl (γ := Nat) (fun k σ w => ∃ (A_out : Option Addr) (c_out : Nat), σ 0 = .slice A xs.length c ∧ σ 2 = .slice none 0 0 ∧ σ 3 = .slice A_out ((((xs.take k).map id)).length) c_out ∧ σ 4 = .int .i64 ((k : Nat) : Int) ∧ σ 1000000 = undef ∧ Hp w0.heap.size w0 w [SA.own kEnt 113 A_out c_out ((xs.take k).map id)] ∧ k ≤ xs.length) (fun k => xs.length - k) (0) ⟨none, 0, rfl, rfl, ((rfl : _ = Value.slice none (([]).length) 0).trans (congrArg (fun z => Value.slice none (List.length z) 0) e_out)), rfl, rfl, H, by omega⟩ (fun k σ w hI => ?_)
  obtain ⟨A_out, c_out, hI⟩ := hI
  obtain ⟨s0, s2, s3, s4, s1000000, H, hk⟩ := hI
  refine V_seq rfl ?_
  refine V_seq rfl ?_
  refine V_region rfl ?_
  refine Rg_op rfl (o_val (v := .int .i64 ((k : Nat) : Int)) (d := 5) rfl rfl (ex_move s4) ?_)
  refine Rg_op rfl (o_val (v := .slice A xs.length c) (d := 6) rfl rfl (ex_move s0) ?_)
  refine Rg_op rfl (o_val (v := .int .i64 ((xs.length : Nat) : Int)) (d := 7) rfl rfl (ex_len (ts := #[]) sl42 rfl) ?_)
  refine Rg_op rfl (o_val (v := .bool (decide (((k : Nat) : Int) < ((xs.length : Nat) : Int)))) (d := 8) rfl rfl (ex_lss rfl rfl) ?_)
  refine Rg_end ?_
  refine V_cond (b := (decide (((k : Nat) : Int) < ((xs.length : Nat) : Int)))) rfl rfl (fun hb2 => ?_) (fun hb2 => ?_)
  · have hb2 : ((k : Nat) : Int) < ((xs.length : Nat) : Int) := of_decide_eq_true hb2
    refine V_skip rfl ?_
    refine V_seq rfl ?_
    refine V_block rfl ?_
    refine V_draw [0, 1, 2, 3, 4, 6, 7, 8, 9, 11, 12, 13, 14, 16, 19] (.p 0 (.p 1 (.p 2 (.p 3 (.p 4 (.q 5 (.p 6 (.p 7 (.p 8 (.p 9 (.q 10 (.p 11 (.p 12 (.p 13 (.p 14 (.q 15 (.p 16 (.l 17 (.l 18 (.p 19 .done)))))))))))))))))))) (fun _ => False) rfl mixed (by kernel_rfl) fun w3 hD => ?_
    have H := H.drew hD
    refine c_p (v := .slice A_out ((((xs.take k).map id)).length) c_out) (d := 11) rfl rfl rfl (fun w' => ex_move s3) ?_
    refine c_p (v := .slice A xs.length c) (d := 12) rfl rfl rfl (fun w' => ex_move s0) ?_
    refine c_p (v := .int .i64 ((k : Nat) : Int)) (d := 13) rfl rfl rfl (fun w' => ex_move s4) ?_
    obtain ⟨ad4, x4, cs4, hA4, hx4, hR4, hc4⟩ := Row.get hX ((k : Nat) : Int) (by omega) (by omega)
    obtain rfl := hR4
    refine c_p (v := .pointer (some (ad4.add ((((k : Nat) : Int)).toNat * 3)))) (d := 14) rfl rfl rfl (fun w' => ex_indexAddr sl42 rfl hA4 rfl (by omega) (by omega) rfl) ?_
    refine c_p (v := .pointer (some (ad4.add ((((k : Nat) : Int)).toNat * 3 + 0)))) (d := 15) rfl rfl rfl (fun w' => ex_fieldAddr fo116_0 rfl (add_add _ _ _)) ?_
    refine c_q (v := .int .i64 x4.Key) (d := 16) rfl rfl rfl (fun w' hG => ex_load ca3 rfl (hG.cell (H.cell0 (hc4 0 _ rfl)) id)) ?_
    refine c_p (v := .slice A xs.length c) (d := 17) rfl rfl rfl (fun w' => ex_move s0) ?_
    refine c_p (v := .int .i64 ((k : Nat) : Int)) (d := 18) rfl rfl rfl (fun w' => ex_move s4) ?_
    refine c_p (v := .pointer (some (ad4.add ((((k : Nat) : Int)).toNat * 3)))) (d := 19) rfl rfl rfl (fun w' => ex_indexAddr sl42 rfl hA4 rfl (by omega) (by omega) rfl) ?_
    refine c_p (v := .pointer (some (ad4.add ((((k : Nat) : Int)).toNat * 3 + 1)))) (d := 20) rfl rfl rfl (fun w' => ex_fieldAddr fo116_1 rfl (add_add _ _ _)) ?_
    refine c_q (v := .int .i64 x4.Mask) (d := 21) rfl rfl rfl (fun w' hG => ex_load ca3 rfl (hG.cell (H.cell0 (hc4 1 _ rfl)) id)) ?_
    refine c_p (v := .slice A xs.length c) (d := 22) rfl rfl rfl (fun w' => ex_move s0) ?_
    refine c_p (v := .int .i64 ((k : Nat) : Int)) (d := 23) rfl rfl rfl (fun w' => ex_move s4) ?_
    refine c_p (v := .pointer (some (ad4.add ((((k : Nat) : Int)).toNat * 3)))) (d := 24) rfl rfl rfl (fun w' => ex_indexAddr sl42 rfl hA4 rfl (by omega) (by omega) rfl) ?_
    refine c_p (v := .pointer (some (ad4.add ((((k : Nat) : Int)).toNat * 3 + 2)))) (d := 25) rfl rfl rfl (fun w' => ex_fieldAddr fo116_2 rfl (add_add _ _ _)) ?_
    refine c_q (v := .int .i64 x4.Outs) (d := 26) rfl rfl rfl (fun w' hG => ex_load ca3 rfl (hG.cell (H.cell0 (hc4 2 _ rfl)) id)) ?_
    refine c_p (v := .agg #[.int .i64 x4.Key, .int .i64 x4.Mask, .int .i64 x4.Outs]) (d := 27) rfl rfl rfl (fun w' => ex_eq (by kernel_rfl)) ?_
    refine c_l rfl (o_lit (cs := [.int .i64 x4.Key, .int .i64 x4.Mask, .int .i64 x4.Outs]) (e := 113) rfl (fun W => by kernel_rfl) H fun b5 w6 hA H => ⟨.inr (Below.agr hA), ?_⟩)
    have H := H.pull 1 rfl rfl
    refine c_l rfl (o_append (ys := [(⟨x4.Key, x4.Mask, x4.Outs⟩ : Entry)]) (ts := #[]) rfl sl41 rfl rfl rfl H (row_lit1 (z := (⟨x4.Key, x4.Mask, x4.Outs⟩ : Entry)) (H.rd 1 rfl) rfl) (by first | omega | (simp only [List.length_append, List.length_cons, List.length_nil, List.length_map, List.length_take]; omega)) (by first | omega | (simp only [List.length_append, List.length_cons, List.length_nil, List.length_map, List.length_take]; omega)) fun A7 c8 w9 hA H => ⟨.inl (by kernel_rfl), ?_⟩)
    have H := (H.pull 1 rfl rfl).drop
    refine c_p (v := .slice A7 ((((xs.take k).map id) ++ [(⟨x4.Key, x4.Mask, x4.Outs⟩ : Entry)]).length) c8) (d := 3) rfl rfl rfl (fun w' => ex_assign rfl) ?_
    refine c_done ?_
    refine V_region rfl ?_
    refine Rg_op rfl (o_val (v := .int .i64 ((k : Nat) : Int)) (d := 9) rfl rfl (ex_move s4) ?_)
    refine Rg_op rfl (o_val (v := .int .i64 (((k : Nat) : Int) + 1)) (d := 10) rfl rfl (ex_add rfl rfl (by omega)) ?_)
    refine Rg_op rfl (o_val (v := .int .i64 (((k : Nat) : Int) + 1)) (d := 4) rfl rfl (ex_assign rfl) ?_)
    refine Rg_end ?_
    have e_out : ((xs.take k).map id) ++ [(⟨x4.Key, x4.Mask, x4.Outs⟩ : Entry)] = ((xs.take (k + 1)).map id) := (take_map (f := id) (k := k) hx4).symm
    rw [e_out] at H
    exact ⟨k + 1, ⟨A7, c8, s0, s2, ((rfl : _ = Value.slice A7 ((((xs.take k).map id) ++ [(⟨x4.Key, x4.Mask, x4.Outs⟩ : Entry)]).length) c8).trans (congrArg (fun z => Value.slice A7 (List.length z) c8) e_out)), rfl, s1000000, H, by omega⟩, by omega⟩
  · have hb2 : ¬ (((k : Nat) : Int) < ((xs.length : Nat) : Int)) := of_decide_eq_false hb2
    refine V_exit rfl ?_
    refine V_seq rfl ?_
    refine V_region rfl ?_
    refine Rg_op rfl (o_val (v := .slice A_out ((((xs.take k).map id)).length) c_out) (d := 30) rfl rfl (ex_move s3) ?_)
    refine Rg_op rfl (o_val (v := .slice A_out ((((xs.take k).map id)).length) c_out) (d := 2) rfl rfl (ex_assign rfl) ?_)
    refine Rg_end ?_
    have eo : ((xs.take k).map id) = xs := by rw [List.take_of_length_le (by omega), List.map_id]
    rw [eo] at H
    refine V_ret rfl (end0 (v := .slice A_out ((((xs.take k).map id)).length) c_out) s1000000 (res_tmp Try.results17 rfl) ?_)
    exact ⟨_, _, by rw [eo], H.below, H.give⟩

theorem clone_c (A : Option Addr) (c : Nat) (xs : List Entry) (w0 : World) (hX : Row kEnt w0.cell? A xs) (hl : xs.length ≤ 100000) :
    Calls Try.prog 53 #[.slice A xs.length c] w0 fun e w' => ∃ v, e = .returned v ∧ (∃ A' c', v = .slice A' xs.length c' ∧ Below w0.heap.size w0 w' ∧ New (SA.own kEnt 113 A' c' xs) w0 w') := by
  refine calls_of (n := 8) (l := [.slice A xs.length c]) Try.func53 rfl rfl rfl ?_
  have H := Hp.start w0
  refine V_seq rfl ?_
  refine V_region rfl ?_
  refine Rg_op rfl (o_val (v := .slice none 0 0) (d := 2) rfl rfl (ex_assign rfl) ?_)
  refine Rg_end ?_
  refine V_seq rfl ?_
  refine V_seq rfl ?_
  refine V_region rfl ?_
  refine Rg_op rfl (o_val (v := .slice A xs.length c) (d := 3) rfl rfl (ex_move rfl) ?_)
  refine Rg_op rfl (o_val (v := .bool (Option.isNone A)) (d := 4) rfl rfl (ex_isNil sl41 rfl rfl) ?_)
  refine Rg_end ?_
  refine V_cond (b := (Option.isNone A)) rfl rfl (fun hb1 => ?_) (fun hb1 => ?_)
  · skip
    obtain rfl : A = none := by cases A with | none => rfl | some a => cases hb1
    obtain rfl := row_none hX
    refine V_seq rfl ?_
    refine V_region rfl ?_
    refine Rg_op rfl (o_val (v := .slice none 0 0) (d := 2) rfl rfl (ex_assign rfl) ?_)
    refine Rg_end ?_
    have H := own_nil H kEnt 113
    refine V_ret rfl (end0 (v := .slice none 0 0) rfl (res_tmp Try.results53 rfl) ?_)
    exact ⟨_, _, rfl, H.below, H.give⟩
  · skip
    refine V_skip rfl ?_
    refine V_seq rfl ?_
    refine V_region rfl ?_
    refine Rg_op rfl (o_lit (cs := []) (e := 113) rfl (fun W => by kernel_rfl) H fun b3 w4 hA H => ?_)
    refine Rg_op rfl (o_val (v := .slice A xs.length c) (d := 6) rfl rfl (ex_move rfl) ?_)
    have H := H.pull 0 rfl rfl
    have H := own_lit0 (D := kEnt) H
    have H := H.pull 0 rfl rfl
    refine Rg_op rfl (o_append (ys := xs) (ts := #[]) rfl sl41 rfl rfl rfl H (hX.mono (fun _ _ h => H.cell0 h)) (by first | omega | (simp only [List.length_append, List.length_cons, List.length_nil, List.length_map, List.length_take]; omega)) (by first | omega | (simp only [List.length_append, List.length_cons, List.length_nil, List.length_map, List.length_take]; omega)) fun A6 c7 w8 hA H => ?_)
    refine Rg_op rfl (o_val (v := .slice A6 (([] ++ xs).length) c7) (d := 2) rfl rfl (ex_assign rfl) ?_)
    refine Rg_end ?_
    refine V_ret rfl (end0 (v := .slice A6 (([] ++ xs).length) c7) rfl (res_tmp Try.results53 rfl) ?_)
    exact ⟨_, _, rfl, H.below, H.give⟩

end Go.Proofs.Ytlnogaoihkinbaa
namespace Go.Proofs.Ytlnogaoihkinbaa
open Go.Gk Go.RowKit

theorem delete_c (wb w0 : World) (L : List SA) (A : Option Addr) (c : Nat) (xs : List Entry) (i : Nat) (H : Hp wb.heap.size wb w0 (SA.own kEnt 113 A c xs :: L)) (hi : i < xs.length) :
    Calls Try.prog 83 #[.slice A xs.length c, .int .i64 ((i : Nat) : Int), .int .i64 (((i : Nat) : Int) + 1)] w0 fun e w' => ∃ v, e = .returned v ∧ (v = .slice A (xs.eraseIdx i).length c ∧ Hp wb.heap.size wb w' (SA.own kEnt 113 A c (xs.eraseIdx i) :: L)) := by
  refine calls_of (n := 33) (l := [.slice A xs.length c, .int .i64 ((i : Nat) : Int), .int .i64 (((i : Nat) : Int) + 1)]) Try.func83 rfl rfl rfl ?_
  obtain ⟨g, cur, rfl, hcs, hxc, hcm, htk, H⟩ := own_open H (by intro e; simp [e] at hi)
  refine V_seq rfl ?_
  refine V_region rfl ?_
  refine Rg_op rfl (o_val (v := .slice none 0 0) (d := 6) rfl rfl (ex_assign rfl) ?_)
  refine Rg_end ?_
  refine V_seq rfl ?_
  refine V_region rfl ?_
  refine Rg_op rfl (o_val (v := .slice (some ⟨g, 0, none⟩) xs.length c) (d := 8) rfl rfl (ex_move rfl) ?_)
  refine Rg_op rfl (o_val (v := .int .i64 ((i : Nat) : Int)) (d := 9) rfl rfl (ex_move rfl) ?_)
  refine Rg_op rfl (o_val (v := .int .i64 (((i : Nat) : Int) + 1)) (d := 10) rfl rfl (ex_move rfl) ?_)
  refine Rg_op rfl (o_val (v := .slice (some ⟨g, 0, none⟩) xs.length c) (d := 11) rfl rfl (ex_move rfl) ?_)
  refine Rg_op rfl (o_val (v := .int .i64 ((xs.length : Nat) : Int)) (d := 12) rfl rfl (ex_len (ts := #[]) sl41 rfl) ?_)
  refine Rg_op rfl (o_val (v := .slice (cutA (some ⟨g, 0, none⟩) xs.length i 3) ((i + 1) - i) (xs.length - i)) (d := 13) rfl rfl (ex_sliceLHM (a := ((i : Nat) : Int)) (b := ((i : Nat) : Int) + 1) (c := ((xs.length : Nat) : Int)) sl41 rfl rfl rfl rfl (by omega) (by omega) (by omega) (by omega)) ?_)
  refine Rg_end ?_
  refine V_seq rfl ?_
  refine V_seq rfl ?_
  refine V_region rfl ?_
  refine Rg_op rfl (o_val (v := .int .i64 ((i : Nat) : Int)) (d := 14) rfl rfl (ex_move rfl) ?_)
  refine Rg_op rfl (o_val (v := .int .i64 (((i : Nat) : Int) + 1)) (d := 15) rfl rfl (ex_move rfl) ?_)
  refine Rg_op rfl (o_val (v := .bool (decide (((i : Nat) : Int) = (((i : Nat) : Int) + 1)))) (d := 16) rfl rfl (ex_eql rfl rfl) ?_)
  refine Rg_end ?_
  have hb : ¬ (((i : Nat) : Int) = (((i : Nat) : Int) + 1)) := by omega
  refine V_cond (b := (decide (((i : Nat) : Int) = (((i : Nat) : Int) + 1)))) rfl rfl (fun h => absurd (of_decide_eq_true h) hb) (fun _ => ?_)
  refine V_skip rfl ?_
  refine V_seq rfl ?_
  refine V_region rfl ?_
  refine Rg_op rfl (o_val (v := .slice (some ⟨g, 0, none⟩) xs.length c) (d := 18) rfl rfl (ex_move rfl) ?_)
  refine Rg_op rfl (o_val (v := .int .i64 ((xs.length : Nat) : Int)) (d := 19) rfl rfl (ex_len (ts := #[]) sl41 rfl) ?_)
  refine Rg_op rfl (o_val (v := .int .i64 ((xs.length : Nat) : Int)) (d := 7) rfl rfl (ex_assign rfl) ?_)
  refine Rg_end ?_
  refine V_seq rfl ?_
  refine V_draw [0, 1, 2, 3, 4, 5, 7] (.p 0 (.p 1 (.p 2 (.p 3 (.p 4 (.p 5 (.l 6 (.p 7 .done)))))))) (fun _ => False) rfl mixed (by kernel_rfl) fun w1 hD => ?_
  have H := H.drew hD
  refine c_p (v := .slice (some ⟨g, 0, none⟩) xs.length c) (d := 20) rfl rfl rfl (fun w' => ex_move rfl) ?_
  refine c_p (v := .int .i64 ((i : Nat) : Int)) (d := 21) rfl rfl rfl (fun w' => ex_move rfl) ?_
  refine c_p (v := .slice (some ⟨g, 0, none⟩) i c) (d := 22) rfl rfl rfl (fun w' => ex_sliceH (b := ((i : Nat) : Int)) sl41 rfl rfl (by omega) (by omega) rfl) ?_
  refine c_p (v := .slice (some ⟨g, 0, none⟩) xs.length c) (d := 23) rfl rfl rfl (fun w' => ex_move rfl) ?_
  refine c_p (v := .int .i64 (((i : Nat) : Int) + 1)) (d := 24) rfl rfl rfl (fun w' => ex_move rfl) ?_
  refine c_p (v := .slice (cutA (some ⟨g, 0, none⟩) c (i + 1) 3) (xs.length - (i + 1)) (c - (i + 1))) (d := 25) rfl rfl rfl (fun w' => ex_sliceL (a := ((i : Nat) : Int) + 1) sl41 rfl rfl (by omega) (by omega) rfl) ?_
  refine c_l rfl (o_appendIn (k := xs.length - (i + 1)) (i := i) (news := ((cur.toList.drop ((i + 1) * 3)).take ((xs.length - (i + 1)) * 3))) rfl sl41 rfl rfl H (erase_news hcs hxc hi) (cut_news (H.rd 0 rfl) hxc hi) (news_one (fun _ => rfl) hi htk) (by omega) hcs (by omega) fun w2 hA H => ⟨.inl (by kernel_rfl), ?_⟩)
  refine c_p (v := .slice (some ⟨g, 0, none⟩) (i + (xs.length - (i + 1))) c) (d := 0) rfl rfl rfl (fun w' => ex_assign rfl) ?_
  refine c_done ?_
  refine V_seq rfl ?_
  refine V_region rfl ?_
  refine Rg_op rfl (o_val (v := .slice (some ⟨g, 0, none⟩) (i + (xs.length - (i + 1))) c) (d := 27) rfl rfl (ex_move rfl) ?_)
  refine Rg_op rfl (o_val (v := .slice (some ⟨g, 0, none⟩) (i + (xs.length - (i + 1))) c) (d := 28) rfl rfl (ex_move rfl) ?_)
  refine Rg_op rfl (o_val (v := .int .i64 (((i + (xs.length - (i + 1))) : Nat) : Int)) (d := 29) rfl rfl (ex_len (ts := #[]) sl41 rfl) ?_)
  refine Rg_op rfl (o_val (v := .int .i64 ((xs.length : Nat) : Int)) (d := 30) rfl rfl (ex_move rfl) ?_)
  have hcl : Value.slice (cutA (some ⟨g, 0, none⟩) c (i + (xs.length - (i + 1))) 3) (xs.length - (i + (xs.length - (i + 1)))) (c - (i + (xs.length - (i + 1)))) = .slice (some ⟨g, (i + (xs.length - (i + 1))) * 3, none⟩) (0 + 1) (c - (i + (xs.length - (i + 1)))) := by
    unfold cutA
    rw [if_neg (by omega), show xs.length - (i + (xs.length - (i + 1))) = 0 + 1 from by omega]
    simp only [Option.map_some, add_blk]
  refine Rg_op rfl (o_val (v := .slice (some ⟨g, (i + (xs.length - (i + 1))) * 3, none⟩) (0 + 1) (c - (i + (xs.length - (i + 1))))) (d := 31) rfl rfl (hcl ▸ ex_sliceLH (a := (((i + (xs.length - (i + 1))) : Nat) : Int)) (b := ((xs.length : Nat) : Int)) sl41 rfl rfl rfl (by omega) (by omega) (by omega)) ?_)
  refine Rg_op rfl (o_clear (k := 0) (off := (i + (xs.length - (i + 1))) * 3) rfl sl41 rfl H (by kernel_rfl) (by rw [size_setCells, hcs]; show (i + (xs.length - (i + 1))) * 3 + (0 + 1) * 3 ≤ c * 3; omega) fun w3 hA H => ?_)
  refine Rg_end ?_
  refine V_seq rfl ?_
  refine V_region rfl ?_
  refine Rg_op rfl (o_val (v := .slice (some ⟨g, 0, none⟩) (i + (xs.length - (i + 1))) c) (d := 32) rfl rfl (ex_move rfl) ?_)
  refine Rg_op rfl (o_val (v := .slice (some ⟨g, 0, none⟩) (i + (xs.length - (i + 1))) c) (d := 6) rfl rfl (ex_assign rfl) ?_)
  refine Rg_end ?_
  have hlen : (xs.eraseIdx i).length = (i + (xs.length - (i + 1))) := by rw [List.length_eraseIdx, if_pos hi]; omega
  refine V_ret rfl (end0 (v := .slice (some ⟨g, 0, none⟩) (i + (xs.length - (i + 1))) c) rfl (res_tmp Try.results83 rfl) ?_)
  exact ⟨by rw [hlen], own_shut H (by rw [size_setCells, size_setCells]; exact hcs) (by omega) hcm (erase_cells (m := 3) (enc := fun x : Entry => [.int .i64 x.Key, .int .i64 x.Mask, .int .i64 x.Outs]) (fun _ => rfl) hi hcs hxc htk _)⟩

end Go.Proofs.Ytlnogaoihkinbaa
namespace Go.Proofs.Ytlnogaoihkinbaa
open Go.Gk Go.RowKit
theorem cl53 : callable Try.prog 53 = true := by kernel_rfl
theorem cl82 : callable Try.prog 82 = true := by kernel_rfl
theorem cl83 : callable Try.prog 83 = true := by kernel_rfl
theorem joined_c (A : Option Addr) (c : Nat) (xs : List Entry) (same : List Entry → Bool) (F : Nat) (fv cap : List Value) (w0 : World) (hX : Row kEnt w0.cell? A xs) (hl : xs.length ≤ 100000) (hcl : callable Try.prog F = true) (hF : ∀ (t : List Entry) (A' : Option Addr) (c' : Nat) (w : World), Below w0.heap.size w0 w → Row kEnt w.cell? A' t → t.length ≤ 100000 → Calls Try.prog F (fv ++ [Value.slice A' t.length c'] ++ cap).toArray w fun e w' => ∃ v, e = .returned v ∧ (v = .bool (same t) ∧ Below w.heap.size w w')) :
    Calls Try.prog 54 #[.slice A xs.length c, .func (.func F) fv.toArray cap.toArray] w0 fun e w' => ∃ v, e = .returned v ∧ ((∃ t A' c', joinedO xs same = some t ∧ v = .tuple #[.slice A' t.length c', .bool true] ∧ Below w0.heap.size w0 w' ∧ New (SA.own kEnt 113 A' c' t) w0 w') ∨ (joinedO xs same = none ∧ v = .tuple #[.slice A xs.length c, .bool false] ∧ Below w0.heap.size w0 w')) := by
  refine calls_of (n := 54) (l := [.slice A xs.length c, .func (.func F) fv.toArray cap.toArray]) Try.func54 rfl rfl rfl ?_
  have H := Hp.start w0
  refine V_seq rfl ?_
  refine V_region rfl ?_
  refine Rg_op rfl (o_val (v := .slice none 0 0) (d := 4) rfl rfl (ex_assign rfl) ?_)
  refine Rg_op rfl (o_val (v := .bool false) (d := 5) rfl rfl (ex_assign rfl) ?_)
  refine Rg_end ?_
  refine V_seq rfl ?_
  refine V_seq rfl ?_
  refine V_region rfl ?_
  refine Rg_op rfl (o_val (v := .slice A xs.length c) (d := 12) rfl rfl (ex_move rfl) ?_)
  refine Rg_op rfl (o_val (v := .int .i64 ((xs.length : Nat) : Int)) (d := 13) rfl rfl (ex_len (ts := #[]) sl41 rfl) ?_)
  refine Rg_op rfl (o_val (v := .int .i64 0) (d := 14) rfl rfl (ex_move rfl) ?_)
  refine Rg_end ?_
  refine V_block rfl ?_
  refine V_loop rfl (γ := Nat) (fun k σ w => σ 0 = .slice A xs.length c ∧ σ 1 = .func (.func F) fv.toArray cap.toArray ∧ σ 4 = .slice none 0 0 ∧ σ 5 = .bool false ∧ σ 12 = .slice A xs.length c ∧ σ 13 = .int .i64 ((xs.length : Nat) : Int) ∧ σ 14 = .int .i64 ((k : Nat) : Int) ∧ σ 1000000 = undef ∧ Hp w0.heap.size w0 w [] ∧ k ≤ xs.length ∧ (∀ a, a < k → rowJ xs same a = none)) (fun k => xs.length - k) (0) ⟨rfl, rfl, rfl, rfl, rfl, rfl, rfl, rfl, H, by omega, fun a h => absurd h (by omega)⟩ (fun k σ w hI => ?_)
  obtain ⟨s0, s1, s4, s5, s12, s13, s14, s1000000, H, hk, hall⟩ := hI
  refine V_seq rfl ?_
  refine V_region rfl ?_
  refine Rg_op rfl (o_val (v := .bool (decide (((k : Nat) : Int) < ((xs.length : Nat) : Int)))) (d := 15) rfl rfl (ex_lss s14 s13) ?_)
  refine Rg_end ?_
  refine V_seq rfl ?_
  refine V_cond (b := (decide (((k : Nat) : Int) < ((xs.length : Nat) : Int)))) rfl rfl (fun hb1 => ?_) (fun hb1 => ?_)
  · have hb1 : ((k : Nat) : Int) < ((xs.length : Nat) : Int) := of_decide_eq_true hb1
    refine V_skip rfl ?_
    refine V_seq rfl ?_
    refine V_block rfl ?_
    refine V_seq rfl ?_
    refine V_region rfl ?_
    refine Rg_op rfl (o_val (v := .int .i64 ((k : Nat) : Int)) (d := 16) rfl rfl (ex_move s14) ?_)
    obtain ⟨ad2, x2, cs2, hA2, hx2, hR2, hc2⟩ := Row.get hX ((k : Nat) : Int) (by first | omega | (simp only [List.length_eraseIdx]; split <;> omega)) (by first | omega | (simp only [List.length_eraseIdx]; split <;> omega))
    obtain rfl := hR2
    refine Rg_op rfl (o_val (v := .pointer (some (ad2.add ((((k : Nat) : Int)).toNat * 3)))) (d := 17) rfl rfl (ex_indexAddr sl41 s12 hA2 s14 (by first | omega | (simp only [List.length_eraseIdx]; split <;> omega)) (by first | omega | (simp only [List.length_eraseIdx]; split <;> omega)) rfl) ?_)
    refine Rg_op rfl (o_val (v := .agg #[.int .i64 x2.Key, .int .i64 x2.Mask, .int .i64 x2.Outs]) (d := 18) rfl rfl (ex_loadN (vs := [.int .i64 x2.Key, .int .i64 x2.Mask, .int .i64 x2.Outs]) ca113 rfl rfl (fun j u hj => by rw [add_add]; exact H.cell0 (hc2 j u hj))) ?_)
    refine Rg_op rfl (o_alloc rfl tz113 H fun b3 w4 hA H => ?_)
    refine Rg_op rfl (o_val (v := .int .i64 ((k : Nat) : Int)) (d := 6) rfl rfl (ex_assign rfl) ?_)
    refine Rg_op rfl (o_store (vs := [.int .i64 x2.Key, .int .i64 x2.Mask, .int .i64 x2.Outs]) rfl ts113 rfl rfl rfl rfl 0 rfl rfl rfl rfl H fun w5 hA H => ?_)
    refine Rg_end ?_
    refine V_seq rfl ?_
    refine V_region rfl ?_
    refine Rg_op rfl (o_val (v := .int .i64 ((k : Nat) : Int)) (d := 19) rfl rfl (ex_move rfl) ?_)
    refine Rg_op rfl (o_val (v := .int .i64 (((k : Nat) : Int) + 1)) (d := 20) rfl rfl (ex_add rfl rfl (by omega)) ?_)
    refine Rg_op rfl (o_val (v := .int .i64 (((k : Nat) : Int) + 1)) (d := 8) rfl rfl (ex_assign rfl) ?_)
    refine Rg_end ?_
    refine V_block rfl ?_
    have hkl : k < xs.length := by omega
    refine V_loop rfl (γ := Nat) (fun j σ w => σ 0 = .slice A xs.length c ∧ σ 1 = .func (.func F) fv.toArray cap.toArray ∧ σ 4 = .slice none 0 0 ∧ σ 5 = .bool false ∧ σ 6 = .int .i64 ((k : Nat) : Int) ∧ σ 7 = .pointer (some ⟨b3, 0, none⟩) ∧ σ 8 = .int .i64 ((j : Nat) : Int) ∧ σ 12 = .slice A xs.length c ∧ σ 13 = .int .i64 ((xs.length : Nat) : Int) ∧ σ 14 = .int .i64 ((k : Nat) : Int) ∧ σ 15 = .bool (decide (((k : Nat) : Int) < ((xs.length : Nat) : Int))) ∧ σ 16 = .int .i64 ((k : Nat) : Int) ∧ σ 17 = .pointer (some (ad2.add ((((k : Nat) : Int)).toNat * 3))) ∧ σ 18 = .agg #[.int .i64 x2.Key, .int .i64 x2.Mask, .int .i64 x2.Outs] ∧ σ 19 = .int .i64 ((k : Nat) : Int) ∧ σ 20 = .int .i64 (((k : Nat) : Int) + 1) ∧ σ 1000000 = undef ∧ Hp w0.heap.size w0 w [SA.cel b3 #[.int .i64 x2.Key, .int .i64 x2.Mask, .int .i64 x2.Outs] 113] ∧ k < j ∧ j ≤ xs.length ∧ (∀ b, b < j → cand2 xs same k b = none)) (fun j => xs.length - j) (k + 1) ⟨s0, s1, s4, s5, rfl, rfl, rfl, s12, s13, s14, rfl, rfl, rfl, rfl, rfl, rfl, s1000000, H, by omega, by omega, fun b h => cand2_le h⟩ (fun j σ w hI => ?_)
    obtain ⟨s0, s1, s4, s5, s6, s7, s8, s12, s13, s14, s15, s16, s17, s18, s19, s20, s1000000, H, hkj, hj, hin⟩ := hI
    refine V_seq rfl ?_
    refine V_seq rfl ?_
    refine V_region rfl ?_
    refine Rg_op rfl (o_val (v := .int .i64 ((j : Nat) : Int)) (d := 21) rfl rfl (ex_move s8) ?_)
    refine Rg_op rfl (o_val (v := .slice A xs.length c) (d := 22) rfl rfl (ex_move s0) ?_)
    refine Rg_op rfl (o_val (v := .int .i64 ((xs.length : Nat) : Int)) (d := 23) rfl rfl (ex_len (ts := #[]) sl41 rfl) ?_)
    refine Rg_op rfl (o_val (v := .bool (decide (((j : Nat) : Int) < ((xs.length : Nat) : Int)))) (d := 24) rfl rfl (ex_lss rfl rfl) ?_)
    refine Rg_end ?_
    refine V_cond (b := (decide (((j : Nat) : Int) < ((xs.length : Nat) : Int)))) rfl rfl (fun hb6 => ?_) (fun hb6 => ?_)
    · have hb6 : ((j : Nat) : Int) < ((xs.length : Nat) : Int) := of_decide_eq_true hb6
      refine V_skip rfl ?_
      refine V_seq rfl ?_
      refine V_block rfl ?_
      refine V_seq rfl ?_
      obtain ⟨ad7, x7, cs7, hA7, hx7, hR7, hc7⟩ := Row.get hX ((j : Nat) : Int) (by first | omega | (simp only [List.length_eraseIdx]; split <;> omega)) (by first | omega | (simp only [List.length_eraseIdx]; split <;> omega))
      obtain rfl := hR7
      refine V_join (fun σ w => ∃ (b_7_9 : Nat), σ 0 = .slice A xs.length c ∧ σ 1 = .func (.func F) fv.toArray cap.toArray ∧ σ 4 = .slice none 0 0 ∧ σ 5 = .bool false ∧ σ 6 = .int .i64 ((k : Nat) : Int) ∧ σ 7 = .pointer (some ⟨b3, 0, none⟩) ∧ σ 8 = .int .i64 ((j : Nat) : Int) ∧ σ 9 = .pointer (some ⟨b_7_9, 0, none⟩) ∧ σ 10 = .bool (canJoin x2 x7) ∧ σ 12 = .slice A xs.length c ∧ σ 13 = .int .i64 ((xs.length : Nat) : Int) ∧ σ 14 = .int .i64 ((k : Nat) : Int) ∧ σ 15 = .bool (decide (((k : Nat) : Int) < ((xs.length : Nat) : Int))) ∧ σ 16 = .int .i64 ((k : Nat) : Int) ∧ σ 17 = .pointer (some (ad2.add ((((k : Nat) : Int)).toNat * 3))) ∧ σ 18 = .agg #[.int .i64 x2.Key, .int .i64 x2.Mask, .int .i64 x2.Outs] ∧ σ 19 = .int .i64 ((k : Nat) : Int) ∧ σ 20 = .int .i64 (((k : Nat) : Int) + 1) ∧ σ 21 = .int .i64 ((j : Nat) : Int) ∧ σ 22 = .slice A xs.length c ∧ σ 23 = .int .i64 ((xs.length : Nat) : Int) ∧ σ 24 = .bool (decide (((j : Nat) : Int) < ((xs.length : Nat) : Int))) ∧ σ 27 = .tuple #[.agg #[.int .i64 ((joinE x2 x7).Key), .int .i64 ((joinE x2 x7).Mask), .int .i64 ((joinE x2 x7).Outs)], .bool (canJoin x2 x7)] ∧ σ 28 = .agg #[.int .i64 x2.Key, .int .i64 x2.Mask, .int .i64 x2.Outs] ∧ σ 29 = .slice A xs.length c ∧ σ 30 = .int .i64 ((j : Nat) : Int) ∧ σ 31 = .pointer (some (ad7.add ((((j : Nat) : Int)).toNat * 3))) ∧ σ 32 = .agg #[.int .i64 x7.Key, .int .i64 x7.Mask, .int .i64 x7.Outs] ∧ σ 33 = .tuple #[.agg #[.int .i64 ((joinE x2 x7).Key), .int .i64 ((joinE x2 x7).Mask), .int .i64 ((joinE x2 x7).Outs)], .bool (canJoin x2 x7)] ∧ σ 34 = .agg #[.int .i64 ((joinE x2 x7).Key), .int .i64 ((joinE x2 x7).Mask), .int .i64 ((joinE x2 x7).Outs)] ∧ σ 35 = .bool (canJoin x2 x7) ∧ σ 1000000 = undef ∧ Hp w0.heap.size w0 w [SA.cel b_7_9 #[.int .i64 ((joinE x2 x7).Key), .int .i64 ((joinE x2 x7).Mask), .int .i64 ((joinE x2 x7).Outs)] 113, SA.cel b3 #[.int .i64 x2.Key, .int .i64 x2.Mask, .int .i64 x2.Outs] 113]) ?_ (fun σ w hI => ?_)
      · skip
        have Hd := H
        refine V_draw [1, 2, 3, 6, 7, 8, 11] (.q 0 (.p 1 (.p 2 (.p 3 (.q 4 (.l2 5 9 (.p 6 (.p 7 (.p 8 (.l 9 (.l 10 (.p 11 .done)))))) (.l 5 (.p 6 (.p 7 (.p 8 (.l 10 (.p 11 .done)))))))))))) (fun b => w.heap.size ≤ b) rfl mixed (by kernel_rfl) fun w11 hD => ?_
        have hsz : w.heap.size ≤ w11.heap.size := by rw [hD.1]; exact Nat.le_refl _
        have H := H.drew hD
        refine c_q (v := .agg #[.int .i64 x2.Key, .int .i64 x2.Mask, .int .i64 x2.Outs]) (d := 28) rfl rfl rfl (fun w' hG => ex_loadN (vs := [.int .i64 x2.Key, .int .i64 x2.Mask, .int .i64 x2.Outs]) ca113 s7 rfl (fun j u hj => hG.cell (blk_cells (vs := [.int .i64 x2.Key, .int .i64 x2.Mask, .int .i64 x2.Outs]) (H.rd 0 rfl) rfl j u hj) (nb (show ¬ _ ≤ b3 from Nat.not_le.2 (Hd.lo 0 rfl).2)))) ?_
        refine c_p (v := .slice A xs.length c) (d := 29) rfl rfl rfl (fun w' => ex_move s0) ?_
        refine c_p (v := .int .i64 ((j : Nat) : Int)) (d := 30) rfl rfl rfl (fun w' => ex_move s8) ?_
        refine c_p (v := .pointer (some (ad7.add ((((j : Nat) : Int)).toNat * 3)))) (d := 31) rfl rfl rfl (fun w' => ex_indexAddr sl41 rfl hA7 rfl (by first | omega | (simp only [List.length_eraseIdx]; split <;> omega)) (by first | omega | (simp only [List.length_eraseIdx]; split <;> omega)) rfl) ?_
        refine c_q (v := .agg #[.int .i64 x7.Key, .int .i64 x7.Mask, .int .i64 x7.Outs]) (d := 32) rfl rfl rfl (fun w' hG => ex_loadN (vs := [.int .i64 x7.Key, .int .i64 x7.Mask, .int .i64 x7.Outs]) ca113 rfl rfl (fun j u hj => by rw [add_add]; exact hG.cell (H.cell0 (hc7 j u hj)) (fun h => nn (hc7 j u hj) (Nat.le_trans Hd.size h)))) ?_
        refine c_l2 rfl rfl ?_ ?_
        · skip
          refine o_call (fv := []) (cap := []) (vs := [.agg #[.int .i64 x2.Key, .int .i64 x2.Mask, .int .i64 x2.Outs], .agg #[.int .i64 x7.Key, .int .i64 x7.Mask, .int .i64 x7.Outs]]) rfl rfl cl82 rfl (join_c x2 x7 _) fun v w12 hS => ?_
          obtain ⟨rfl, hB⟩ := hS
          refine ⟨.inr (Below.agr hB), ?_⟩
          have H := H.keep hB
          have hsz := Nat.le_trans hsz hB.size
          refine c_p (v := .tuple #[.agg #[.int .i64 ((joinE x2 x7).Key), .int .i64 ((joinE x2 x7).Mask), .int .i64 ((joinE x2 x7).Outs)], .bool (canJoin x2 x7)]) (d := 27) rfl rfl rfl (fun w' => ex_move rfl) ?_
          refine c_p (v := .agg #[.int .i64 ((joinE x2 x7).Key), .int .i64 ((joinE x2 x7).Mask), .int .i64 ((joinE x2 x7).Outs)]) (d := 34) rfl rfl rfl (fun w' => ex_extract rfl rfl) ?_
          refine c_p (v := .bool (canJoin x2 x7)) (d := 35) rfl rfl rfl (fun w' => ex_extract rfl rfl) ?_
          refine c_l rfl (o_alloc rfl tz113 (Hp.start _) fun b_7_9 w13 hA HN => ⟨.inr (Below.agr hA), ?_⟩)
          have hn_b_7_9 := Nat.le_trans hsz (HN.lo 0 rfl).1
          have H := H.new hA HN.give
          have hsz := Nat.le_trans hsz hA.size
          refine c_l rfl (o_store (vs := [.int .i64 ((joinE x2 x7).Key), .int .i64 ((joinE x2 x7).Mask), .int .i64 ((joinE x2 x7).Outs)]) rfl ts113 rfl rfl rfl rfl 0 rfl rfl rfl rfl H fun w14 hA H => ⟨.inl (by kernel_rfl), ?_⟩)
          have hsz := Nat.le_trans hsz hA.1
          refine c_p (v := .bool (canJoin x2 x7)) (d := 10) rfl rfl rfl (fun w' => ex_assign rfl) ?_
          refine c_done ?_
          exact ⟨b_7_9, s0, s1, s4, s5, s6, s7, s8, rfl, rfl, s12, s13, s14, s15, s16, s17, s18, s19, s20, rfl, rfl, rfl, rfl, rfl, rfl, rfl, rfl, rfl, rfl, rfl, rfl, rfl, s1000000, H⟩
        · skip
          refine o_alloc rfl tz113 (Hp.start _) fun b_7_9 w15 hA HN => ⟨.inr (Below.agr hA), ?_⟩
          have hn_b_7_9 := Nat.le_trans hsz (HN.lo 0 rfl).1
          have H := H.new hA HN.give
          have hsz := Nat.le_trans hsz hA.size
          refine c_l rfl (o_call (fv := []) (cap := []) (vs := [.agg #[.int .i64 x2.Key, .int .i64 x2.Mask, .int .i64 x2.Outs], .agg #[.int .i64 x7.Key, .int .i64 x7.Mask, .int .i64 x7.Outs]]) rfl rfl cl82 rfl (join_c x2 x7 _) fun v w16 hS => ?_)
          obtain ⟨rfl, hB⟩ := hS
          refine ⟨.inr (Below.agr hB), ?_⟩
          have H := H.keep hB
          have hsz := Nat.le_trans hsz hB.size
          refine c_p (v := .tuple #[.agg #[.int .i64 ((joinE x2 x7).Key), .int .i64 ((joinE x2 x7).Mask), .int .i64 ((joinE x2 x7).Outs)], .bool (canJoin x2 x7)]) (d := 27) rfl rfl rfl (fun w' => ex_move rfl) ?_
          refine c_p (v := .agg #[.int .i64 ((joinE x2 x7).Key), .int .i64 ((joinE x2 x7).Mask), .int .i64 ((joinE x2 x7).Outs)]) (d := 34) rfl rfl rfl (fun w' => ex_extract rfl rfl) ?_
          refine c_p (v := .bool (canJoin x2 x7)) (d := 35) rfl rfl rfl (fun w' => ex_extract rfl rfl) ?_
          refine c_l rfl (o_store (vs := [.int .i64 ((joinE x2 x7).Key), .int .i64 ((joinE x2 x7).Mask), .int .i64 ((joinE x2 x7).Outs)]) rfl ts113 rfl rfl rfl rfl 0 rfl rfl rfl rfl H fun w17 hA H => ⟨.inl (by kernel_rfl), ?_⟩)
          have hsz := Nat.le_trans hsz hA.1
          refine c_p (v := .bool (canJoin x2 x7)) (d := 10) rfl rfl rfl (fun w' => ex_assign rfl) ?_
          refine c_done ?_
          exact ⟨b_7_9, s0, s1, s4, s5, s6, s7, s8, rfl, rfl, s12, s13, s14, s15, s16, s17, s18, s19, s20, rfl, rfl, rfl, rfl, rfl, rfl, rfl, rfl, rfl, rfl, rfl, rfl, rfl, s1000000, H⟩
      obtain ⟨b_7_9, hI⟩ := hI
      obtain ⟨s0, s1, s4, s5, s6, s7, s8, s9, s10, s12, s13, s14, s15, s16, s17, s18, s19, s20, s21, s22, s23, s24, s27, s28, s29, s30, s31, s32, s33, s34, s35, s1000000, H⟩ := hI
      refine V_seq rfl ?_
      refine V_seq rfl ?_
      refine V_region rfl ?_
      refine Rg_op rfl (o_val (v := .bool (canJoin x2 x7)) (d := 36) rfl rfl (ex_move s10) ?_)
      refine Rg_op rfl (o_val (v := .bool (!(canJoin x2 x7))) (d := 37) rfl rfl (ex_not rfl) ?_)
      refine Rg_end ?_
      refine V_cond (b := (!(canJoin x2 x7))) rfl rfl (fun hb18 => ?_) (fun hb18 => ?_)
      · skip
        have hcan : canJoin x2 x7 = false := by simpa using hb18
        refine V_exit rfl ?_
        refine V_region rfl ?_
        refine Rg_op rfl (o_val (v := .int .i64 ((j : Nat) : Int)) (d := 25) rfl rfl (ex_move s8) ?_)
        refine Rg_op rfl (o_val (v := .int .i64 (((j : Nat) : Int) + 1)) (d := 26) rfl rfl (ex_add rfl rfl (by omega)) ?_)
        refine Rg_op rfl (o_val (v := .int .i64 (((j : Nat) : Int) + 1)) (d := 8) rfl rfl (ex_assign rfl) ?_)
        refine Rg_end ?_
        exact ⟨j + 1, ⟨s0, s1, s4, s5, s6, s7, rfl, s12, s13, s14, s15, s16, s17, s18, s19, s20, s1000000, (Hp.pull 0 rfl rfl (Hp.drop (Hp.pull 0 rfl rfl H))), by omega, by omega, lt_next hin (cand2_no1 hx2 hx7 hcan)⟩, by omega⟩
      · skip
        have hcan : canJoin x2 x7 = true := by simpa using hb18
        refine V_skip rfl ?_
        refine V_seq rfl ?_
        refine V_region rfl ?_
        refine Rg_op rfl (o_val (v := .slice A xs.length c) (d := 38) rfl rfl (ex_move s0) ?_)
        refine Rg_op rfl (o_call (fv := []) (cap := []) (vs := [.slice A xs.length c]) rfl rfl cl53 rfl (clone_c _ _ xs _ (hX.mono (fun _ _ h => H.cell0 h)) (by omega)) fun v w22 hS => ?_)
        obtain ⟨A20, c21, rfl, hB, hN⟩ := hS
        have H := H.new hB hN
        refine Rg_op rfl (o_val (v := .int .i64 ((j : Nat) : Int)) (d := 40) rfl rfl (ex_move s8) ?_)
        refine Rg_op rfl (o_val (v := .int .i64 ((j : Nat) : Int)) (d := 41) rfl rfl (ex_move s8) ?_)
        refine Rg_op rfl (o_val (v := .int .i64 (((j : Nat) : Int) + 1)) (d := 42) rfl rfl (ex_add rfl rfl (by omega)) ?_)
        refine Rg_op rfl (o_call (fv := []) (cap := []) (vs := [.slice A20 xs.length c21, .int .i64 ((j : Nat) : Int), .int .i64 (((j : Nat) : Int) + 1)]) rfl rfl cl83 rfl (delete_c _ _ _ _ _ _ j H (by omega)) fun v w23 hS => ?_)
        obtain ⟨rfl, H⟩ := hS
        refine Rg_op rfl (o_val (v := .slice A20 ((xs.eraseIdx j).length) c21) (d := 11) rfl rfl (ex_assign rfl) ?_)
        refine Rg_end ?_
        refine V_seq rfl ?_
        refine V_region rfl ?_
        refine Rg_op rfl (o_val (v := .slice A20 ((xs.eraseIdx j).length) c21) (d := 44) rfl rfl (ex_move rfl) ?_)
        refine Rg_op rfl (o_val (v := .int .i64 ((k : Nat) : Int)) (d := 45) rfl rfl (ex_move s6) ?_)
        refine Rg_op rfl (o_val (v := .agg #[.int .i64 ((joinE x2 x7).Key), .int .i64 ((joinE x2 x7).Mask), .int .i64 ((joinE x2 x7).Outs)]) (d := 46) rfl rfl (ex_loadN (vs := [.int .i64 ((joinE x2 x7).Key), .int .i64 ((joinE x2 x7).Mask), .int .i64 ((joinE x2 x7).Outs)]) ca113 s9 rfl (blk_cells (H.rd 1 rfl) rfl)) ?_)
        have hr24 := (own_row (H.pull 0 rfl rfl)).1
        obtain ⟨ad25, x25, cs25, hA25, hx25, hR25, hc25⟩ := Row.get hr24 ((k : Nat) : Int) (by first | omega | (simp only [List.length_eraseIdx]; split <;> omega)) (by first | omega | (simp only [List.length_eraseIdx]; split <;> omega))
        obtain rfl := hR25
        refine Rg_op rfl (o_val (v := .pointer (some (ad25.add ((((k : Nat) : Int)).toNat * 3)))) (d := 47) rfl rfl (ex_indexAddr sl41 rfl hA25 rfl (by first | omega | (simp only [List.length_eraseIdx]; split <;> omega)) (by first | omega | (simp only [List.length_eraseIdx]; split <;> omega)) rfl) ?_)
        have H := H.pull 0 rfl rfl
        refine Rg_op rfl (o_set (vs := [.int .i64 ((joinE x2 x7).Key), .int .i64 ((joinE x2 x7).Mask), .int .i64 ((joinE x2 x7).Outs)]) (x1 := (joinE x2 x7)) (i := (((k : Nat) : Int)).toNat) (off := 0) rfl ts113 hA25 rfl rfl rfl rfl hx25 rfl rfl H fun w26 hA H => ?_)
        refine Rg_end ?_
        refine V_seq rfl ?_
        refine V_region rfl ?_
        refine Rg_op rfl (o_val (v := .func (.func F) fv.toArray cap.toArray) (d := 48) rfl rfl (ex_move s1) ?_)
        refine Rg_op rfl (o_val (v := .slice A20 ((xs.eraseIdx j).length) c21) (d := 49) rfl rfl (ex_move rfl) ?_)
        refine Rg_op rfl (o_callp (fv := fv) (cap := cap) (xs := [.slice A20 ((xs.eraseIdx j).length) c21]) rfl rfl hcl rfl (by have hh := hF (((xs.eraseIdx j)).set ((((k : Nat) : Int)).toNat) (joinE x2 x7)) _ c21 _ H.below (own_row (H.pull 0 rfl rfl)).1 (by rw [List.length_set, List.length_eraseIdx]; split <;> omega); rw [List.length_set] at hh; exact hh) fun v w27 hS => ?_)
        obtain ⟨rfl, hB⟩ := hS
        have H := H.keep hB
        refine Rg_end ?_
        refine V_cond (b := (same (((xs.eraseIdx j)).set ((((k : Nat) : Int)).toNat) (joinE x2 x7)))) rfl rfl (fun hb28 => ?_) (fun hb28 => ?_)
        · skip
          have hsame : same ((xs.eraseIdx j).set k (joinE x2 x7)) = true := hb28
          refine V_seq rfl ?_
          refine V_region rfl ?_
          refine Rg_op rfl (o_val (v := .slice A20 ((xs.eraseIdx j).length) c21) (d := 51) rfl rfl (ex_move rfl) ?_)
          refine Rg_op rfl (o_val (v := .slice A20 ((xs.eraseIdx j).length) c21) (d := 4) rfl rfl (ex_assign rfl) ?_)
          refine Rg_op rfl (o_val (v := .bool true) (d := 5) rfl rfl (ex_assign rfl) ?_)
          refine Rg_end ?_
          have hjo := joined_at hkl (by omega) (cand2_yes hkj hx2 hx7 hcan hsame) hin hall
          refine V_ret rfl (end0 (v := .tuple #[.slice A20 ((xs.eraseIdx j).length) c21, .bool true]) s1000000 (res_tmp2 Try.results54 rfl rfl) ?_)
          exact .inl ⟨_, _, _, hjo, by rw [List.length_set], H.below, H.give⟩
        · skip
          have hsame : same ((xs.eraseIdx j).set k (joinE x2 x7)) = false := hb28
          refine V_skip rfl ?_
          refine V_region rfl ?_
          refine Rg_op rfl (o_val (v := .int .i64 ((j : Nat) : Int)) (d := 25) rfl rfl (ex_move s8) ?_)
          refine Rg_op rfl (o_val (v := .int .i64 (((j : Nat) : Int) + 1)) (d := 26) rfl rfl (ex_add rfl rfl (by omega)) ?_)
          refine Rg_op rfl (o_val (v := .int .i64 (((j : Nat) : Int) + 1)) (d := 8) rfl rfl (ex_assign rfl) ?_)
          refine Rg_end ?_
          exact ⟨j + 1, ⟨s0, s1, s4, s5, s6, s7, rfl, s12, s13, s14, s15, s16, s17, s18, s19, s20, s1000000, (Hp.pull 0 rfl rfl (Hp.drop (Hp.pull 0 rfl rfl (Hp.drop (Hp.pull 0 rfl rfl H))))), by omega, by omega, lt_next hin (cand2_no2 hx2 hx7 hsame)⟩, by omega⟩
    · have hb6 : ¬ (((j : Nat) : Int) < ((xs.length : Nat) : Int)) := of_decide_eq_false hb6
      refine V_exit rfl ?_
      refine V_region rfl ?_
      refine Rg_op rfl (o_val (v := .int .i64 (((k : Nat) : Int) + 1)) (d := 52) rfl rfl (ex_add s14 rfl (by omega)) ?_)
      refine Rg_op rfl (o_val (v := .int .i64 (((k : Nat) : Int) + 1)) (d := 14) rfl rfl (ex_move rfl) ?_)
      refine Rg_end ?_
      exact ⟨k + 1, ⟨s0, s1, s4, s5, s12, s13, rfl, s1000000, (Hp.drop (Hp.pull 0 rfl rfl H)), by omega, lt_next hall (range_none fun b hb => hin b (by omega))⟩, by omega⟩
  · have hb1 : ¬ (((k : Nat) : Int) < ((xs.length : Nat) : Int)) := of_decide_eq_false hb1
    refine V_exit rfl ?_
    refine V_seq rfl ?_
    refine V_region rfl ?_
    refine Rg_op rfl (o_val (v := .slice A xs.length c) (d := 53) rfl rfl (ex_move s0) ?_)
    refine Rg_op rfl (o_val (v := .slice A xs.length c) (d := 4) rfl rfl (ex_assign rfl) ?_)
    refine Rg_op rfl (o_val (v := .bool false) (d := 5) rfl rfl (ex_assign rfl) ?_)
    refine Rg_end ?_
    refine V_ret rfl (end0 (v := .tuple #[.slice A xs.length c, .bool false]) s1000000 (res_tmp2 Try.results54 rfl rfl) ?_)
    exact .inr ⟨joined_no (fun a ha => hall a (by omega)), rfl, H.below⟩

/-- joined, over a row of one's own. -/
theorem joined_s {wb w0 : World} {L : List SA} {A : Option Addr} {c : Nat} {xs : List Entry} (H : Hp wb.heap.size wb w0 (SA.own kEnt 113 A c xs :: L)) (same : List Entry → Bool) (F : Nat) (fv cap : List Value) (hl : xs.length ≤ 100000) (hcl : callable Try.prog F = true)
    (hF : ∀ (t : List Entry) (A' : Option Addr) (c' : Nat) (w : World), Below w0.heap.size w0 w → Row kEnt w.cell? A' t → t.length ≤ 100000 → Calls Try.prog F (fv ++ [Value.slice A' t.length c'] ++ cap).toArray w fun e w' => ∃ v, e = .returned v ∧ (v = .bool (same t) ∧ Below w.heap.size w w')) :
    Calls Try.prog 54 #[.slice A xs.length c, .func (.func F) fv.toArray cap.toArray] w0 fun e w' => ∃ v, e = .returned v ∧ (∃ A' c', v = .tuple #[.slice A' (joinR xs same).length c', .bool (joinedO xs same).isSome] ∧ Hp wb.heap.size wb w' (SA.own kEnt 113 A' c' (joinR xs same) :: L)) := by
  refine (joined_c A c xs same F fv cap w0 (own_row H).1 hl hcl hF).mono fun e w' ⟨v, he, h⟩ => ⟨v, he, ?_⟩
  rcases h with ⟨t, A', c', hj, rfl, hB, hN⟩ | ⟨hj, rfl, hB⟩
  · exact ⟨A', c', by simp only [joinR, hj, Option.getD_some, Option.isSome_some], by simp only [joinR, hj, Option.getD_some]; exact ((H.new hB hN).pull 1 rfl rfl).drop⟩
  · exact ⟨A, c, by simp only [joinR, hj, Option.getD_none, Option.isSome_none], by simp only [joinR, hj, Option.getD_none]; exact H.keep hB⟩

end Go.Proofs.Ytlnogaoihkinbaa
namespace Go.Proofs.Ytlnogaoihkinbaa
open Go.Gk Go.RowKit
theorem cl19 : callable Try.prog 19 = true := by kernel_rfl
theorem cl48 : callable Try.prog 48 = true := by kernel_rfl
theorem cl50 : callable Try.prog 50 = true := by kernel_rfl
theorem cl51 : callable Try.prog 51 = true := by kernel_rfl
theorem cl52 : callable Try.prog 52 = true := by kernel_rfl
theorem cl54 : callable Try.prog 54 = true := by kernel_rfl
theorem ts26 : tySize Try.prog 26 = some 1 := by kernel_rfl
theorem tz26 : tyZero Try.prog 26 = some (.slice none 0 0) := by kernel_rfl
theorem same_c (A : Option Addr) (c : Nat) (t : List Entry) (A1 : Option Addr) (c1 : Nat) (keys : List Int) (A2 : Option Addr) (c2 : Nat) (want : List Int) (b1 b2 : Nat) (w0 : World) (hX : Row kEnt w0.cell? A t) (hl : t.length ≤ 100000) (hK : Row kInt w0.cell? A1 keys) (hkl : keys.length ≤ 100000) (hW : Row kInt w0.cell? A2 want) (hwl : want.length = keys.length) (hb1 : w0.cell? ⟨b1, 0, none⟩ = some (.slice A1 keys.length c1)) (hb2 : w0.cell? ⟨b2, 0, none⟩ = some (.slice A2 want.length c2)) :
    Calls Try.prog 52 #[.slice A t.length c, .pointer (some ⟨b1, 0, none⟩), .pointer (some ⟨b2, 0, none⟩)] w0 fun e w' => ∃ v, e = .returned v ∧ (v = .bool (sameW keys want t) ∧ Below w0.heap.size w0 w') := by
  refine calls_of (n := 29) (l := [.slice A t.length c, .pointer (some ⟨b1, 0, none⟩), .pointer (some ⟨b2, 0, none⟩)]) Try.func52 rfl rfl rfl ?_
  have H := Hp.start w0
  refine V_seq rfl ?_
  refine V_region rfl ?_
  refine Rg_op rfl (o_val (v := .bool false) (d := 4) rfl rfl (ex_assign rfl) ?_)
  refine Rg_end ?_
  refine V_seq rfl ?_
  refine V_seq rfl ?_
  refine V_region rfl ?_
  refine Rg_op rfl (o_val (v := .slice A1 keys.length c1) (d := 9) rfl rfl (ex_load ca26 rfl (H.cell0 hb1)) ?_)
  refine Rg_op rfl (o_val (v := .int .i64 ((keys.length : Nat) : Int)) (d := 10) rfl rfl (ex_len (ts := #[]) sl26 rfl) ?_)
  refine Rg_op rfl (o_val (v := .int .i64 0) (d := 11) rfl rfl (ex_move rfl) ?_)
  refine Rg_end ?_
  refine V_block rfl ?_
  refine V_loop rfl (γ := Nat) (fun k σ w => σ 0 = .slice A t.length c ∧ σ 2 = .pointer (some ⟨b2, 0, none⟩) ∧ σ 4 = .bool false ∧ σ 9 = .slice A1 keys.length c1 ∧ σ 10 = .int .i64 ((keys.length : Nat) : Int) ∧ σ 11 = .int .i64 ((k : Nat) : Int) ∧ σ 1000000 = undef ∧ Hp w0.heap.size w0 w [] ∧ k ≤ keys.length ∧ (∀ j : Nat, j < k → (outsOf keys t)[j]? = want[j]?)) (fun k => keys.length - k) (0) ⟨rfl, rfl, rfl, rfl, rfl, rfl, rfl, H, by omega, fun j hj => absurd hj (by omega)⟩ (fun k σ w hI => ?_)
  obtain ⟨s0, s2, s4, s9, s10, s11, s1000000, H, hk, heq⟩ := hI
  refine V_seq rfl ?_
  refine V_region rfl ?_
  refine Rg_op rfl (o_val (v := .bool (decide (((k : Nat) : Int) < ((keys.length : Nat) : Int)))) (d := 12) rfl rfl (ex_lss s11 s10) ?_)
  refine Rg_end ?_
  refine V_seq rfl ?_
  refine V_cond (b := (decide (((k : Nat) : Int) < ((keys.length : Nat) : Int)))) rfl rfl (fun hb1 => ?_) (fun hb1 => ?_)
  · have hb1 : ((k : Nat) : Int) < ((keys.length : Nat) : Int) := of_decide_eq_true hb1
    refine V_skip rfl ?_
    refine V_seq rfl ?_
    refine V_block rfl ?_
    refine V_seq rfl ?_
    refine V_region rfl ?_
    refine Rg_op rfl (o_val (v := .int .i64 ((k : Nat) : Int)) (d := 13) rfl rfl (ex_move s11) ?_)
    obtain ⟨ad2, x2, cs2, hA2, hx2, hR2, hc2⟩ := Row.get hK ((k : Nat) : Int) (by omega) (by omega)
    obtain rfl := hR2
    refine Rg_op rfl (o_val (v := .pointer (some (ad2.add ((((k : Nat) : Int)).toNat * 1)))) (d := 14) rfl rfl (ex_indexAddr sl26 s9 hA2 s11 (by omega) (by omega) rfl) ?_)
    refine Rg_op rfl (o_val (v := .int .i64 x2) (d := 15) rfl rfl (ex_load ca3 rfl (H.cell0 (hc2 0 _ rfl))) ?_)
    refine Rg_op rfl (o_val (v := .int .i64 ((k : Nat) : Int)) (d := 5) rfl rfl (ex_assign rfl) ?_)
    refine Rg_op rfl (o_val (v := .int .i64 x2) (d := 6) rfl rfl (ex_assign rfl) ?_)
    refine Rg_end ?_
    refine V_seq rfl ?_
    refine V_region rfl ?_
    refine Rg_op rfl (o_val (v := .slice A t.length c) (d := 17) rfl rfl (ex_move s0) ?_)
    refine Rg_op rfl (o_val (v := .int .i64 x2) (d := 18) rfl rfl (ex_move rfl) ?_)
    refine Rg_op rfl (o_call (fv := []) (cap := []) (vs := [.slice A t.length c, .int .i64 x2]) rfl rfl cl19 rfl (find_c _ _ t x2 _ (hX.mono (fun _ _ h => H.cell0 h)) (by first | omega | (simp only [List.length_append, List.length_cons, List.length_nil]; omega))) fun v w3 hS => ?_)
    obtain ⟨rfl, hB⟩ := hS
    have H := H.keep hB
    refine Rg_op rfl (o_val (v := .tuple #[.int .i64 ((find t x2).1), .bool ((find t x2).2)]) (d := 16) rfl rfl (ex_move rfl) ?_)
    refine Rg_op rfl (o_val (v := .int .i64 ((find t x2).1)) (d := 20) rfl rfl (ex_extract rfl rfl) ?_)
    refine Rg_op rfl (o_val (v := .bool ((find t x2).2)) (d := 21) rfl rfl (ex_extract rfl rfl) ?_)
    refine Rg_op rfl (o_val (v := .int .i64 ((find t x2).1)) (d := 7) rfl rfl (ex_assign rfl) ?_)
    refine Rg_op rfl (o_val (v := .bool ((find t x2).2)) (d := 8) rfl rfl (ex_assign rfl) ?_)
    refine Rg_end ?_
    refine V_seq rfl ?_
    refine V_region rfl ?_
    refine Rg_op rfl (o_val (v := .int .i64 ((find t x2).1)) (d := 22) rfl rfl (ex_move rfl) ?_)
    refine Rg_op rfl (o_val (v := .slice A2 want.length c2) (d := 23) rfl rfl (ex_load ca26 s2 (H.cell0 hb2)) ?_)
    refine Rg_op rfl (o_val (v := .int .i64 ((k : Nat) : Int)) (d := 24) rfl rfl (ex_move rfl) ?_)
    obtain ⟨ad4, x4, cs4, hA4, hx4, hR4, hc4⟩ := Row.get hW ((k : Nat) : Int) (by omega) (by omega)
    obtain rfl := hR4
    refine Rg_op rfl (o_val (v := .pointer (some (ad4.add ((((k : Nat) : Int)).toNat * 1)))) (d := 25) rfl rfl (ex_indexAddr sl26 rfl hA4 rfl (by omega) (by omega) rfl) ?_)
    refine Rg_op rfl (o_val (v := .int .i64 x4) (d := 26) rfl rfl (ex_load ca3 rfl (H.cell0 (hc4 0 _ rfl))) ?_)
    refine Rg_op rfl (o_val (v := .bool (decide (((find t x2).1) ≠ x4))) (d := 27) rfl rfl (ex_neq rfl rfl) ?_)
    refine Rg_end ?_
    refine V_cond (b := (decide (((find t x2).1) ≠ x4))) rfl rfl (fun hb5 => ?_) (fun hb5 => ?_)
    · have hb5 : ((find t x2).1) ≠ x4 := of_decide_eq_true hb5
      refine V_seq rfl ?_
      refine V_region rfl ?_
      refine Rg_op rfl (o_val (v := .bool false) (d := 4) rfl rfl (ex_assign rfl) ?_)
      refine Rg_end ?_
      refine V_ret rfl (end0 (v := .bool false) s1000000 (res_tmp Try.results52 rfl) ?_)
      exact ⟨by rw [sameW, decide_eq_false (fun e => by have h1 := outs_get (t := t) hx2; rw [e, hx4] at h1; injection h1; omega)], H.below⟩
    · have hb5 : ¬ (((find t x2).1) ≠ x4) := of_decide_eq_false hb5
      refine V_skip rfl ?_
      refine V_region rfl ?_
      refine Rg_op rfl (o_val (v := .int .i64 (((k : Nat) : Int) + 1)) (d := 28) rfl rfl (ex_add s11 rfl (by omega)) ?_)
      refine Rg_op rfl (o_val (v := .int .i64 (((k : Nat) : Int) + 1)) (d := 11) rfl rfl (ex_move rfl) ?_)
      refine Rg_end ?_
      exact ⟨k + 1, ⟨s0, s2, s4, s9, s10, rfl, s1000000, H, by omega, agree_next heq (outs_get hx2) hx4 (by omega)⟩, by omega⟩
  · have hb1 : ¬ (((k : Nat) : Int) < ((keys.length : Nat) : Int)) := of_decide_eq_false hb1
    refine V_exit rfl ?_
    refine V_seq rfl ?_
    refine V_region rfl ?_
    refine Rg_op rfl (o_val (v := .bool true) (d := 4) rfl rfl (ex_assign rfl) ?_)
    refine Rg_end ?_
    refine V_ret rfl (end0 (v := .bool true) s1000000 (res_tmp Try.results52 rfl) ?_)
    exact ⟨by rw [sameW, decide_eq_true (list_eq (by rw [outs_len]; omega) fun j hj => heq j (by rw [outs_len] at hj; omega))], H.below⟩

theorem merge_c (A : Option Addr) (c : Nat) (xs : List Entry) (A1 : Option Addr) (c1 : Nat) (keys : List Int) (w0 : World) (hX : Row kEnt w0.cell? A xs) (hl : xs.length ≤ 100000) (hK : Row kInt w0.cell? A1 keys) (hkl : keys.length ≤ 100000) :
    Calls Try.prog 16 #[.slice A xs.length c, .slice A1 keys.length c1] w0 fun e w' => ∃ v, e = .returned v ∧ (∃ A' c', v = .tuple #[.slice A' (mergeP xs keys).1.length c', .int .i64 (mergeP xs keys).2] ∧ Below w0.heap.size w0 w' ∧ New (SA.own kEnt 113 A' c' (mergeP xs keys).1) w0 w') := by
  refine calls_of (n := 58) (l := [.slice A xs.length c, .slice A1 keys.length c1]) Try.func16 rfl rfl rfl ?_
  have H := Hp.start w0
  refine V_seq rfl ?_
  refine V_region rfl ?_
  refine Rg_op rfl (o_box (v := .slice A1 keys.length c1) rfl rfl H fun b1 w2 hA H => ?_)
  refine Rg_op rfl (o_val (v := .slice none 0 0) (d := 4) rfl rfl (ex_assign rfl) ?_)
  refine Rg_op rfl (o_val (v := .int .i64 0) (d := 5) rfl rfl (ex_assign rfl) ?_)
  refine Rg_end ?_
  refine V_seq rfl ?_
  refine V_block rfl ?_
  refine V_seq rfl ?_
  refine V_join (fun σ w => σ 0 = .slice A xs.length c ∧ σ 3 = .pointer (some ⟨b1, 0, none⟩) ∧ σ 4 = .slice none 0 0 ∧ σ 5 = .int .i64 0 ∧ σ 12 = .bool (decide ((1024 < ((xs.length : Nat) : Int)) ∨ (1024 < ((keys.length : Nat) : Int)))) ∧ σ 1000000 = undef ∧ Hp w0.heap.size w0 w [SA.cel b1 #[.slice A1 keys.length c1] 26]) ?_ (fun σ w hI => ?_)
  · skip
    refine V_region rfl ?_
    refine Rg_op rfl (o_val (v := .slice A xs.length c) (d := 13) rfl rfl (ex_move rfl) ?_)
    refine Rg_op rfl (o_val (v := .int .i64 ((xs.length : Nat) : Int)) (d := 14) rfl rfl (ex_len (ts := #[]) sl41 rfl) ?_)
    refine Rg_op rfl (o_val (v := .bool (decide (1024 < ((xs.length : Nat) : Int)))) (d := 15) rfl rfl (ex_gtr rfl rfl) ?_)
    refine Rg_op rfl (o_val (v := .bool (decide (1024 < ((xs.length : Nat) : Int)))) (d := 16) rfl rfl (ex_move rfl) ?_)
    by_cases hg3 : 1024 < ((xs.length : Nat) : Int)
    · skip
      refine Rg_op rfl (o_skip (d := 17) rfl rfl (wanted_no (b := (decide (1024 < ((xs.length : Nat) : Int)))) rfl rfl rfl (decide_eq_true hg3)) ?_)
      refine Rg_op rfl (o_skip (d := 18) rfl rfl (wanted_no (b := (decide (1024 < ((xs.length : Nat) : Int)))) rfl rfl rfl (decide_eq_true hg3)) ?_)
      refine Rg_op rfl (o_skip (d := 19) rfl rfl (wanted_no (b := (decide (1024 < ((xs.length : Nat) : Int)))) rfl rfl rfl (decide_eq_true hg3)) ?_)
      refine Rg_op rfl (o_val (v := .bool true) (d := 20) rfl rfl (ex_pick (q := (decide (1024 < ((xs.length : Nat) : Int)))) rfl (fun h => rfl) (fun h => absurd hg3 (of_decide_eq_false h))) ?_)
      refine Rg_op rfl (o_val (v := .bool true) (d := 12) rfl rfl (ex_assign rfl) ?_)
      refine Rg_end ?_
      exact ⟨rfl, rfl, rfl, rfl, (show (.bool true : Value) = .bool (decide ((1024 < ((xs.length : Nat) : Int)) ∨ (1024 < ((keys.length : Nat) : Int)))) from by first | (simp only [hg3, true_or, or_true, false_or, or_false, true_and, and_true, false_and, and_false, decide_true, decide_false, Bool.not_true, Bool.not_false]; done) | (simp [hg3]; done) | (simp [hg3]; rfl)), rfl, H⟩
    · skip
      refine Rg_op rfl (o_valg (v := .slice A1 keys.length c1) (d := 17) rfl rfl (wanted_yes (b := (decide (1024 < ((xs.length : Nat) : Int)))) rfl rfl rfl (decide_eq_false hg3)) (ex_load ca26 rfl (cell_of (H.rd 0 rfl))) ?_)
      refine Rg_op rfl (o_valg (v := .int .i64 ((keys.length : Nat) : Int)) (d := 18) rfl rfl (wanted_yes (b := (decide (1024 < ((xs.length : Nat) : Int)))) rfl rfl rfl (decide_eq_false hg3)) (ex_len (ts := #[]) sl26 rfl) ?_)
      refine Rg_op rfl (o_valg (v := .bool (decide (1024 < ((keys.length : Nat) : Int)))) (d := 19) rfl rfl (wanted_yes (b := (decide (1024 < ((xs.length : Nat) : Int)))) rfl rfl rfl (decide_eq_false hg3)) (ex_gtr rfl rfl) ?_)
      refine Rg_op rfl (o_val (v := .bool (decide (1024 < ((keys.length : Nat) : Int)))) (d := 20) rfl rfl (ex_pick (q := (decide (1024 < ((xs.length : Nat) : Int)))) rfl (fun h => absurd (of_decide_eq_true h) hg3) (fun h => rfl)) ?_)
      refine Rg_op rfl (o_val (v := .bool (decide (1024 < ((keys.length : Nat) : Int)))) (d := 12) rfl rfl (ex_assign rfl) ?_)
      refine Rg_end ?_
      exact ⟨rfl, rfl, rfl, rfl, (show (.bool (decide (1024 < ((keys.length : Nat) : Int))) : Value) = .bool (decide ((1024 < ((xs.length : Nat) : Int)) ∨ (1024 < ((keys.length : Nat) : Int)))) from by first | (simp only [hg3, true_or, or_true, false_or, or_false, true_and, and_true, false_and, and_false, decide_true, decide_false, Bool.not_true, Bool.not_false]; done) | (simp [hg3]; done) | (simp [hg3]; rfl)), rfl, H⟩
  obtain ⟨s0, s3, s4, s5, s12, s1000000, H⟩ := hI
  refine V_cond (b := (decide ((1024 < ((xs.length : Nat) : Int)) ∨ (1024 < ((keys.length : Nat) : Int))))) rfl s12 (fun hb4 => ?_) (fun hb4 => ?_)
  · have hb4 : (1024 < ((xs.length : Nat) : Int)) ∨ (1024 < ((keys.length : Nat) : Int)) := of_decide_eq_true hb4
    refine V_seq rfl ?_
    refine V_region rfl ?_
    refine Rg_op rfl (o_val (v := .slice none 0 0) (d := 4) rfl rfl (ex_assign rfl) ?_)
    refine Rg_op rfl (o_val (v := .int .i64 9) (d := 5) rfl rfl (ex_assign rfl) ?_)
    refine Rg_end ?_
    have H := own_nil H kEnt 113
    have hmp : mergeP xs keys = ([], 9) := by simp only [mergeP]; (repeat' split) <;> first | contradiction | rfl | (simp_all; done) | skip
    refine V_ret rfl (end0 (v := .tuple #[.slice none 0 0, .int .i64 9]) s1000000 (res_tmp2 Try.results16 rfl rfl) ?_)
    exact ⟨none, 0, by rw [hmp]; try rfl, H.below, by rw [hmp]; exact H.give⟩
  · have hb4 : ¬ ((1024 < ((xs.length : Nat) : Int)) ∨ (1024 < ((keys.length : Nat) : Int))) := of_decide_eq_false hb4
    refine V_seq rfl ?_
    refine V_region rfl ?_
    refine Rg_op rfl (o_val (v := .slice A xs.length c) (d := 22) rfl rfl (ex_move s0) ?_)
    refine Rg_op rfl (o_call (fv := []) (cap := []) (vs := [.slice A xs.length c, .func (.func 48) #[] #[]]) rfl rfl cl47 rfl (containsE_c _ _ xs (fun x => !decide (ent x)) 48 [] [] _ (hX.mono (fun _ _ h => H.cell0 h)) (by omega) cl48 (fun x w _ => bad1_c x w)) fun v w6 hS => ?_)
    obtain ⟨rfl, hB⟩ := hS
    have H := H.keep hB
    refine Rg_op rfl (o_val (v := .bool (xs.any (fun x => !decide (ent x)))) (d := 21) rfl rfl (ex_assign rfl) ?_)
    refine Rg_end ?_
    refine V_cond (b := (xs.any (fun x => !decide (ent x)))) rfl rfl (fun hb7 => ?_) (fun hb7 => ?_)
    · skip
      refine V_seq rfl ?_
      refine V_region rfl ?_
      refine Rg_op rfl (o_val (v := .slice none 0 0) (d := 4) rfl rfl (ex_assign rfl) ?_)
      refine Rg_op rfl (o_val (v := .int .i64 2) (d := 5) rfl rfl (ex_assign rfl) ?_)
      refine Rg_end ?_
      have H := own_nil H kEnt 113
      have hmp : mergeP xs keys = ([], 2) := by simp only [mergeP]; (repeat' split) <;> first | contradiction | rfl | (simp_all; done) | skip
      refine V_ret rfl (end0 (v := .tuple #[.slice none 0 0, .int .i64 2]) s1000000 (res_tmp2 Try.results16 rfl rfl) ?_)
      exact ⟨none, 0, by rw [hmp]; try rfl, H.below, by rw [hmp]; exact H.give⟩
    · skip
      refine V_seq rfl ?_
      refine V_region rfl ?_
      refine Rg_op rfl (o_val (v := .slice A1 keys.length c1) (d := 25) rfl rfl (ex_load ca26 s3 (cell_of (H.rd 0 rfl))) ?_)
      refine Rg_op rfl (o_call (fv := []) (cap := []) (vs := [.slice A1 keys.length c1, .func (.func 51) #[] #[]]) rfl rfl cl50 rfl (containsI_c _ _ keys (fun x => decide (x < 0 ∨ 65535 < x)) 51 [] [] _ (hK.mono (fun _ _ h => H.cell0 h)) (by omega) cl51 (fun x w _ => badKey_c x w)) fun v w9 hS => ?_)
      obtain ⟨rfl, hB⟩ := hS
      have H := H.keep hB
      refine Rg_op rfl (o_val (v := .bool (keys.any (fun x => decide (x < 0 ∨ 65535 < x)))) (d := 24) rfl rfl (ex_assign rfl) ?_)
      refine Rg_end ?_
      refine V_cond (b := (keys.any (fun x => decide (x < 0 ∨ 65535 < x)))) rfl rfl (fun hb10 => ?_) (fun hb10 => ?_)
      · skip
        refine V_seq rfl ?_
        refine V_region rfl ?_
        refine Rg_op rfl (o_val (v := .slice none 0 0) (d := 4) rfl rfl (ex_assign rfl) ?_)
        refine Rg_op rfl (o_val (v := .int .i64 3) (d := 5) rfl rfl (ex_assign rfl) ?_)
        refine Rg_end ?_
        have H := own_nil H kEnt 113
        have hmp : mergeP xs keys = ([], 3) := by simp only [mergeP]; (repeat' split) <;> first | contradiction | rfl | (simp_all; done) | skip
        refine V_ret rfl (end0 (v := .tuple #[.slice none 0 0, .int .i64 3]) s1000000 (res_tmp2 Try.results16 rfl rfl) ?_)
        exact ⟨none, 0, by rw [hmp]; try rfl, H.below, by rw [hmp]; exact H.give⟩
      · skip
        refine V_skip rfl ?_
        refine V_seq rfl ?_
        refine V_region rfl ?_
        refine Rg_op rfl (o_val (v := .slice A1 keys.length c1) (d := 27) rfl rfl (ex_load ca26 s3 (cell_of (H.rd 0 rfl))) ?_)
        refine Rg_op rfl (o_val (v := .int .i64 ((keys.length : Nat) : Int)) (d := 28) rfl rfl (ex_len (ts := #[]) sl26 rfl) ?_)
        refine Rg_op rfl (o_make (D := kInt) (z := 0) rfl sl26 rfl (fun _ => rfl) rfl (by omega) (by simp only []; omega) (by omega) H fun A12 c13 w14 hA H => ?_)
        refine Rg_op rfl (o_alloc rfl tz26 H fun b16 w17 hA H => ?_)
        refine Rg_op rfl (o_store (vs := [.slice A12 keys.length c13]) rfl ts26 rfl rfl rfl rfl 0 rfl rfl rfl rfl H fun w18 hA H => ?_)
        refine Rg_end ?_
        refine V_seq rfl ?_
        refine V_seq rfl ?_
        refine V_region rfl ?_
        refine Rg_op rfl (o_val (v := .slice A1 keys.length c1) (d := 30) rfl rfl (ex_load ca26 s3 (cell_of (H.rd 2 rfl))) ?_)
        refine Rg_op rfl (o_val (v := .int .i64 ((keys.length : Nat) : Int)) (d := 31) rfl rfl (ex_len (ts := #[]) sl26 rfl) ?_)
        refine Rg_op rfl (o_val (v := .int .i64 0) (d := 32) rfl rfl (ex_move rfl) ?_)
        refine Rg_end ?_
        refine V_block rfl ?_
        rw [show List.replicate (((keys.length : Nat) : Int)).toNat (0 : Int) = fill (fun k => (find xs k).1) keys 0 from fill_zero _ _] at H
        refine V_loop rfl (γ := Nat) (fun k σ w => σ 0 = .slice A xs.length c ∧ σ 3 = .pointer (some ⟨b1, 0, none⟩) ∧ σ 4 = .slice none 0 0 ∧ σ 5 = .int .i64 0 ∧ σ 6 = .pointer (some ⟨b16, 0, none⟩) ∧ σ 30 = .slice A1 keys.length c1 ∧ σ 31 = .int .i64 ((keys.length : Nat) : Int) ∧ σ 32 = .int .i64 ((k : Nat) : Int) ∧ σ 1000000 = undef ∧ Hp w0.heap.size w0 w [SA.cel b16 #[.slice A12 keys.length c13] 26, SA.own kInt 3 A12 c13 (fill (fun k => (find xs k).1) keys k), SA.cel b1 #[.slice A1 keys.length c1] 26] ∧ k ≤ keys.length) (fun k => keys.length - k) (0) ⟨s0, s3, s4, s5, rfl, rfl, rfl, rfl, s1000000, H, by omega⟩ (fun k σ w hI => ?_)
        obtain ⟨s0, s3, s4, s5, s6, s30, s31, s32, s1000000, H, hk⟩ := hI
        refine V_seq rfl ?_
        refine V_region rfl ?_
        refine Rg_op rfl (o_val (v := .bool (decide (((k : Nat) : Int) < ((keys.length : Nat) : Int)))) (d := 33) rfl rfl (ex_lss s32 s31) ?_)
        refine Rg_end ?_
        refine V_seq rfl ?_
        refine V_cond (b := (decide (((k : Nat) : Int) < ((keys.length : Nat) : Int)))) rfl rfl (fun hb19 => ?_) (fun hb19 => ?_)
        · have hb19 : ((k : Nat) : Int) < ((keys.length : Nat) : Int) := of_decide_eq_true hb19
          refine V_skip rfl ?_
          refine V_seq rfl ?_
          refine V_block rfl ?_
          refine V_seq rfl ?_
          refine V_region rfl ?_
          refine Rg_op rfl (o_val (v := .int .i64 ((k : Nat) : Int)) (d := 34) rfl rfl (ex_move s32) ?_)
          obtain ⟨ad20, x20, cs20, hA20, hx20, hR20, hc20⟩ := Row.get hK ((k : Nat) : Int) (by first | omega | (rw [fill_len _ _ (by omega)]; omega)) (by first | omega | (rw [fill_len _ _ (by omega)]; omega))
          obtain rfl := hR20
          refine Rg_op rfl (o_val (v := .pointer (some (ad20.add ((((k : Nat) : Int)).toNat * 1)))) (d := 35) rfl rfl (ex_indexAddr sl26 s30 hA20 s32 (by first | omega | (rw [fill_len _ _ (by omega)]; omega)) (by first | omega | (rw [fill_len _ _ (by omega)]; omega)) rfl) ?_)
          refine Rg_op rfl (o_val (v := .int .i64 x20) (d := 36) rfl rfl (ex_load ca3 rfl (H.cell0 (hc20 0 _ rfl))) ?_)
          refine Rg_op rfl (o_val (v := .int .i64 ((k : Nat) : Int)) (d := 7) rfl rfl (ex_assign rfl) ?_)
          refine Rg_op rfl (o_val (v := .int .i64 x20) (d := 8) rfl rfl (ex_assign rfl) ?_)
          refine Rg_end ?_
          have hloD := own_lo (H.pull 1 rfl rfl)
          have hne_b16 := own_ne ((H.pull 0 rfl rfl).pull 1 rfl rfl)
          have hne_b1 := own_ne ((H.pull 2 rfl rfl).pull 2 rfl rfl)
          refine V_draw [1, 2, 3, 5, 6, 7, 8] (.q 0 (.p 1 (.p 2 (.p 3 (.l 4 (.p 5 (.p 6 (.p 7 (.p 8 (.l 9 .done)))))))))) (fun b => ∃ a, A12 = some a ∧ a.block = b) rfl mixed (by kernel_rfl) fun w21 hD => ?_
          have H := H.drew hD
          refine c_q (v := .slice A12 keys.length c13) (d := 38) rfl rfl rfl (fun w' hG => ex_load ca26 s6 (hG.cell (cell_of (H.rd 0 rfl)) (fun ⟨a, h1, h2⟩ => hne_b16 a h1 h2))) ?_
          refine c_p (v := .int .i64 ((k : Nat) : Int)) (d := 39) rfl rfl rfl (fun w' => ex_move rfl) ?_
          refine c_p (v := .slice A xs.length c) (d := 40) rfl rfl rfl (fun w' => ex_move s0) ?_
          refine c_p (v := .int .i64 x20) (d := 41) rfl rfl rfl (fun w' => ex_move rfl) ?_
          refine c_l rfl (o_call (fv := []) (cap := []) (vs := [.slice A xs.length c, .int .i64 x20]) rfl rfl cl19 rfl (find_c _ _ xs x20 _ (hX.mono (fun _ _ h => H.cell0 h)) (by omega)) fun v w22 hS => ?_)
          obtain ⟨rfl, hB⟩ := hS
          refine ⟨.inr (Below.agr hB), ?_⟩
          have H := H.keep hB
          refine c_p (v := .tuple #[.int .i64 ((find xs x20).1), .bool ((find xs x20).2)]) (d := 37) rfl rfl rfl (fun w' => ex_move rfl) ?_
          refine c_p (v := .int .i64 ((find xs x20).1)) (d := 43) rfl rfl rfl (fun w' => ex_extract rfl rfl) ?_
          refine c_p (v := .bool ((find xs x20).2)) (d := 44) rfl rfl rfl (fun w' => ex_extract rfl rfl) ?_
          have hr23 := (own_row (H.pull 1 rfl rfl)).1
          obtain ⟨ad24, x24, cs24, hA24, hx24, hR24, hc24⟩ := Row.get hr23 ((k : Nat) : Int) (by first | omega | (rw [fill_len _ _ (by omega)]; omega)) (by first | omega | (rw [fill_len _ _ (by omega)]; omega))
          obtain rfl := hR24
          refine c_p (v := .pointer (some (ad24.add ((((k : Nat) : Int)).toNat * 1)))) (d := 45) rfl rfl rfl (fun w' => ex_indexAddr sl26 rfl hA24 rfl (by first | omega | (rw [fill_len _ _ (by omega)]; omega)) (by first | omega | (rw [fill_len _ _ (by omega)]; omega)) rfl) ?_
          have H := H.pull 1 rfl rfl
          refine c_l rfl (o_set (vs := [.int .i64 ((find xs x20).1)]) (x1 := (find xs x20).1) (i := (((k : Nat) : Int)).toNat) (off := 0) rfl ts3 hA24 rfl rfl rfl rfl hx24 rfl rfl H fun w25 hA H => ⟨.inl (by kernel_rfl), ?_⟩)
          refine c_done ?_
          refine V_region rfl ?_
          refine Rg_op rfl (o_val (v := .int .i64 (((k : Nat) : Int) + 1)) (d := 46) rfl rfl (ex_add s32 rfl (by omega)) ?_)
          refine Rg_op rfl (o_val (v := .int .i64 (((k : Nat) : Int) + 1)) (d := 32) rfl rfl (ex_move rfl) ?_)
          refine Rg_end ?_
          have e9 : ((fill (fun k => (find xs k).1) keys k)).set ((((k : Nat) : Int)).toNat) ((find xs x20).1) = fill (fun k => (find xs k).1) keys (k + 1) := fill_set (fun k => (find xs k).1) hx20
          rw [e9] at H
          exact ⟨k + 1, ⟨s0, s3, s4, s5, s6, s30, s31, rfl, s1000000, (Hp.pull 2 rfl rfl (Hp.pull 1 rfl rfl (Hp.pull 2 rfl rfl H))), by omega⟩, by omega⟩
        · have hb19 : ¬ (((k : Nat) : Int) < ((keys.length : Nat) : Int)) := of_decide_eq_false hb19
          have e8 : (fill (fun k => (find xs k).1) keys k) = outsOf keys xs := by rw [show k = keys.length from by omega]; exact fill_all _ _
          rw [e8] at H
          refine V_exit rfl ?_
          refine V_seq rfl ?_
          refine V_region rfl ?_
          refine Rg_op rfl (o_val (v := .func (.func 52) #[] #[.pointer (some ⟨b1, 0, none⟩), .pointer (some ⟨b16, 0, none⟩)]) (d := 47) rfl rfl (ex_makeFunc (fv := []) (cv := [.pointer (some ⟨b1, 0, none⟩), .pointer (some ⟨b16, 0, none⟩)]) rfl (mapc s3 (mapc s6 rfl))) ?_)
          refine Rg_op rfl (o_val (v := .func (.func 52) #[] #[.pointer (some ⟨b1, 0, none⟩), .pointer (some ⟨b16, 0, none⟩)]) (d := 9) rfl rfl (ex_assign rfl) ?_)
          refine Rg_end ?_
          refine V_seq rfl ?_
          refine V_region rfl ?_
          refine Rg_op rfl (o_val (v := .slice A xs.length c) (d := 48) rfl rfl (ex_move s0) ?_)
          refine Rg_op rfl (o_call (fv := []) (cap := []) (vs := [.slice A xs.length c]) rfl rfl cl53 rfl (clone_c _ _ xs _ (hX.mono (fun _ _ h => H.cell0 h)) (by omega)) fun v w29 hS => ?_)
          obtain ⟨A27, c28, rfl, hB, hN⟩ := hS
          have H := H.new hB hN
          refine Rg_op rfl (o_val (v := .slice A27 xs.length c28) (d := 10) rfl rfl (ex_assign rfl) ?_)
          refine Rg_end ?_
          refine V_seq rfl ?_
          refine V_seq rfl ?_
          refine V_region rfl ?_
          refine Rg_op rfl (o_val (v := .bool true) (d := 11) rfl rfl (ex_assign rfl) ?_)
          refine Rg_end ?_
          refine V_block rfl ?_
          refine V_loop rfl (γ := List Entry × Bool) (fun g σ w => ∃ (Ao : Option Addr) (co : Nat), σ 4 = .slice none 0 0 ∧ σ 5 = .int .i64 0 ∧ σ 9 = .func (.func 52) #[] #[.pointer (some ⟨b1, 0, none⟩), .pointer (some ⟨b16, 0, none⟩)] ∧ σ 10 = .slice Ao g.1.length co ∧ σ 11 = .bool g.2 ∧ σ 1000000 = undef ∧ Hp w0.heap.size w0 w [SA.own kEnt 113 Ao co g.1, SA.cel b16 #[.slice A12 keys.length c13] 26, SA.own kInt 3 A12 c13 (outsOf keys xs), SA.cel b1 #[.slice A1 keys.length c1] 26] ∧ g.1.length ≤ 1024 ∧ mergeN (sameW keys (outsOf keys xs)) g.1.length g.1 = mergeN (sameW keys (outsOf keys xs)) xs.length xs ∧ (g.2 = false → joinedO g.1 (sameW keys (outsOf keys xs)) = none)) (fun g => 2 * g.1.length + (if g.2 then 1 else 0)) ((xs, true)) ⟨A27, c28, s4, s5, rfl, rfl, rfl, s1000000, H, by simpa using (by omega : xs.length ≤ 1024), rfl, fun h => by cases h⟩ (fun g σ w hI => ?_)
          obtain ⟨Ao, co, hI⟩ := hI
          obtain ⟨s4, s5, s9, s10, s11, s1000000, H, hgl, hgm, hgo⟩ := hI
          refine V_seq rfl ?_
          refine V_seq rfl ?_
          refine V_region rfl ?_
          refine Rg_op rfl (o_val (v := .bool g.2) (d := 50) rfl rfl (ex_move s11) ?_)
          refine Rg_end ?_
          refine V_cond (b := g.2) rfl rfl (fun hb30 => ?_) (fun hb30 => ?_)
          · skip
            refine V_skip rfl ?_
            refine V_block rfl ?_
            refine V_region rfl ?_
            refine Rg_op rfl (o_val (v := .slice Ao g.1.length co) (d := 52) rfl rfl (ex_move s10) ?_)
            refine Rg_op rfl (o_val (v := .func (.func 52) #[] #[.pointer (some ⟨b1, 0, none⟩), .pointer (some ⟨b16, 0, none⟩)]) (d := 53) rfl rfl (ex_move s9) ?_)
            refine Rg_op rfl (o_call (fv := []) (cap := []) (vs := [.slice Ao g.1.length co, .func (.func 52) #[] #[.pointer (some ⟨b1, 0, none⟩), .pointer (some ⟨b16, 0, none⟩)]]) rfl rfl cl54 rfl (joined_s H (sameW keys (outsOf keys xs)) 52 [] [.pointer (some ⟨b1, 0, none⟩), .pointer (some ⟨b16, 0, none⟩)]  (by omega) cl52 (fun t A' c' w hB hR hl' => same_c A' c' t _ _ keys _ _ (outsOf keys xs) _ _ w hR hl' (hK.mono fun _ _ h => hB.keep (H.cell0 h)) (by omega) ((own_row (H.pull 2 rfl rfl)).1.mono fun _ _ h => hB.keep h) (by rw [outs_len]) (cell_of ((hB.block _ (H.lo 3 rfl).2).trans (H.rd 3 rfl))) (by rw [outs_len]; exact cell_of ((hB.block _ (H.lo 1 rfl).2).trans (H.rd 1 rfl))))) fun v w33 hS => ?_)
            obtain ⟨A31, c32, rfl, H⟩ := hS
            refine Rg_op rfl (o_val (v := .tuple #[.slice A31 ((joinR g.1 (sameW keys (outsOf keys xs))).length) c32, .bool ((joinedO g.1 (sameW keys (outsOf keys xs))).isSome)]) (d := 51) rfl rfl (ex_move rfl) ?_)
            refine Rg_op rfl (o_val (v := .slice A31 ((joinR g.1 (sameW keys (outsOf keys xs))).length) c32) (d := 55) rfl rfl (ex_extract rfl rfl) ?_)
            refine Rg_op rfl (o_val (v := .bool ((joinedO g.1 (sameW keys (outsOf keys xs))).isSome)) (d := 56) rfl rfl (ex_extract rfl rfl) ?_)
            refine Rg_op rfl (o_val (v := .slice A31 ((joinR g.1 (sameW keys (outsOf keys xs))).length) c32) (d := 10) rfl rfl (ex_assign rfl) ?_)
            refine Rg_op rfl (o_val (v := .bool ((joinedO g.1 (sameW keys (outsOf keys xs))).isSome)) (d := 11) rfl rfl (ex_assign rfl) ?_)
            refine Rg_end ?_
            exact ⟨(joinR g.1 (sameW keys (outsOf keys xs)), (joinedO g.1 (sameW keys (outsOf keys xs))).isSome), ⟨A31, c32, s4, s5, s9, rfl, rfl, s1000000, H, merge_len hgl, merge_inv hgm, merge_out⟩, merge_less (by assumption)⟩
          · skip
            have hdone := hb30
            refine V_exit rfl ?_
            refine V_seq rfl ?_
            refine V_region rfl ?_
            refine Rg_op rfl (o_val (v := .slice Ao g.1.length co) (d := 57) rfl rfl (ex_move s10) ?_)
            refine Rg_op rfl (o_val (v := .slice Ao g.1.length co) (d := 4) rfl rfl (ex_assign rfl) ?_)
            refine Rg_op rfl (o_val (v := .int .i64 0) (d := 5) rfl rfl (ex_assign rfl) ?_)
            refine Rg_end ?_
            have hg2 : g.2 = false := by simpa using hdone
            have hmp : mergeP xs keys = (g.1, 0) := by simp only [mergeP]; rw [if_neg (by omega), if_neg (by simp_all), if_neg (by simp_all), ← hgm, mergeN_none (hgo hg2)]
            refine V_ret rfl (end0 (v := .tuple #[.slice Ao g.1.length co, .int .i64 0]) s1000000 (res_tmp2 Try.results16 rfl rfl) ?_)
            exact ⟨Ao, co, by rw [hmp]; try rfl, H.below, by rw [hmp]; exact H.give⟩

end Go.Proofs.Ytlnogaoihkinbaa
namespace Go.Proofs.Ytlnogaoihkinbaa
open Go.Gk Go.RowKit

theorem barrier_c (s : Spec) (A : Option Addr) (c : Nat) (xs : List Int) (w0 : World) (hX : Row kInt w0.cell? A xs) (hl : xs.length ≤ 100000) :
    Calls Try.prog 40 #[.agg #[.int .i64 s.Wide, .int .i64 s.High, .int .i64 s.Room], .slice A xs.length c] w0 fun e w' => ∃ v, e = .returned v ∧ (∃ A' c', v = .tuple #[.slice A' (barP s xs).1.length c', .int .i64 (barP s xs).2] ∧ Below w0.heap.size w0 w' ∧ New (SA.own kInt 3 A' c' (barP s xs).1) w0 w') := by
  refine calls_of (n := 76) (l := [.agg #[.int .i64 s.Wide, .int .i64 s.High, .int .i64 s.Room], .slice A xs.length c]) Try.func40 rfl rfl rfl ?_
  have H := Hp.start w0
  refine V_seq rfl ?_
  refine V_region rfl ?_
  refine Rg_op rfl (o_box (v := .agg #[.int .i64 s.Wide, .int .i64 s.High, .int .i64 s.Room]) rfl rfl H fun b1 w2 hA H => ?_)
  refine Rg_op rfl (o_val (v := .slice none 0 0) (d := 4) rfl rfl (ex_assign rfl) ?_)
  refine Rg_op rfl (o_val (v := .int .i64 0) (d := 5) rfl rfl (ex_assign rfl) ?_)
  refine Rg_end ?_
  refine V_seq rfl ?_
  refine V_seq rfl ?_
  refine V_region rfl ?_
  refine Rg_op rfl (o_val (v := .agg #[.int .i64 s.Wide, .int .i64 s.High, .int .i64 s.Room]) (d := 14) rfl rfl (ex_loadN (vs := [.int .i64 s.Wide, .int .i64 s.High, .int .i64 s.Room]) ca33 rfl rfl (blk_cells (H.rd 0 rfl) rfl)) ?_)
  refine Rg_op rfl (o_call (fv := []) (cap := []) (vs := [.agg #[.int .i64 s.Wide, .int .i64 s.High, .int .i64 s.Room]]) rfl rfl cl41 rfl (check_c s _) fun v w3 hS => ?_)
  obtain ⟨rfl, hB⟩ := hS
  have H := H.keep hB
  refine Rg_op rfl (o_val (v := .int .i64 (chk s)) (d := 6) rfl rfl (ex_assign rfl) ?_)
  refine Rg_end ?_
  refine V_seq rfl ?_
  refine V_region rfl ?_
  refine Rg_op rfl (o_val (v := .int .i64 (chk s)) (d := 16) rfl rfl (ex_move rfl) ?_)
  refine Rg_op rfl (o_val (v := .bool (decide ((chk s) ≠ 0))) (d := 17) rfl rfl (ex_neq rfl rfl) ?_)
  refine Rg_end ?_
  refine V_cond (b := (decide ((chk s) ≠ 0))) rfl rfl (fun hb4 => ?_) (fun hb4 => ?_)
  · have hb4 : (chk s) ≠ 0 := of_decide_eq_true hb4
    refine V_seq rfl ?_
    refine V_region rfl ?_
    refine Rg_op rfl (o_val (v := .int .i64 (chk s)) (d := 18) rfl rfl (ex_move rfl) ?_)
    refine Rg_op rfl (o_val (v := .slice none 0 0) (d := 4) rfl rfl (ex_assign rfl) ?_)
    refine Rg_op rfl (o_val (v := .int .i64 (chk s)) (d := 5) rfl rfl (ex_assign rfl) ?_)
    refine Rg_end ?_
    have H := own_nil H kInt 3
    have hmp : barP s xs = ([], chk s) := by simp only [barP]; (repeat' split) <;> first | contradiction | rfl | (simp_all; done) | skip
    refine V_ret rfl (end0 (v := .tuple #[.slice none 0 0, .int .i64 (chk s)]) rfl (res_tmp2 Try.results40 rfl rfl) ?_)
    exact ⟨none, 0, by rw [hmp]; try rfl, H.below, by rw [hmp]; exact H.give⟩
  · have hb4 : ¬ ((chk s) ≠ 0) := of_decide_eq_false hb4
    have hs : chk s = 0 := by omega
    obtain ⟨hs1, hs2, hs3, hs4, hs5, hs6⟩ := chk_ok hs
    obtain ⟨hm1, hm2⟩ := mul64 hs
    refine V_skip rfl ?_
    refine V_seq rfl ?_
    refine V_seq rfl ?_
    refine V_region rfl ?_
    refine Rg_op rfl (o_val (v := .slice A xs.length c) (d := 19) rfl rfl (ex_move rfl) ?_)
    refine Rg_op rfl (o_val (v := .int .i64 ((xs.length : Nat) : Int)) (d := 20) rfl rfl (ex_len (ts := #[]) sl26 rfl) ?_)
    refine Rg_op rfl (o_val (v := .pointer (some ⟨b1, 0, none⟩)) (d := 21) rfl rfl (ex_fieldAddr fo33_0 rfl rfl) ?_)
    refine Rg_op rfl (o_val (v := .int .i64 s.Wide) (d := 22) rfl rfl (ex_load ca3 rfl (cell_of (H.rd 0 rfl))) ?_)
    refine Rg_op rfl (o_val (v := .pointer (some ⟨b1, 1, none⟩)) (d := 23) rfl rfl (ex_fieldAddr fo33_1 rfl rfl) ?_)
    refine Rg_op rfl (o_val (v := .int .i64 s.High) (d := 24) rfl rfl (ex_load ca3 rfl (cell_of (H.rd 0 rfl))) ?_)
    refine Rg_op rfl (o_val (v := .int .i64 (s.Wide * s.High)) (d := 25) rfl rfl (ex_mul rfl rfl (by omega)) ?_)
    refine Rg_op rfl (o_val (v := .bool (decide (((xs.length : Nat) : Int) ≠ (s.Wide * s.High)))) (d := 26) rfl rfl (ex_neq rfl rfl) ?_)
    refine Rg_end ?_
    refine V_cond (b := (decide (((xs.length : Nat) : Int) ≠ (s.Wide * s.High)))) rfl rfl (fun hb6 => ?_) (fun hb6 => ?_)
    · have hb6 : ((xs.length : Nat) : Int) ≠ (s.Wide * s.High) := of_decide_eq_true hb6
      refine V_seq rfl ?_
      refine V_region rfl ?_
      refine Rg_op rfl (o_val (v := .slice none 0 0) (d := 4) rfl rfl (ex_assign rfl) ?_)
      refine Rg_op rfl (o_val (v := .int .i64 13) (d := 5) rfl rfl (ex_assign rfl) ?_)
      refine Rg_end ?_
      have H := own_nil H kInt 3
      have hmp : barP s xs = ([], 13) := by simp only [barP]; (repeat' split) <;> first | contradiction | rfl | (simp_all; done) | skip
      refine V_ret rfl (end0 (v := .tuple #[.slice none 0 0, .int .i64 13]) rfl (res_tmp2 Try.results40 rfl rfl) ?_)
      exact ⟨none, 0, by rw [hmp]; try rfl, H.below, by rw [hmp]; exact H.give⟩
    · have hb6 : ¬ (((xs.length : Nat) : Int) ≠ (s.Wide * s.High)) := of_decide_eq_false hb6
      refine V_skip rfl ?_
      refine V_seq rfl ?_
      refine V_region rfl ?_
      refine Rg_op rfl (o_val (v := .int .i64 0) (d := 7) rfl rfl (ex_assign rfl) ?_)
      refine Rg_end ?_
      refine V_seq rfl ?_
      refine V_seq rfl ?_
      refine V_region rfl ?_
      refine Rg_op rfl (o_val (v := .slice A xs.length c) (d := 27) rfl rfl (ex_move rfl) ?_)
      refine Rg_op rfl (o_val (v := .int .i64 ((xs.length : Nat) : Int)) (d := 28) rfl rfl (ex_len (ts := #[]) sl26 rfl) ?_)
      refine Rg_op rfl (o_val (v := .int .i64 0) (d := 29) rfl rfl (ex_move rfl) ?_)
      refine Rg_end ?_
      refine V_block rfl ?_
      refine V_loop rfl (γ := Nat) (fun k σ w => σ 1 = .slice A xs.length c ∧ σ 2 = .pointer (some ⟨b1, 0, none⟩) ∧ σ 4 = .slice none 0 0 ∧ σ 5 = .int .i64 0 ∧ σ 7 = .int .i64 (bmax s xs k) ∧ σ 27 = .slice A xs.length c ∧ σ 28 = .int .i64 ((xs.length : Nat) : Int) ∧ σ 29 = .int .i64 ((k : Nat) : Int) ∧ σ 1000000 = undef ∧ Hp w0.heap.size w0 w [SA.cel b1 #[.int .i64 s.Wide, .int .i64 s.High, .int .i64 s.Room] 33] ∧ k ≤ xs.length ∧ (∀ y ∈ xs.take k, tickE y = 0) ∧ 0 ≤ bmax s xs k ∧ bmax s xs k ≤ 20000) (fun k => xs.length - k) (0) ⟨rfl, rfl, rfl, rfl, rfl, rfl, rfl, rfl, rfl, H, by omega, by simp, by simp [bmax], by simp [bmax]⟩ (fun k σ w hI => ?_)
      obtain ⟨s1, s2, s4, s5, s7, s27, s28, s29, s1000000, H, hk, hall, hm0, hm9⟩ := hI
      refine V_seq rfl ?_
      refine V_region rfl ?_
      refine Rg_op rfl (o_val (v := .bool (decide (((k : Nat) : Int) < ((xs.length : Nat) : Int)))) (d := 30) rfl rfl (ex_lss s29 s28) ?_)
      refine Rg_end ?_
      refine V_seq rfl ?_
      refine V_cond (b := (decide (((k : Nat) : Int) < ((xs.length : Nat) : Int)))) rfl rfl (fun hb8 => ?_) (fun hb8 => ?_)
      · have hb8 : ((k : Nat) : Int) < ((xs.length : Nat) : Int) := of_decide_eq_true hb8
        refine V_skip rfl ?_
        refine V_seq rfl ?_
        refine V_block rfl ?_
        refine V_seq rfl ?_
        refine V_region rfl ?_
        refine Rg_op rfl (o_val (v := .int .i64 ((k : Nat) : Int)) (d := 31) rfl rfl (ex_move s29) ?_)
        obtain ⟨ad9, x9, cs9, hA9, hx9, hR9, hc9⟩ := Row.get hX ((k : Nat) : Int) (by first | omega | (rw [fillN_len _ (by omega)]; omega)) (by first | omega | (rw [fillN_len _ (by omega)]; omega))
        obtain rfl := hR9
        refine Rg_op rfl (o_val (v := .pointer (some (ad9.add ((((k : Nat) : Int)).toNat * 1)))) (d := 32) rfl rfl (ex_indexAddr sl26 s27 hA9 s29 (by first | omega | (rw [fillN_len _ (by omega)]; omega)) (by first | omega | (rw [fillN_len _ (by omega)]; omega)) rfl) ?_)
        refine Rg_op rfl (o_val (v := .int .i64 x9) (d := 33) rfl rfl (ex_load ca3 rfl (H.cell0 (hc9 0 _ rfl))) ?_)
        refine Rg_op rfl (o_val (v := .int .i64 ((k : Nat) : Int)) (d := 8) rfl rfl (ex_assign rfl) ?_)
        refine Rg_op rfl (o_val (v := .int .i64 x9) (d := 9) rfl rfl (ex_assign rfl) ?_)
        refine Rg_end ?_
        refine V_seq rfl ?_
        refine V_seq rfl ?_
        refine V_join (fun σ w => σ 1 = .slice A xs.length c ∧ σ 2 = .pointer (some ⟨b1, 0, none⟩) ∧ σ 4 = .slice none 0 0 ∧ σ 5 = .int .i64 0 ∧ σ 7 = .int .i64 (bmax s xs k) ∧ σ 8 = .int .i64 ((k : Nat) : Int) ∧ σ 9 = .int .i64 x9 ∧ σ 27 = .slice A xs.length c ∧ σ 28 = .int .i64 ((xs.length : Nat) : Int) ∧ σ 29 = .int .i64 ((k : Nat) : Int) ∧ σ 30 = .bool (decide (((k : Nat) : Int) < ((xs.length : Nat) : Int))) ∧ σ 31 = .int .i64 ((k : Nat) : Int) ∧ σ 32 = .pointer (some (ad9.add ((((k : Nat) : Int)).toNat * 1))) ∧ σ 33 = .int .i64 x9 ∧ σ 34 = .int .i64 x9 ∧ σ 35 = .bool (decide (x9 < 0)) ∧ σ 36 = .bool (decide (x9 < 0)) ∧ σ 39 = .bool (decide ((x9 < 0) ∨ (10000 < x9))) ∧ σ 1000000 = undef ∧ Hp w0.heap.size w0 w [SA.cel b1 #[.int .i64 s.Wide, .int .i64 s.High, .int .i64 s.Room] 33]) ?_ (fun σ w hI => ?_)
        · skip
          refine V_region rfl ?_
          refine Rg_op rfl (o_val (v := .int .i64 x9) (d := 34) rfl rfl (ex_move rfl) ?_)
          refine Rg_op rfl (o_val (v := .bool (decide (x9 < 0))) (d := 35) rfl rfl (ex_lss rfl rfl) ?_)
          refine Rg_op rfl (o_val (v := .bool (decide (x9 < 0))) (d := 36) rfl rfl (ex_move rfl) ?_)
          by_cases hg10 : x9 < 0
          · skip
            refine Rg_op rfl (o_skip (d := 37) rfl rfl (wanted_no (b := (decide (x9 < 0))) rfl rfl rfl (decide_eq_true hg10)) ?_)
            refine Rg_op rfl (o_skip (d := 38) rfl rfl (wanted_no (b := (decide (x9 < 0))) rfl rfl rfl (decide_eq_true hg10)) ?_)
            refine Rg_op rfl (o_val (v := .bool true) (d := 39) rfl rfl (ex_pick (q := (decide (x9 < 0))) rfl (fun h => rfl) (fun h => absurd hg10 (of_decide_eq_false h))) ?_)
            refine Rg_end ?_
            exact ⟨s1, s2, s4, s5, s7, rfl, rfl, s27, s28, s29, rfl, rfl, rfl, rfl, rfl, rfl, rfl, (show (.bool true : Value) = .bool (decide ((x9 < 0) ∨ (10000 < x9))) from by first | (simp only [hg10, true_or, or_true, false_or, or_false, true_and, and_true, false_and, and_false, decide_true, decide_false, Bool.not_true, Bool.not_false]; done) | (simp [hg10]; done) | (simp [hg10]; rfl)), s1000000, H⟩
          · skip
            refine Rg_op rfl (o_valg (v := .int .i64 x9) (d := 37) rfl rfl (wanted_yes (b := (decide (x9 < 0))) rfl rfl rfl (decide_eq_false hg10)) (ex_move rfl) ?_)
            refine Rg_op rfl (o_valg (v := .bool (decide (10000 < x9))) (d := 38) rfl rfl (wanted_yes (b := (decide (x9 < 0))) rfl rfl rfl (decide_eq_false hg10)) (ex_gtr rfl rfl) ?_)
            refine Rg_op rfl (o_val (v := .bool (decide (10000 < x9))) (d := 39) rfl rfl (ex_pick (q := (decide (x9 < 0))) rfl (fun h => absurd (of_decide_eq_true h) hg10) (fun h => rfl)) ?_)
            refine Rg_end ?_
            exact ⟨s1, s2, s4, s5, s7, rfl, rfl, s27, s28, s29, rfl, rfl, rfl, rfl, rfl, rfl, rfl, (show (.bool (decide (10000 < x9)) : Value) = .bool (decide ((x9 < 0) ∨ (10000 < x9))) from by first | (simp only [hg10, true_or, or_true, false_or, or_false, true_and, and_true, false_and, and_false, decide_true, decide_false, Bool.not_true, Bool.not_false]; done) | (simp [hg10]; done) | (simp [hg10]; rfl)), s1000000, H⟩
        obtain ⟨s1, s2, s4, s5, s7, s8, s9, s27, s28, s29, s30, s31, s32, s33, s34, s35, s36, s39, s1000000, H⟩ := hI
        refine V_cond (b := (decide ((x9 < 0) ∨ (10000 < x9)))) rfl s39 (fun hb11 => ?_) (fun hb11 => ?_)
        · have hb11 : (x9 < 0) ∨ (10000 < x9) := of_decide_eq_true hb11
          refine V_seq rfl ?_
          refine V_region rfl ?_
          refine Rg_op rfl (o_val (v := .slice none 0 0) (d := 4) rfl rfl (ex_assign rfl) ?_)
          refine Rg_op rfl (o_val (v := .int .i64 3) (d := 5) rfl rfl (ex_assign rfl) ?_)
          refine Rg_end ?_
          have H := own_nil H kInt 3
          have hf : tickE x9 = 3 := by simp only [tickE]; rw [if_pos (by assumption)]
          have hf2 : first tickE xs ≠ 0 := by rw [first_at hall hx9 (by rw [hf]; decide), hf]; decide
          have hmp : barP s xs = ([], 3) := by simp only [barP]; (repeat' split) <;> first | contradiction | rfl | (simp_all; done) | skip
          refine V_ret rfl (end0 (v := .tuple #[.slice none 0 0, .int .i64 3]) s1000000 (res_tmp2 Try.results40 rfl rfl) ?_)
          exact ⟨none, 0, by rw [hmp]; try rfl, H.below, by rw [hmp]; exact H.give⟩
        · have hb11 : ¬ ((x9 < 0) ∨ (10000 < x9)) := of_decide_eq_false hb11
          have hb39 := hb11
          refine V_skip rfl ?_
          refine V_seq rfl ?_
          refine V_region rfl ?_
          refine Rg_op rfl (o_val (v := .agg #[.int .i64 s.Wide, .int .i64 s.High, .int .i64 s.Room]) (d := 40) rfl rfl (ex_loadN (vs := [.int .i64 s.Wide, .int .i64 s.High, .int .i64 s.Room]) ca33 s2 rfl (blk_cells (H.rd 0 rfl) rfl)) ?_)
          refine Rg_op rfl (o_val (v := .int .i64 ((k : Nat) : Int)) (d := 41) rfl rfl (ex_move s8) ?_)
          refine Rg_op rfl (o_call (fv := []) (cap := []) (vs := [.agg #[.int .i64 s.Wide, .int .i64 s.High, .int .i64 s.Room], .int .i64 ((k : Nat) : Int)]) rfl rfl cl70 rfl (at_c s ((k : Nat) : Int) _ (by omega) (by omega) (by omega)) fun v w13 hS => ?_)
          obtain ⟨rfl, hB⟩ := hS
          have H := H.keep hB
          refine Rg_op rfl (o_alloc rfl tz168 H fun b14 w15 hA H => ?_)
          refine Rg_op rfl (o_store (vs := [.int .i64 (((k : Nat) : Int) % s.Wide), .int .i64 (((k : Nat) : Int) / s.Wide)]) rfl ts168 rfl rfl rfl rfl 0 rfl rfl rfl rfl H fun w16 hA H => ?_)
          refine Rg_end ?_
          refine V_region rfl ?_
          obtain ⟨ha, hb, hc, hd⟩ := cellb hs (r := ((k : Nat) : Int)) (by omega) (by omega)
          refine Rg_op rfl (o_val (v := .int .i64 (bmax s xs k)) (d := 43) rfl rfl (ex_move s7) ?_)
          refine Rg_op rfl (o_val (v := .int .i64 x9) (d := 44) rfl rfl (ex_move s9) ?_)
          refine Rg_op rfl (o_val (v := .pointer (some ⟨b14, 0, none⟩)) (d := 45) rfl rfl (ex_fieldAddr fo168_0 rfl rfl) ?_)
          refine Rg_op rfl (o_val (v := .int .i64 (((k : Nat) : Int) % s.Wide)) (d := 46) rfl rfl (ex_load ca3 rfl (cell_of (H.rd 0 rfl))) ?_)
          refine Rg_op rfl (o_val (v := .int .i64 (x9 + (((k : Nat) : Int) % s.Wide))) (d := 47) rfl rfl (ex_add rfl rfl (by omega)) ?_)
          refine Rg_op rfl (o_val (v := .pointer (some ⟨b14, 1, none⟩)) (d := 48) rfl rfl (ex_fieldAddr fo168_1 rfl rfl) ?_)
          refine Rg_op rfl (o_val (v := .int .i64 (((k : Nat) : Int) / s.Wide)) (d := 49) rfl rfl (ex_load ca3 rfl (cell_of (H.rd 0 rfl))) ?_)
          refine Rg_op rfl (o_val (v := .int .i64 ((x9 + (((k : Nat) : Int) % s.Wide)) + (((k : Nat) : Int) / s.Wide))) (d := 50) rfl rfl (ex_add rfl rfl (by omega)) ?_)
          refine Rg_op rfl (o_val (v := .int .i64 (max (bmax s xs k) ((x9 + (((k : Nat) : Int) % s.Wide)) + (((k : Nat) : Int) / s.Wide)))) (d := 51) rfl rfl (ex_max2 rfl rfl) ?_)
          refine Rg_op rfl (o_val (v := .int .i64 (max (bmax s xs k) ((x9 + (((k : Nat) : Int) % s.Wide)) + (((k : Nat) : Int) / s.Wide)))) (d := 7) rfl rfl (ex_assign rfl) ?_)
          refine Rg_end ?_
          refine V_region rfl ?_
          refine Rg_op rfl (o_val (v := .int .i64 (((k : Nat) : Int) + 1)) (d := 52) rfl rfl (ex_add s29 rfl (by omega)) ?_)
          refine Rg_op rfl (o_val (v := .int .i64 (((k : Nat) : Int) + 1)) (d := 29) rfl rfl (ex_move rfl) ?_)
          refine Rg_end ?_
          exact ⟨k + 1, ⟨s1, s2, s4, s5, (congrArg (Value.int .i64) (bmax_next (s := s) (k := k) hx9).symm), s27, s28, rfl, s1000000, (Hp.pull 0 rfl rfl (Hp.drop (Hp.pull 0 rfl rfl H))), by omega, take_all hall hx9 (by simp only [tickE]; rw [if_neg (by assumption)]), by rw [bmax_next (s := s) (k := k) hx9]; omega, by rw [bmax_next (s := s) (k := k) hx9]; omega⟩, by omega⟩
      · have hb8 : ¬ (((k : Nat) : Int) < ((xs.length : Nat) : Int)) := of_decide_eq_false hb8
        have hkk : k = xs.length := by omega
        rw [hkk] at s7 hm0 hm9
        refine V_exit rfl ?_
        refine V_seq rfl ?_
        refine V_region rfl ?_
        refine Rg_op rfl (o_val (v := .slice A xs.length c) (d := 53) rfl rfl (ex_move s1) ?_)
        refine Rg_op rfl (o_val (v := .int .i64 ((xs.length : Nat) : Int)) (d := 54) rfl rfl (ex_len (ts := #[]) sl26 rfl) ?_)
        refine Rg_op rfl (o_make (D := kInt) (z := 0) rfl sl26 rfl (fun _ => rfl) rfl (by omega) (by simp only []; omega) (by omega) H fun A17 c18 w19 hA H => ?_)
        refine Rg_op rfl (o_val (v := .slice A17 xs.length c18) (d := 11) rfl rfl (ex_assign rfl) ?_)
        refine Rg_end ?_
        refine V_seq rfl ?_
        refine V_seq rfl ?_
        refine V_region rfl ?_
        refine Rg_op rfl (o_val (v := .slice A17 xs.length c18) (d := 56) rfl rfl (ex_move rfl) ?_)
        refine Rg_op rfl (o_val (v := .int .i64 ((xs.length : Nat) : Int)) (d := 57) rfl rfl (ex_len (ts := #[]) sl26 rfl) ?_)
        refine Rg_op rfl (o_val (v := .int .i64 0) (d := 58) rfl rfl (ex_move rfl) ?_)
        refine Rg_end ?_
        refine V_block rfl ?_
        rw [show List.replicate (((xs.length : Nat) : Int)).toNat (0 : Int) = fillN (barAt s xs) xs.length 0 from fillN_zero _ _] at H
        refine V_loop rfl (γ := Nat) (fun j σ w => σ 2 = .pointer (some ⟨b1, 0, none⟩) ∧ σ 4 = .slice none 0 0 ∧ σ 5 = .int .i64 0 ∧ σ 7 = .int .i64 (bmax s xs xs.length) ∧ σ 11 = .slice A17 xs.length c18 ∧ σ 57 = .int .i64 ((xs.length : Nat) : Int) ∧ σ 58 = .int .i64 ((j : Nat) : Int) ∧ σ 1000000 = undef ∧ Hp w0.heap.size w0 w [SA.own kInt 3 A17 c18 (fillN (barAt s xs) xs.length j), SA.cel b1 #[.int .i64 s.Wide, .int .i64 s.High, .int .i64 s.Room] 33] ∧ j ≤ xs.length) (fun j => xs.length - j) (0) ⟨s2, s4, s5, s7, rfl, rfl, rfl, s1000000, H, by omega⟩ (fun j σ w hI => ?_)
        obtain ⟨s2, s4, s5, s7, s11, s57, s58, s1000000, H, hj⟩ := hI
        refine V_seq rfl ?_
        refine V_region rfl ?_
        refine Rg_op rfl (o_val (v := .bool (decide (((j : Nat) : Int) < ((xs.length : Nat) : Int)))) (d := 59) rfl rfl (ex_lss s58 s57) ?_)
        refine Rg_end ?_
        refine V_seq rfl ?_
        refine V_cond (b := (decide (((j : Nat) : Int) < ((xs.length : Nat) : Int)))) rfl rfl (fun hb21 => ?_) (fun hb21 => ?_)
        · have hb21 : ((j : Nat) : Int) < ((xs.length : Nat) : Int) := of_decide_eq_true hb21
          refine V_skip rfl ?_
          refine V_seq rfl ?_
          refine V_block rfl ?_
          refine V_seq rfl ?_
          refine V_region rfl ?_
          refine Rg_op rfl (o_val (v := .int .i64 ((j : Nat) : Int)) (d := 60) rfl rfl (ex_move s58) ?_)
          refine Rg_op rfl (o_val (v := .int .i64 ((j : Nat) : Int)) (d := 12) rfl rfl (ex_assign rfl) ?_)
          refine Rg_end ?_
          refine V_seq rfl ?_
          refine V_region rfl ?_
          refine Rg_op rfl (o_val (v := .agg #[.int .i64 s.Wide, .int .i64 s.High, .int .i64 s.Room]) (d := 61) rfl rfl (ex_loadN (vs := [.int .i64 s.Wide, .int .i64 s.High, .int .i64 s.Room]) ca33 s2 rfl (blk_cells (H.rd 1 rfl) rfl)) ?_)
          refine Rg_op rfl (o_val (v := .int .i64 ((j : Nat) : Int)) (d := 62) rfl rfl (ex_move rfl) ?_)
          refine Rg_op rfl (o_call (fv := []) (cap := []) (vs := [.agg #[.int .i64 s.Wide, .int .i64 s.High, .int .i64 s.Room], .int .i64 ((j : Nat) : Int)]) rfl rfl cl70 rfl (at_c s ((j : Nat) : Int) _ (by omega) (by omega) (by omega)) fun v w22 hS => ?_)
          obtain ⟨rfl, hB⟩ := hS
          have H := H.keep hB
          refine Rg_op rfl (o_alloc rfl tz168 H fun b23 w24 hA H => ?_)
          refine Rg_op rfl (o_store (vs := [.int .i64 (((j : Nat) : Int) % s.Wide), .int .i64 (((j : Nat) : Int) / s.Wide)]) rfl ts168 rfl rfl rfl rfl 0 rfl rfl rfl rfl H fun w25 hA H => ?_)
          refine Rg_end ?_
          refine V_region rfl ?_
          obtain ⟨ha, hb, hc, hd⟩ := cellb hs (r := ((j : Nat) : Int)) (by omega) (by omega)
          refine Rg_op rfl (o_val (v := .slice A17 xs.length c18) (d := 64) rfl rfl (ex_move s11) ?_)
          refine Rg_op rfl (o_val (v := .int .i64 ((j : Nat) : Int)) (d := 65) rfl rfl (ex_move rfl) ?_)
          refine Rg_op rfl (o_val (v := .int .i64 (bmax s xs xs.length)) (d := 66) rfl rfl (ex_move s7) ?_)
          refine Rg_op rfl (o_val (v := .pointer (some ⟨b23, 0, none⟩)) (d := 67) rfl rfl (ex_fieldAddr fo168_0 rfl rfl) ?_)
          refine Rg_op rfl (o_val (v := .int .i64 (((j : Nat) : Int) % s.Wide)) (d := 68) rfl rfl (ex_load ca3 rfl (cell_of (H.rd 0 rfl))) ?_)
          refine Rg_op rfl (o_val (v := .int .i64 ((bmax s xs xs.length) + (((j : Nat) : Int) % s.Wide))) (d := 69) rfl rfl (ex_add rfl rfl (by omega)) ?_)
          refine Rg_op rfl (o_val (v := .pointer (some ⟨b23, 1, none⟩)) (d := 70) rfl rfl (ex_fieldAddr fo168_1 rfl rfl) ?_)
          refine Rg_op rfl (o_val (v := .int .i64 (((j : Nat) : Int) / s.Wide)) (d := 71) rfl rfl (ex_load ca3 rfl (cell_of (H.rd 0 rfl))) ?_)
          refine Rg_op rfl (o_val (v := .int .i64 (((bmax s xs xs.length) + (((j : Nat) : Int) % s.Wide)) + (((j : Nat) : Int) / s.Wide))) (d := 72) rfl rfl (ex_add rfl rfl (by omega)) ?_)
          have hr26 := (own_row (H.pull 1 rfl rfl)).1
          obtain ⟨ad27, x27, cs27, hA27, hx27, hR27, hc27⟩ := Row.get hr26 ((j : Nat) : Int) (by first | omega | (rw [fillN_len _ (by omega)]; omega)) (by first | omega | (rw [fillN_len _ (by omega)]; omega))
          obtain rfl := hR27
          refine Rg_op rfl (o_val (v := .pointer (some (ad27.add ((((j : Nat) : Int)).toNat * 1)))) (d := 73) rfl rfl (ex_indexAddr sl26 rfl hA27 rfl (by first | omega | (rw [fillN_len _ (by omega)]; omega)) (by first | omega | (rw [fillN_len _ (by omega)]; omega)) rfl) ?_)
          have H := H.pull 1 rfl rfl
          refine Rg_op rfl (o_set (vs := [.int .i64 (((bmax s xs xs.length) + (((j : Nat) : Int) % s.Wide)) + (((j : Nat) : Int) / s.Wide))]) (x1 := ((bmax s xs xs.length) + (((j : Nat) : Int) % s.Wide)) + (((j : Nat) : Int) / s.Wide)) (i := (((j : Nat) : Int)).toNat) (off := 0) rfl ts3 hA27 rfl rfl rfl rfl hx27 rfl rfl H fun w28 hA H => ?_)
          refine Rg_end ?_
          refine V_region rfl ?_
          refine Rg_op rfl (o_val (v := .int .i64 (((j : Nat) : Int) + 1)) (d := 74) rfl rfl (ex_add s58 rfl (by omega)) ?_)
          refine Rg_op rfl (o_val (v := .int .i64 (((j : Nat) : Int) + 1)) (d := 58) rfl rfl (ex_move rfl) ?_)
          refine Rg_end ?_
          have e9 : ((fillN (barAt s xs) xs.length j)).set ((((j : Nat) : Int)).toNat) (((bmax s xs xs.length) + (((j : Nat) : Int) % s.Wide)) + (((j : Nat) : Int) / s.Wide)) = fillN (barAt s xs) xs.length (j + 1) := fillN_set (barAt s xs) (by omega)
          rw [e9] at H
          exact ⟨j + 1, ⟨s2, s4, s5, s7, s11, s57, rfl, s1000000, (Hp.pull 1 rfl rfl (Hp.pull 1 rfl rfl (Hp.drop (Hp.pull 1 rfl rfl H)))), by omega⟩, by omega⟩
        · have hb21 : ¬ (((j : Nat) : Int) < ((xs.length : Nat) : Int)) := of_decide_eq_false hb21
          have e8 : (fillN (barAt s xs) xs.length j) = (List.range xs.length).map (barAt s xs) := by rw [show j = xs.length from by omega]; exact fillN_all _ _
          rw [e8] at H
          refine V_exit rfl ?_
          refine V_seq rfl ?_
          refine V_region rfl ?_
          refine Rg_op rfl (o_val (v := .slice A17 xs.length c18) (d := 75) rfl rfl (ex_move s11) ?_)
          refine Rg_op rfl (o_val (v := .slice A17 xs.length c18) (d := 4) rfl rfl (ex_assign rfl) ?_)
          refine Rg_op rfl (o_val (v := .int .i64 0) (d := 5) rfl rfl (ex_assign rfl) ?_)
          refine Rg_end ?_
          have hf2 : ¬ first tickE xs ≠ 0 := fun h => h (first_no (take_full hall (by omega)))
          have hlm : ((List.range xs.length).map (barAt s xs)).length = xs.length := by simp
          have hmp : barP s xs = (((List.range xs.length).map (barAt s xs)), 0) := by simp only [barP]; (repeat' split) <;> first | contradiction | rfl | (simp_all; done) | skip
          refine V_ret rfl (end0 (v := .tuple #[.slice A17 xs.length c18, .int .i64 0]) s1000000 (res_tmp2 Try.results40 rfl rfl) ?_)
          exact ⟨A17, c18, by rw [hmp]; simp only [hlm], H.below, by rw [hmp]; exact H.give⟩

end Go.Proofs.Ytlnogaoihkinbaa
namespace Go.Proofs.Ytlnogaoihkinbaa
open Go.Gk Go.RowKit
theorem cl20 : callable Try.prog 20 = true := by kernel_rfl
theorem bit_c (a b : Int) (w0 : World) :
    Calls Try.prog 84 #[.int .i64 a, .int .i64 b] w0 fun e w' => ∃ v, e = .returned v ∧ (v = .int .i64 (bitR (bXor .i64 a b)) ∧ Below w0.heap.size w0 w') := by
  refine calls_of (n := 16) (l := [.int .i64 a, .int .i64 b]) Try.func84 rfl rfl rfl ?_
  have H := Hp.start w0
  refine V_seq rfl ?_
  refine V_region rfl ?_
  refine Rg_op rfl (o_val (v := .int .i64 0) (d := 4) rfl rfl (ex_assign rfl) ?_)
  refine Rg_end ?_
  refine V_seq rfl ?_
  refine V_seq rfl ?_
  refine V_region rfl ?_
  refine Rg_op rfl (o_val (v := .int .i64 1) (d := 5) rfl rfl (ex_assign rfl) ?_)
  refine Rg_end ?_
  refine V_block rfl ?_
  refine V_loop rfl (γ := Nat) (fun m σ w => σ 0 = .int .i64 a ∧ σ 1 = .int .i64 b ∧ σ 4 = .int .i64 0 ∧ σ 5 = .int .i64 ((2 : Int) ^ m) ∧ σ 1000000 = undef ∧ Hp w0.heap.size w0 w [] ∧ m ≤ 16 ∧ (∀ i, i < m → bXor .i64 a b ≠ 2 ^ i)) (fun m => 16 - m) (0) ⟨rfl, rfl, rfl, rfl, rfl, H, by omega, fun i h => absurd h (by omega)⟩ (fun m σ w hI => ?_)
  obtain ⟨s0, s1, s4, s5, s1000000, H, hm, hall⟩ := hI
  obtain ⟨hp1, hp2⟩ := pow_le hm
  refine V_seq rfl ?_
  refine V_seq rfl ?_
  refine V_region rfl ?_
  refine Rg_op rfl (o_val (v := .int .i64 ((2 : Int) ^ m)) (d := 6) rfl rfl (ex_move s5) ?_)
  refine Rg_op rfl (o_val (v := .bool (decide (((2 : Int) ^ m) ≤ 65535))) (d := 7) rfl rfl (ex_leq rfl rfl) ?_)
  refine Rg_end ?_
  refine V_cond (b := (decide (((2 : Int) ^ m) ≤ 65535))) rfl rfl (fun hb1 => ?_) (fun hb1 => ?_)
  · have hb1 : ((2 : Int) ^ m) ≤ 65535 := of_decide_eq_true hb1
    have hm2 : m < 16 := by
      rcases Nat.lt_or_ge m 16 with h | h
      · exact h
      · obtain rfl : m = 16 := by omega
        have h9 : (2 : Int) ^ 16 = 65536 := by decide
        omega
    refine V_skip rfl ?_
    refine V_seq rfl ?_
    refine V_block rfl ?_
    refine V_seq rfl ?_
    refine V_region rfl ?_
    refine Rg_op rfl (o_val (v := .int .i64 a) (d := 10) rfl rfl (ex_move s0) ?_)
    refine Rg_op rfl (o_val (v := .int .i64 b) (d := 11) rfl rfl (ex_move s1) ?_)
    refine Rg_op rfl (o_val (v := .int .i64 (bXor .i64 a b)) (d := 12) rfl rfl (ex_xor rfl rfl) ?_)
    refine Rg_op rfl (o_val (v := .int .i64 ((2 : Int) ^ m)) (d := 13) rfl rfl (ex_move s5) ?_)
    refine Rg_op rfl (o_val (v := .bool (decide ((bXor .i64 a b) = ((2 : Int) ^ m)))) (d := 14) rfl rfl (ex_eql rfl rfl) ?_)
    refine Rg_end ?_
    refine V_cond (b := (decide ((bXor .i64 a b) = ((2 : Int) ^ m)))) rfl rfl (fun hb2 => ?_) (fun hb2 => ?_)
    · have hb2 : (bXor .i64 a b) = ((2 : Int) ^ m) := of_decide_eq_true hb2
      refine V_seq rfl ?_
      refine V_region rfl ?_
      refine Rg_op rfl (o_val (v := .int .i64 ((2 : Int) ^ m)) (d := 15) rfl rfl (ex_move s5) ?_)
      refine Rg_op rfl (o_val (v := .int .i64 ((2 : Int) ^ m)) (d := 4) rfl rfl (ex_assign rfl) ?_)
      refine Rg_end ?_
      refine V_ret rfl (end0 (v := .int .i64 ((2 : Int) ^ m)) s1000000 (res_tmp Try.results84 rfl) ?_)
      exact ⟨by rw [bit_at hm2 (by assumption) hall], H.below⟩
    · have hb2 : ¬ ((bXor .i64 a b) = ((2 : Int) ^ m)) := of_decide_eq_false hb2
      refine V_skip rfl ?_
      refine V_region rfl ?_
      refine Rg_op rfl (o_val (v := .int .i64 ((2 : Int) ^ m)) (d := 8) rfl rfl (ex_move s5) ?_)
      refine Rg_op rfl (o_val (v := .int .i64 (2 * ((2 : Int) ^ m))) (d := 9) rfl rfl (ex_mul rfl rfl (by omega)) ?_)
      refine Rg_op rfl (o_val (v := .int .i64 (2 * ((2 : Int) ^ m))) (d := 5) rfl rfl (ex_assign rfl) ?_)
      refine Rg_end ?_
      exact ⟨m + 1, ⟨s0, s1, s4, (congrArg (Value.int .i64) (by rw [Int.pow_succ, Int.mul_comm])), s1000000, H, by omega, lt_next hall (by assumption)⟩, by omega⟩
  · have hb1 : ¬ (((2 : Int) ^ m) ≤ 65535) := of_decide_eq_false hb1
    have hm2 : m = 16 := by
      rcases Nat.lt_or_ge m 16 with h | h
      · have h9 := pow_le (show m + 1 ≤ 16 from h)
        have h8 : (2 : Int) ^ (m + 1) = 2 ^ m * 2 := Int.pow_succ _ _
        omega
      · omega
    refine V_exit rfl ?_
    refine V_seq rfl ?_
    refine V_region rfl ?_
    refine Rg_op rfl (o_val (v := .int .i64 0) (d := 4) rfl rfl (ex_assign rfl) ?_)
    refine Rg_end ?_
    refine V_ret rfl (end0 (v := .int .i64 0) s1000000 (res_tmp Try.results84 rfl) ?_)
    exact ⟨by rw [bit_no (fun i hi => hall i (by omega))], H.below⟩

theorem sameR_c (A : Option Addr) (c : Nat) (l : List Entry) (A1 : Option Addr) (c1 : Nat) (t : List Entry) (A2 : Option Addr) (c2 : Nat) (keys : List Int) (w0 : World) (hX : Row kEnt w0.cell? A l) (hl : l.length ≤ 100000) (hT : Row kEnt w0.cell? A1 t) (htl : t.length ≤ 100000) (hK : Row kInt w0.cell? A2 keys) (hkl : keys.length ≤ 100000) :
    Calls Try.prog 85 #[.slice A l.length c, .slice A1 t.length c1, .slice A2 keys.length c2] w0 fun e w' => ∃ v, e = .returned v ∧ (v = .bool (decide (foundOf keys l = foundOf keys t)) ∧ Below w0.heap.size w0 w') := by
  refine calls_of (n := 44) (l := [.slice A l.length c, .slice A1 t.length c1, .slice A2 keys.length c2]) Try.func85 rfl rfl rfl ?_
  have H := Hp.start w0
  refine V_seq rfl ?_
  refine V_region rfl ?_
  refine Rg_op rfl (o_val (v := .bool false) (d := 6) rfl rfl (ex_assign rfl) ?_)
  refine Rg_end ?_
  refine V_seq rfl ?_
  refine V_seq rfl ?_
  refine V_region rfl ?_
  refine Rg_op rfl (o_val (v := .int .i64 0) (d := 7) rfl rfl (ex_assign rfl) ?_)
  refine Rg_end ?_
  refine V_block rfl ?_
  refine V_loop rfl (γ := Nat) (fun k σ w => σ 0 = .slice A l.length c ∧ σ 1 = .slice A1 t.length c1 ∧ σ 2 = .slice A2 keys.length c2 ∧ σ 6 = .bool false ∧ σ 7 = .int .i64 ((k : Nat) : Int) ∧ σ 1000000 = undef ∧ Hp w0.heap.size w0 w [] ∧ k ≤ keys.length ∧ (∀ j : Nat, j < k → (foundOf keys l)[j]? = (foundOf keys t)[j]?)) (fun k => keys.length - k) (0) ⟨rfl, rfl, rfl, rfl, rfl, rfl, H, by omega, fun j hj => absurd hj (by omega)⟩ (fun k σ w hI => ?_)
  obtain ⟨s0, s1, s2, s6, s7, s1000000, H, hk, heq⟩ := hI
  refine V_seq rfl ?_
  refine V_seq rfl ?_
  refine V_region rfl ?_
  refine Rg_op rfl (o_val (v := .int .i64 ((k : Nat) : Int)) (d := 12) rfl rfl (ex_move s7) ?_)
  refine Rg_op rfl (o_val (v := .slice A2 keys.length c2) (d := 13) rfl rfl (ex_move s2) ?_)
  refine Rg_op rfl (o_val (v := .int .i64 ((keys.length : Nat) : Int)) (d := 14) rfl rfl (ex_len (ts := #[]) sl26 rfl) ?_)
  refine Rg_op rfl (o_val (v := .bool (decide (((k : Nat) : Int) < ((keys.length : Nat) : Int)))) (d := 15) rfl rfl (ex_lss rfl rfl) ?_)
  refine Rg_end ?_
  refine V_cond (b := (decide (((k : Nat) : Int) < ((keys.length : Nat) : Int)))) rfl rfl (fun hb1 => ?_) (fun hb1 => ?_)
  · have hb1 : ((k : Nat) : Int) < ((keys.length : Nat) : Int) := of_decide_eq_true hb1
    refine V_skip rfl ?_
    refine V_seq rfl ?_
    refine V_block rfl ?_
    refine V_seq rfl ?_
    refine V_region rfl ?_
    refine Rg_op rfl (o_val (v := .slice A l.length c) (d := 19) rfl rfl (ex_move s0) ?_)
    refine Rg_op rfl (o_val (v := .slice A2 keys.length c2) (d := 20) rfl rfl (ex_move s2) ?_)
    refine Rg_op rfl (o_val (v := .int .i64 ((k : Nat) : Int)) (d := 21) rfl rfl (ex_move s7) ?_)
    obtain ⟨ad2, x2, cs2, hA2, hx2, hR2, hc2⟩ := Row.get hK ((k : Nat) : Int) (by omega) (by omega)
    obtain rfl := hR2
    refine Rg_op rfl (o_val (v := .pointer (some (ad2.add ((((k : Nat) : Int)).toNat * 1)))) (d := 22) rfl rfl (ex_indexAddr sl26 rfl hA2 rfl (by omega) (by omega) rfl) ?_)
    refine Rg_op rfl (o_val (v := .int .i64 x2) (d := 23) rfl rfl (ex_load ca3 rfl (H.cell0 (hc2 0 _ rfl))) ?_)
    refine Rg_op rfl (o_call (fv := []) (cap := []) (vs := [.slice A l.length c, .int .i64 x2]) rfl rfl cl20 rfl (findR_c _ _ l x2 _ (hX.mono (fun _ _ h => H.cell0 h)) (by omega)) fun v w3 hS => ?_)
    obtain ⟨rfl, hB⟩ := hS
    have H := H.keep hB
    refine Rg_op rfl (o_val (v := .tuple #[.int .i64 ((find l x2).1), .bool ((find l x2).2)]) (d := 18) rfl rfl (ex_move rfl) ?_)
    refine Rg_op rfl (o_val (v := .int .i64 ((find l x2).1)) (d := 25) rfl rfl (ex_extract rfl rfl) ?_)
    refine Rg_op rfl (o_val (v := .bool ((find l x2).2)) (d := 26) rfl rfl (ex_extract rfl rfl) ?_)
    refine Rg_op rfl (o_val (v := .int .i64 ((find l x2).1)) (d := 8) rfl rfl (ex_assign rfl) ?_)
    refine Rg_op rfl (o_val (v := .bool ((find l x2).2)) (d := 9) rfl rfl (ex_assign rfl) ?_)
    refine Rg_end ?_
    refine V_seq rfl ?_
    refine V_region rfl ?_
    refine Rg_op rfl (o_val (v := .slice A1 t.length c1) (d := 28) rfl rfl (ex_move s1) ?_)
    refine Rg_op rfl (o_val (v := .slice A2 keys.length c2) (d := 29) rfl rfl (ex_move s2) ?_)
    refine Rg_op rfl (o_val (v := .int .i64 ((k : Nat) : Int)) (d := 30) rfl rfl (ex_move s7) ?_)
    refine Rg_op rfl (o_val (v := .pointer (some (ad2.add ((((k : Nat) : Int)).toNat * 1)))) (d := 31) rfl rfl (ex_indexAddr sl26 rfl hA2 rfl (by omega) (by omega) rfl) ?_)
    refine Rg_op rfl (o_val (v := .int .i64 x2) (d := 32) rfl rfl (ex_load ca3 rfl (H.cell0 (hc2 0 _ rfl))) ?_)
    refine Rg_op rfl (o_call (fv := []) (cap := []) (vs := [.slice A1 t.length c1, .int .i64 x2]) rfl rfl cl20 rfl (findR_c _ _ t x2 _ (hT.mono (fun _ _ h => H.cell0 h)) (by omega)) fun v w4 hS => ?_)
    obtain ⟨rfl, hB⟩ := hS
    have H := H.keep hB
    refine Rg_op rfl (o_val (v := .tuple #[.int .i64 ((find t x2).1), .bool ((find t x2).2)]) (d := 27) rfl rfl (ex_move rfl) ?_)
    refine Rg_op rfl (o_val (v := .int .i64 ((find t x2).1)) (d := 34) rfl rfl (ex_extract rfl rfl) ?_)
    refine Rg_op rfl (o_val (v := .bool ((find t x2).2)) (d := 35) rfl rfl (ex_extract rfl rfl) ?_)
    refine Rg_op rfl (o_val (v := .int .i64 ((find t x2).1)) (d := 10) rfl rfl (ex_assign rfl) ?_)
    refine Rg_op rfl (o_val (v := .bool ((find t x2).2)) (d := 11) rfl rfl (ex_assign rfl) ?_)
    refine Rg_end ?_
    refine V_seq rfl ?_
    refine V_join (fun σ w => σ 0 = .slice A l.length c ∧ σ 1 = .slice A1 t.length c1 ∧ σ 2 = .slice A2 keys.length c2 ∧ σ 6 = .bool false ∧ σ 7 = .int .i64 ((k : Nat) : Int) ∧ σ 8 = .int .i64 ((find l x2).1) ∧ σ 9 = .bool ((find l x2).2) ∧ σ 10 = .int .i64 ((find t x2).1) ∧ σ 11 = .bool ((find t x2).2) ∧ σ 12 = .int .i64 ((k : Nat) : Int) ∧ σ 13 = .slice A2 keys.length c2 ∧ σ 14 = .int .i64 ((keys.length : Nat) : Int) ∧ σ 15 = .bool (decide (((k : Nat) : Int) < ((keys.length : Nat) : Int))) ∧ σ 18 = .tuple #[.int .i64 ((find l x2).1), .bool ((find l x2).2)] ∧ σ 19 = .slice A l.length c ∧ σ 20 = .slice A2 keys.length c2 ∧ σ 21 = .int .i64 ((k : Nat) : Int) ∧ σ 22 = .pointer (some (ad2.add ((((k : Nat) : Int)).toNat * 1))) ∧ σ 23 = .int .i64 x2 ∧ σ 24 = .tuple #[.int .i64 ((find l x2).1), .bool ((find l x2).2)] ∧ σ 25 = .int .i64 ((find l x2).1) ∧ σ 26 = .bool ((find l x2).2) ∧ σ 27 = .tuple #[.int .i64 ((find t x2).1), .bool ((find t x2).2)] ∧ σ 28 = .slice A1 t.length c1 ∧ σ 29 = .slice A2 keys.length c2 ∧ σ 30 = .int .i64 ((k : Nat) : Int) ∧ σ 31 = .pointer (some (ad2.add ((((k : Nat) : Int)).toNat * 1))) ∧ σ 32 = .int .i64 x2 ∧ σ 33 = .tuple #[.int .i64 ((find t x2).1), .bool ((find t x2).2)] ∧ σ 34 = .int .i64 ((find t x2).1) ∧ σ 35 = .bool ((find t x2).2) ∧ σ 36 = .int .i64 ((find l x2).1) ∧ σ 37 = .int .i64 ((find t x2).1) ∧ σ 38 = .bool (decide (((find l x2).1) ≠ ((find t x2).1))) ∧ σ 39 = .bool (decide (((find l x2).1) ≠ ((find t x2).1))) ∧ σ 43 = .bool (decide ((((find l x2).1) ≠ ((find t x2).1)) ∨ ((((find l x2).2) != ((find t x2).2)) = true))) ∧ σ 1000000 = undef ∧ Hp w0.heap.size w0 w []) ?_ (fun σ w hI => ?_)
    · skip
      refine V_region rfl ?_
      refine Rg_op rfl (o_val (v := .int .i64 ((find l x2).1)) (d := 36) rfl rfl (ex_move rfl) ?_)
      refine Rg_op rfl (o_val (v := .int .i64 ((find t x2).1)) (d := 37) rfl rfl (ex_move rfl) ?_)
      refine Rg_op rfl (o_val (v := .bool (decide (((find l x2).1) ≠ ((find t x2).1)))) (d := 38) rfl rfl (ex_neq rfl rfl) ?_)
      refine Rg_op rfl (o_val (v := .bool (decide (((find l x2).1) ≠ ((find t x2).1)))) (d := 39) rfl rfl (ex_move rfl) ?_)
      by_cases hg5 : ((find l x2).1) ≠ ((find t x2).1)
      · skip
        refine Rg_op rfl (o_skip (d := 40) rfl rfl (wanted_no (b := (decide (((find l x2).1) ≠ ((find t x2).1)))) rfl rfl rfl (decide_eq_true hg5)) ?_)
        refine Rg_op rfl (o_skip (d := 41) rfl rfl (wanted_no (b := (decide (((find l x2).1) ≠ ((find t x2).1)))) rfl rfl rfl (decide_eq_true hg5)) ?_)
        refine Rg_op rfl (o_skip (d := 42) rfl rfl (wanted_no (b := (decide (((find l x2).1) ≠ ((find t x2).1)))) rfl rfl rfl (decide_eq_true hg5)) ?_)
        refine Rg_op rfl (o_val (v := .bool true) (d := 43) rfl rfl (ex_pick (q := (decide (((find l x2).1) ≠ ((find t x2).1)))) rfl (fun h => rfl) (fun h => absurd hg5 (of_decide_eq_false h))) ?_)
        refine Rg_end ?_
        exact ⟨s0, s1, s2, s6, s7, rfl, rfl, rfl, rfl, rfl, rfl, rfl, rfl, rfl, rfl, rfl, rfl, rfl, rfl, rfl, rfl, rfl, rfl, rfl, rfl, rfl, rfl, rfl, rfl, rfl, rfl, rfl, rfl, rfl, rfl, (show (.bool true : Value) = .bool (decide ((((find l x2).1) ≠ ((find t x2).1)) ∨ ((((find l x2).2) != ((find t x2).2)) = true))) from by first | (simp only [hg5, true_or, or_true, false_or, or_false, true_and, and_true, false_and, and_false, decide_true, decide_false, Bool.not_true, Bool.not_false]; done) | (simp [hg5]; done) | (simp [hg5]; rfl)), s1000000, H⟩
      · skip
        refine Rg_op rfl (o_valg (v := .bool ((find l x2).2)) (d := 40) rfl rfl (wanted_yes (b := (decide (((find l x2).1) ≠ ((find t x2).1)))) rfl rfl rfl (decide_eq_false hg5)) (ex_move rfl) ?_)
        refine Rg_op rfl (o_valg (v := .bool ((find t x2).2)) (d := 41) rfl rfl (wanted_yes (b := (decide (((find l x2).1) ≠ ((find t x2).1)))) rfl rfl rfl (decide_eq_false hg5)) (ex_move rfl) ?_)
        refine Rg_op rfl (o_valg (v := .bool (((find l x2).2) != ((find t x2).2))) (d := 42) rfl rfl (wanted_yes (b := (decide (((find l x2).1) ≠ ((find t x2).1)))) rfl rfl rfl (decide_eq_false hg5)) (ex_neqb Try.underlying4 rfl rfl) ?_)
        refine Rg_op rfl (o_val (v := .bool (((find l x2).2) != ((find t x2).2))) (d := 43) rfl rfl (ex_pick (q := (decide (((find l x2).1) ≠ ((find t x2).1)))) rfl (fun h => absurd (of_decide_eq_true h) hg5) (fun h => rfl)) ?_)
        refine Rg_end ?_
        exact ⟨s0, s1, s2, s6, s7, rfl, rfl, rfl, rfl, rfl, rfl, rfl, rfl, rfl, rfl, rfl, rfl, rfl, rfl, rfl, rfl, rfl, rfl, rfl, rfl, rfl, rfl, rfl, rfl, rfl, rfl, rfl, rfl, rfl, rfl, (show (.bool (((find l x2).2) != ((find t x2).2)) : Value) = .bool (decide ((((find l x2).1) ≠ ((find t x2).1)) ∨ ((((find l x2).2) != ((find t x2).2)) = true))) from by first | (simp only [hg5, true_or, or_true, false_or, or_false, true_and, and_true, false_and, and_false, decide_true, decide_false, Bool.not_true, Bool.not_false]; done) | (simp [hg5]; done) | (simp [hg5]; rfl)), s1000000, H⟩
    obtain ⟨s0, s1, s2, s6, s7, s8, s9, s10, s11, s12, s13, s14, s15, s18, s19, s20, s21, s22, s23, s24, s25, s26, s27, s28, s29, s30, s31, s32, s33, s34, s35, s36, s37, s38, s39, s43, s1000000, H⟩ := hI
    refine V_cond (b := (decide ((((find l x2).1) ≠ ((find t x2).1)) ∨ ((((find l x2).2) != ((find t x2).2)) = true)))) rfl s43 (fun hb6 => ?_) (fun hb6 => ?_)
    · have hb6 : (((find l x2).1) ≠ ((find t x2).1)) ∨ ((((find l x2).2) != ((find t x2).2)) = true) := of_decide_eq_true hb6
      refine V_seq rfl ?_
      refine V_region rfl ?_
      refine Rg_op rfl (o_val (v := .bool false) (d := 6) rfl rfl (ex_assign rfl) ?_)
      refine Rg_end ?_
      refine V_ret rfl (end0 (v := .bool false) s1000000 (res_tmp Try.results85 rfl) ?_)
      exact ⟨by rw [decide_eq_false (fun e => by have h1 := found_get (t := l) hx2; rw [e, found_get hx2] at h1; injection h1 with h1; exact pair_ne (by assumption) h1.symm)], H.below⟩
    · have hb6 : ¬ ((((find l x2).1) ≠ ((find t x2).1)) ∨ ((((find l x2).2) != ((find t x2).2)) = true)) := of_decide_eq_false hb6
      refine V_skip rfl ?_
      refine V_region rfl ?_
      refine Rg_op rfl (o_val (v := .int .i64 ((k : Nat) : Int)) (d := 16) rfl rfl (ex_move s7) ?_)
      refine Rg_op rfl (o_val (v := .int .i64 (((k : Nat) : Int) + 1)) (d := 17) rfl rfl (ex_add rfl rfl (by omega)) ?_)
      refine Rg_op rfl (o_val (v := .int .i64 (((k : Nat) : Int) + 1)) (d := 7) rfl rfl (ex_assign rfl) ?_)
      refine Rg_end ?_
      exact ⟨k + 1, ⟨s0, s1, s2, s6, rfl, s1000000, H, by omega, agree_next heq (found_get hx2) (found_get hx2) (pair_eq (by assumption))⟩, by omega⟩
  · have hb1 : ¬ (((k : Nat) : Int) < ((keys.length : Nat) : Int)) := of_decide_eq_false hb1
    refine V_exit rfl ?_
    refine V_seq rfl ?_
    refine V_region rfl ?_
    refine Rg_op rfl (o_val (v := .bool true) (d := 6) rfl rfl (ex_assign rfl) ?_)
    refine Rg_end ?_
    refine V_ret rfl (end0 (v := .bool true) s1000000 (res_tmp Try.results85 rfl) ?_)
    exact ⟨by rw [decide_eq_true (list_eq (by rw [found_len, found_len]) fun j hj => heq j (by rw [found_len] at hj; omega))], H.below⟩

end Go.Proofs.Ytlnogaoihkinbaa
namespace Go.Proofs.Ytlnogaoihkinbaa
open Go.Gk Go.RowKit
theorem cl56 : callable Try.prog 56 = true := by kernel_rfl
theorem cl84 : callable Try.prog 84 = true := by kernel_rfl
theorem cl85 : callable Try.prog 85 = true := by kernel_rfl
theorem ts116 : tySize Try.prog 116 = some 3 := by kernel_rfl
theorem step_c (A : Option Addr) (c : Nat) (xs : List Entry) (A1 : Option Addr) (c1 : Nat) (keys : List Int) (w0 : World) (hX : Row kEnt w0.cell? A xs) (hl : xs.length ≤ 100000) (hxc : xs.length ≤ c) (hK : Row kInt w0.cell? A1 keys) (hkk : keys.length ≤ 100000) :
    Calls Try.prog 56 #[.slice A xs.length c, .slice A1 keys.length c1] w0 fun e w' => ∃ v, e = .returned v ∧ ((∃ t A' c', stepO xs keys = some t ∧ v = .tuple #[.slice A' t.length c', .bool true] ∧ Below w0.heap.size w0 w' ∧ New (SA.own kEnt 116 A' c' t) w0 w') ∨ (stepO xs keys = none ∧ v = .tuple #[.slice A xs.length c, .bool false] ∧ Below w0.heap.size w0 w')) := by
  refine calls_of (n := 103) (l := [.slice A xs.length c, .slice A1 keys.length c1]) Try.func56 rfl rfl rfl ?_
  have H := Hp.start w0
  refine V_seq rfl ?_
  refine V_region rfl ?_
  refine Rg_op rfl (o_val (v := .slice none 0 0) (d := 4) rfl rfl (ex_assign rfl) ?_)
  refine Rg_op rfl (o_val (v := .bool false) (d := 5) rfl rfl (ex_assign rfl) ?_)
  refine Rg_end ?_
  refine V_seq rfl ?_
  refine V_seq rfl ?_
  refine V_region rfl ?_
  refine Rg_op rfl (o_val (v := .int .i64 0) (d := 6) rfl rfl (ex_assign rfl) ?_)
  refine Rg_end ?_
  refine V_block rfl ?_
  refine V_loop rfl (γ := Nat) (fun k σ w => σ 0 = .slice A xs.length c ∧ σ 1 = .slice A1 keys.length c1 ∧ σ 4 = .slice none 0 0 ∧ σ 5 = .bool false ∧ σ 6 = .int .i64 ((k : Nat) : Int) ∧ σ 1000000 = undef ∧ Hp w0.heap.size w0 w [] ∧ k ≤ xs.length ∧ (∀ a, a < k → rowJR xs keys a = none)) (fun k => xs.length - k) (0) ⟨rfl, rfl, rfl, rfl, rfl, rfl, H, by omega, fun a h => absurd h (by omega)⟩ (fun k σ w hI => ?_)
  obtain ⟨s0, s1, s4, s5, s6, s1000000, H, hk, hall⟩ := hI
  refine V_seq rfl ?_
  refine V_seq rfl ?_
  refine V_region rfl ?_
  refine Rg_op rfl (o_val (v := .int .i64 ((k : Nat) : Int)) (d := 10) rfl rfl (ex_move s6) ?_)
  refine Rg_op rfl (o_val (v := .slice A xs.length c) (d := 11) rfl rfl (ex_move s0) ?_)
  refine Rg_op rfl (o_val (v := .int .i64 ((xs.length : Nat) : Int)) (d := 12) rfl rfl (ex_len (ts := #[]) sl42 rfl) ?_)
  refine Rg_op rfl (o_val (v := .bool (decide (((k : Nat) : Int) < ((xs.length : Nat) : Int)))) (d := 13) rfl rfl (ex_lss rfl rfl) ?_)
  refine Rg_end ?_
  refine V_cond (b := (decide (((k : Nat) : Int) < ((xs.length : Nat) : Int)))) rfl rfl (fun hb1 => ?_) (fun hb1 => ?_)
  · have hb1 : ((k : Nat) : Int) < ((xs.length : Nat) : Int) := of_decide_eq_true hb1
    refine V_skip rfl ?_
    refine V_seq rfl ?_
    refine V_block rfl ?_
    refine V_seq rfl ?_
    refine V_region rfl ?_
    refine Rg_op rfl (o_val (v := .int .i64 ((k : Nat) : Int)) (d := 16) rfl rfl (ex_move s6) ?_)
    refine Rg_op rfl (o_val (v := .int .i64 (((k : Nat) : Int) + 1)) (d := 17) rfl rfl (ex_add rfl rfl (by omega)) ?_)
    refine Rg_op rfl (o_val (v := .int .i64 (((k : Nat) : Int) + 1)) (d := 7) rfl rfl (ex_assign rfl) ?_)
    refine Rg_end ?_
    refine V_block rfl ?_
    have hkl : k < xs.length := by omega
    refine V_loop rfl (γ := Nat) (fun j σ w => σ 0 = .slice A xs.length c ∧ σ 1 = .slice A1 keys.length c1 ∧ σ 4 = .slice none 0 0 ∧ σ 5 = .bool false ∧ σ 6 = .int .i64 ((k : Nat) : Int) ∧ σ 7 = .int .i64 ((j : Nat) : Int) ∧ σ 10 = .int .i64 ((k : Nat) : Int) ∧ σ 11 = .slice A xs.length c ∧ σ 12 = .int .i64 ((xs.length : Nat) : Int) ∧ σ 13 = .bool (decide (((k : Nat) : Int) < ((xs.length : Nat) : Int))) ∧ σ 16 = .int .i64 ((k : Nat) : Int) ∧ σ 17 = .int .i64 (((k : Nat) : Int) + 1) ∧ σ 1000000 = undef ∧ Hp w0.heap.size w0 w [] ∧ k < j ∧ j ≤ xs.length ∧ (∀ b, b < j → cand2R xs keys k b = none)) (fun j => xs.length - j) (k + 1) ⟨s0, s1, s4, s5, s6, rfl, rfl, rfl, rfl, rfl, rfl, rfl, s1000000, H, by omega, by omega, fun b h => cand2R_le h⟩ (fun j σ w hI => ?_)
    obtain ⟨s0, s1, s4, s5, s6, s7, s10, s11, s12, s13, s16, s17, s1000000, H, hkj, hj, hin⟩ := hI
    refine V_seq rfl ?_
    refine V_seq rfl ?_
    refine V_region rfl ?_
    refine Rg_op rfl (o_val (v := .int .i64 ((j : Nat) : Int)) (d := 18) rfl rfl (ex_move s7) ?_)
    refine Rg_op rfl (o_val (v := .slice A xs.length c) (d := 19) rfl rfl (ex_move s0) ?_)
    refine Rg_op rfl (o_val (v := .int .i64 ((xs.length : Nat) : Int)) (d := 20) rfl rfl (ex_len (ts := #[]) sl42 rfl) ?_)
    refine Rg_op rfl (o_val (v := .bool (decide (((j : Nat) : Int) < ((xs.length : Nat) : Int)))) (d := 21) rfl rfl (ex_lss rfl rfl) ?_)
    refine Rg_end ?_
    refine V_cond (b := (decide (((j : Nat) : Int) < ((xs.length : Nat) : Int)))) rfl rfl (fun hb2 => ?_) (fun hb2 => ?_)
    · have hb2 : ((j : Nat) : Int) < ((xs.length : Nat) : Int) := of_decide_eq_true hb2
      refine V_skip rfl ?_
      refine V_seq rfl ?_
      refine V_block rfl ?_
      refine V_seq rfl ?_
      refine V_draw [0, 1, 2, 3, 5, 6, 7, 8, 11] (.p 0 (.p 1 (.p 2 (.p 3 (.q 4 (.p 5 (.p 6 (.p 7 (.p 8 (.q 9 (.l 10 (.p 11 .done)))))))))))) (fun _ => False) rfl mixed (by kernel_rfl) fun w3 hD => ?_
      have H := H.drew hD
      refine c_p (v := .slice A xs.length c) (d := 24) rfl rfl rfl (fun w' => ex_move s0) ?_
      refine c_p (v := .int .i64 ((k : Nat) : Int)) (d := 25) rfl rfl rfl (fun w' => ex_move s6) ?_
      obtain ⟨ad4, x4, cs4, hA4, hx4, hR4, hc4⟩ := Row.get hX ((k : Nat) : Int) (by first | omega | (simp only [List.length_append, List.length_nil, List.length_take, List.length_drop]; omega) | (simp only [List.length_eraseIdx]; split <;> omega)) (by first | omega | (simp only [List.length_append, List.length_nil, List.length_take, List.length_drop]; omega) | (simp only [List.length_eraseIdx]; split <;> omega))
      obtain rfl := hR4
      refine c_p (v := .pointer (some (ad4.add ((((k : Nat) : Int)).toNat * 3)))) (d := 26) rfl rfl rfl (fun w' => ex_indexAddr sl42 rfl hA4 rfl (by first | omega | (simp only [List.length_append, List.length_nil, List.length_take, List.length_drop]; omega) | (simp only [List.length_eraseIdx]; split <;> omega)) (by first | omega | (simp only [List.length_append, List.length_nil, List.length_take, List.length_drop]; omega) | (simp only [List.length_eraseIdx]; split <;> omega)) rfl) ?_
      refine c_p (v := .pointer (some (ad4.add ((((k : Nat) : Int)).toNat * 3 + 0)))) (d := 27) rfl rfl rfl (fun w' => ex_fieldAddr fo116_0 rfl (add_add _ _ _)) ?_
      refine c_q (v := .int .i64 x4.Key) (d := 28) rfl rfl rfl (fun w' hG => ex_load ca3 rfl (hG.cell (H.cell0 (hc4 0 _ rfl)) id)) ?_
      refine c_p (v := .slice A xs.length c) (d := 29) rfl rfl rfl (fun w' => ex_move s0) ?_
      refine c_p (v := .int .i64 ((j : Nat) : Int)) (d := 30) rfl rfl rfl (fun w' => ex_move s7) ?_
      obtain ⟨ad5, x5, cs5, hA5, hx5, hR5, hc5⟩ := Row.get hX ((j : Nat) : Int) (by first | omega | (simp only [List.length_append, List.length_nil, List.length_take, List.length_drop]; omega) | (simp only [List.length_eraseIdx]; split <;> omega)) (by first | omega | (simp only [List.length_append, List.length_nil, List.length_take, List.length_drop]; omega) | (simp only [List.length_eraseIdx]; split <;> omega))
      obtain rfl := hR5
      refine c_p (v := .pointer (some (ad5.add ((((j : Nat) : Int)).toNat * 3)))) (d := 31) rfl rfl rfl (fun w' => ex_indexAddr sl42 rfl hA5 rfl (by first | omega | (simp only [List.length_append, List.length_nil, List.length_take, List.length_drop]; omega) | (simp only [List.length_eraseIdx]; split <;> omega)) (by first | omega | (simp only [List.length_append, List.length_nil, List.length_take, List.length_drop]; omega) | (simp only [List.length_eraseIdx]; split <;> omega)) rfl) ?_
      refine c_p (v := .pointer (some (ad5.add ((((j : Nat) : Int)).toNat * 3 + 0)))) (d := 32) rfl rfl rfl (fun w' => ex_fieldAddr fo116_0 rfl (add_add _ _ _)) ?_
      refine c_q (v := .int .i64 x5.Key) (d := 33) rfl rfl rfl (fun w' hG => ex_load ca3 rfl (hG.cell (H.cell0 (hc5 0 _ rfl)) id)) ?_
      refine c_l rfl (o_call (fv := []) (cap := []) (vs := [.int .i64 x4.Key, .int .i64 x5.Key]) rfl rfl cl84 rfl (bit_c x4.Key x5.Key _) fun v w6 hS => ?_)
      obtain ⟨rfl, hB⟩ := hS
      refine ⟨.inr (Below.agr hB), ?_⟩
      have H := H.keep hB
      refine c_p (v := .int .i64 (bitR (bXor .i64 x4.Key x5.Key))) (d := 8) rfl rfl rfl (fun w' => ex_assign rfl) ?_
      refine c_done ?_
      refine V_seq rfl ?_
      refine V_seq rfl ?_
      refine V_join (fun σ w => σ 0 = .slice A xs.length c ∧ σ 1 = .slice A1 keys.length c1 ∧ σ 4 = .slice none 0 0 ∧ σ 5 = .bool false ∧ σ 6 = .int .i64 ((k : Nat) : Int) ∧ σ 7 = .int .i64 ((j : Nat) : Int) ∧ σ 8 = .int .i64 (bitR (bXor .i64 x4.Key x5.Key)) ∧ σ 10 = .int .i64 ((k : Nat) : Int) ∧ σ 11 = .slice A xs.length c ∧ σ 12 = .int .i64 ((xs.length : Nat) : Int) ∧ σ 13 = .bool (decide (((k : Nat) : Int) < ((xs.length : Nat) : Int))) ∧ σ 16 = .int .i64 ((k : Nat) : Int) ∧ σ 17 = .int .i64 (((k : Nat) : Int) + 1) ∧ σ 18 = .int .i64 ((j : Nat) : Int) ∧ σ 19 = .slice A xs.length c ∧ σ 20 = .int .i64 ((xs.length : Nat) : Int) ∧ σ 21 = .bool (decide (((j : Nat) : Int) < ((xs.length : Nat) : Int))) ∧ σ 24 = .slice A xs.length c ∧ σ 25 = .int .i64 ((k : Nat) : Int) ∧ σ 26 = .pointer (some (ad4.add ((((k : Nat) : Int)).toNat * 3))) ∧ σ 27 = .pointer (some (ad4.add ((((k : Nat) : Int)).toNat * 3 + 0))) ∧ σ 28 = .int .i64 x4.Key ∧ σ 29 = .slice A xs.length c ∧ σ 30 = .int .i64 ((j : Nat) : Int) ∧ σ 31 = .pointer (some (ad5.add ((((j : Nat) : Int)).toNat * 3))) ∧ σ 32 = .pointer (some (ad5.add ((((j : Nat) : Int)).toNat * 3 + 0))) ∧ σ 33 = .int .i64 x5.Key ∧ σ 34 = .int .i64 (bitR (bXor .i64 x4.Key x5.Key)) ∧ σ 35 = .slice A xs.length c ∧ σ 36 = .int .i64 ((k : Nat) : Int) ∧ σ 37 = .pointer (some (ad4.add ((((k : Nat) : Int)).toNat * 3))) ∧ σ 38 = .pointer (some (ad4.add ((((k : Nat) : Int)).toNat * 3 + 1))) ∧ σ 39 = .int .i64 x4.Mask ∧ σ 40 = .slice A xs.length c ∧ σ 41 = .int .i64 ((j : Nat) : Int) ∧ σ 42 = .pointer (some (ad5.add ((((j : Nat) : Int)).toNat * 3))) ∧ σ 43 = .pointer (some (ad5.add ((((j : Nat) : Int)).toNat * 3 + 1))) ∧ σ 44 = .int .i64 x5.Mask ∧ σ 45 = .bool (decide (x4.Mask ≠ x5.Mask)) ∧ σ 46 = .bool (decide (x4.Mask ≠ x5.Mask)) ∧ σ 58 = .bool (decide ((x4.Mask ≠ x5.Mask) ∨ (x4.Outs ≠ x5.Outs))) ∧ σ 59 = .bool (decide ((x4.Mask ≠ x5.Mask) ∨ (x4.Outs ≠ x5.Outs))) ∧ σ 62 = .bool (decide (((x4.Mask ≠ x5.Mask) ∨ (x4.Outs ≠ x5.Outs)) ∨ ((bitR (bXor .i64 x4.Key x5.Key)) = 0))) ∧ σ 1000000 = undef ∧ Hp w0.heap.size w0 w []) ?_ (fun σ w hI => ?_)
      · skip
        refine V_draw [0, 1, 2, 3, 5, 6, 7, 8, 10, 11, 12, 13, 14, 15, 17, 18, 19, 20, 22, 23, 24, 25, 26, 27] (.p 0 (.p 1 (.p 2 (.p 3 (.q 4 (.p 5 (.p 6 (.p 7 (.p 8 (.q 9 (.p 10 (.p 11 (.p 12 (.p 13 (.p 14 (.p 15 (.q 16 (.p 17 (.p 18 (.p 19 (.p 20 (.q 21 (.p 22 (.p 23 (.p 24 (.p 25 (.p 26 (.p 27 .done)))))))))))))))))))))))))))) (fun _ => False) rfl mixed (by kernel_rfl) fun w7 hD => ?_
        have H := H.drew hD
        refine c_p (v := .slice A xs.length c) (d := 35) rfl rfl rfl (fun w' => ex_move s0) ?_
        refine c_p (v := .int .i64 ((k : Nat) : Int)) (d := 36) rfl rfl rfl (fun w' => ex_move s6) ?_
        refine c_p (v := .pointer (some (ad4.add ((((k : Nat) : Int)).toNat * 3)))) (d := 37) rfl rfl rfl (fun w' => ex_indexAddr sl42 rfl hA4 rfl (by first | omega | (simp only [List.length_append, List.length_nil, List.length_take, List.length_drop]; omega) | (simp only [List.length_eraseIdx]; split <;> omega)) (by first | omega | (simp only [List.length_append, List.length_nil, List.length_take, List.length_drop]; omega) | (simp only [List.length_eraseIdx]; split <;> omega)) rfl) ?_
        refine c_p (v := .pointer (some (ad4.add ((((k : Nat) : Int)).toNat * 3 + 1)))) (d := 38) rfl rfl rfl (fun w' => ex_fieldAddr fo116_1 rfl (add_add _ _ _)) ?_
        refine c_q (v := .int .i64 x4.Mask) (d := 39) rfl rfl rfl (fun w' hG => ex_load ca3 rfl (hG.cell (H.cell0 (hc4 1 _ rfl)) id)) ?_
        refine c_p (v := .slice A xs.length c) (d := 40) rfl rfl rfl (fun w' => ex_move s0) ?_
        refine c_p (v := .int .i64 ((j : Nat) : Int)) (d := 41) rfl rfl rfl (fun w' => ex_move s7) ?_
        refine c_p (v := .pointer (some (ad5.add ((((j : Nat) : Int)).toNat * 3)))) (d := 42) rfl rfl rfl (fun w' => ex_indexAddr sl42 rfl hA5 rfl (by first | omega | (simp only [List.length_append, List.length_nil, List.length_take, List.length_drop]; omega) | (simp only [List.length_eraseIdx]; split <;> omega)) (by first | omega | (simp only [List.length_append, List.length_nil, List.length_take, List.length_drop]; omega) | (simp only [List.length_eraseIdx]; split <;> omega)) rfl) ?_
        refine c_p (v := .pointer (some (ad5.add ((((j : Nat) : Int)).toNat * 3 + 1)))) (d := 43) rfl rfl rfl (fun w' => ex_fieldAddr fo116_1 rfl (add_add _ _ _)) ?_
        refine c_q (v := .int .i64 x5.Mask) (d := 44) rfl rfl rfl (fun w' hG => ex_load ca3 rfl (hG.cell (H.cell0 (hc5 1 _ rfl)) id)) ?_
        refine c_p (v := .bool (decide (x4.Mask ≠ x5.Mask))) (d := 45) rfl rfl rfl (fun w' => ex_neq rfl rfl) ?_
        refine c_p (v := .bool (decide (x4.Mask ≠ x5.Mask))) (d := 46) rfl rfl rfl (fun w' => ex_move rfl) ?_
        by_cases hg8 : x4.Mask ≠ x5.Mask
        · skip
          refine c_ps (d := 47) rfl rfl rfl (wanted_no (b := (decide (x4.Mask ≠ x5.Mask))) rfl rfl rfl (decide_eq_true hg8)) ?_
          refine c_ps (d := 48) rfl rfl rfl (wanted_no (b := (decide (x4.Mask ≠ x5.Mask))) rfl rfl rfl (decide_eq_true hg8)) ?_
          refine c_ps (d := 49) rfl rfl rfl (wanted_no (b := (decide (x4.Mask ≠ x5.Mask))) rfl rfl rfl (decide_eq_true hg8)) ?_
          refine c_ps (d := 50) rfl rfl rfl (wanted_no (b := (decide (x4.Mask ≠ x5.Mask))) rfl rfl rfl (decide_eq_true hg8)) ?_
          refine c_qs (d := 51) rfl rfl rfl (wanted_no (b := (decide (x4.Mask ≠ x5.Mask))) rfl rfl rfl (decide_eq_true hg8)) ?_
          refine c_ps (d := 52) rfl rfl rfl (wanted_no (b := (decide (x4.Mask ≠ x5.Mask))) rfl rfl rfl (decide_eq_true hg8)) ?_
          refine c_ps (d := 53) rfl rfl rfl (wanted_no (b := (decide (x4.Mask ≠ x5.Mask))) rfl rfl rfl (decide_eq_true hg8)) ?_
          refine c_ps (d := 54) rfl rfl rfl (wanted_no (b := (decide (x4.Mask ≠ x5.Mask))) rfl rfl rfl (decide_eq_true hg8)) ?_
          refine c_ps (d := 55) rfl rfl rfl (wanted_no (b := (decide (x4.Mask ≠ x5.Mask))) rfl rfl rfl (decide_eq_true hg8)) ?_
          refine c_qs (d := 56) rfl rfl rfl (wanted_no (b := (decide (x4.Mask ≠ x5.Mask))) rfl rfl rfl (decide_eq_true hg8)) ?_
          refine c_ps (d := 57) rfl rfl rfl (wanted_no (b := (decide (x4.Mask ≠ x5.Mask))) rfl rfl rfl (decide_eq_true hg8)) ?_
          refine c_p (v := .bool true) (d := 58) rfl rfl rfl (fun w' => ex_pick (q := (decide (x4.Mask ≠ x5.Mask))) rfl (fun h => rfl) (fun h => absurd hg8 (of_decide_eq_false h))) ?_
          refine c_p (v := .bool true) (d := 59) rfl rfl rfl (fun w' => ex_move rfl) ?_
          refine c_ps (d := 60) rfl rfl rfl (wanted_no (b := true) rfl rfl rfl rfl) ?_
          refine c_ps (d := 61) rfl rfl rfl (wanted_no (b := true) rfl rfl rfl rfl) ?_
          refine c_p (v := .bool true) (d := 62) rfl rfl rfl (fun w' => ex_pick (q := true) rfl (fun h => rfl) (fun h => by cases h)) ?_
          refine c_done ?_
          exact ⟨s0, s1, s4, s5, s6, s7, rfl, s10, s11, s12, s13, s16, s17, rfl, rfl, rfl, rfl, rfl, rfl, rfl, rfl, rfl, rfl, rfl, rfl, rfl, rfl, rfl, rfl, rfl, rfl, rfl, rfl, rfl, rfl, rfl, rfl, rfl, rfl, rfl, (show (.bool true : Value) = .bool (decide ((x4.Mask ≠ x5.Mask) ∨ (x4.Outs ≠ x5.Outs))) from by first | (simp only [hg8, true_or, or_true, false_or, or_false, true_and, and_true, false_and, and_false, decide_true, decide_false, Bool.not_true, Bool.not_false]; done) | (simp [hg8]; done) | (simp [hg8]; rfl)), (show (.bool true : Value) = .bool (decide ((x4.Mask ≠ x5.Mask) ∨ (x4.Outs ≠ x5.Outs))) from by first | (simp only [hg8, true_or, or_true, false_or, or_false, true_and, and_true, false_and, and_false, decide_true, decide_false, Bool.not_true, Bool.not_false]; done) | (simp [hg8]; done) | (simp [hg8]; rfl)), (show (.bool true : Value) = .bool (decide (((x4.Mask ≠ x5.Mask) ∨ (x4.Outs ≠ x5.Outs)) ∨ ((bitR (bXor .i64 x4.Key x5.Key)) = 0))) from by first | (simp only [hg8, true_or, or_true, false_or, or_false, true_and, and_true, false_and, and_false, decide_true, decide_false, Bool.not_true, Bool.not_false]; done) | (simp [hg8]; done) | (simp [hg8]; rfl)), s1000000, H⟩
        · skip
          refine c_pg (v := .slice A xs.length c) (d := 47) rfl rfl rfl (wanted_yes (b := (decide (x4.Mask ≠ x5.Mask))) rfl rfl rfl (decide_eq_false hg8)) (fun w' => ex_move s0) ?_
          refine c_pg (v := .int .i64 ((k : Nat) : Int)) (d := 48) rfl rfl rfl (wanted_yes (b := (decide (x4.Mask ≠ x5.Mask))) rfl rfl rfl (decide_eq_false hg8)) (fun w' => ex_move s6) ?_
          refine c_pg (v := .pointer (some (ad4.add ((((k : Nat) : Int)).toNat * 3)))) (d := 49) rfl rfl rfl (wanted_yes (b := (decide (x4.Mask ≠ x5.Mask))) rfl rfl rfl (decide_eq_false hg8)) (fun w' => ex_indexAddr sl42 rfl hA4 rfl (by first | omega | (simp only [List.length_append, List.length_nil, List.length_take, List.length_drop]; omega) | (simp only [List.length_eraseIdx]; split <;> omega)) (by first | omega | (simp only [List.length_append, List.length_nil, List.length_take, List.length_drop]; omega) | (simp only [List.length_eraseIdx]; split <;> omega)) rfl) ?_
          refine c_pg (v := .pointer (some (ad4.add ((((k : Nat) : Int)).toNat * 3 + 2)))) (d := 50) rfl rfl rfl (wanted_yes (b := (decide (x4.Mask ≠ x5.Mask))) rfl rfl rfl (decide_eq_false hg8)) (fun w' => ex_fieldAddr fo116_2 rfl (add_add _ _ _)) ?_
          refine c_qg (v := .int .i64 x4.Outs) (d := 51) rfl rfl rfl (wanted_yes (b := (decide (x4.Mask ≠ x5.Mask))) rfl rfl rfl (decide_eq_false hg8)) (fun w' hG => ex_load ca3 rfl (hG.cell (H.cell0 (hc4 2 _ rfl)) id)) ?_
          refine c_pg (v := .slice A xs.length c) (d := 52) rfl rfl rfl (wanted_yes (b := (decide (x4.Mask ≠ x5.Mask))) rfl rfl rfl (decide_eq_false hg8)) (fun w' => ex_move s0) ?_
          refine c_pg (v := .int .i64 ((j : Nat) : Int)) (d := 53) rfl rfl rfl (wanted_yes (b := (decide (x4.Mask ≠ x5.Mask))) rfl rfl rfl (decide_eq_false hg8)) (fun w' => ex_move s7) ?_
          refine c_pg (v := .pointer (some (ad5.add ((((j : Nat) : Int)).toNat * 3)))) (d := 54) rfl rfl rfl (wanted_yes (b := (decide (x4.Mask ≠ x5.Mask))) rfl rfl rfl (decide_eq_false hg8)) (fun w' => ex_indexAddr sl42 rfl hA5 rfl (by first | omega | (simp only [List.length_append, List.length_nil, List.length_take, List.length_drop]; omega) | (simp only [List.length_eraseIdx]; split <;> omega)) (by first | omega | (simp only [List.length_append, List.length_nil, List.length_take, List.length_drop]; omega) | (simp only [List.length_eraseIdx]; split <;> omega)) rfl) ?_
          refine c_pg (v := .pointer (some (ad5.add ((((j : Nat) : Int)).toNat * 3 + 2)))) (d := 55) rfl rfl rfl (wanted_yes (b := (decide (x4.Mask ≠ x5.Mask))) rfl rfl rfl (decide_eq_false hg8)) (fun w' => ex_fieldAddr fo116_2 rfl (add_add _ _ _)) ?_
          refine c_qg (v := .int .i64 x5.Outs) (d := 56) rfl rfl rfl (wanted_yes (b := (decide (x4.Mask ≠ x5.Mask))) rfl rfl rfl (decide_eq_false hg8)) (fun w' hG => ex_load ca3 rfl (hG.cell (H.cell0 (hc5 2 _ rfl)) id)) ?_
          refine c_pg (v := .bool (decide (x4.Outs ≠ x5.Outs))) (d := 57) rfl rfl rfl (wanted_yes (b := (decide (x4.Mask ≠ x5.Mask))) rfl rfl rfl (decide_eq_false hg8)) (fun w' => ex_neq rfl rfl) ?_
          refine c_p (v := .bool (decide (x4.Outs ≠ x5.Outs))) (d := 58) rfl rfl rfl (fun w' => ex_pick (q := (decide (x4.Mask ≠ x5.Mask))) rfl (fun h => absurd (of_decide_eq_true h) hg8) (fun h => rfl)) ?_
          refine c_p (v := .bool (decide (x4.Outs ≠ x5.Outs))) (d := 59) rfl rfl rfl (fun w' => ex_move rfl) ?_
          by_cases hg9 : x4.Outs ≠ x5.Outs
          · skip
            refine c_ps (d := 60) rfl rfl rfl (wanted_no (b := (decide (x4.Outs ≠ x5.Outs))) rfl rfl rfl (decide_eq_true hg9)) ?_
            refine c_ps (d := 61) rfl rfl rfl (wanted_no (b := (decide (x4.Outs ≠ x5.Outs))) rfl rfl rfl (decide_eq_true hg9)) ?_
            refine c_p (v := .bool true) (d := 62) rfl rfl rfl (fun w' => ex_pick (q := (decide (x4.Outs ≠ x5.Outs))) rfl (fun h => rfl) (fun h => absurd hg9 (of_decide_eq_false h))) ?_
            refine c_done ?_
            exact ⟨s0, s1, s4, s5, s6, s7, rfl, s10, s11, s12, s13, s16, s17, rfl, rfl, rfl, rfl, rfl, rfl, rfl, rfl, rfl, rfl, rfl, rfl, rfl, rfl, rfl, rfl, rfl, rfl, rfl, rfl, rfl, rfl, rfl, rfl, rfl, rfl, rfl, (show (.bool (decide (x4.Outs ≠ x5.Outs)) : Value) = .bool (decide ((x4.Mask ≠ x5.Mask) ∨ (x4.Outs ≠ x5.Outs))) from by first | (simp only [hg8, hg9, true_or, or_true, false_or, or_false, true_and, and_true, false_and, and_false, decide_true, decide_false, Bool.not_true, Bool.not_false]; done) | (simp [hg8, hg9]; done) | (simp [hg8, hg9]; rfl)), (show (.bool (decide (x4.Outs ≠ x5.Outs)) : Value) = .bool (decide ((x4.Mask ≠ x5.Mask) ∨ (x4.Outs ≠ x5.Outs))) from by first | (simp only [hg8, hg9, true_or, or_true, false_or, or_false, true_and, and_true, false_and, and_false, decide_true, decide_false, Bool.not_true, Bool.not_false]; done) | (simp [hg8, hg9]; done) | (simp [hg8, hg9]; rfl)), (show (.bool true : Value) = .bool (decide (((x4.Mask ≠ x5.Mask) ∨ (x4.Outs ≠ x5.Outs)) ∨ ((bitR (bXor .i64 x4.Key x5.Key)) = 0))) from by first | (simp only [hg8, hg9, true_or, or_true, false_or, or_false, true_and, and_true, false_and, and_false, decide_true, decide_false, Bool.not_true, Bool.not_false]; done) | (simp [hg8, hg9]; done) | (simp [hg8, hg9]; rfl)), s1000000, H⟩
          · skip
            refine c_pg (v := .int .i64 (bitR (bXor .i64 x4.Key x5.Key))) (d := 60) rfl rfl rfl (wanted_yes (b := (decide (x4.Outs ≠ x5.Outs))) rfl rfl rfl (decide_eq_false hg9)) (fun w' => ex_move rfl) ?_
            refine c_pg (v := .bool (decide ((bitR (bXor .i64 x4.Key x5.Key)) = 0))) (d := 61) rfl rfl rfl (wanted_yes (b := (decide (x4.Outs ≠ x5.Outs))) rfl rfl rfl (decide_eq_false hg9)) (fun w' => ex_eql rfl rfl) ?_
            refine c_p (v := .bool (decide ((bitR (bXor .i64 x4.Key x5.Key)) = 0))) (d := 62) rfl rfl rfl (fun w' => ex_pick (q := (decide (x4.Outs ≠ x5.Outs))) rfl (fun h => absurd (of_decide_eq_true h) hg9) (fun h => rfl)) ?_
            refine c_done ?_
            exact ⟨s0, s1, s4, s5, s6, s7, rfl, s10, s11, s12, s13, s16, s17, rfl, rfl, rfl, rfl, rfl, rfl, rfl, rfl, rfl, rfl, rfl, rfl, rfl, rfl, rfl, rfl, rfl, rfl, rfl, rfl, rfl, rfl, rfl, rfl, rfl, rfl, rfl, (show (.bool (decide (x4.Outs ≠ x5.Outs)) : Value) = .bool (decide ((x4.Mask ≠ x5.Mask) ∨ (x4.Outs ≠ x5.Outs))) from by first | (simp only [hg8, hg9, true_or, or_true, false_or, or_false, true_and, and_true, false_and, and_false, decide_true, decide_false, Bool.not_true, Bool.not_false]; done) | (simp [hg8, hg9]; done) | (simp [hg8, hg9]; rfl)), (show (.bool (decide (x4.Outs ≠ x5.Outs)) : Value) = .bool (decide ((x4.Mask ≠ x5.Mask) ∨ (x4.Outs ≠ x5.Outs))) from by first | (simp only [hg8, hg9, true_or, or_true, false_or, or_false, true_and, and_true, false_and, and_false, decide_true, decide_false, Bool.not_true, Bool.not_false]; done) | (simp [hg8, hg9]; done) | (simp [hg8, hg9]; rfl)), (show (.bool (decide ((bitR (bXor .i64 x4.Key x5.Key)) = 0)) : Value) = .bool (decide (((x4.Mask ≠ x5.Mask) ∨ (x4.Outs ≠ x5.Outs)) ∨ ((bitR (bXor .i64 x4.Key x5.Key)) = 0))) from by first | (simp only [hg8, hg9, true_or, or_true, false_or, or_false, true_and, and_true, false_and, and_false, decide_true, decide_false, Bool.not_true, Bool.not_false]; done) | (simp [hg8, hg9]; done) | (simp [hg8, hg9]; rfl)), s1000000, H⟩
      obtain ⟨s0, s1, s4, s5, s6, s7, s8, s10, s11, s12, s13, s16, s17, s18, s19, s20, s21, s24, s25, s26, s27, s28, s29, s30, s31, s32, s33, s34, s35, s36, s37, s38, s39, s40, s41, s42, s43, s44, s45, s46, s58, s59, s62, s1000000, H⟩ := hI
      refine V_cond (b := (decide (((x4.Mask ≠ x5.Mask) ∨ (x4.Outs ≠ x5.Outs)) ∨ ((bitR (bXor .i64 x4.Key x5.Key)) = 0)))) rfl s62 (fun hb10 => ?_) (fun hb10 => ?_)
      · have hb10 : ((x4.Mask ≠ x5.Mask) ∨ (x4.Outs ≠ x5.Outs)) ∨ ((bitR (bXor .i64 x4.Key x5.Key)) = 0) := of_decide_eq_true hb10
        have hcan : noJoin x4 x5 := hb10
        refine V_exit rfl ?_
        refine V_region rfl ?_
        refine Rg_op rfl (o_val (v := .int .i64 ((j : Nat) : Int)) (d := 22) rfl rfl (ex_move s7) ?_)
        refine Rg_op rfl (o_val (v := .int .i64 (((j : Nat) : Int) + 1)) (d := 23) rfl rfl (ex_add rfl rfl (by omega)) ?_)
        refine Rg_op rfl (o_val (v := .int .i64 (((j : Nat) : Int) + 1)) (d := 7) rfl rfl (ex_assign rfl) ?_)
        refine Rg_end ?_
        exact ⟨j + 1, ⟨s0, s1, s4, s5, s6, rfl, s10, s11, s12, s13, s16, s17, s1000000, H, by omega, by omega, lt_next hin (cand2R_no1 hx4 hx5 hcan)⟩, by omega⟩
      · have hb10 : ¬ (((x4.Mask ≠ x5.Mask) ∨ (x4.Outs ≠ x5.Outs)) ∨ ((bitR (bXor .i64 x4.Key x5.Key)) = 0)) := of_decide_eq_false hb10
        have hcan : ¬ noJoin x4 x5 := hb10
        refine V_skip rfl ?_
        refine V_seq rfl ?_
        refine V_region rfl ?_
        refine Rg_op rfl (o_lit (cs := []) (e := 116) rfl (fun W => by kernel_rfl) H fun b11 w12 hA H => ?_)
        refine Rg_op rfl (o_val (v := .slice A xs.length c) (d := 64) rfl rfl (ex_move s0) ?_)
        refine Rg_op rfl (o_val (v := .int .i64 ((j : Nat) : Int)) (d := 65) rfl rfl (ex_move s7) ?_)
        refine Rg_op rfl (o_val (v := .slice A ((List.take (((j : Nat) : Int)).toNat xs).length) c) (d := 66) rfl rfl (ex_sliceH sl42 rfl rfl (by omega) (by omega) (by simp only [List.length_take, List.length_drop] <;> omega)) ?_)
        have H := H.pull 0 rfl rfl
        have H := own_lit0 (D := kEnt) H
        have H := H.pull 0 rfl rfl
        refine Rg_op rfl (o_append (ys := (List.take (((j : Nat) : Int)).toNat xs)) (ts := #[]) rfl sl42 rfl rfl rfl H ((row_take hX (((j : Nat) : Int)).toNat).mono (fun _ _ h => H.cell0 h)) (by first | omega | (simp only [List.length_append, List.length_nil, List.length_take, List.length_drop]; omega)) (by first | omega | (simp only [List.length_append, List.length_nil, List.length_take, List.length_drop]; omega)) fun A14 c15 w16 hA H => ?_)
        refine Rg_op rfl (o_val (v := .slice A14 (([] ++ (List.take (((j : Nat) : Int)).toNat xs)).length) c15) (d := 9) rfl rfl (ex_assign rfl) ?_)
        refine Rg_end ?_
        refine V_seq rfl ?_
        refine V_region rfl ?_
        refine Rg_op rfl (o_val (v := .slice A14 (([] ++ (List.take (((j : Nat) : Int)).toNat xs)).length) c15) (d := 68) rfl rfl (ex_move rfl) ?_)
        refine Rg_op rfl (o_val (v := .slice A xs.length c) (d := 69) rfl rfl (ex_move s0) ?_)
        refine Rg_op rfl (o_val (v := .int .i64 ((j : Nat) : Int)) (d := 70) rfl rfl (ex_move s7) ?_)
        refine Rg_op rfl (o_val (v := .int .i64 (((j : Nat) : Int) + 1)) (d := 71) rfl rfl (ex_add rfl rfl (by omega)) ?_)
        refine Rg_op rfl (o_val (v := .slice (cutA A c (((j : Nat) : Int) + 1).toNat 3) ((List.drop (((j : Nat) : Int) + 1).toNat xs).length) (c - (((j : Nat) : Int) + 1).toNat)) (d := 72) rfl rfl (ex_sliceL sl42 rfl rfl (by omega) (by omega) (by simp only [List.length_take, List.length_drop] <;> omega)) ?_)
        have H := H.pull 0 rfl rfl
        refine Rg_op rfl (o_append (ys := (List.drop (((j : Nat) : Int) + 1).toNat xs)) (ts := #[]) rfl sl42 rfl rfl rfl H ((row_drop hX (cap := c) (by omega) (((j : Nat) : Int) + 1).toNat).mono (fun _ _ h => H.cell0 h)) (by first | omega | (simp only [List.length_append, List.length_nil, List.length_take, List.length_drop]; omega)) (by first | omega | (simp only [List.length_append, List.length_nil, List.length_take, List.length_drop]; omega)) fun A18 c19 w20 hA H => ?_)
        refine Rg_op rfl (o_val (v := .slice A18 (([] ++ (List.take (((j : Nat) : Int)).toNat xs) ++ (List.drop (((j : Nat) : Int) + 1).toNat xs)).length) c19) (d := 9) rfl rfl (ex_assign rfl) ?_)
        refine Rg_end ?_
        refine V_seq rfl ?_
        refine V_draw [0, 1, 2, 3, 4, 5, 7, 8, 9, 10, 11, 12, 14, 15, 16, 17, 18, 19, 21, 22] (.p 0 (.p 1 (.p 2 (.p 3 (.p 4 (.p 5 (.q 6 (.p 7 (.p 8 (.p 9 (.p 10 (.p 11 (.p 12 (.q 13 (.p 14 (.p 15 (.p 16 (.p 17 (.p 18 (.p 19 (.q 20 (.p 21 (.p 22 (.l 23 .done)))))))))))))))))))))))) (fun _ => False) rfl mixed (by kernel_rfl) fun w22 hD => ?_
        have H := H.drew hD
        have hle9 : ([] ++ List.take ((j : Nat) : Int).toNat xs ++ List.drop (((j : Nat) : Int) + 1).toNat xs).length = (xs.eraseIdx j).length := by rw [List.eraseIdx_eq_take_drop_succ]; try rfl
        have e9 : [] ++ (List.take (((j : Nat) : Int)).toNat xs) ++ (List.drop (((j : Nat) : Int) + 1).toNat xs) = xs.eraseIdx j := (List.eraseIdx_eq_take_drop_succ xs j).symm
        rw [e9] at H
        refine c_p (v := .slice A18 (([] ++ (List.take (((j : Nat) : Int)).toNat xs) ++ (List.drop (((j : Nat) : Int) + 1).toNat xs)).length) c19) (d := 74) rfl rfl rfl (fun w' => ex_move rfl) ?_
        refine c_p (v := .int .i64 ((k : Nat) : Int)) (d := 75) rfl rfl rfl (fun w' => ex_move s6) ?_
        refine c_p (v := .slice A xs.length c) (d := 76) rfl rfl rfl (fun w' => ex_move s0) ?_
        refine c_p (v := .int .i64 ((k : Nat) : Int)) (d := 77) rfl rfl rfl (fun w' => ex_move s6) ?_
        refine c_p (v := .pointer (some (ad4.add ((((k : Nat) : Int)).toNat * 3)))) (d := 78) rfl rfl rfl (fun w' => ex_indexAddr sl42 rfl hA4 rfl (by first | omega | (simp only [List.length_append, List.length_nil, List.length_take, List.length_drop]; omega) | (simp only [List.length_eraseIdx]; split <;> omega)) (by first | omega | (simp only [List.length_append, List.length_nil, List.length_take, List.length_drop]; omega) | (simp only [List.length_eraseIdx]; split <;> omega)) rfl) ?_
        refine c_p (v := .pointer (some (ad4.add ((((k : Nat) : Int)).toNat * 3 + 0)))) (d := 79) rfl rfl rfl (fun w' => ex_fieldAddr fo116_0 rfl (add_add _ _ _)) ?_
        refine c_q (v := .int .i64 x4.Key) (d := 80) rfl rfl rfl (fun w' hG => ex_load ca3 rfl (hG.cell (H.cell0 (hc4 0 _ rfl)) id)) ?_
        refine c_p (v := .int .i64 (bitR (bXor .i64 x4.Key x5.Key))) (d := 81) rfl rfl rfl (fun w' => ex_move s8) ?_
        refine c_p (v := .int .i64 (bAndNot .i64 x4.Key (bitR (bXor .i64 x4.Key x5.Key)))) (d := 82) rfl rfl rfl (fun w' => ex_andNot rfl rfl) ?_
        refine c_p (v := .slice A xs.length c) (d := 83) rfl rfl rfl (fun w' => ex_move s0) ?_
        refine c_p (v := .int .i64 ((k : Nat) : Int)) (d := 84) rfl rfl rfl (fun w' => ex_move s6) ?_
        refine c_p (v := .pointer (some (ad4.add ((((k : Nat) : Int)).toNat * 3)))) (d := 85) rfl rfl rfl (fun w' => ex_indexAddr sl42 rfl hA4 rfl (by first | omega | (simp only [List.length_append, List.length_nil, List.length_take, List.length_drop]; omega) | (simp only [List.length_eraseIdx]; split <;> omega)) (by first | omega | (simp only [List.length_append, List.length_nil, List.length_take, List.length_drop]; omega) | (simp only [List.length_eraseIdx]; split <;> omega)) rfl) ?_
        refine c_p (v := .pointer (some (ad4.add ((((k : Nat) : Int)).toNat * 3 + 1)))) (d := 86) rfl rfl rfl (fun w' => ex_fieldAddr fo116_1 rfl (add_add _ _ _)) ?_
        refine c_q (v := .int .i64 x4.Mask) (d := 87) rfl rfl rfl (fun w' hG => ex_load ca3 rfl (hG.cell (H.cell0 (hc4 1 _ rfl)) id)) ?_
        refine c_p (v := .int .i64 (bitR (bXor .i64 x4.Key x5.Key))) (d := 88) rfl rfl rfl (fun w' => ex_move s8) ?_
        refine c_p (v := .int .i64 (bAndNot .i64 x4.Mask (bitR (bXor .i64 x4.Key x5.Key)))) (d := 89) rfl rfl rfl (fun w' => ex_andNot rfl rfl) ?_
        refine c_p (v := .slice A xs.length c) (d := 90) rfl rfl rfl (fun w' => ex_move s0) ?_
        refine c_p (v := .int .i64 ((k : Nat) : Int)) (d := 91) rfl rfl rfl (fun w' => ex_move s6) ?_
        refine c_p (v := .pointer (some (ad4.add ((((k : Nat) : Int)).toNat * 3)))) (d := 92) rfl rfl rfl (fun w' => ex_indexAddr sl42 rfl hA4 rfl (by first | omega | (simp only [List.length_append, List.length_nil, List.length_take, List.length_drop]; omega) | (simp only [List.length_eraseIdx]; split <;> omega)) (by first | omega | (simp only [List.length_append, List.length_nil, List.length_take, List.length_drop]; omega) | (simp only [List.length_eraseIdx]; split <;> omega)) rfl) ?_
        refine c_p (v := .pointer (some (ad4.add ((((k : Nat) : Int)).toNat * 3 + 2)))) (d := 93) rfl rfl rfl (fun w' => ex_fieldAddr fo116_2 rfl (add_add _ _ _)) ?_
        refine c_q (v := .int .i64 x4.Outs) (d := 94) rfl rfl rfl (fun w' hG => ex_load ca3 rfl (hG.cell (H.cell0 (hc4 2 _ rfl)) id)) ?_
        refine c_p (v := .agg #[.int .i64 (bAndNot .i64 x4.Key (bitR (bXor .i64 x4.Key x5.Key))), .int .i64 (bAndNot .i64 x4.Mask (bitR (bXor .i64 x4.Key x5.Key))), .int .i64 x4.Outs]) (d := 95) rfl rfl rfl (fun w' => ex_eq (by kernel_rfl)) ?_
        have hr23 := (own_row (H.pull 0 rfl rfl)).1
        obtain ⟨ad24, x24, cs24, hA24, hx24, hR24, hc24⟩ := Row.get hr23 ((k : Nat) : Int) (by first | omega | (simp only [List.length_append, List.length_nil, List.length_take, List.length_drop]; omega) | (simp only [List.length_eraseIdx]; split <;> omega)) (by first | omega | (simp only [List.length_append, List.length_nil, List.length_take, List.length_drop]; omega) | (simp only [List.length_eraseIdx]; split <;> omega))
        obtain rfl := hR24
        refine c_p (v := .pointer (some (ad24.add ((((k : Nat) : Int)).toNat * 3)))) (d := 96) rfl rfl rfl (fun w' => ex_indexAddr sl42 rfl hA24 rfl (by first | omega | (simp only [List.length_append, List.length_nil, List.length_take, List.length_drop]; omega) | (simp only [List.length_eraseIdx]; split <;> omega)) (by first | omega | (simp only [List.length_append, List.length_nil, List.length_take, List.length_drop]; omega) | (simp only [List.length_eraseIdx]; split <;> omega)) rfl) ?_
        have H := H.pull 0 rfl rfl
        refine c_l rfl (o_set (vs := [.int .i64 (bAndNot .i64 x4.Key (bitR (bXor .i64 x4.Key x5.Key))), .int .i64 (bAndNot .i64 x4.Mask (bitR (bXor .i64 x4.Key x5.Key))), .int .i64 x4.Outs]) (x1 := (⟨bAndNot .i64 x4.Key (bitR (bXor .i64 x4.Key x5.Key)), bAndNot .i64 x4.Mask (bitR (bXor .i64 x4.Key x5.Key)), x4.Outs⟩ : Entry)) (i := (((k : Nat) : Int)).toNat) (off := 0) rfl ts116 hA24 rfl rfl rfl rfl hx24 rfl rfl H fun w25 hA H => ⟨.inl (by kernel_rfl), ?_⟩)
        refine c_done ?_
        refine V_seq rfl ?_
        refine V_region rfl ?_
        refine Rg_op rfl (o_val (v := .slice A xs.length c) (d := 97) rfl rfl (ex_move s0) ?_)
        refine Rg_op rfl (o_val (v := .slice A18 (([] ++ (List.take (((j : Nat) : Int)).toNat xs) ++ (List.drop (((j : Nat) : Int) + 1).toNat xs)).length) c19) (d := 98) rfl rfl (ex_move rfl) ?_)
        refine Rg_op rfl (o_val (v := .slice A1 keys.length c1) (d := 99) rfl rfl (ex_move s1) ?_)
        refine Rg_op rfl (o_call (fv := []) (cap := []) (vs := [.slice A xs.length c, .slice A18 (([] ++ (List.take (((j : Nat) : Int)).toNat xs) ++ (List.drop (((j : Nat) : Int) + 1).toNat xs)).length) c19, .slice A1 keys.length c1]) rfl rfl cl85 rfl (by have hh := sameR_c A c xs A18 c19 (((xs.eraseIdx j)).set ((((k : Nat) : Int)).toNat) (⟨bAndNot .i64 x4.Key (bitR (bXor .i64 x4.Key x5.Key)), bAndNot .i64 x4.Mask (bitR (bXor .i64 x4.Key x5.Key)), x4.Outs⟩ : Entry)) A1 c1 keys _ (hX.mono (fun _ _ h => H.cell0 h)) (by omega) (own_row (H.pull 0 rfl rfl)).1 (by rw [List.length_set, List.length_eraseIdx]; split <;> omega) (hK.mono (fun _ _ h => H.cell0 h)) (by omega); rw [List.length_set, ← hle9] at hh; exact hh) fun v w26 hS => ?_)
        obtain ⟨rfl, hB⟩ := hS
        have H := H.keep hB
        refine Rg_end ?_
        refine V_cond (b := (decide (foundOf keys xs = foundOf keys (((xs.eraseIdx j)).set ((((k : Nat) : Int)).toNat) (⟨bAndNot .i64 x4.Key (bitR (bXor .i64 x4.Key x5.Key)), bAndNot .i64 x4.Mask (bitR (bXor .i64 x4.Key x5.Key)), x4.Outs⟩ : Entry))))) rfl rfl (fun hb27 => ?_) (fun hb27 => ?_)
        · have hb27 : foundOf keys xs = foundOf keys (((xs.eraseIdx j)).set ((((k : Nat) : Int)).toNat) (⟨bAndNot .i64 x4.Key (bitR (bXor .i64 x4.Key x5.Key)), bAndNot .i64 x4.Mask (bitR (bXor .i64 x4.Key x5.Key)), x4.Outs⟩ : Entry)) := of_decide_eq_true hb27
          have hsame : sameR keys xs ((xs.eraseIdx j).set k (joinR2 x4 x5)) = true := decide_eq_true hb27
          refine V_seq rfl ?_
          refine V_region rfl ?_
          refine Rg_op rfl (o_val (v := .slice A18 (([] ++ (List.take (((j : Nat) : Int)).toNat xs) ++ (List.drop (((j : Nat) : Int) + 1).toNat xs)).length) c19) (d := 101) rfl rfl (ex_move rfl) ?_)
          refine Rg_op rfl (o_val (v := .slice A18 (([] ++ (List.take (((j : Nat) : Int)).toNat xs) ++ (List.drop (((j : Nat) : Int) + 1).toNat xs)).length) c19) (d := 4) rfl rfl (ex_assign rfl) ?_)
          refine Rg_op rfl (o_val (v := .bool true) (d := 5) rfl rfl (ex_assign rfl) ?_)
          refine Rg_end ?_
          have hjo := step_at hkl (by omega) (cand2R_yes hkj hx4 hx5 hcan hsame) hin hall
          refine V_ret rfl (end0 (v := .tuple #[.slice A18 (([] ++ (List.take (((j : Nat) : Int)).toNat xs) ++ (List.drop (((j : Nat) : Int) + 1).toNat xs)).length) c19, .bool true]) s1000000 (res_tmp2 Try.results56 rfl rfl) ?_)
          exact .inl ⟨_, _, _, hjo, by rw [List.length_set, hle9], H.below, H.give⟩
        · have hb27 : ¬ (foundOf keys xs = foundOf keys (((xs.eraseIdx j)).set ((((k : Nat) : Int)).toNat) (⟨bAndNot .i64 x4.Key (bitR (bXor .i64 x4.Key x5.Key)), bAndNot .i64 x4.Mask (bitR (bXor .i64 x4.Key x5.Key)), x4.Outs⟩ : Entry))) := of_decide_eq_false hb27
          have hsame : sameR keys xs ((xs.eraseIdx j).set k (joinR2 x4 x5)) = false := decide_eq_false hb27
          refine V_skip rfl ?_
          refine V_region rfl ?_
          refine Rg_op rfl (o_val (v := .int .i64 ((j : Nat) : Int)) (d := 22) rfl rfl (ex_move s7) ?_)
          refine Rg_op rfl (o_val (v := .int .i64 (((j : Nat) : Int) + 1)) (d := 23) rfl rfl (ex_add rfl rfl (by omega)) ?_)
          refine Rg_op rfl (o_val (v := .int .i64 (((j : Nat) : Int) + 1)) (d := 7) rfl rfl (ex_assign rfl) ?_)
          refine Rg_end ?_
          exact ⟨j + 1, ⟨s0, s1, s4, s5, s6, rfl, s10, s11, s12, s13, s16, s17, s1000000, (Hp.drop (Hp.pull 0 rfl rfl H)), by omega, by omega, lt_next hin (cand2R_no2 hx4 hx5 hsame)⟩, by omega⟩
    · have hb2 : ¬ (((j : Nat) : Int) < ((xs.length : Nat) : Int)) := of_decide_eq_false hb2
      refine V_exit rfl ?_
      refine V_region rfl ?_
      refine Rg_op rfl (o_val (v := .int .i64 ((k : Nat) : Int)) (d := 14) rfl rfl (ex_move s6) ?_)
      refine Rg_op rfl (o_val (v := .int .i64 (((k : Nat) : Int) + 1)) (d := 15) rfl rfl (ex_add rfl rfl (by omega)) ?_)
      refine Rg_op rfl (o_val (v := .int .i64 (((k : Nat) : Int) + 1)) (d := 6) rfl rfl (ex_assign rfl) ?_)
      refine Rg_end ?_
      exact ⟨k + 1, ⟨s0, s1, s4, s5, rfl, s1000000, H, by omega, lt_next hall (range_none fun b hb => hin b (by omega))⟩, by omega⟩
  · have hb1 : ¬ (((k : Nat) : Int) < ((xs.length : Nat) : Int)) := of_decide_eq_false hb1
    refine V_exit rfl ?_
    refine V_seq rfl ?_
    refine V_region rfl ?_
    refine Rg_op rfl (o_val (v := .slice A xs.length c) (d := 102) rfl rfl (ex_move s0) ?_)
    refine Rg_op rfl (o_val (v := .slice A xs.length c) (d := 4) rfl rfl (ex_assign rfl) ?_)
    refine Rg_op rfl (o_val (v := .bool false) (d := 5) rfl rfl (ex_assign rfl) ?_)
    refine Rg_end ?_
    refine V_ret rfl (end0 (v := .tuple #[.slice A xs.length c, .bool false]) s1000000 (res_tmp2 Try.results56 rfl rfl) ?_)
    exact .inr ⟨step_no (fun a ha => hall a (by omega)), rfl, H.below⟩

/-- step, over a row of one's own. -/
theorem step_s {wb w0 : World} {L : List SA} {A : Option Addr} {c : Nat} {xs : List Entry} (H : Hp wb.heap.size wb w0 (SA.own kEnt 116 A c xs :: L)) (keys : List Int) (A1 : Option Addr) (c1 : Nat) (hK : Row kInt w0.cell? A1 keys) (hl : xs.length ≤ 100000) (hkk : keys.length ≤ 100000) :
    Calls Try.prog 56 #[.slice A xs.length c, .slice A1 keys.length c1] w0 fun e w' => ∃ v, e = .returned v ∧ (∃ A' c', v = .tuple #[.slice A' (stepR xs keys).length c', .bool (stepO xs keys).isSome] ∧ Hp wb.heap.size wb w' (SA.own kEnt 116 A' c' (stepR xs keys) :: L)) := by
  refine (step_c A c xs A1 c1 keys w0 (own_row H).1 hl (own_row H).2.1 hK hkk).mono fun e w' ⟨v, he, h⟩ => ⟨v, he, ?_⟩
  rcases h with ⟨t, A', c', hj, rfl, hB, hN⟩ | ⟨hj, rfl, hB⟩
  · exact ⟨A', c', by simp only [stepR, hj, Option.getD_some, Option.isSome_some], by simp only [stepR, hj, Option.getD_some]; exact ((H.new hB hN).pull 1 rfl rfl).drop⟩
  · exact ⟨A, c, by simp only [stepR, hj, Option.getD_none, Option.isSome_none], by simp only [stepR, hj, Option.getD_none]; exact H.keep hB⟩

theorem mergeR_c (A : Option Addr) (c : Nat) (xs : List Entry) (A1 : Option Addr) (c1 : Nat) (keys : List Int) (w0 : World) (hX : Row kEnt w0.cell? A xs) (hl : xs.length ≤ 100000) (hK : Row kInt w0.cell? A1 keys) (hkl : keys.length ≤ 100000) :
    Calls Try.prog 18 #[.slice A xs.length c, .slice A1 keys.length c1] w0 fun e w' => ∃ v, e = .returned v ∧ (∃ A' c', v = .tuple #[.slice A' (mergeRP xs keys).1.length c', .int .i64 (mergeRP xs keys).2] ∧ Below w0.heap.size w0 w' ∧ New (SA.own kEnt 116 A' c' (mergeRP xs keys).1) w0 w') := by
  refine calls_of (n := 59) (l := [.slice A xs.length c, .slice A1 keys.length c1]) Try.func18 rfl rfl rfl ?_
  have H := Hp.start w0
  refine V_seq rfl ?_
  refine V_region rfl ?_
  refine Rg_op rfl (o_val (v := .slice none 0 0) (d := 4) rfl rfl (ex_assign rfl) ?_)
  refine Rg_op rfl (o_val (v := .int .i64 0) (d := 5) rfl rfl (ex_assign rfl) ?_)
  refine Rg_end ?_
  refine V_seq rfl ?_
  refine V_seq rfl ?_
  refine V_join (fun σ w => σ 0 = .slice A xs.length c ∧ σ 1 = .slice A1 keys.length c1 ∧ σ 4 = .slice none 0 0 ∧ σ 5 = .int .i64 0 ∧ σ 17 = .bool (decide ((1024 < ((xs.length : Nat) : Int)) ∨ (1024 < ((keys.length : Nat) : Int)))) ∧ σ 1000000 = undef ∧ Hp w0.heap.size w0 w []) ?_ (fun σ w hI => ?_)
  · skip
    refine V_region rfl ?_
    refine Rg_op rfl (o_val (v := .slice A xs.length c) (d := 10) rfl rfl (ex_move rfl) ?_)
    refine Rg_op rfl (o_val (v := .int .i64 ((xs.length : Nat) : Int)) (d := 11) rfl rfl (ex_len (ts := #[]) sl42 rfl) ?_)
    refine Rg_op rfl (o_val (v := .bool (decide (1024 < ((xs.length : Nat) : Int)))) (d := 12) rfl rfl (ex_gtr rfl rfl) ?_)
    refine Rg_op rfl (o_val (v := .bool (decide (1024 < ((xs.length : Nat) : Int)))) (d := 13) rfl rfl (ex_move rfl) ?_)
    by_cases hg1 : 1024 < ((xs.length : Nat) : Int)
    · skip
      refine Rg_op rfl (o_skip (d := 14) rfl rfl (wanted_no (b := (decide (1024 < ((xs.length : Nat) : Int)))) rfl rfl rfl (decide_eq_true hg1)) ?_)
      refine Rg_op rfl (o_skip (d := 15) rfl rfl (wanted_no (b := (decide (1024 < ((xs.length : Nat) : Int)))) rfl rfl rfl (decide_eq_true hg1)) ?_)
      refine Rg_op rfl (o_skip (d := 16) rfl rfl (wanted_no (b := (decide (1024 < ((xs.length : Nat) : Int)))) rfl rfl rfl (decide_eq_true hg1)) ?_)
      refine Rg_op rfl (o_val (v := .bool true) (d := 17) rfl rfl (ex_pick (q := (decide (1024 < ((xs.length : Nat) : Int)))) rfl (fun h => rfl) (fun h => absurd hg1 (of_decide_eq_false h))) ?_)
      refine Rg_end ?_
      exact ⟨rfl, rfl, rfl, rfl, (show (.bool true : Value) = .bool (decide ((1024 < ((xs.length : Nat) : Int)) ∨ (1024 < ((keys.length : Nat) : Int)))) from by first | (simp only [hg1, true_or, or_true, false_or, or_false, true_and, and_true, false_and, and_false, decide_true, decide_false, Bool.not_true, Bool.not_false]; done) | (simp [hg1]; done) | (simp [hg1]; rfl)), rfl, H⟩
    · skip
      refine Rg_op rfl (o_valg (v := .slice A1 keys.length c1) (d := 14) rfl rfl (wanted_yes (b := (decide (1024 < ((xs.length : Nat) : Int)))) rfl rfl rfl (decide_eq_false hg1)) (ex_move rfl) ?_)
      refine Rg_op rfl (o_valg (v := .int .i64 ((keys.length : Nat) : Int)) (d := 15) rfl rfl (wanted_yes (b := (decide (1024 < ((xs.length : Nat) : Int)))) rfl rfl rfl (decide_eq_false hg1)) (ex_len (ts := #[]) sl26 rfl) ?_)
      refine Rg_op rfl (o_valg (v := .bool (decide (1024 < ((keys.length : Nat) : Int)))) (d := 16) rfl rfl (wanted_yes (b := (decide (1024 < ((xs.length : Nat) : Int)))) rfl rfl rfl (decide_eq_false hg1)) (ex_gtr rfl rfl) ?_)
      refine Rg_op rfl (o_val (v := .bool (decide (1024 < ((keys.length : Nat) : Int)))) (d := 17) rfl rfl (ex_pick (q := (decide (1024 < ((xs.length : Nat) : Int)))) rfl (fun h => absurd (of_decide_eq_true h) hg1) (fun h => rfl)) ?_)
      refine Rg_end ?_
      exact ⟨rfl, rfl, rfl, rfl, (show (.bool (decide (1024 < ((keys.length : Nat) : Int))) : Value) = .bool (decide ((1024 < ((xs.length : Nat) : Int)) ∨ (1024 < ((keys.length : Nat) : Int)))) from by first | (simp only [hg1, true_or, or_true, false_or, or_false, true_and, and_true, false_and, and_false, decide_true, decide_false, Bool.not_true, Bool.not_false]; done) | (simp [hg1]; done) | (simp [hg1]; rfl)), rfl, H⟩
  obtain ⟨s0, s1, s4, s5, s17, s1000000, H⟩ := hI
  refine V_cond (b := (decide ((1024 < ((xs.length : Nat) : Int)) ∨ (1024 < ((keys.length : Nat) : Int))))) rfl s17 (fun hb2 => ?_) (fun hb2 => ?_)
  · have hb2 : (1024 < ((xs.length : Nat) : Int)) ∨ (1024 < ((keys.length : Nat) : Int)) := of_decide_eq_true hb2
    refine V_seq rfl ?_
    refine V_region rfl ?_
    refine Rg_op rfl (o_val (v := .slice none 0 0) (d := 4) rfl rfl (ex_assign rfl) ?_)
    refine Rg_op rfl (o_val (v := .int .i64 9) (d := 5) rfl rfl (ex_assign rfl) ?_)
    refine Rg_end ?_
    have H := own_nil H kEnt 116
    have hmp : mergeRP xs keys = ([], 9) := by simp only [mergeRP]; (repeat' split) <;> first | contradiction | rfl | (simp_all; done) | skip
    refine V_ret rfl (end0 (v := .tuple #[.slice none 0 0, .int .i64 9]) s1000000 (res_tmp2 Try.results18 rfl rfl) ?_)
    exact ⟨none, 0, by rw [hmp]; try rfl, H.below, by rw [hmp]; exact H.give⟩
  · have hb2 : ¬ ((1024 < ((xs.length : Nat) : Int)) ∨ (1024 < ((keys.length : Nat) : Int))) := of_decide_eq_false hb2
    refine V_skip rfl ?_
    refine V_seq rfl ?_
    refine V_seq rfl ?_
    refine V_region rfl ?_
    refine Rg_op rfl (o_val (v := .int .i64 0) (d := 6) rfl rfl (ex_assign rfl) ?_)
    refine Rg_end ?_
    refine V_block rfl ?_
    refine V_loop rfl (γ := Nat) (fun k σ w => σ 0 = .slice A xs.length c ∧ σ 1 = .slice A1 keys.length c1 ∧ σ 4 = .slice none 0 0 ∧ σ 5 = .int .i64 0 ∧ σ 6 = .int .i64 ((k : Nat) : Int) ∧ σ 1000000 = undef ∧ Hp w0.heap.size w0 w [] ∧ k ≤ xs.length ∧ (∀ y ∈ xs.take k, (!decide (entR y)) = false)) (fun k => xs.length - k) (0) ⟨s0, s1, s4, s5, rfl, s1000000, H, by omega, by simp⟩ (fun k σ w hI => ?_)
    obtain ⟨s0, s1, s4, s5, s6, s1000000, H, hkk, hallk⟩ := hI
    refine V_seq rfl ?_
    refine V_seq rfl ?_
    refine V_region rfl ?_
    refine Rg_op rfl (o_val (v := .int .i64 ((k : Nat) : Int)) (d := 18) rfl rfl (ex_move s6) ?_)
    refine Rg_op rfl (o_val (v := .slice A xs.length c) (d := 19) rfl rfl (ex_move s0) ?_)
    refine Rg_op rfl (o_val (v := .int .i64 ((xs.length : Nat) : Int)) (d := 20) rfl rfl (ex_len (ts := #[]) sl42 rfl) ?_)
    refine Rg_op rfl (o_val (v := .bool (decide (((k : Nat) : Int) < ((xs.length : Nat) : Int)))) (d := 21) rfl rfl (ex_lss rfl rfl) ?_)
    refine Rg_end ?_
    refine V_cond (b := (decide (((k : Nat) : Int) < ((xs.length : Nat) : Int)))) rfl rfl (fun hb4 => ?_) (fun hb4 => ?_)
    · have hb4 : ((k : Nat) : Int) < ((xs.length : Nat) : Int) := of_decide_eq_true hb4
      refine V_skip rfl ?_
      refine V_seq rfl ?_
      refine V_block rfl ?_
      refine V_seq rfl ?_
      refine V_region rfl ?_
      refine Rg_op rfl (o_val (v := .slice A xs.length c) (d := 24) rfl rfl (ex_move s0) ?_)
      refine Rg_op rfl (o_val (v := .int .i64 ((k : Nat) : Int)) (d := 25) rfl rfl (ex_move s6) ?_)
      obtain ⟨ad5, x5, cs5, hA5, hx5, hR5, hc5⟩ := Row.get hX ((k : Nat) : Int) (by omega) (by omega)
      obtain rfl := hR5
      refine Rg_op rfl (o_val (v := .pointer (some (ad5.add ((((k : Nat) : Int)).toNat * 3)))) (d := 26) rfl rfl (ex_indexAddr sl42 rfl hA5 rfl (by omega) (by omega) rfl) ?_)
      refine Rg_op rfl (o_val (v := .agg #[.int .i64 x5.Key, .int .i64 x5.Mask, .int .i64 x5.Outs]) (d := 27) rfl rfl (ex_loadN (vs := [.int .i64 x5.Key, .int .i64 x5.Mask, .int .i64 x5.Outs]) ca116 rfl rfl (fun j u hj => by rw [add_add]; exact H.cell0 (hc5 j u hj))) ?_)
      refine Rg_op rfl (o_call (fv := []) (cap := []) (vs := [.agg #[.int .i64 x5.Key, .int .i64 x5.Mask, .int .i64 x5.Outs]]) rfl rfl cl55 rfl (validR_c x5 _) fun v w6 hS => ?_)
      obtain ⟨rfl, hB⟩ := hS
      have H := H.keep hB
      refine Rg_op rfl (o_val (v := .bool (!decide (entR x5))) (d := 29) rfl rfl (ex_not rfl) ?_)
      refine Rg_end ?_
      refine V_cond (b := (!decide (entR x5))) rfl rfl (fun hb7 => ?_) (fun hb7 => ?_)
      · skip
        have hanyx := any_at (p := fun x => !decide (entR x)) hx5 hb7
        refine V_seq rfl ?_
        refine V_region rfl ?_
        refine Rg_op rfl (o_val (v := .slice none 0 0) (d := 4) rfl rfl (ex_assign rfl) ?_)
        refine Rg_op rfl (o_val (v := .int .i64 2) (d := 5) rfl rfl (ex_assign rfl) ?_)
        refine Rg_end ?_
        have H := own_nil H kEnt 116
        have hmp : mergeRP xs keys = ([], 2) := by simp only [mergeRP]; (repeat' split) <;> first | contradiction | rfl | (simp_all; done) | skip
        refine V_ret rfl (end0 (v := .tuple #[.slice none 0 0, .int .i64 2]) s1000000 (res_tmp2 Try.results18 rfl rfl) ?_)
        exact ⟨none, 0, by rw [hmp]; try rfl, H.below, by rw [hmp]; exact H.give⟩
      · skip
        have hbx := hb7
        refine V_skip rfl ?_
        refine V_region rfl ?_
        refine Rg_op rfl (o_val (v := .int .i64 ((k : Nat) : Int)) (d := 22) rfl rfl (ex_move s6) ?_)
        refine Rg_op rfl (o_val (v := .int .i64 (((k : Nat) : Int) + 1)) (d := 23) rfl rfl (ex_add rfl rfl (by omega)) ?_)
        refine Rg_op rfl (o_val (v := .int .i64 (((k : Nat) : Int) + 1)) (d := 6) rfl rfl (ex_assign rfl) ?_)
        refine Rg_end ?_
        exact ⟨k + 1, ⟨s0, s1, s4, s5, rfl, s1000000, H, by omega, take_all hallk hx5 (by simpa using hbx)⟩, by omega⟩
    · have hb4 : ¬ (((k : Nat) : Int) < ((xs.length : Nat) : Int)) := of_decide_eq_false hb4
      have hanyx := any_no (p := fun x => !decide (entR x)) (take_full hallk (by omega))
      refine V_exit rfl ?_
      refine V_seq rfl ?_
      refine V_seq rfl ?_
      refine V_region rfl ?_
      refine Rg_op rfl (o_val (v := .int .i64 0) (d := 7) rfl rfl (ex_assign rfl) ?_)
      refine Rg_end ?_
      refine V_block rfl ?_
      refine V_loop rfl (γ := Nat) (fun j σ w => σ 0 = .slice A xs.length c ∧ σ 1 = .slice A1 keys.length c1 ∧ σ 4 = .slice none 0 0 ∧ σ 5 = .int .i64 0 ∧ σ 7 = .int .i64 ((j : Nat) : Int) ∧ σ 1000000 = undef ∧ Hp w0.heap.size w0 w [] ∧ j ≤ keys.length ∧ (∀ y ∈ keys.take j, decide (y < 0 ∨ 65535 < y) = false)) (fun j => keys.length - j) (0) ⟨s0, s1, s4, s5, rfl, s1000000, H, by omega, by simp⟩ (fun j σ w hI => ?_)
      obtain ⟨s0, s1, s4, s5, s7, s1000000, H, hkj, hallj⟩ := hI
      refine V_seq rfl ?_
      refine V_seq rfl ?_
      refine V_region rfl ?_
      refine Rg_op rfl (o_val (v := .int .i64 ((j : Nat) : Int)) (d := 30) rfl rfl (ex_move s7) ?_)
      refine Rg_op rfl (o_val (v := .slice A1 keys.length c1) (d := 31) rfl rfl (ex_move s1) ?_)
      refine Rg_op rfl (o_val (v := .int .i64 ((keys.length : Nat) : Int)) (d := 32) rfl rfl (ex_len (ts := #[]) sl26 rfl) ?_)
      refine Rg_op rfl (o_val (v := .bool (decide (((j : Nat) : Int) < ((keys.length : Nat) : Int)))) (d := 33) rfl rfl (ex_lss rfl rfl) ?_)
      refine Rg_end ?_
      refine V_cond (b := (decide (((j : Nat) : Int) < ((keys.length : Nat) : Int)))) rfl rfl (fun hb9 => ?_) (fun hb9 => ?_)
      · have hb9 : ((j : Nat) : Int) < ((keys.length : Nat) : Int) := of_decide_eq_true hb9
        refine V_skip rfl ?_
        refine V_seq rfl ?_
        refine V_block rfl ?_
        refine V_seq rfl ?_
        obtain ⟨ad10, x10, cs10, hA10, hx10, hR10, hc10⟩ := Row.get hK ((j : Nat) : Int) (by omega) (by omega)
        obtain rfl := hR10
        refine V_join (fun σ w => σ 0 = .slice A xs.length c ∧ σ 1 = .slice A1 keys.length c1 ∧ σ 4 = .slice none 0 0 ∧ σ 5 = .int .i64 0 ∧ σ 7 = .int .i64 ((j : Nat) : Int) ∧ σ 30 = .int .i64 ((j : Nat) : Int) ∧ σ 31 = .slice A1 keys.length c1 ∧ σ 32 = .int .i64 ((keys.length : Nat) : Int) ∧ σ 33 = .bool (decide (((j : Nat) : Int) < ((keys.length : Nat) : Int))) ∧ σ 36 = .slice A1 keys.length c1 ∧ σ 37 = .int .i64 ((j : Nat) : Int) ∧ σ 38 = .pointer (some (ad10.add ((((j : Nat) : Int)).toNat * 1))) ∧ σ 39 = .int .i64 x10 ∧ σ 40 = .bool (decide (x10 < 0)) ∧ σ 41 = .bool (decide (x10 < 0)) ∧ σ 47 = .bool (decide ((x10 < 0) ∨ (65535 < x10))) ∧ σ 1000000 = undef ∧ Hp w0.heap.size w0 w []) ?_ (fun σ w hI => ?_)
        · skip
          refine V_region rfl ?_
          refine Rg_op rfl (o_val (v := .slice A1 keys.length c1) (d := 36) rfl rfl (ex_move s1) ?_)
          refine Rg_op rfl (o_val (v := .int .i64 ((j : Nat) : Int)) (d := 37) rfl rfl (ex_move s7) ?_)
          refine Rg_op rfl (o_val (v := .pointer (some (ad10.add ((((j : Nat) : Int)).toNat * 1)))) (d := 38) rfl rfl (ex_indexAddr sl26 rfl hA10 rfl (by omega) (by omega) rfl) ?_)
          refine Rg_op rfl (o_val (v := .int .i64 x10) (d := 39) rfl rfl (ex_load ca3 rfl (H.cell0 (hc10 0 _ rfl))) ?_)
          refine Rg_op rfl (o_val (v := .bool (decide (x10 < 0))) (d := 40) rfl rfl (ex_lss rfl rfl) ?_)
          refine Rg_op rfl (o_val (v := .bool (decide (x10 < 0))) (d := 41) rfl rfl (ex_move rfl) ?_)
          by_cases hg11 : x10 < 0
          · skip
            refine Rg_op rfl (o_skip (d := 42) rfl rfl (wanted_no (b := (decide (x10 < 0))) rfl rfl rfl (decide_eq_true hg11)) ?_)
            refine Rg_op rfl (o_skip (d := 43) rfl rfl (wanted_no (b := (decide (x10 < 0))) rfl rfl rfl (decide_eq_true hg11)) ?_)
            refine Rg_op rfl (o_skip (d := 44) rfl rfl (wanted_no (b := (decide (x10 < 0))) rfl rfl rfl (decide_eq_true hg11)) ?_)
            refine Rg_op rfl (o_skip (d := 45) rfl rfl (wanted_no (b := (decide (x10 < 0))) rfl rfl rfl (decide_eq_true hg11)) ?_)
            refine Rg_op rfl (o_skip (d := 46) rfl rfl (wanted_no (b := (decide (x10 < 0))) rfl rfl rfl (decide_eq_true hg11)) ?_)
            refine Rg_op rfl (o_val (v := .bool true) (d := 47) rfl rfl (ex_pick (q := (decide (x10 < 0))) rfl (fun h => rfl) (fun h => absurd hg11 (of_decide_eq_false h))) ?_)
            refine Rg_end ?_
            exact ⟨s0, s1, s4, s5, s7, rfl, rfl, rfl, rfl, rfl, rfl, rfl, rfl, rfl, rfl, (show (.bool true : Value) = .bool (decide ((x10 < 0) ∨ (65535 < x10))) from by first | (simp only [hg11, true_or, or_true, false_or, or_false, true_and, and_true, false_and, and_false, decide_true, decide_false, Bool.not_true, Bool.not_false]; done) | (simp [hg11]; done) | (simp [hg11]; rfl)), s1000000, H⟩
          · skip
            refine Rg_op rfl (o_valg (v := .slice A1 keys.length c1) (d := 42) rfl rfl (wanted_yes (b := (decide (x10 < 0))) rfl rfl rfl (decide_eq_false hg11)) (ex_move s1) ?_)
            refine Rg_op rfl (o_valg (v := .int .i64 ((j : Nat) : Int)) (d := 43) rfl rfl (wanted_yes (b := (decide (x10 < 0))) rfl rfl rfl (decide_eq_false hg11)) (ex_move s7) ?_)
            refine Rg_op rfl (o_valg (v := .pointer (some (ad10.add ((((j : Nat) : Int)).toNat * 1)))) (d := 44) rfl rfl (wanted_yes (b := (decide (x10 < 0))) rfl rfl rfl (decide_eq_false hg11)) (ex_indexAddr sl26 rfl hA10 rfl (by omega) (by omega) rfl) ?_)
            refine Rg_op rfl (o_valg (v := .int .i64 x10) (d := 45) rfl rfl (wanted_yes (b := (decide (x10 < 0))) rfl rfl rfl (decide_eq_false hg11)) (ex_load ca3 rfl (H.cell0 (hc10 0 _ rfl))) ?_)
            refine Rg_op rfl (o_valg (v := .bool (decide (65535 < x10))) (d := 46) rfl rfl (wanted_yes (b := (decide (x10 < 0))) rfl rfl rfl (decide_eq_false hg11)) (ex_gtr rfl rfl) ?_)
            refine Rg_op rfl (o_val (v := .bool (decide (65535 < x10))) (d := 47) rfl rfl (ex_pick (q := (decide (x10 < 0))) rfl (fun h => absurd (of_decide_eq_true h) hg11) (fun h => rfl)) ?_)
            refine Rg_end ?_
            exact ⟨s0, s1, s4, s5, s7, rfl, rfl, rfl, rfl, rfl, rfl, rfl, rfl, rfl, rfl, (show (.bool (decide (65535 < x10)) : Value) = .bool (decide ((x10 < 0) ∨ (65535 < x10))) from by first | (simp only [hg11, true_or, or_true, false_or, or_false, true_and, and_true, false_and, and_false, decide_true, decide_false, Bool.not_true, Bool.not_false]; done) | (simp [hg11]; done) | (simp [hg11]; rfl)), s1000000, H⟩
        obtain ⟨s0, s1, s4, s5, s7, s30, s31, s32, s33, s36, s37, s38, s39, s40, s41, s47, s1000000, H⟩ := hI
        refine V_cond (b := (decide ((x10 < 0) ∨ (65535 < x10)))) rfl s47 (fun hb12 => ?_) (fun hb12 => ?_)
        · have hb12 : (x10 < 0) ∨ (65535 < x10) := of_decide_eq_true hb12
          have hanyk := any_at (p := fun x => decide (x < 0 ∨ 65535 < x)) hx10 (decide_eq_true hb12)
          refine V_seq rfl ?_
          refine V_region rfl ?_
          refine Rg_op rfl (o_val (v := .slice none 0 0) (d := 4) rfl rfl (ex_assign rfl) ?_)
          refine Rg_op rfl (o_val (v := .int .i64 3) (d := 5) rfl rfl (ex_assign rfl) ?_)
          refine Rg_end ?_
          have H := own_nil H kEnt 116
          have hmp : mergeRP xs keys = ([], 3) := by simp only [mergeRP]; (repeat' split) <;> first | contradiction | rfl | (simp_all; done) | skip
          refine V_ret rfl (end0 (v := .tuple #[.slice none 0 0, .int .i64 3]) s1000000 (res_tmp2 Try.results18 rfl rfl) ?_)
          exact ⟨none, 0, by rw [hmp]; try rfl, H.below, by rw [hmp]; exact H.give⟩
        · have hb12 : ¬ ((x10 < 0) ∨ (65535 < x10)) := of_decide_eq_false hb12
          refine V_skip rfl ?_
          refine V_region rfl ?_
          refine Rg_op rfl (o_val (v := .int .i64 ((j : Nat) : Int)) (d := 34) rfl rfl (ex_move s7) ?_)
          refine Rg_op rfl (o_val (v := .int .i64 (((j : Nat) : Int) + 1)) (d := 35) rfl rfl (ex_add rfl rfl (by omega)) ?_)
          refine Rg_op rfl (o_val (v := .int .i64 (((j : Nat) : Int) + 1)) (d := 7) rfl rfl (ex_assign rfl) ?_)
          refine Rg_end ?_
          exact ⟨j + 1, ⟨s0, s1, s4, s5, rfl, s1000000, H, by omega, take_all hallj hx10 (decide_eq_false (by assumption))⟩, by omega⟩
      · have hb9 : ¬ (((j : Nat) : Int) < ((keys.length : Nat) : Int)) := of_decide_eq_false hb9
        have hanyk := any_no (p := fun x => decide (x < 0 ∨ 65535 < x)) (take_full hallj (by omega))
        refine V_exit rfl ?_
        refine V_seq rfl ?_
        refine V_region rfl ?_
        refine Rg_op rfl (o_lit (cs := []) (e := 116) rfl (fun W => by kernel_rfl) H fun b14 w15 hA H => ?_)
        refine Rg_op rfl (o_val (v := .slice A xs.length c) (d := 49) rfl rfl (ex_move s0) ?_)
        have H := H.pull 0 rfl rfl
        have H := own_lit0 (D := kEnt) H
        have H := H.pull 0 rfl rfl
        refine Rg_op rfl (o_append (ys := xs) (ts := #[]) rfl sl42 rfl rfl rfl H (hX.mono (fun _ _ h => H.cell0 h)) (by first | omega | (simp only [List.length_append, List.length_cons, List.length_nil, List.length_map, List.length_take]; omega)) (by first | omega | (simp only [List.length_append, List.length_cons, List.length_nil, List.length_map, List.length_take]; omega)) fun A17 c18 w19 hA H => ?_)
        refine Rg_op rfl (o_val (v := .slice A17 (([] ++ xs).length) c18) (d := 8) rfl rfl (ex_assign rfl) ?_)
        refine Rg_end ?_
        refine V_seq rfl ?_
        refine V_seq rfl ?_
        refine V_region rfl ?_
        refine Rg_op rfl (o_val (v := .bool true) (d := 9) rfl rfl (ex_assign rfl) ?_)
        refine Rg_end ?_
        refine V_block rfl ?_
        refine V_loop rfl (γ := List Entry × Bool) (fun g σ w => ∃ (Ao : Option Addr) (co : Nat), σ 1 = .slice A1 keys.length c1 ∧ σ 4 = .slice none 0 0 ∧ σ 5 = .int .i64 0 ∧ σ 8 = .slice Ao g.1.length co ∧ σ 9 = .bool g.2 ∧ σ 1000000 = undef ∧ Hp w0.heap.size w0 w [SA.own kEnt 116 Ao co g.1] ∧ g.1.length ≤ 1024 ∧ mergeRN keys g.1.length g.1 = mergeRN keys xs.length xs ∧ (g.2 = false → stepO g.1 keys = none)) (fun g => 2 * g.1.length + (if g.2 then 1 else 0)) ((xs, true)) ⟨A17, c18, s1, s4, s5, rfl, rfl, s1000000, H, by simpa using (by omega : xs.length ≤ 1024), rfl, fun h => by cases h⟩ (fun g σ w hI => ?_)
        obtain ⟨Ao, co, hI⟩ := hI
        obtain ⟨s1, s4, s5, s8, s9, s1000000, H, hgl, hgm, hgo⟩ := hI
        refine V_seq rfl ?_
        refine V_seq rfl ?_
        refine V_region rfl ?_
        refine Rg_op rfl (o_val (v := .bool g.2) (d := 51) rfl rfl (ex_move s9) ?_)
        refine Rg_end ?_
        refine V_cond (b := g.2) rfl rfl (fun hb21 => ?_) (fun hb21 => ?_)
        · skip
          refine V_skip rfl ?_
          refine V_block rfl ?_
          refine V_region rfl ?_
          refine Rg_op rfl (o_val (v := .slice Ao g.1.length co) (d := 53) rfl rfl (ex_move s8) ?_)
          refine Rg_op rfl (o_val (v := .slice A1 keys.length c1) (d := 54) rfl rfl (ex_move s1) ?_)
          refine Rg_op rfl (o_call (fv := []) (cap := []) (vs := [.slice Ao g.1.length co, .slice A1 keys.length c1]) rfl rfl cl56 rfl (step_s H keys _ _ (hK.mono (fun _ _ h => H.cell0 h)) (by omega) (by omega)) fun v w24 hS => ?_)
          obtain ⟨A22, c23, rfl, H⟩ := hS
          refine Rg_op rfl (o_val (v := .tuple #[.slice A22 ((stepR g.1 keys).length) c23, .bool ((stepO g.1 keys).isSome)]) (d := 52) rfl rfl (ex_move rfl) ?_)
          refine Rg_op rfl (o_val (v := .slice A22 ((stepR g.1 keys).length) c23) (d := 56) rfl rfl (ex_extract rfl rfl) ?_)
          refine Rg_op rfl (o_val (v := .bool ((stepO g.1 keys).isSome)) (d := 57) rfl rfl (ex_extract rfl rfl) ?_)
          refine Rg_op rfl (o_val (v := .slice A22 ((stepR g.1 keys).length) c23) (d := 8) rfl rfl (ex_assign rfl) ?_)
          refine Rg_op rfl (o_val (v := .bool ((stepO g.1 keys).isSome)) (d := 9) rfl rfl (ex_assign rfl) ?_)
          refine Rg_end ?_
          exact ⟨(stepR g.1 keys, (stepO g.1 keys).isSome), ⟨A22, c23, s1, s4, s5, rfl, rfl, s1000000, H, stepR_len hgl, stepR_inv hgm, stepR_out⟩, stepR_less (by assumption)⟩
        · skip
          have hdone := hb21
          refine V_exit rfl ?_
          refine V_seq rfl ?_
          refine V_region rfl ?_
          refine Rg_op rfl (o_val (v := .slice Ao g.1.length co) (d := 58) rfl rfl (ex_move s8) ?_)
          refine Rg_op rfl (o_val (v := .slice Ao g.1.length co) (d := 4) rfl rfl (ex_assign rfl) ?_)
          refine Rg_op rfl (o_val (v := .int .i64 0) (d := 5) rfl rfl (ex_assign rfl) ?_)
          refine Rg_end ?_
          have hg2 : g.2 = false := by simpa using hdone
          have hmp : mergeRP xs keys = (g.1, 0) := by simp only [mergeRP]; rw [if_neg (by omega), if_neg hanyx, if_neg hanyk, ← hgm, mergeRN_none (hgo hg2)]
          refine V_ret rfl (end0 (v := .tuple #[.slice Ao g.1.length co, .int .i64 0]) s1000000 (res_tmp2 Try.results18 rfl rfl) ?_)
          exact ⟨_, _, by rw [hmp]; try rfl, H.below, by rw [hmp]; exact H.give⟩

end Go.Proofs.Ytlnogaoihkinbaa
namespace Go.Proofs.Ytlnogaoihkinbaa
open Go.Gk Go.RowKit
theorem coord {s : Spec} (h : chk s = 0) {x y : Int} (h0 : 0 ≤ x) (h1 : x < s.Wide) : (y * s.Wide + x) % s.Wide = x ∧ (y * s.Wide + x) / s.Wide = y := by
  have := chk_ok h
  constructor
  · rw [Int.add_comm, Int.add_mul_emod_self_right, Int.emod_eq_of_lt h0 h1]
  · rw [Int.add_comm, Int.add_mul_ediv_right _ _ (by omega), Int.ediv_eq_zero_of_lt h0 h1, Int.zero_add]
theorem whole {s : Spec} (r : Int) : r / s.Wide * s.Wide + r % s.Wide = r := by
  rw [Int.mul_comm]; exact Int.mul_ediv_add_emod r s.Wide
theorem inR_of {s : Spec} (h : chk s = 0) {x y : Int} (h0 : 0 ≤ x) (h1 : x < s.Wide) (h2 : 0 ≤ y) (h3 : y < s.High) : 0 ≤ y * s.Wide + x ∧ y * s.Wide + x < s.Wide * s.High := by
  have := chk_ok h
  have a := Int.mul_nonneg h2 (show 0 ≤ s.Wide by omega)
  have b : (y + 1) * s.Wide ≤ s.High * s.Wide := Int.mul_le_mul_of_nonneg_right (by omega) (by omega)
  rw [Int.add_mul, Int.one_mul, Int.mul_comm s.High] at b
  omega
/-- The next router on the way to another one. -/
def stepTo (s : Spec) (to r : Int) : Int := nextR s r (turn s r to)
theorem step_to {s : Spec} (h : chk s = 0) {r to : Int} (hr0 : 0 ≤ r) (hr1 : r < s.Wide * s.High) (ht0 : 0 ≤ to) (ht1 : to < s.Wide * s.High) (hne : r ≠ to) :
    (0 ≤ stepTo s to r ∧ stepTo s to r < s.Wide * s.High) ∧ dist s (stepTo s to r) to + 1 = dist s r to ∧ over s r (turn s r to) = stepTo s to r := by
  obtain ⟨a1, a2, a3, a4⟩ := cellb h hr0 hr1
  obtain ⟨b1, b2, b3, b4⟩ := cellb h ht0 ht1
  have hw := whole (s := s) r
  have hw2 := whole (s := s) to
  have key : ∀ (x y : Int), moved s r (turn s r to) = (x, y) → 0 ≤ x → x < s.Wide → 0 ≤ y → y < s.High →
      max (x - to % s.Wide) (to % s.Wide - x) + max (y - to / s.Wide) (to / s.Wide - y) + 1 = dist s r to → over s r (turn s r to) = y * s.Wide + x → (0 ≤ stepTo s to r ∧ stepTo s to r < s.Wide * s.High) ∧ dist s (stepTo s to r) to + 1 = dist s r to ∧ over s r (turn s r to) = stepTo s to r := by
    intro x y hm h0 h1 h2 h3 hd ho
    have e : stepTo s to r = y * s.Wide + x := by simp only [stepTo, nextR, hm]
    obtain ⟨c1, c2⟩ := coord h (y := y) h0 h1
    refine ⟨by rw [e]; exact inR_of h h0 h1 h2 h3, ?_, by rw [e, ho]⟩
    rw [← hd, e]
    simp only [dist, c1, c2]
  by_cases q1 : r % s.Wide < to % s.Wide
  · have et : turn s r to = 1 := by simp [turn, q1]
    refine key (r % s.Wide + 1) (r / s.Wide) (by simp [et, moved]) (by omega) (by omega) a3 a4 (by simp only [dist]; omega) ?_
    rw [et, over, if_pos ⟨rfl, by omega⟩]; omega
  · by_cases q2 : to % s.Wide < r % s.Wide
    · have et : turn s r to = 4 := by simp [turn, q1, q2]
      refine key (r % s.Wide - 1) (r / s.Wide) (by simp [et, moved]) (by omega) (by omega) a3 a4 (by simp only [dist]; omega) ?_
      rw [et, over, if_neg (by omega), if_neg (by omega), if_pos ⟨rfl, by omega⟩]; omega
    · by_cases q3 : r / s.Wide < to / s.Wide
      · have et : turn s r to = 2 := by simp [turn, q1, q2, q3]
        refine key (r % s.Wide) (r / s.Wide + 1) (by simp [et, moved]) a1 a2 (by omega) (by omega) (by simp only [dist]; omega) ?_
        rw [et, over, if_neg (by omega), if_pos ⟨rfl, by omega⟩, Int.add_mul, Int.one_mul]; omega
      · by_cases q4 : to / s.Wide < r / s.Wide
        · have et : turn s r to = 8 := by simp [turn, q1, q2, q3, q4]
          refine key (r % s.Wide) (r / s.Wide - 1) (by simp [et, moved]) a1 a2 (by omega) (by omega) (by simp only [dist]; omega) ?_
          rw [et, over, if_neg (by omega), if_neg (by omega), if_neg (by omega), if_pos ⟨rfl, by omega⟩, Int.sub_mul, Int.one_mul]; omega
        · exfalso
          apply hne
          rw [← hw, ← hw2, show r % s.Wide = to % s.Wide from by omega, show r / s.Wide = to / s.Wide from by omega]
def pathN (s : Spec) (to : Int) : Nat → Int → List Int
  | 0, r => [r]
  | n + 1, r => r :: pathN s to n (stepTo s to r)
/-- The routers of a route. -/
def path (s : Spec) (r to : Int) : List Int := pathN s to (dist s r to).toNat r
theorem dist_self (s : Spec) (r : Int) : dist s r r = 0 := by simp [dist]
theorem dist_nonneg (s : Spec) (a b : Int) : 0 ≤ dist s a b := by simp only [dist]; omega
theorem path_self (s : Spec) (r : Int) : path s r r = [r] := by rw [path, dist_self]; rfl
theorem path_step {s : Spec} (h : chk s = 0) {r to : Int} (hr0 : 0 ≤ r) (hr1 : r < s.Wide * s.High) (ht0 : 0 ≤ to) (ht1 : to < s.Wide * s.High) (hne : r ≠ to) : path s r to = r :: path s (stepTo s to r) to := by
  obtain ⟨_, hd, _⟩ := step_to h hr0 hr1 ht0 ht1 hne
  have := dist_nonneg s (stepTo s to r) to
  rw [path, path, show (dist s r to).toNat = (dist s (stepTo s to r) to).toNat + 1 from by omega]
  rfl
theorem path_len {s : Spec} (r to : Int) : (path s r to).length = (dist s r to).toNat + 1 := by
  have : ∀ n r, (pathN s to n r).length = n + 1 := by
    intro n
    induction n with
    | zero => intro r; rfl
    | succ n ih => intro r; rw [pathN, List.length_cons, ih]
  exact this _ _
theorem path_head (s : Spec) (r to : Int) : path s r to = r :: (path s r to).tail := by
  unfold path
  cases (dist s r to).toNat <;> rfl
end Go.Proofs.Ytlnogaoihkinbaa
