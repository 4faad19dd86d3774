/- Texts that the proof needs (part 4). -/
import Derived.Test.YtlnogaoihkinbaaMs3
set_option linter.unusedVariables false
set_option linter.unusedSimpArgs false
namespace Go.Proofs.Ytlnogaoihkinbaa
open Go.Gk Go.RowKit
theorem cl105 : callable Try.prog 105 = true := by kernel_rfl
theorem cl74 : callable Try.prog 74 = true := by kernel_rfl
theorem cl75 : callable Try.prog 75 = true := by kernel_rfl
theorem cl96 : callable Try.prog 96 = true := by kernel_rfl
theorem len64_c (n : Nat) (w0 : World) (hn : n < 65536) :
    Calls Try.prog 105 #[.int .u64 ((n : Nat) : Int)] w0 fun e w' => ∃ v, e = .returned v ∧ (v = .int .i64 ((Go.Sort.bitsLen n : Nat) : Int) ∧ Below w0.heap.size w0 w') := by
  refine calls_of (n := 25) (l := [.int .u64 ((n : Nat) : Int)]) Try.func105 rfl rfl rfl ?_
  have H := Hp.start w0
  refine V_seq rfl ?_
  refine V_region rfl ?_
  refine Rg_op rfl (o_val (v := .int .i64 0) (d := 2) rfl rfl (ex_assign rfl) ?_)
  refine Rg_end ?_
  refine V_seq rfl ?_
  refine V_seq rfl ?_
  refine V_region rfl ?_
  refine Rg_op rfl (o_val (v := .int .u64 ((n : Nat) : Int)) (d := 3) rfl rfl (ex_move rfl) ?_)
  refine Rg_op rfl (o_val (v := .bool (decide (4294967296 ≤ ((n : Nat) : Int)))) (d := 4) rfl rfl (ex_geq rfl rfl) ?_)
  refine Rg_end ?_
  have hb : ¬ (4294967296 ≤ ((n : Nat) : Int)) := by omega
  refine V_cond (b := (decide (4294967296 ≤ ((n : Nat) : Int)))) rfl rfl (fun h => absurd (of_decide_eq_true h) hb) (fun _ => ?_)
  refine V_skip rfl ?_
  refine V_seq rfl ?_
  refine V_seq rfl ?_
  refine V_region rfl ?_
  refine Rg_op rfl (o_val (v := .int .u64 ((n : Nat) : Int)) (d := 7) rfl rfl (ex_move rfl) ?_)
  refine Rg_op rfl (o_val (v := .bool (decide (65536 ≤ ((n : Nat) : Int)))) (d := 8) rfl rfl (ex_geq rfl rfl) ?_)
  refine Rg_end ?_
  have hb : ¬ (65536 ≤ ((n : Nat) : Int)) := by omega
  refine V_cond (b := (decide (65536 ≤ ((n : Nat) : Int)))) rfl rfl (fun h => absurd (of_decide_eq_true h) hb) (fun _ => ?_)
  refine V_skip rfl ?_
  refine V_seq rfl ?_
  refine V_seq rfl ?_
  refine V_region rfl ?_
  refine Rg_op rfl (o_val (v := .int .u64 ((n : Nat) : Int)) (d := 13) rfl rfl (ex_move rfl) ?_)
  refine Rg_op rfl (o_val (v := .bool (decide (256 ≤ ((n : Nat) : Int)))) (d := 14) rfl rfl (ex_geq rfl rfl) ?_)
  refine Rg_end ?_
  refine V_cond (b := (decide (256 ≤ ((n : Nat) : Int)))) rfl rfl (fun hb1 => ?_) (fun hb1 => ?_)
  · have hb1 : 256 ≤ ((n : Nat) : Int) := of_decide_eq_true hb1
    refine V_seq rfl ?_
    refine V_region rfl ?_
    refine Rg_op rfl (o_val (v := .int .u64 ((n : Nat) : Int)) (d := 15) rfl rfl (ex_move rfl) ?_)
    refine Rg_op rfl (o_val (v := .int .u64 ((n / 256 : Nat) : Int)) (d := 16) rfl rfl ((ex_shr (j := 8) rfl rfl).trans (by rw [show min 8 IntKind.u64.bits = 8 from rfl, fdiv_nat (by omega)]; rfl)) ?_)
    refine Rg_op rfl (o_val (v := .int .u64 ((n / 256 : Nat) : Int)) (d := 0) rfl rfl (ex_assign rfl) ?_)
    refine Rg_end ?_
    refine V_region rfl ?_
    refine Rg_op rfl (o_val (v := .int .i64 0) (d := 17) rfl rfl (ex_move rfl) ?_)
    refine Rg_op rfl (o_val (v := .int .i64 (0 + 8)) (d := 18) rfl rfl (ex_add rfl rfl (by omega)) ?_)
    refine Rg_op rfl (o_val (v := .int .i64 (0 + 8)) (d := 2) rfl rfl (ex_assign rfl) ?_)
    refine Rg_end ?_
    refine V_seq rfl ?_
    refine V_region rfl ?_
    refine Rg_op rfl (o_val (v := .int .i64 (0 + 8)) (d := 19) rfl rfl (ex_move rfl) ?_)
    refine Rg_op rfl (o_val (v := .int .u64 ((n / 256 : Nat) : Int)) (d := 20) rfl rfl (ex_move rfl) ?_)
    refine Rg_op rfl (o_val (v := .int .u8 ((n / 256 : Nat) : Int)) (d := 21) rfl rfl ((ex_conv Try.underlying198 Try.underlying5 rfl).trans (by rw [wrap8 (by omega)])) ?_)
    refine Rg_op rfl (o_val (v := .int .u8 ((Go.Sort.bitsLen (((n / 256 : Nat) : Int)).toNat : Nat) : Int)) (d := 22) rfl rfl (ex_len8 Try.underlying9 (by kernel_rfl) rfl (by omega) (by omega)) ?_)
    have hbl := bitsLen_lt (n := (((n / 256 : Nat) : Int)).toNat) (by omega)
    refine Rg_op rfl (o_val (v := .int .i64 ((Go.Sort.bitsLen (((n / 256 : Nat) : Int)).toNat : Nat) : Int)) (d := 23) rfl rfl ((ex_conv Try.underlying5 Try.underlying3 rfl).trans (by rw [wrap_in (by omega)])) ?_)
    refine Rg_op rfl (o_val (v := .int .i64 ((0 + 8) + ((Go.Sort.bitsLen (((n / 256 : Nat) : Int)).toNat : Nat) : Int))) (d := 24) rfl rfl (ex_add rfl rfl (by omega)) ?_)
    refine Rg_op rfl (o_val (v := .int .i64 ((0 + 8) + ((Go.Sort.bitsLen (((n / 256 : Nat) : Int)).toNat : Nat) : Int))) (d := 2) rfl rfl (ex_assign rfl) ?_)
    refine Rg_end ?_
    refine V_ret rfl (end0 (v := .int .i64 ((0 + 8) + ((Go.Sort.bitsLen (((n / 256 : Nat) : Int)).toNat : Nat) : Int))) rfl (res_tmp Try.results105 rfl) ?_)
    exact ⟨by rw [bitsLen_hi (n := n) (by omega) hn]; exact congrArg (Value.int .i64) (by rw [Int.toNat_natCast]; omega), H.below⟩
  · have hb1 : ¬ (256 ≤ ((n : Nat) : Int)) := of_decide_eq_false hb1
    refine V_skip rfl ?_
    refine V_seq rfl ?_
    refine V_region rfl ?_
    refine Rg_op rfl (o_val (v := .int .i64 0) (d := 19) rfl rfl (ex_move rfl) ?_)
    refine Rg_op rfl (o_val (v := .int .u64 ((n : Nat) : Int)) (d := 20) rfl rfl (ex_move rfl) ?_)
    refine Rg_op rfl (o_val (v := .int .u8 ((n : Nat) : Int)) (d := 21) rfl rfl ((ex_conv Try.underlying198 Try.underlying5 rfl).trans (by rw [wrap8 (by omega)])) ?_)
    refine Rg_op rfl (o_val (v := .int .u8 ((Go.Sort.bitsLen (((n : Nat) : Int)).toNat : Nat) : Int)) (d := 22) rfl rfl (ex_len8 Try.underlying9 (by kernel_rfl) rfl (by omega) (by omega)) ?_)
    have hbl := bitsLen_lt (n := (((n : Nat) : Int)).toNat) (by omega)
    refine Rg_op rfl (o_val (v := .int .i64 ((Go.Sort.bitsLen (((n : Nat) : Int)).toNat : Nat) : Int)) (d := 23) rfl rfl ((ex_conv Try.underlying5 Try.underlying3 rfl).trans (by rw [wrap_in (by omega)])) ?_)
    refine Rg_op rfl (o_val (v := .int .i64 (0 + ((Go.Sort.bitsLen (((n : Nat) : Int)).toNat : Nat) : Int))) (d := 24) rfl rfl (ex_add rfl rfl (by omega)) ?_)
    refine Rg_op rfl (o_val (v := .int .i64 (0 + ((Go.Sort.bitsLen (((n : Nat) : Int)).toNat : Nat) : Int))) (d := 2) rfl rfl (ex_assign rfl) ?_)
    refine Rg_end ?_
    refine V_ret rfl (end0 (v := .int .i64 (0 + ((Go.Sort.bitsLen (((n : Nat) : Int)).toNat : Nat) : Int))) rfl (res_tmp Try.results105 rfl) ?_)
    exact ⟨by rw [show 0 + ((Go.Sort.bitsLen (((n : Nat) : Int)).toNat : Nat) : Int) = ((Go.Sort.bitsLen n : Nat) : Int) from by rw [Int.toNat_natCast]; omega], H.below⟩

theorem len_c (n : Nat) (w0 : World) (hn : n < 65536) :
    Calls Try.prog 75 #[.int .u64 ((n : Nat) : Int)] w0 fun e w' => ∃ v, e = .returned v ∧ (v = .int .i64 ((Go.Sort.bitsLen n : Nat) : Int) ∧ Below w0.heap.size w0 w') := by
  refine calls_of (n := 8) (l := [.int .u64 ((n : Nat) : Int)]) Try.func75 rfl rfl rfl ?_
  have H := Hp.start w0
  refine V_seq rfl ?_
  refine V_region rfl ?_
  refine Rg_op rfl (o_val (v := .int .i64 0) (d := 2) rfl rfl (ex_assign rfl) ?_)
  refine Rg_end ?_
  refine V_seq rfl ?_
  refine V_false rfl rfl ?_
  refine V_skip rfl ?_
  refine V_seq rfl ?_
  refine V_region rfl ?_
  refine Rg_op rfl (o_val (v := .int .u64 ((n : Nat) : Int)) (d := 6) rfl rfl (ex_move rfl) ?_)
  refine Rg_op rfl (o_call (fv := []) (cap := []) (vs := [.int .u64 ((n : Nat) : Int)]) rfl rfl cl105 rfl (len64_c n _ (by omega)) fun v w1 hS => ?_)
  obtain ⟨rfl, hB⟩ := hS
  have H := H.keep hB
  refine Rg_op rfl (o_val (v := .int .i64 ((Go.Sort.bitsLen n : Nat) : Int)) (d := 2) rfl rfl (ex_assign rfl) ?_)
  refine Rg_end ?_
  refine V_ret rfl (end0 (v := .int .i64 ((Go.Sort.bitsLen n : Nat) : Int)) rfl (res_tmp Try.results75 rfl) ?_)
  exact ⟨rfl, H.below⟩

theorem eins_c (n0 : Nat) (wb w0 : World) (L : List SA) (A : Option Addr) (c : Nat) (d : Array Entry) (cmp : Entry → Entry → Int) (F : Nat) (fv cap : List Value) (a b : Nat) (H : Hp n0 wb w0 (SA.own kEnt 113 A c d.toList :: L)) (hsz : d.size ≤ 100000) (hcl : callable Try.prog F = true) (hF : ∀ x y w, Calls Try.prog F (fv ++ [(.agg #[.int .i64 x.Key, .int .i64 x.Mask, .int .i64 x.Outs] : Value), (.agg #[.int .i64 y.Key, .int .i64 y.Mask, .int .i64 y.Outs] : Value)] ++ cap).toArray w fun e w' => ∃ v, e = .returned v ∧ (v = .int .i64 (cmp x y) ∧ Below w.heap.size w w')) (hab : a ≤ b) (hb : b ≤ d.size) :
    Calls Try.prog 96 #[.slice A d.size c, .int .i64 ((a : Nat) : Int), .int .i64 ((b : Nat) : Int), .func (.func F) fv.toArray cap.toArray] w0 fun e w' => ∃ v, e = .returned v ∧ (Hp n0 wb w' (SA.own kEnt 113 A c (((Go.Sort.insertionSort (ltOf cmp) d a b)).toList) :: L)) := by
  refine calls_of (n := 53) (l := [.slice A d.size c, .int .i64 ((a : Nat) : Int), .int .i64 ((b : Nat) : Int), .func (.func F) fv.toArray cap.toArray]) Try.func96 rfl rfl rfl ?_
  refine V_seq rfl ?_
  refine V_region rfl ?_
  refine Rg_op rfl (o_val (v := .int .i64 ((a : Nat) : Int)) (d := 10) rfl rfl (ex_move rfl) ?_)
  refine Rg_op rfl (o_val (v := .int .i64 (((a : Nat) : Int) + 1)) (d := 11) rfl rfl (ex_add rfl rfl (by omega)) ?_)
  refine Rg_op rfl (o_val (v := .int .i64 (((a : Nat) : Int) + 1)) (d := 8) rfl rfl (ex_assign rfl) ?_)
  refine Rg_end ?_
  refine V_block rfl ?_
  refine V_loop rfl (γ := Nat × Array Entry) (fun g σ w => σ 0 = .slice A d.size c ∧ σ 1 = .int .i64 ((a : Nat) : Int) ∧ σ 2 = .int .i64 ((b : Nat) : Int) ∧ σ 3 = .func (.func F) fv.toArray cap.toArray ∧ σ 8 = .int .i64 ((g.1 : Nat) : Int) ∧ σ 1000000 = undef ∧ Hp n0 wb w (SA.own kEnt 113 A c ((g.2).toList) :: L) ∧ g.2.size = d.size ∧ Go.Sort.insOuter (ltOf cmp) a b g.1 g.2 = Go.Sort.insertionSort (ltOf cmp) d a b ∧ a < g.1) (fun g => b - g.1) ((a + 1, d)) ⟨rfl, rfl, rfl, rfl, rfl, rfl, H, rfl, rfl, Nat.lt_succ_self a⟩ (fun g σ w hI => ?_)
  obtain ⟨s0, s1, s2, s3, s8, s1000000, H, hgz, hgi, hga⟩ := hI
  refine V_seq rfl ?_
  refine V_seq rfl ?_
  refine V_region rfl ?_
  refine Rg_op rfl (o_val (v := .int .i64 ((g.1 : Nat) : Int)) (d := 12) rfl rfl (ex_move s8) ?_)
  refine Rg_op rfl (o_val (v := .int .i64 ((b : Nat) : Int)) (d := 13) rfl rfl (ex_move s2) ?_)
  refine Rg_op rfl (o_val (v := .bool (decide (((g.1 : Nat) : Int) < ((b : Nat) : Int)))) (d := 14) rfl rfl (ex_lss rfl rfl) ?_)
  refine Rg_end ?_
  refine V_cond (b := (decide (((g.1 : Nat) : Int) < ((b : Nat) : Int)))) rfl rfl (fun hb1 => ?_) (fun hb1 => ?_)
  · have hb1 : ((g.1 : Nat) : Int) < ((b : Nat) : Int) := of_decide_eq_true hb1
    refine V_skip rfl ?_
    refine V_seq rfl ?_
    refine V_block rfl ?_
    refine V_seq rfl ?_
    refine V_region rfl ?_
    refine Rg_op rfl (o_val (v := .int .i64 ((g.1 : Nat) : Int)) (d := 17) rfl rfl (ex_move s8) ?_)
    refine Rg_op rfl (o_val (v := .int .i64 ((g.1 : Nat) : Int)) (d := 9) rfl rfl (ex_assign rfl) ?_)
    refine Rg_end ?_
    refine V_block rfl ?_
    refine V_loop rfl (γ := Nat × Array Entry) (fun g2 σ w => σ 0 = .slice A d.size c ∧ σ 1 = .int .i64 ((a : Nat) : Int) ∧ σ 2 = .int .i64 ((b : Nat) : Int) ∧ σ 3 = .func (.func F) fv.toArray cap.toArray ∧ σ 8 = .int .i64 ((g.1 : Nat) : Int) ∧ σ 9 = .int .i64 ((g2.1 : Nat) : Int) ∧ σ 12 = .int .i64 ((g.1 : Nat) : Int) ∧ σ 13 = .int .i64 ((b : Nat) : Int) ∧ σ 14 = .bool (decide (((g.1 : Nat) : Int) < ((b : Nat) : Int))) ∧ σ 17 = .int .i64 ((g.1 : Nat) : Int) ∧ σ 1000000 = undef ∧ Hp n0 wb w (SA.own kEnt 113 A c ((g2.2).toList) :: L) ∧ g2.2.size = g.2.size ∧ Go.Sort.insInner (ltOf cmp) a g2.1 g2.2 = Go.Sort.insInner (ltOf cmp) a g.1 g.2 ∧ g2.1 ≤ g.1) (fun g2 => g2.1) (g) ⟨s0, s1, s2, s3, s8, rfl, rfl, rfl, rfl, rfl, s1000000, H, rfl, rfl, Nat.le_refl _⟩ (fun g2 σ w hI => ?_)
    obtain ⟨s0, s1, s2, s3, s8, s9, s12, s13, s14, s17, s1000000, H, hg2z, hg2i, hg2a⟩ := hI
    refine V_seq rfl ?_
    refine V_seq rfl ?_
    refine V_draw [0, 1, 2, 3, 4, 5, 6, 7, 9, 10, 11, 12, 15, 16] (.p 0 (.p 1 (.p 2 (.p 3 (.p 4 (.p 5 (.p 6 (.p 7 (.q 8 (.p 9 (.p 10 (.p 11 (.p 12 (.q 13 (.l 14 (.p 15 (.p 16 .done))))))))))))))))) (fun _ => False) rfl mixed (by kernel_rfl) fun w2 hD => ?_
    have H := H.drew hD
    refine c_p (v := .int .i64 ((g2.1 : Nat) : Int)) (d := 18) rfl rfl rfl (fun w' => ex_move s9) ?_
    refine c_p (v := .int .i64 ((a : Nat) : Int)) (d := 19) rfl rfl rfl (fun w' => ex_move s1) ?_
    refine c_p (v := .bool (decide (((a : Nat) : Int) < ((g2.1 : Nat) : Int)))) (d := 20) rfl rfl rfl (fun w' => ex_gtr rfl rfl) ?_
    refine c_p (v := .bool (decide (((a : Nat) : Int) < ((g2.1 : Nat) : Int)))) (d := 21) rfl rfl rfl (fun w' => ex_move rfl) ?_
    by_cases hg3 : ((a : Nat) : Int) < ((g2.1 : Nat) : Int)
    · skip
      refine c_pg (v := .func (.func F) fv.toArray cap.toArray) (d := 22) rfl rfl rfl (wanted_yes (b := (decide (((a : Nat) : Int) < ((g2.1 : Nat) : Int)))) rfl rfl rfl (decide_eq_true hg3)) (fun w' => ex_move s3) ?_
      refine c_pg (v := .slice A d.size c) (d := 23) rfl rfl rfl (wanted_yes (b := (decide (((a : Nat) : Int) < ((g2.1 : Nat) : Int)))) rfl rfl rfl (decide_eq_true hg3)) (fun w' => ex_move s0) ?_
      refine c_pg (v := .int .i64 ((g2.1 : Nat) : Int)) (d := 24) rfl rfl rfl (wanted_yes (b := (decide (((a : Nat) : Int) < ((g2.1 : Nat) : Int)))) rfl rfl rfl (decide_eq_true hg3)) (fun w' => ex_move s9) ?_
      have hr4 := (own_row (H.pull 0 rfl rfl)).1
      obtain ⟨ad5, x5, cs5, hA5, hx5, hR5, hc5⟩ := Row.get hr4 ((g2.1 : Nat) : Int) ((by first | omega | (simp only [Array.length_toList, List.length_set]; omega))) ((by first | omega | (simp only [Array.length_toList, List.length_set]; omega)))
      obtain rfl := hR5
      refine c_pg (v := .pointer (some (ad5.add ((((g2.1 : Nat) : Int)).toNat * 3)))) (d := 25) rfl rfl rfl (wanted_yes (b := (decide (((a : Nat) : Int) < ((g2.1 : Nat) : Int)))) rfl rfl rfl (decide_eq_true hg3)) (fun w' => ex_indexAddr sl41 rfl hA5 rfl ((by first | omega | (simp only [Array.length_toList, List.length_set]; omega))) ((by first | omega | (simp only [Array.length_toList, List.length_set]; omega))) rfl) ?_
      refine c_qg (v := .agg #[.int .i64 x5.Key, .int .i64 x5.Mask, .int .i64 x5.Outs]) (d := 26) rfl rfl rfl (wanted_yes (b := (decide (((a : Nat) : Int) < ((g2.1 : Nat) : Int)))) rfl rfl rfl (decide_eq_true hg3)) (fun w' hG => ex_loadN (vs := [.int .i64 x5.Key, .int .i64 x5.Mask, .int .i64 x5.Outs]) ca113 rfl rfl (fun j u hj => by rw [add_add]; exact hG.cell (hc5 j u hj) id)) ?_
      refine c_pg (v := .slice A d.size c) (d := 27) rfl rfl rfl (wanted_yes (b := (decide (((a : Nat) : Int) < ((g2.1 : Nat) : Int)))) rfl rfl rfl (decide_eq_true hg3)) (fun w' => ex_move s0) ?_
      refine c_pg (v := .int .i64 ((g2.1 : Nat) : Int)) (d := 28) rfl rfl rfl (wanted_yes (b := (decide (((a : Nat) : Int) < ((g2.1 : Nat) : Int)))) rfl rfl rfl (decide_eq_true hg3)) (fun w' => ex_move s9) ?_
      refine c_pg (v := .int .i64 (((g2.1 : Nat) : Int) - 1)) (d := 29) rfl rfl rfl (wanted_yes (b := (decide (((a : Nat) : Int) < ((g2.1 : Nat) : Int)))) rfl rfl rfl (decide_eq_true hg3)) (fun w' => ex_sub rfl rfl (by omega)) ?_
      have hr6 := (own_row (H.pull 0 rfl rfl)).1
      obtain ⟨ad7, x7, cs7, hA7, hx7, hR7, hc7⟩ := Row.get hr6 (((g2.1 : Nat) : Int) - 1) ((by first | omega | (simp only [Array.length_toList, List.length_set]; omega))) ((by first | omega | (simp only [Array.length_toList, List.length_set]; omega)))
      obtain rfl := hR7
      refine c_pg (v := .pointer (some (ad7.add ((((g2.1 : Nat) : Int) - 1).toNat * 3)))) (d := 30) rfl rfl rfl (wanted_yes (b := (decide (((a : Nat) : Int) < ((g2.1 : Nat) : Int)))) rfl rfl rfl (decide_eq_true hg3)) (fun w' => ex_indexAddr sl41 rfl hA7 rfl ((by first | omega | (simp only [Array.length_toList, List.length_set]; omega))) ((by first | omega | (simp only [Array.length_toList, List.length_set]; omega))) rfl) ?_
      refine c_qg (v := .agg #[.int .i64 x7.Key, .int .i64 x7.Mask, .int .i64 x7.Outs]) (d := 31) rfl rfl rfl (wanted_yes (b := (decide (((a : Nat) : Int) < ((g2.1 : Nat) : Int)))) rfl rfl rfl (decide_eq_true hg3)) (fun w' hG => ex_loadN (vs := [.int .i64 x7.Key, .int .i64 x7.Mask, .int .i64 x7.Outs]) ca113 rfl rfl (fun j u hj => by rw [add_add]; exact hG.cell (hc7 j u hj) id)) ?_
      refine c_l rfl (o_g (wanted_yes (b := (decide (((a : Nat) : Int) < ((g2.1 : Nat) : Int)))) rfl rfl rfl (decide_eq_true hg3)) (o_callp (fv := fv) (cap := cap) (xs := [.agg #[.int .i64 x5.Key, .int .i64 x5.Mask, .int .i64 x5.Outs], .agg #[.int .i64 x7.Key, .int .i64 x7.Mask, .int .i64 x7.Outs]]) rfl rfl hcl rfl (hF x5 x7 _) fun v w8 hS => ?_))
      obtain ⟨rfl, hB⟩ := hS
      refine ⟨.inr (Below.agr hB), ?_⟩
      have H := H.keep hB
      refine c_pg (v := .bool (decide ((cmp x5 x7) < 0))) (d := 33) rfl rfl rfl (wanted_yes (b := (decide (((a : Nat) : Int) < ((g2.1 : Nat) : Int)))) rfl rfl rfl (decide_eq_true hg3)) (fun w' => ex_lss rfl rfl) ?_
      refine c_p (v := .bool (decide ((cmp x5 x7) < 0))) (d := 34) rfl rfl rfl (fun w' => ex_pick (q := (decide (((a : Nat) : Int) < ((g2.1 : Nat) : Int)))) rfl (fun h => rfl) (fun h => absurd hg3 (of_decide_eq_false h))) ?_
      refine c_done ?_
      refine V_cond (b := (decide ((cmp x5 x7) < 0))) rfl rfl (fun hb9 => ?_) (fun hb9 => ?_)
      · have hb9 : (cmp x5 x7) < 0 := of_decide_eq_true hb9
        refine V_skip rfl ?_
        refine V_seq rfl ?_
        refine V_block rfl ?_
        refine V_draw [0, 1, 2, 3, 4, 5, 6, 7, 8, 10, 11, 12, 14, 16] (.p 0 (.p 1 (.p 2 (.p 3 (.p 4 (.p 5 (.p 6 (.p 7 (.p 8 (.q 9 (.p 10 (.p 11 (.p 12 (.q 13 (.p 14 (.l 15 (.p 16 (.l 17 .done)))))))))))))))))) (fun _ => False) rfl mixed (by kernel_rfl) fun w10 hD => ?_
        have H := H.drew hD
        refine c_p (v := .slice A d.size c) (d := 37) rfl rfl rfl (fun w' => ex_move s0) ?_
        refine c_p (v := .int .i64 ((g2.1 : Nat) : Int)) (d := 38) rfl rfl rfl (fun w' => ex_move s9) ?_
        refine c_p (v := .slice A d.size c) (d := 39) rfl rfl rfl (fun w' => ex_move s0) ?_
        refine c_p (v := .int .i64 ((g2.1 : Nat) : Int)) (d := 40) rfl rfl rfl (fun w' => ex_move s9) ?_
        refine c_p (v := .int .i64 (((g2.1 : Nat) : Int) - 1)) (d := 41) rfl rfl rfl (fun w' => ex_sub rfl rfl (by omega)) ?_
        refine c_p (v := .slice A d.size c) (d := 42) rfl rfl rfl (fun w' => ex_move s0) ?_
        refine c_p (v := .int .i64 ((g2.1 : Nat) : Int)) (d := 43) rfl rfl rfl (fun w' => ex_move s9) ?_
        refine c_p (v := .int .i64 (((g2.1 : Nat) : Int) - 1)) (d := 44) rfl rfl rfl (fun w' => ex_sub rfl rfl (by omega)) ?_
        have hr11 := (own_row (H.pull 0 rfl rfl)).1
        obtain ⟨ad12, x12, cs12, hA12, hx12, hR12, hc12⟩ := Row.get hr11 (((g2.1 : Nat) : Int) - 1) ((by first | omega | (simp only [Array.length_toList, List.length_set]; omega))) ((by first | omega | (simp only [Array.length_toList, List.length_set]; omega)))
        obtain rfl := hR12
        refine c_p (v := .pointer (some (ad12.add ((((g2.1 : Nat) : Int) - 1).toNat * 3)))) (d := 45) rfl rfl rfl (fun w' => ex_indexAddr sl41 rfl hA12 rfl ((by first | omega | (simp only [Array.length_toList, List.length_set]; omega))) ((by first | omega | (simp only [Array.length_toList, List.length_set]; omega))) rfl) ?_
        refine c_q (v := .agg #[.int .i64 x12.Key, .int .i64 x12.Mask, .int .i64 x12.Outs]) (d := 46) rfl rfl rfl (fun w' hG => ex_loadN (vs := [.int .i64 x12.Key, .int .i64 x12.Mask, .int .i64 x12.Outs]) ca113 rfl rfl (fun j u hj => by rw [add_add]; exact hG.cell (hc12 j u hj) id)) ?_
        refine c_p (v := .slice A d.size c) (d := 47) rfl rfl rfl (fun w' => ex_move s0) ?_
        refine c_p (v := .int .i64 ((g2.1 : Nat) : Int)) (d := 48) rfl rfl rfl (fun w' => ex_move s9) ?_
        have hr13 := (own_row (H.pull 0 rfl rfl)).1
        obtain ⟨ad14, x14, cs14, hA14, hx14, hR14, hc14⟩ := Row.get hr13 ((g2.1 : Nat) : Int) ((by first | omega | (simp only [Array.length_toList, List.length_set]; omega))) ((by first | omega | (simp only [Array.length_toList, List.length_set]; omega)))
        obtain rfl := hR14
        refine c_p (v := .pointer (some (ad14.add ((((g2.1 : Nat) : Int)).toNat * 3)))) (d := 49) rfl rfl rfl (fun w' => ex_indexAddr sl41 rfl hA14 rfl ((by first | omega | (simp only [Array.length_toList, List.length_set]; omega))) ((by first | omega | (simp only [Array.length_toList, List.length_set]; omega))) rfl) ?_
        refine c_q (v := .agg #[.int .i64 x14.Key, .int .i64 x14.Mask, .int .i64 x14.Outs]) (d := 50) rfl rfl rfl (fun w' hG => ex_loadN (vs := [.int .i64 x14.Key, .int .i64 x14.Mask, .int .i64 x14.Outs]) ca113 rfl rfl (fun j u hj => by rw [add_add]; exact hG.cell (hc14 j u hj) id)) ?_
        have hxj : g2.2.toList[g2.1]? = some x14 := hx14
        have hxp : g2.2.toList[g2.1 - 1]? = some x12 := (by have := hx12; rwa [show (((g2.1 : Nat) : Int) - 1).toNat = g2.1 - 1 from by omega] at this)
        have hlt : ltOf cmp g2.2[g2.1]! g2.2[g2.1 - 1]! = true := by rw [show g2.2[g2.1]! = x5 from bang hx5, show g2.2[g2.1 - 1]! = x7 from bang (by have := hx7; rwa [show (((g2.1 : Nat) : Int) - 1).toNat = g2.1 - 1 from by omega] at this)]; exact decide_eq_true (by assumption)
        refine c_p (v := .pointer (some (ad14.add ((((g2.1 : Nat) : Int)).toNat * 3)))) (d := 51) rfl rfl rfl (fun w' => ex_indexAddr sl41 rfl hA14 rfl ((by first | omega | (simp only [Array.length_toList, List.length_set]; omega))) ((by first | omega | (simp only [Array.length_toList, List.length_set]; omega))) rfl) ?_
        have H := H.pull 0 rfl rfl
        refine c_l rfl (o_set (vs := [.int .i64 x12.Key, .int .i64 x12.Mask, .int .i64 x12.Outs]) (x1 := x12) (i := (((g2.1 : Nat) : Int)).toNat) (off := 0) rfl ts113 hA14 rfl rfl rfl rfl hx14 rfl rfl H fun w15 hA H => ⟨.inl (by kernel_rfl), ?_⟩)
        have hr16 := (own_row (H.pull 0 rfl rfl)).1
        obtain ⟨ad17, x17, cs17, hA17, hx17, hR17, hc17⟩ := Row.get hr16 (((g2.1 : Nat) : Int) - 1) ((by first | omega | (simp only [Array.length_toList, List.length_set]; omega))) ((by first | omega | (simp only [Array.length_toList, List.length_set]; omega)))
        obtain rfl := hR17
        refine c_p (v := .pointer (some (ad17.add ((((g2.1 : Nat) : Int) - 1).toNat * 3)))) (d := 52) rfl rfl rfl (fun w' => ex_indexAddr sl41 rfl hA17 rfl ((by first | omega | (simp only [Array.length_toList, List.length_set]; omega))) ((by first | omega | (simp only [Array.length_toList, List.length_set]; omega))) rfl) ?_
        have H := H.pull 0 rfl rfl
        refine c_l rfl (o_set (vs := [.int .i64 x14.Key, .int .i64 x14.Mask, .int .i64 x14.Outs]) (x1 := x14) (i := (((g2.1 : Nat) : Int) - 1).toNat) (off := 0) rfl ts113 hA17 rfl rfl rfl rfl hx17 rfl rfl H fun w18 hA H => ⟨.inl (by kernel_rfl), ?_⟩)
        refine c_done ?_
        refine V_region rfl ?_
        refine Rg_op rfl (o_val (v := .int .i64 ((g2.1 : Nat) : Int)) (d := 35) rfl rfl (ex_move s9) ?_)
        refine Rg_op rfl (o_val (v := .int .i64 (((g2.1 : Nat) : Int) - 1)) (d := 36) rfl rfl (ex_sub rfl rfl (by omega)) ?_)
        refine Rg_op rfl (o_val (v := .int .i64 (((g2.1 : Nat) : Int) - 1)) (d := 9) rfl rfl (ex_assign rfl) ?_)
        refine Rg_end ?_
        have e9 : (((g2.2).toList).set ((((g2.1 : Nat) : Int)).toNat) x12).set ((((g2.1 : Nat) : Int) - 1).toNat) x14 = (Go.Sort.swp g2.2 g2.1 (g2.1 - 1)).toList := by rw [show (((g2.1 : Nat) : Int) - 1).toNat = g2.1 - 1 from by omega]; exact swp_list hxj hxp
        rw [e9] at H
        exact ⟨(g2.1 - 1, Go.Sort.swp g2.2 g2.1 (g2.1 - 1)), ⟨s0, s1, s2, s3, s8, (congrArg (Value.int .i64) (show (((g2.1 : Nat) : Int) - 1) = (((g2.1 - 1 : Nat) : Nat) : Int) from by omega)), s12, s13, s14, s17, s1000000, H, by rw [Go.Sort.swp_size]; exact hg2z, by rw [← hg2i]; exact (insInner_go (by omega) hlt).symm, by simp only []; omega⟩, by simp only []; omega⟩
      · have hb9 : ¬ ((cmp x5 x7) < 0) := of_decide_eq_false hb9
        refine V_exit rfl ?_
        refine V_region rfl ?_
        refine Rg_op rfl (o_val (v := .int .i64 ((g.1 : Nat) : Int)) (d := 15) rfl rfl (ex_move s8) ?_)
        refine Rg_op rfl (o_val (v := .int .i64 (((g.1 : Nat) : Int) + 1)) (d := 16) rfl rfl (ex_add rfl rfl (by omega)) ?_)
        refine Rg_op rfl (o_val (v := .int .i64 (((g.1 : Nat) : Int) + 1)) (d := 8) rfl rfl (ex_assign rfl) ?_)
        refine Rg_end ?_
        exact ⟨(g.1 + 1, g2.2), ⟨s0, s1, s2, s3, rfl, s1000000, H, hg2z.trans hgz, (by have h1 := insOuter_go (lt := ltOf cmp) (a := a) (b := b) (i := g.1) (d := g.2) (by omega); rw [← hgi, h1, ← hg2i, insInner_stop (.inr (by rw [show g2.2[g2.1]! = x5 from bang hx5, show g2.2[g2.1 - 1]! = x7 from bang (by have := hx7; rwa [show (((g2.1 : Nat) : Int) - 1).toNat = g2.1 - 1 from by omega] at this)]; exact decide_eq_false (by assumption)))]), by simp only []; omega⟩, by simp only []; omega⟩
    · skip
      refine c_ps (d := 22) rfl rfl rfl (wanted_no (b := (decide (((a : Nat) : Int) < ((g2.1 : Nat) : Int)))) rfl rfl rfl (decide_eq_false hg3)) ?_
      refine c_ps (d := 23) rfl rfl rfl (wanted_no (b := (decide (((a : Nat) : Int) < ((g2.1 : Nat) : Int)))) rfl rfl rfl (decide_eq_false hg3)) ?_
      refine c_ps (d := 24) rfl rfl rfl (wanted_no (b := (decide (((a : Nat) : Int) < ((g2.1 : Nat) : Int)))) rfl rfl rfl (decide_eq_false hg3)) ?_
      refine c_ps (d := 25) rfl rfl rfl (wanted_no (b := (decide (((a : Nat) : Int) < ((g2.1 : Nat) : Int)))) rfl rfl rfl (decide_eq_false hg3)) ?_
      refine c_qs (d := 26) rfl rfl rfl (wanted_no (b := (decide (((a : Nat) : Int) < ((g2.1 : Nat) : Int)))) rfl rfl rfl (decide_eq_false hg3)) ?_
      refine c_ps (d := 27) rfl rfl rfl (wanted_no (b := (decide (((a : Nat) : Int) < ((g2.1 : Nat) : Int)))) rfl rfl rfl (decide_eq_false hg3)) ?_
      refine c_ps (d := 28) rfl rfl rfl (wanted_no (b := (decide (((a : Nat) : Int) < ((g2.1 : Nat) : Int)))) rfl rfl rfl (decide_eq_false hg3)) ?_
      refine c_ps (d := 29) rfl rfl rfl (wanted_no (b := (decide (((a : Nat) : Int) < ((g2.1 : Nat) : Int)))) rfl rfl rfl (decide_eq_false hg3)) ?_
      refine c_ps (d := 30) rfl rfl rfl (wanted_no (b := (decide (((a : Nat) : Int) < ((g2.1 : Nat) : Int)))) rfl rfl rfl (decide_eq_false hg3)) ?_
      refine c_qs (d := 31) rfl rfl rfl (wanted_no (b := (decide (((a : Nat) : Int) < ((g2.1 : Nat) : Int)))) rfl rfl rfl (decide_eq_false hg3)) ?_
      refine c_l rfl (o_skip (d := 32) rfl rfl (wanted_no (b := (decide (((a : Nat) : Int) < ((g2.1 : Nat) : Int)))) rfl rfl rfl (decide_eq_false hg3)) ⟨.inr (Agr.refl _ _), ?_⟩)
      refine c_ps (d := 33) rfl rfl rfl (wanted_no (b := (decide (((a : Nat) : Int) < ((g2.1 : Nat) : Int)))) rfl rfl rfl (decide_eq_false hg3)) ?_
      refine c_p (v := .bool false) (d := 34) rfl rfl rfl (fun w' => ex_pick (q := (decide (((a : Nat) : Int) < ((g2.1 : Nat) : Int)))) rfl (fun h => absurd (of_decide_eq_true h) hg3) (fun h => rfl)) ?_
      refine c_done ?_
      refine V_false rfl rfl ?_
      refine V_exit rfl ?_
      refine V_region rfl ?_
      refine Rg_op rfl (o_val (v := .int .i64 ((g.1 : Nat) : Int)) (d := 15) rfl rfl (ex_move s8) ?_)
      refine Rg_op rfl (o_val (v := .int .i64 (((g.1 : Nat) : Int) + 1)) (d := 16) rfl rfl (ex_add rfl rfl (by omega)) ?_)
      refine Rg_op rfl (o_val (v := .int .i64 (((g.1 : Nat) : Int) + 1)) (d := 8) rfl rfl (ex_assign rfl) ?_)
      refine Rg_end ?_
      exact ⟨(g.1 + 1, g2.2), ⟨s0, s1, s2, s3, rfl, s1000000, H, hg2z.trans hgz, (by have h1 := insOuter_go (lt := ltOf cmp) (a := a) (b := b) (i := g.1) (d := g.2) (by omega); rw [← hgi, h1, ← hg2i, insInner_stop (.inl (by omega))]), by simp only []; omega⟩, by simp only []; omega⟩
  · have hb1 : ¬ (((g.1 : Nat) : Int) < ((b : Nat) : Int)) := of_decide_eq_false hb1
    refine V_exit rfl ?_
    refine end0 (v := .tuple #[]) s1000000 (res_none Try.results96) ?_
    rw [← hgi, insOuter_stop (by omega)]
    exact H

theorem epdq12_c (n0 : Nat) (wb w0 : World) (L : List SA) (A : Option Addr) (c : Nat) (d : Array Entry) (cmp : Entry → Entry → Int) (F : Nat) (fv cap : List Value) (a b lim : Nat) (H : Hp n0 wb w0 (SA.own kEnt 113 A c d.toList :: L)) (hsz : d.size ≤ 100000) (hcl : callable Try.prog F = true) (hF : ∀ x y w, Calls Try.prog F (fv ++ [(.agg #[.int .i64 x.Key, .int .i64 x.Mask, .int .i64 x.Outs] : Value), (.agg #[.int .i64 y.Key, .int .i64 y.Mask, .int .i64 y.Outs] : Value)] ++ cap).toArray w fun e w' => ∃ v, e = .returned v ∧ (v = .int .i64 (cmp x y) ∧ Below w.heap.size w w')) (hab : a ≤ b) (hb : b ≤ d.size) (h12 : b - a ≤ 12) :
    Calls Try.prog 74 #[.slice A d.size c, .int .i64 ((a : Nat) : Int), .int .i64 ((b : Nat) : Int), .int .i64 ((lim : Nat) : Int), .func (.func F) fv.toArray cap.toArray] w0 fun e w' => ∃ v, e = .returned v ∧ (Hp n0 wb w' (SA.own kEnt 113 A c (((Go.Sort.insertionSort (ltOf cmp) d a b)).toList) :: L)) := by
  refine calls_of (n := 148) (l := [.slice A d.size c, .int .i64 ((a : Nat) : Int), .int .i64 ((b : Nat) : Int), .int .i64 ((lim : Nat) : Int), .func (.func F) fv.toArray cap.toArray]) Try.func74 rfl rfl rfl ?_
  refine V_seq rfl ?_
  refine V_region rfl ?_
  refine Rg_op rfl (o_val (v := .bool true) (d := 10) rfl rfl (ex_assign rfl) ?_)
  refine Rg_end ?_
  refine V_seq rfl ?_
  refine V_region rfl ?_
  refine Rg_op rfl (o_val (v := .bool true) (d := 11) rfl rfl (ex_assign rfl) ?_)
  refine Rg_end ?_
  refine V_block rfl ?_
  refine V_loop rfl (γ := Unit) (fun g σ w => σ 0 = .slice A d.size c ∧ σ 1 = .int .i64 ((a : Nat) : Int) ∧ σ 2 = .int .i64 ((b : Nat) : Int) ∧ σ 3 = .int .i64 ((lim : Nat) : Int) ∧ σ 4 = .func (.func F) fv.toArray cap.toArray ∧ σ 10 = .bool true ∧ σ 11 = .bool true ∧ σ 1000000 = undef ∧ Hp n0 wb w (SA.own kEnt 113 A c d.toList :: L)) (fun g => 0) (()) ⟨rfl, rfl, rfl, rfl, rfl, rfl, rfl, rfl, H⟩ (fun g σ w hI => ?_)
  obtain ⟨s0, s1, s2, s3, s4, s10, s11, s1000000, H⟩ := hI
  refine V_block rfl ?_
  refine V_seq rfl ?_
  refine V_region rfl ?_
  refine Rg_op rfl (o_val (v := .int .i64 ((b : Nat) : Int)) (d := 21) rfl rfl (ex_move s2) ?_)
  refine Rg_op rfl (o_val (v := .int .i64 ((a : Nat) : Int)) (d := 22) rfl rfl (ex_move s1) ?_)
  refine Rg_op rfl (o_val (v := .int .i64 (((b : Nat) : Int) - ((a : Nat) : Int))) (d := 23) rfl rfl (ex_sub rfl rfl (by omega)) ?_)
  refine Rg_op rfl (o_val (v := .int .i64 (((b : Nat) : Int) - ((a : Nat) : Int))) (d := 12) rfl rfl (ex_assign rfl) ?_)
  refine Rg_end ?_
  refine V_seq rfl ?_
  refine V_seq rfl ?_
  refine V_region rfl ?_
  refine Rg_op rfl (o_val (v := .int .i64 (((b : Nat) : Int) - ((a : Nat) : Int))) (d := 24) rfl rfl (ex_move rfl) ?_)
  refine Rg_op rfl (o_val (v := .bool (decide ((((b : Nat) : Int) - ((a : Nat) : Int)) ≤ 12))) (d := 25) rfl rfl (ex_leq rfl rfl) ?_)
  refine Rg_end ?_
  have hb : (((b : Nat) : Int) - ((a : Nat) : Int)) ≤ 12 := by omega
  refine V_cond (b := (decide ((((b : Nat) : Int) - ((a : Nat) : Int)) ≤ 12))) rfl rfl (fun _ => ?_) (fun h => absurd hb (of_decide_eq_false h))
  refine V_seq rfl ?_
  refine V_region rfl ?_
  refine Rg_op rfl (o_val (v := .slice A d.size c) (d := 26) rfl rfl (ex_move s0) ?_)
  refine Rg_op rfl (o_val (v := .int .i64 ((a : Nat) : Int)) (d := 27) rfl rfl (ex_move s1) ?_)
  refine Rg_op rfl (o_val (v := .int .i64 ((b : Nat) : Int)) (d := 28) rfl rfl (ex_move s2) ?_)
  refine Rg_op rfl (o_val (v := .func (.func F) fv.toArray cap.toArray) (d := 29) rfl rfl (ex_move s4) ?_)
  refine Rg_op rfl (o_call (fv := []) (cap := []) (vs := [.slice A d.size c, .int .i64 ((a : Nat) : Int), .int .i64 ((b : Nat) : Int), .func (.func F) fv.toArray cap.toArray]) rfl rfl cl96 rfl (eins_c _ _ _ _ _ _ d cmp F fv cap a b H (by omega) hcl hF (by omega) (by omega)) fun v w1 hS => ?_)
  have H := hS
  refine Rg_end ?_
  refine V_ret rfl (end0 (v := .tuple #[]) s1000000 (res_none Try.results74) ?_)
  exact H

theorem esort12_c (n0 : Nat) (wb w0 : World) (L : List SA) (A : Option Addr) (c : Nat) (d : Array Entry) (cmp : Entry → Entry → Int) (F : Nat) (fv cap : List Value) (H : Hp n0 wb w0 (SA.own kEnt 113 A c d.toList :: L)) (hsz : d.size ≤ 100000) (hcl : callable Try.prog F = true) (hF : ∀ x y w, Calls Try.prog F (fv ++ [(.agg #[.int .i64 x.Key, .int .i64 x.Mask, .int .i64 x.Outs] : Value), (.agg #[.int .i64 y.Key, .int .i64 y.Mask, .int .i64 y.Outs] : Value)] ++ cap).toArray w fun e w' => ∃ v, e = .returned v ∧ (v = .int .i64 (cmp x y) ∧ Below w.heap.size w w')) (h12 : d.size ≤ 12) :
    Calls Try.prog 42 #[.slice A d.size c, .func (.func F) fv.toArray cap.toArray] w0 fun e w' => ∃ v, e = .returned v ∧ (Hp n0 wb w' (SA.own kEnt 113 A c (((Go.Sort.insertionSort (ltOf cmp) d 0 d.size)).toList) :: L)) := by
  refine calls_of (n := 14) (l := [.slice A d.size c, .func (.func F) fv.toArray cap.toArray]) Try.func42 rfl rfl rfl ?_
  refine V_seq rfl ?_
  refine V_region rfl ?_
  refine Rg_op rfl (o_val (v := .slice A d.size c) (d := 5) rfl rfl (ex_move rfl) ?_)
  refine Rg_op rfl (o_val (v := .int .i64 ((d.size : Nat) : Int)) (d := 6) rfl rfl (ex_len (ts := #[]) sl41 rfl) ?_)
  refine Rg_op rfl (o_val (v := .int .i64 ((d.size : Nat) : Int)) (d := 4) rfl rfl (ex_assign rfl) ?_)
  refine Rg_end ?_
  refine V_region rfl ?_
  refine Rg_op rfl (o_val (v := .slice A d.size c) (d := 7) rfl rfl (ex_move rfl) ?_)
  refine Rg_op rfl (o_val (v := .int .i64 ((d.size : Nat) : Int)) (d := 8) rfl rfl (ex_move rfl) ?_)
  refine Rg_op rfl (o_val (v := .int .i64 ((d.size : Nat) : Int)) (d := 9) rfl rfl (ex_move rfl) ?_)
  refine Rg_op rfl (o_val (v := .int .u64 ((d.size : Nat) : Int)) (d := 10) rfl rfl ((ex_conv Try.underlying3 Try.underlying175 rfl).trans (by rw [wrapU64 (by omega)])) ?_)
  refine Rg_op rfl (o_call (fv := []) (cap := []) (vs := [.int .u64 ((d.size : Nat) : Int)]) rfl rfl cl75 rfl (len_c d.size _ (by omega)) fun v w1 hS => ?_)
  obtain ⟨rfl, hB⟩ := hS
  have H := H.keep hB
  refine Rg_op rfl (o_val (v := .func (.func F) fv.toArray cap.toArray) (d := 12) rfl rfl (ex_move rfl) ?_)
  refine Rg_op rfl (o_call (fv := []) (cap := []) (vs := [.slice A d.size c, .int .i64 0, .int .i64 ((d.size : Nat) : Int), .int .i64 ((Go.Sort.bitsLen d.size : Nat) : Int), .func (.func F) fv.toArray cap.toArray]) rfl rfl cl74 rfl (epdq12_c _ _ _ _ _ _ d cmp F fv cap 0 d.size (Go.Sort.bitsLen d.size) H (by omega) hcl hF (by omega) (by omega) (by omega)) fun v w2 hS => ?_)
  have H := hS
  refine Rg_end ?_
  refine end0 (v := .tuple #[]) rfl (res_none Try.results42) ?_
  exact H

end Go.Proofs.Ytlnogaoihkinbaa
namespace Go.Proofs.Ytlnogaoihkinbaa
open Go.Gk Go.RowKit
theorem ca99 : cellsAgg Try.prog 99 = some (some 3) := by kernel_rfl
theorem cl32 : callable Try.prog 32 = true := by kernel_rfl
theorem cl42 : callable Try.prog 42 = true := by kernel_rfl
theorem cl43 : callable Try.prog 43 = true := by kernel_rfl
theorem fo99_0 : fieldOff Try.prog 99 0 = some 0 := by kernel_rfl
theorem fo99_1 : fieldOff Try.prog 99 1 = some 1 := by kernel_rfl
theorem fo99_2 : fieldOff Try.prog 99 2 = some 2 := by kernel_rfl
theorem mt119 : mapT Try.prog 119 = some ⟨3, 26, .slice none 0 0⟩ := by kernel_rfl
theorem ts41 : tySize Try.prog 41 = some 1 := by kernel_rfl
theorem ts99 : tySize Try.prog 99 = some 3 := by kernel_rfl
theorem tz99 : tyZero Try.prog 99 = some (.agg #[.int .i64 0, .int .i64 0, .slice none 0 0]) := by kernel_rfl
theorem tabs_c (s : Spec) (A : Option Addr) (c : Nat) (l : List Way) (w0 : World) (hX : Row kWay w0.cell? A l) (hl12 : l.length ≤ 12 ∨ 1024 < l.length) (hlm : l.length ≤ 100000) (hl2 : ∀ t ∈ l, t.Targets.length ≤ 100000) :
    Calls Try.prog 11 #[.agg #[.int .i64 s.Wide, .int .i64 s.High, .int .i64 s.Room], .slice A l.length c] w0 fun e w' => ∃ v, e = .returned v ∧ (∃ A' c', v = .tuple #[.slice A' (tabsP s l).length c', .int .i64 (tabsE s l)] ∧ Below w0.heap.size w0 w' ∧ New (SA.own (kSl kEnt) 41 A' c' (tabsP s l)) w0 w') := by
  refine calls_of (n := 106) (l := [.agg #[.int .i64 s.Wide, .int .i64 s.High, .int .i64 s.Room], .slice A l.length c]) Try.func11 rfl rfl rfl ?_
  have H := Hp.start w0
  refine V_seq rfl ?_
  refine V_region rfl ?_
  refine Rg_op rfl (o_box (v := .agg #[.int .i64 s.Wide, .int .i64 s.High, .int .i64 s.Room]) rfl rfl H fun b1 w2 hA H => ?_)
  refine Rg_op rfl (o_val (v := .slice none 0 0) (d := 4) rfl rfl (ex_assign rfl) ?_)
  refine Rg_op rfl (o_val (v := .int .i64 0) (d := 5) rfl rfl (ex_assign rfl) ?_)
  refine Rg_end ?_
  refine V_seq rfl ?_
  refine V_seq rfl ?_
  refine V_region rfl ?_
  refine Rg_op rfl (o_val (v := .agg #[.int .i64 s.Wide, .int .i64 s.High, .int .i64 s.Room]) (d := 16) rfl rfl (ex_loadN (vs := [.int .i64 s.Wide, .int .i64 s.High, .int .i64 s.Room]) ca33 rfl rfl (blk_cells (H.rd 0 rfl) rfl)) ?_)
  refine Rg_op rfl (o_call (fv := []) (cap := []) (vs := [.agg #[.int .i64 s.Wide, .int .i64 s.High, .int .i64 s.Room]]) rfl rfl cl41 rfl (check_c s _) fun v w3 hS => ?_)
  obtain ⟨rfl, hB⟩ := hS
  have H := H.keep hB
  refine Rg_op rfl (o_val (v := .int .i64 (chk s)) (d := 6) rfl rfl (ex_assign rfl) ?_)
  refine Rg_end ?_
  refine V_seq rfl ?_
  refine V_region rfl ?_
  refine Rg_op rfl (o_val (v := .int .i64 (chk s)) (d := 18) rfl rfl (ex_move rfl) ?_)
  refine Rg_op rfl (o_val (v := .bool (decide ((chk s) ≠ 0))) (d := 19) rfl rfl (ex_neq rfl rfl) ?_)
  refine Rg_end ?_
  refine V_cond (b := (decide ((chk s) ≠ 0))) rfl rfl (fun hb4 => ?_) (fun hb4 => ?_)
  · have hb4 : (chk s) ≠ 0 := of_decide_eq_true hb4
    refine V_seq rfl ?_
    refine V_region rfl ?_
    refine Rg_op rfl (o_val (v := .int .i64 (chk s)) (d := 20) rfl rfl (ex_move rfl) ?_)
    refine Rg_op rfl (o_val (v := .slice none 0 0) (d := 4) rfl rfl (ex_assign rfl) ?_)
    refine Rg_op rfl (o_val (v := .int .i64 (chk s)) (d := 5) rfl rfl (ex_assign rfl) ?_)
    refine Rg_end ?_
    have H := own_nil H (kSl kEnt) 41
    have hte : tabsE s l = chk s := if_pos (by assumption)
    have hr9 : tabsP s l = [] := if_pos (by rw [hte]; first | assumption | decide)
    refine V_ret rfl (end0 (v := .tuple #[.slice none 0 0, .int .i64 (chk s)]) rfl (res_tmp2 Try.results11 rfl rfl) ?_)
    exact ⟨none, 0, by rw [hr9, hte]; rfl, H.below, by rw [hr9]; exact H.give⟩
  · have hb4 : ¬ ((chk s) ≠ 0) := of_decide_eq_false hb4
    have hs : chk s = 0 := by omega
    obtain ⟨hs1, hs2, hs3, hs4, hs5, hs6⟩ := chk_ok hs
    obtain ⟨hm1, hm2⟩ := mul64 hs
    refine V_skip rfl ?_
    refine V_seq rfl ?_
    refine V_seq rfl ?_
    refine V_region rfl ?_
    refine Rg_op rfl (o_val (v := .slice A l.length c) (d := 21) rfl rfl (ex_move rfl) ?_)
    refine Rg_op rfl (o_val (v := .int .i64 ((l.length : Nat) : Int)) (d := 22) rfl rfl (ex_len (ts := #[]) sl35 rfl) ?_)
    refine Rg_op rfl (o_val (v := .bool (decide (1024 < ((l.length : Nat) : Int)))) (d := 23) rfl rfl (ex_gtr rfl rfl) ?_)
    refine Rg_end ?_
    refine V_cond (b := (decide (1024 < ((l.length : Nat) : Int)))) rfl rfl (fun hb6 => ?_) (fun hb6 => ?_)
    · have hb6 : 1024 < ((l.length : Nat) : Int) := of_decide_eq_true hb6
      refine V_seq rfl ?_
      refine V_region rfl ?_
      refine Rg_op rfl (o_val (v := .slice none 0 0) (d := 4) rfl rfl (ex_assign rfl) ?_)
      refine Rg_op rfl (o_val (v := .int .i64 9) (d := 5) rfl rfl (ex_assign rfl) ?_)
      refine Rg_end ?_
      have H := own_nil H (kSl kEnt) 41
      have hte : tabsE s l = 9 := by rw [tabsE, if_neg (by omega), if_pos (by assumption)]
      have hr9 : tabsP s l = [] := if_pos (by rw [hte]; first | assumption | decide)
      refine V_ret rfl (end0 (v := .tuple #[.slice none 0 0, .int .i64 9]) rfl (res_tmp2 Try.results11 rfl rfl) ?_)
      exact ⟨none, 0, by rw [hr9, hte]; rfl, H.below, by rw [hr9]; exact H.give⟩
    · have hb6 : ¬ (1024 < ((l.length : Nat) : Int)) := of_decide_eq_false hb6
      refine V_skip rfl ?_
      refine V_seq rfl ?_
      refine V_region rfl ?_
      refine Rg_op rfl (o_makeMap kI.enc (Sld.val (α := Int)) rfl H fun b8 w9 hA H => ?_)
      refine Rg_op rfl (o_val (v := .map (some b8)) (d := 7) rfl rfl (ex_assign rfl) ?_)
      refine Rg_end ?_
      refine V_seq rfl ?_
      refine V_seq rfl ?_
      refine V_region rfl ?_
      refine Rg_op rfl (o_val (v := .slice A l.length c) (d := 25) rfl rfl (ex_move rfl) ?_)
      refine Rg_op rfl (o_val (v := .int .i64 ((l.length : Nat) : Int)) (d := 26) rfl rfl (ex_len (ts := #[]) sl35 rfl) ?_)
      refine Rg_op rfl (o_val (v := .int .i64 0) (d := 27) rfl rfl (ex_move rfl) ?_)
      refine Rg_end ?_
      refine V_block rfl ?_
      have H := rows_emp H kInt 3
      refine V_loop rfl (γ := Nat) (fun k σ w => ∃ (kv : List (Int × Sld Int)), σ 2 = .pointer (some ⟨b1, 0, none⟩) ∧ σ 4 = .slice none 0 0 ∧ σ 5 = .int .i64 0 ∧ σ 7 = .map (some b8) ∧ σ 25 = .slice A l.length c ∧ σ 26 = .int .i64 ((l.length : Nat) : Int) ∧ σ 27 = .int .i64 ((k : Nat) : Int) ∧ σ 1000000 = undef ∧ Hp w0.heap.size w0 w [SA.rows kInt 3 (kv.map (·.2)), SA.map kI.enc (Sld.val (α := Int)) b8 kv, SA.cel b1 #[.int .i64 s.Wide, .int .i64 s.High, .int .i64 s.Room] 33] ∧ k ≤ l.length ∧ kvOf kv = treesOf s (l.take k) ∧ (∀ x ∈ kv, x.2.A.isSome = true) ∧ (∀ j, j < k → waysO s l j = none)) (fun k => l.length - k) (0) ⟨[], rfl, rfl, rfl, rfl, rfl, rfl, rfl, rfl, H, by omega, rfl, by simp, fun j h => absurd h (by omega)⟩ (fun k σ w hI => ?_)
      obtain ⟨kv, hI⟩ := hI
      obtain ⟨s2, s4, s5, s7, s25, s26, s27, s1000000, H, hk, hkv, hkA, hall⟩ := hI
      refine V_seq rfl ?_
      refine V_region rfl ?_
      refine Rg_op rfl (o_val (v := .bool (decide (((k : Nat) : Int) < ((l.length : Nat) : Int)))) (d := 28) rfl rfl (ex_lss s27 s26) ?_)
      refine Rg_end ?_
      refine V_seq rfl ?_
      refine V_cond (b := (decide (((k : Nat) : Int) < ((l.length : Nat) : Int)))) rfl rfl (fun hb10 => ?_) (fun hb10 => ?_)
      · have hb10 : ((k : Nat) : Int) < ((l.length : Nat) : Int) := of_decide_eq_true hb10
        refine V_skip rfl ?_
        refine V_seq rfl ?_
        refine V_block rfl ?_
        refine V_seq rfl ?_
        refine V_region rfl ?_
        obtain ⟨ad11, x11, cs11, hA11, hx11, hR11, hc11⟩ := Row.get hX ((k : Nat) : Int) ((by first | omega | (simp only [List.length_set]; omega))) ((by first | omega | (simp only [List.length_set]; omega)))
        obtain ⟨Ae12, ce12, rfl, hle12, hme12, hWe12⟩ := hR11
        refine Rg_op rfl (o_val (v := .pointer (some (ad11.add ((((k : Nat) : Int)).toNat * 3)))) (d := 29) rfl rfl (ex_indexAddr sl35 s25 hA11 s27 ((by first | omega | (simp only [List.length_set]; omega))) ((by first | omega | (simp only [List.length_set]; omega))) rfl) ?_)
        refine Rg_op rfl (o_val (v := .agg #[.int .i64 x11.Key, .int .i64 x11.Source, .slice Ae12 x11.Targets.length ce12]) (d := 30) rfl rfl (ex_loadN (vs := [.int .i64 x11.Key, .int .i64 x11.Source, .slice Ae12 x11.Targets.length ce12]) ca99 rfl rfl (fun j u hj => by rw [add_add]; exact H.cell0 (hc11 j u hj))) ?_)
        refine Rg_op rfl (o_alloc rfl tz99 H fun b13 w14 hA H => ?_)
        refine Rg_op rfl (o_store (vs := [.int .i64 x11.Key, .int .i64 x11.Source, .slice Ae12 x11.Targets.length ce12]) rfl ts99 rfl rfl rfl rfl 0 rfl rfl rfl rfl H fun w15 hA H => ?_)
        refine Rg_end ?_
        refine V_seq rfl ?_
        refine V_seq rfl ?_
        refine V_join (fun σ w => σ 2 = .pointer (some ⟨b1, 0, none⟩) ∧ σ 4 = .slice none 0 0 ∧ σ 5 = .int .i64 0 ∧ σ 7 = .map (some b8) ∧ σ 9 = .pointer (some ⟨b13, 0, none⟩) ∧ σ 25 = .slice A l.length c ∧ σ 26 = .int .i64 ((l.length : Nat) : Int) ∧ σ 27 = .int .i64 ((k : Nat) : Int) ∧ σ 28 = .bool (decide (((k : Nat) : Int) < ((l.length : Nat) : Int))) ∧ σ 29 = .pointer (some (ad11.add ((((k : Nat) : Int)).toNat * 3))) ∧ σ 30 = .agg #[.int .i64 x11.Key, .int .i64 x11.Source, .slice Ae12 x11.Targets.length ce12] ∧ σ 31 = .pointer (some ⟨b13, 0, none⟩) ∧ σ 32 = .int .i64 x11.Key ∧ σ 33 = .bool (decide (x11.Key < 0)) ∧ σ 34 = .bool (decide (x11.Key < 0)) ∧ σ 38 = .bool (decide ((x11.Key < 0) ∨ (65535 < x11.Key))) ∧ σ 1000000 = undef ∧ Hp w0.heap.size w0 w [SA.cel b13 #[.int .i64 x11.Key, .int .i64 x11.Source, .slice Ae12 x11.Targets.length ce12] 99, SA.rows kInt 3 (kv.map (·.2)), SA.map kI.enc (Sld.val (α := Int)) b8 kv, SA.cel b1 #[.int .i64 s.Wide, .int .i64 s.High, .int .i64 s.Room] 33]) ?_ (fun σ w hI => ?_)
        · skip
          refine V_region rfl ?_
          refine Rg_op rfl (o_val (v := .pointer (some ⟨b13, 0, none⟩)) (d := 31) rfl rfl (ex_fieldAddr fo99_0 rfl rfl) ?_)
          refine Rg_op rfl (o_val (v := .int .i64 x11.Key) (d := 32) rfl rfl (ex_load ca3 rfl (cell_of (H.rd 0 rfl))) ?_)
          refine Rg_op rfl (o_val (v := .bool (decide (x11.Key < 0))) (d := 33) rfl rfl (ex_lss rfl rfl) ?_)
          refine Rg_op rfl (o_val (v := .bool (decide (x11.Key < 0))) (d := 34) rfl rfl (ex_move rfl) ?_)
          by_cases hg16 : x11.Key < 0
          · skip
            refine Rg_op rfl (o_skip (d := 35) rfl rfl (wanted_no (b := (decide (x11.Key < 0))) rfl rfl rfl (decide_eq_true hg16)) ?_)
            refine Rg_op rfl (o_skip (d := 36) rfl rfl (wanted_no (b := (decide (x11.Key < 0))) rfl rfl rfl (decide_eq_true hg16)) ?_)
            refine Rg_op rfl (o_skip (d := 37) rfl rfl (wanted_no (b := (decide (x11.Key < 0))) rfl rfl rfl (decide_eq_true hg16)) ?_)
            refine Rg_op rfl (o_val (v := .bool true) (d := 38) rfl rfl (ex_pick (q := (decide (x11.Key < 0))) rfl (fun h => rfl) (fun h => absurd hg16 (of_decide_eq_false h))) ?_)
            refine Rg_end ?_
            exact ⟨s2, s4, s5, s7, rfl, s25, s26, s27, rfl, rfl, rfl, rfl, rfl, rfl, rfl, (show (.bool true : Value) = .bool (decide ((x11.Key < 0) ∨ (65535 < x11.Key))) from by first | (simp only [hg16, true_or, or_true, false_or, or_false, true_and, and_true, false_and, and_false, decide_true, decide_false, Bool.not_true, Bool.not_false]; done) | (simp [hg16]; done) | (simp [hg16]; rfl)), s1000000, H⟩
          · skip
            refine Rg_op rfl (o_valg (v := .pointer (some ⟨b13, 0, none⟩)) (d := 35) rfl rfl (wanted_yes (b := (decide (x11.Key < 0))) rfl rfl rfl (decide_eq_false hg16)) (ex_fieldAddr fo99_0 rfl rfl) ?_)
            refine Rg_op rfl (o_valg (v := .int .i64 x11.Key) (d := 36) rfl rfl (wanted_yes (b := (decide (x11.Key < 0))) rfl rfl rfl (decide_eq_false hg16)) (ex_load ca3 rfl (cell_of (H.rd 0 rfl))) ?_)
            refine Rg_op rfl (o_valg (v := .bool (decide (65535 < x11.Key))) (d := 37) rfl rfl (wanted_yes (b := (decide (x11.Key < 0))) rfl rfl rfl (decide_eq_false hg16)) (ex_gtr rfl rfl) ?_)
            refine Rg_op rfl (o_val (v := .bool (decide (65535 < x11.Key))) (d := 38) rfl rfl (ex_pick (q := (decide (x11.Key < 0))) rfl (fun h => absurd (of_decide_eq_true h) hg16) (fun h => rfl)) ?_)
            refine Rg_end ?_
            exact ⟨s2, s4, s5, s7, rfl, s25, s26, s27, rfl, rfl, rfl, rfl, rfl, rfl, rfl, (show (.bool (decide (65535 < x11.Key)) : Value) = .bool (decide ((x11.Key < 0) ∨ (65535 < x11.Key))) from by first | (simp only [hg16, true_or, or_true, false_or, or_false, true_and, and_true, false_and, and_false, decide_true, decide_false, Bool.not_true, Bool.not_false]; done) | (simp [hg16]; done) | (simp [hg16]; rfl)), s1000000, H⟩
        obtain ⟨s2, s4, s5, s7, s9, s25, s26, s27, s28, s29, s30, s31, s32, s33, s34, s38, s1000000, H⟩ := hI
        refine V_cond (b := (decide ((x11.Key < 0) ∨ (65535 < x11.Key)))) rfl s38 (fun hb17 => ?_) (fun hb17 => ?_)
        · have hb17 : (x11.Key < 0) ∨ (65535 < x11.Key) := of_decide_eq_true hb17
          refine V_seq rfl ?_
          refine V_region rfl ?_
          refine Rg_op rfl (o_val (v := .slice none 0 0) (d := 4) rfl rfl (ex_assign rfl) ?_)
          refine Rg_op rfl (o_val (v := .int .i64 3) (d := 5) rfl rfl (ex_assign rfl) ?_)
          refine Rg_end ?_
          have H := own_nil H (kSl kEnt) 41
          have hwe : wayE s (l.take k) x11 = 3 := if_pos (by assumption)
          have hte : tabsE s l = 3 := by rw [tabsE_at (k := k) hs (by omega) hx11 hall (by rw [hwe]; first | decide | assumption), hwe]
          have hr9 : tabsP s l = [] := if_pos (by rw [hte]; first | assumption | decide)
          refine V_ret rfl (end0 (v := .tuple #[.slice none 0 0, .int .i64 3]) s1000000 (res_tmp2 Try.results11 rfl rfl) ?_)
          exact ⟨none, 0, by rw [hr9, hte]; rfl, H.below, by rw [hr9]; exact H.give⟩
        · have hb17 : ¬ ((x11.Key < 0) ∨ (65535 < x11.Key)) := of_decide_eq_false hb17
          refine V_skip rfl ?_
          refine V_seq rfl ?_
          refine V_seq rfl ?_
          refine V_region rfl ?_
          have hw9 : l[k]? = some x11 := hx11
          refine Rg_op rfl (o_val (v := .map (some b8)) (d := 39) rfl rfl (ex_move s7) ?_)
          refine Rg_op rfl (o_val (v := .pointer (some ⟨b13, 0, none⟩)) (d := 40) rfl rfl (ex_fieldAddr fo99_0 s9 rfl) ?_)
          refine Rg_op rfl (o_val (v := .int .i64 x11.Key) (d := 41) rfl rfl (ex_load ca3 rfl (cell_of (H.rd 0 rfl))) ?_)
          refine Rg_op rfl (o_val (v := .slice ((lkS x11.Key kv).A) ((lkS x11.Key kv).xs.length) ((lkS x11.Key kv).c)) (d := 42) rfl rfl (by rw [show (Value.slice ((lkS x11.Key kv).A) ((lkS x11.Key kv).xs.length) ((lkS x11.Key kv).c) : Value) = ((mget x11.Key kv).map (Sld.val (α := Int))).getD (.slice none 0 0) from get_sld.symm]; exact ex_lookup (k := x11.Key) mt119 kI rfl rfl (H.mapAt 2 rfl)) ?_)
          refine Rg_op rfl (o_val (v := .bool (!Option.isNone ((lkS x11.Key kv).A))) (d := 43) rfl rfl (ex_notNil sl26 rfl rfl) ?_)
          refine Rg_end ?_
          refine V_cond (b := (!Option.isNone ((lkS x11.Key kv).A))) rfl rfl (fun hb19 => ?_) (fun hb19 => ?_)
          · skip
            have hin9 := (lk_in hkA).1 hb19
            refine V_seq rfl ?_
            refine V_region rfl ?_
            refine Rg_op rfl (o_val (v := .slice none 0 0) (d := 4) rfl rfl (ex_assign rfl) ?_)
            refine Rg_op rfl (o_val (v := .int .i64 5) (d := 5) rfl rfl (ex_assign rfl) ?_)
            refine Rg_end ?_
            have H := own_nil H (kSl kEnt) 41
            have hwe : wayE s (l.take k) x11 = 5 := by rw [wayE, if_neg (by assumption), if_pos (by rw [← kv_keys hkv]; exact hin9)]
            have hte : tabsE s l = 5 := by rw [tabsE_at (k := k) hs (by omega) hx11 hall (by rw [hwe]; first | decide | assumption), hwe]
            have hr9 : tabsP s l = [] := if_pos (by rw [hte]; first | assumption | decide)
            refine V_ret rfl (end0 (v := .tuple #[.slice none 0 0, .int .i64 5]) s1000000 (res_tmp2 Try.results11 rfl rfl) ?_)
            exact ⟨none, 0, by rw [hr9, hte]; rfl, H.below, by rw [hr9]; exact H.give⟩
          · skip
            have hnk : x11.Key ∉ kv.map (·.1) := fun h9 => by have h8 := (lk_in hkA).2 h9; rw [h8] at hb19; cases hb19
            refine V_skip rfl ?_
            refine V_seq rfl ?_
            refine V_region rfl ?_
            refine Rg_op rfl (o_val (v := .agg #[.int .i64 s.Wide, .int .i64 s.High, .int .i64 s.Room]) (d := 45) rfl rfl (ex_loadN (vs := [.int .i64 s.Wide, .int .i64 s.High, .int .i64 s.Room]) ca33 s2 rfl (blk_cells (H.rd 3 rfl) rfl)) ?_)
            refine Rg_op rfl (o_val (v := .pointer (some ⟨b13, 1, none⟩)) (d := 46) rfl rfl (ex_fieldAddr fo99_1 s9 rfl) ?_)
            refine Rg_op rfl (o_val (v := .int .i64 x11.Source) (d := 47) rfl rfl (ex_load ca3 rfl (cell_of (H.rd 0 rfl))) ?_)
            refine Rg_op rfl (o_val (v := .pointer (some ⟨b13, 2, none⟩)) (d := 48) rfl rfl (ex_fieldAddr fo99_2 s9 rfl) ?_)
            refine Rg_op rfl (o_val (v := .slice Ae12 x11.Targets.length ce12) (d := 49) rfl rfl (ex_load ca26 rfl (cell_of (H.rd 0 rfl))) ?_)
            refine Rg_op rfl (o_call (fv := []) (cap := []) (vs := [.agg #[.int .i64 s.Wide, .int .i64 s.High, .int .i64 s.Room], .int .i64 x11.Source, .slice Ae12 x11.Targets.length ce12]) rfl rfl cl32 rfl (tree_c s x11.Source _ _ x11.Targets _ (hWe12.mono (fun _ _ h => H.cell0 h)) (hl2 _ (List.mem_of_getElem? hw9))) fun v w24 hS => ?_)
            obtain ⟨A22, c23, rfl, hB, hN⟩ := hS
            have H := H.new hB hN
            refine Rg_op rfl (o_val (v := .tuple #[.slice A22 ((treeP s x11.Source x11.Targets).length) c23, .int .i64 (treeE s x11.Source x11.Targets)]) (d := 44) rfl rfl (ex_move rfl) ?_)
            refine Rg_op rfl (o_val (v := .slice A22 ((treeP s x11.Source x11.Targets).length) c23) (d := 51) rfl rfl (ex_extract rfl rfl) ?_)
            refine Rg_op rfl (o_val (v := .int .i64 (treeE s x11.Source x11.Targets)) (d := 52) rfl rfl (ex_extract rfl rfl) ?_)
            refine Rg_op rfl (o_val (v := .slice A22 ((treeP s x11.Source x11.Targets).length) c23) (d := 10) rfl rfl (ex_assign rfl) ?_)
            refine Rg_op rfl (o_val (v := .int .i64 (treeE s x11.Source x11.Targets)) (d := 11) rfl rfl (ex_assign rfl) ?_)
            refine Rg_end ?_
            refine V_seq rfl ?_
            refine V_seq rfl ?_
            refine V_region rfl ?_
            refine Rg_op rfl (o_val (v := .int .i64 (treeE s x11.Source x11.Targets)) (d := 53) rfl rfl (ex_move rfl) ?_)
            refine Rg_op rfl (o_val (v := .bool (decide ((treeE s x11.Source x11.Targets) ≠ 0))) (d := 54) rfl rfl (ex_neq rfl rfl) ?_)
            refine Rg_end ?_
            refine V_cond (b := (decide ((treeE s x11.Source x11.Targets) ≠ 0))) rfl rfl (fun hb25 => ?_) (fun hb25 => ?_)
            · have hb25 : (treeE s x11.Source x11.Targets) ≠ 0 := of_decide_eq_true hb25
              refine V_seq rfl ?_
              refine V_region rfl ?_
              refine Rg_op rfl (o_val (v := .int .i64 (treeE s x11.Source x11.Targets)) (d := 55) rfl rfl (ex_move rfl) ?_)
              refine Rg_op rfl (o_val (v := .slice none 0 0) (d := 4) rfl rfl (ex_assign rfl) ?_)
              refine Rg_op rfl (o_val (v := .int .i64 (treeE s x11.Source x11.Targets)) (d := 5) rfl rfl (ex_assign rfl) ?_)
              refine Rg_end ?_
              have H := own_nil H (kSl kEnt) 41
              have hwe : wayE s (l.take k) x11 = treeE s x11.Source x11.Targets := by rw [wayE, if_neg (by assumption), if_neg (fun h => hnk (by rw [kv_keys hkv]; exact h))]
              have hte : tabsE s l = treeE s x11.Source x11.Targets := by rw [tabsE_at (k := k) hs (by omega) hx11 hall (by rw [hwe]; first | decide | assumption), hwe]
              have hr9 : tabsP s l = [] := if_pos (by rw [hte]; first | assumption | decide)
              refine V_ret rfl (end0 (v := .tuple #[.slice none 0 0, .int .i64 (treeE s x11.Source x11.Targets)]) s1000000 (res_tmp2 Try.results11 rfl rfl) ?_)
              exact ⟨none, 0, by rw [hr9, hte]; rfl, H.below, by rw [hr9]; exact H.give⟩
            · have hb25 : ¬ ((treeE s x11.Source x11.Targets) ≠ 0) := of_decide_eq_false hb25
              have hte : treeE s x11.Source x11.Targets = 0 := by omega
              have htp : treeP s x11.Source x11.Targets = treeN s x11.Source x11.Targets := if_neg (by omega)
              rw [htp] at H
              have hne9 : treeN s x11.Source x11.Targets ≠ [] := fun e => by have := treeN_len s x11.Source x11.Targets; rw [e] at this; simp at this; omega
              have hsome := own_some H hne9
              have hwe : wayE s (l.take k) x11 = 0 := by rw [wayE, if_neg (by omega), if_neg (fun h => hnk (by rw [kv_keys hkv]; exact h)), hte]
              refine V_skip rfl ?_
              refine V_region rfl ?_
              refine Rg_op rfl (o_val (v := .map (some b8)) (d := 56) rfl rfl (ex_move s7) ?_)
              refine Rg_op rfl (o_val (v := .pointer (some ⟨b13, 0, none⟩)) (d := 57) rfl rfl (ex_fieldAddr fo99_0 s9 rfl) ?_)
              refine Rg_op rfl (o_val (v := .int .i64 x11.Key) (d := 58) rfl rfl (ex_load ca3 rfl (cell_of (H.rd 1 rfl))) ?_)
              refine Rg_op rfl (o_val (v := .slice A22 ((treeN s x11.Source x11.Targets).length) c23) (d := 59) rfl rfl (ex_move ((rfl : _ = Value.slice A22 ((treeP s x11.Source x11.Targets).length) c23).trans (by rw [htp]))) ?_)
              have H := H.pull 3 rfl rfl
              refine Rg_op rfl (o_mapUpdate (k := x11.Key) (v := (⟨A22, c23, (treeN s x11.Source x11.Targets)⟩ : Sld Int)) rfl mt119 kI rfl rfl rfl H fun w27 hA H => ?_)
              refine Rg_end ?_
              refine V_region rfl ?_
              rw [show mput x11.Key (⟨A22, c23, treeN s x11.Source x11.Targets⟩ : Sld Int) kv = kv ++ [(x11.Key, (⟨A22, c23, treeN s x11.Source x11.Targets⟩ : Sld Int))] from mput_new hnk] at H
              have H := H.pull 3 rfl rfl
              have H := H.pull 2 rfl rfl
              have H := rows_put (y := (⟨A22, c23, treeN s x11.Source x11.Targets⟩ : Sld Int)) H
              rw [show kv.map (·.2) ++ [(⟨A22, c23, treeN s x11.Source x11.Targets⟩ : Sld Int)] = (kv ++ [(x11.Key, (⟨A22, c23, treeN s x11.Source x11.Targets⟩ : Sld Int))]).map (·.2) from by rw [List.map_append]; rfl] at H
              refine Rg_op rfl (o_val (v := .int .i64 (((k : Nat) : Int) + 1)) (d := 60) rfl rfl (ex_add s27 rfl (by omega)) ?_)
              refine Rg_op rfl (o_val (v := .int .i64 (((k : Nat) : Int) + 1)) (d := 27) rfl rfl (ex_move rfl) ?_)
              refine Rg_end ?_
              exact ⟨k + 1, ⟨kv ++ [(x11.Key, (⟨A22, c23, treeN s x11.Source x11.Targets⟩ : Sld Int))], s2, s4, s5, s7, s25, s26, rfl, s1000000, (Hp.pull 2 rfl rfl (Hp.pull 2 rfl rfl (Hp.pull 2 rfl rfl (Hp.drop (Hp.pull 2 rfl rfl H))))), by omega, by rw [kvOf, List.map_append, ← kvOf, hkv, List.take_add_one, hw9]; simp [treesOf], fun x hx => (List.mem_append.1 hx).elim (hkA x) (fun hx => by simp only [List.mem_singleton] at hx; subst hx; exact hsome), lt_next hall (waysO_no hw9 hwe)⟩, by omega⟩
      · have hb10 : ¬ (((k : Nat) : Int) < ((l.length : Nat) : Int)) := of_decide_eq_false hb10
        have hallw : ∀ j, j < l.length → waysO s l j = none := fun j hj => hall j (by omega)
        obtain ⟨hnd, hok9⟩ := ways_ok hallw
        rw [List.take_of_length_le (by omega)] at hkv
        refine V_exit rfl ?_
        refine V_seq rfl ?_
        refine V_region rfl ?_
        refine Rg_op rfl (o_val (v := .pointer (some ⟨b1, 0, none⟩)) (d := 61) rfl rfl (ex_fieldAddr fo33_0 s2 rfl) ?_)
        refine Rg_op rfl (o_val (v := .int .i64 s.Wide) (d := 62) rfl rfl (ex_load ca3 rfl (cell_of (H.rd 2 rfl))) ?_)
        refine Rg_op rfl (o_val (v := .pointer (some ⟨b1, 1, none⟩)) (d := 63) rfl rfl (ex_fieldAddr fo33_1 s2 rfl) ?_)
        refine Rg_op rfl (o_val (v := .int .i64 s.High) (d := 64) rfl rfl (ex_load ca3 rfl (cell_of (H.rd 2 rfl))) ?_)
        refine Rg_op rfl (o_val (v := .int .i64 (s.Wide * s.High)) (d := 65) rfl rfl (ex_mul rfl rfl (by omega)) ?_)
        refine Rg_op rfl (o_make (D := (kSld : Kd (Sld Entry))) (z := (⟨none, 0, []⟩ : Sld Entry)) rfl sl29 rfl (fun _ => rfl) rfl (by omega) (by simp only []; omega) (by omega) H fun A28 c29 w30 hA H => ?_)
        refine Rg_op rfl (o_val (v := .slice A28 ((s.Wide * s.High).toNat) c29) (d := 12) rfl rfl (ex_assign rfl) ?_)
        refine Rg_end ?_
        refine V_seq rfl ?_
        refine V_seq rfl ?_
        refine V_region rfl ?_
        have H := rows_nil (d := kEnt) (e := 113) (s.Wide * s.High).toNat H
        refine Rg_op rfl (o_val (v := .slice A28 ((s.Wide * s.High).toNat) c29) (d := 67) rfl rfl (ex_move rfl) ?_)
        refine Rg_op rfl (o_val (v := .int .i64 (((s.Wide * s.High).toNat : Nat) : Int)) (d := 68) rfl rfl (ex_len (ts := #[]) sl29 rfl) ?_)
        refine Rg_op rfl (o_val (v := .int .i64 0) (d := 69) rfl rfl (ex_move rfl) ?_)
        refine Rg_end ?_
        refine V_block rfl ?_
        refine V_loop rfl (γ := Nat) (fun r σ w => ∃ (ds : List (Sld Entry)), σ 4 = .slice none 0 0 ∧ σ 5 = .int .i64 0 ∧ σ 7 = .map (some b8) ∧ σ 12 = .slice A28 ((s.Wide * s.High).toNat) c29 ∧ σ 68 = .int .i64 (((s.Wide * s.High).toNat : Nat) : Int) ∧ σ 69 = .int .i64 ((r : Nat) : Int) ∧ σ 1000000 = undef ∧ Hp w0.heap.size w0 w [SA.rows kEnt 113 ds, SA.own (kSld : Kd (Sld Entry)) 41 A28 c29 ds, SA.rows kInt 3 (kv.map (·.2)), SA.map kI.enc (Sld.val (α := Int)) b8 kv, SA.cel b1 #[.int .i64 s.Wide, .int .i64 s.High, .int .i64 s.Room] 33] ∧ r ≤ (s.Wide * s.High).toNat ∧ ds.length = (s.Wide * s.High).toNat ∧ (∀ i, i < r → (ds[i]?).map (·.xs) = some (tabAt s l i)) ∧ (∀ i, r ≤ i → i < (s.Wide * s.High).toNat → ds[i]? = some ⟨none, 0, []⟩)) (fun r => (s.Wide * s.High).toNat - r) (0) ⟨List.replicate (s.Wide * s.High).toNat ⟨none, 0, []⟩, s4, s5, s7, rfl, rfl, rfl, s1000000, H, by omega, by simp, fun i h => absurd h (by omega), fun i _ h => by rw [List.getElem?_replicate, if_pos h]⟩ (fun r σ w hI => ?_)
        obtain ⟨ds, hI⟩ := hI
        obtain ⟨s4, s5, s7, s12, s68, s69, s1000000, H, hr, hdl, hdone, hrest⟩ := hI
        refine V_seq rfl ?_
        refine V_region rfl ?_
        refine Rg_op rfl (o_val (v := .bool (decide (((r : Nat) : Int) < (((s.Wide * s.High).toNat : Nat) : Int)))) (d := 70) rfl rfl (ex_lss s69 s68) ?_)
        refine Rg_end ?_
        refine V_seq rfl ?_
        refine V_cond (b := (decide (((r : Nat) : Int) < (((s.Wide * s.High).toNat : Nat) : Int)))) rfl rfl (fun hb32 => ?_) (fun hb32 => ?_)
        · have hb32 : ((r : Nat) : Int) < (((s.Wide * s.High).toNat : Nat) : Int) := of_decide_eq_true hb32
          refine V_skip rfl ?_
          refine V_seq rfl ?_
          refine V_block rfl ?_
          refine V_seq rfl ?_
          refine V_region rfl ?_
          refine Rg_op rfl (o_val (v := .int .i64 ((r : Nat) : Int)) (d := 71) rfl rfl (ex_move s69) ?_)
          refine Rg_op rfl (o_val (v := .int .i64 ((r : Nat) : Int)) (d := 13) rfl rfl (ex_assign rfl) ?_)
          refine Rg_end ?_
          refine V_seq rfl ?_
          refine V_seq rfl ?_
          refine V_region rfl ?_
          refine Rg_op rfl (o_val (v := .map (some b8)) (d := 72) rfl rfl (ex_move s7) ?_)
          have H := H.pull 3 rfl rfl
          refine Rg_op rfl (o_range rfl mt119 rfl H fun it33 w34 H => ?_)
          refine Rg_end ?_
          refine V_block rfl ?_
          have hd0 := hrest r (Nat.le_refl r) (by omega)
          have H := H.pull 1 rfl rfl
          have H := big_out (perm_at hd0) H
          have H := H.pull 3 rfl rfl
          rw [show ds = ds.set r ⟨none, 0, []⟩ from (set_self hd0).symm] at H
          rw [show (ds.set r ⟨none, 0, []⟩).eraseIdx r = ds.eraseIdx r from by rw [set_self hd0]] at H
          refine V_loop rfl (γ := List Nat) (fun vis σ w => ∃ (Ac : Option Addr) (cc : Nat), σ 4 = .slice none 0 0 ∧ σ 5 = .int .i64 0 ∧ σ 7 = .map (some b8) ∧ σ 12 = .slice A28 ((s.Wide * s.High).toNat) c29 ∧ σ 13 = .int .i64 ((r : Nat) : Int) ∧ σ 68 = .int .i64 (((s.Wide * s.High).toNat : Nat) : Int) ∧ σ 69 = .int .i64 ((r : Nat) : Int) ∧ σ 70 = .bool (decide (((r : Nat) : Int) < (((s.Wide * s.High).toNat : Nat) : Int))) ∧ σ 71 = .int .i64 ((r : Nat) : Int) ∧ σ 72 = .map (some b8) ∧ σ 73 = .pointer (some ⟨it33, 0, none⟩) ∧ σ 1000000 = undef ∧ Hp w0.heap.size w0 w [SA.own (kSld : Kd (Sld Entry)) 41 A28 c29 (ds.set r ⟨Ac, cc, visEnts kv vis r⟩), SA.own kEnt 113 Ac cc (visEnts kv vis r), SA.rows kEnt 113 (ds.eraseIdx r), SA.ranged kI.enc (Sld.val (α := Int)) b8 it33 kv vis, SA.rows kInt 3 (kv.map (·.2)), SA.cel b1 #[.int .i64 s.Wide, .int .i64 s.High, .int .i64 s.Room] 33] ∧ vis.Nodup ∧ (∀ i ∈ vis, i < kv.length)) (fun vis => kv.length - vis.length) ([]) ⟨none, 0, s4, s5, s7, s12, rfl, s68, s69, rfl, rfl, rfl, rfl, s1000000, H, List.nodup_nil, by simp⟩ (fun vis σ w hI => ?_)
          obtain ⟨Ac, cc, hI⟩ := hI
          obtain ⟨s4, s5, s7, s12, s13, s68, s69, s70, s71, s72, s73, s1000000, H, hvn, hvl⟩ := hI
          have hvle : (visEnts kv vis r).length ≤ vis.length := List.length_filterMap_le _ _
          have hvk := nodup_len hvn hvl
          have hkl : kv.length = l.length := by have := congrArg List.length hkv; simpa [kvOf, treesOf] using this
          refine V_seq rfl ?_
          refine V_region rfl ?_
          have H := H.pull 3 rfl rfl
          refine Rg_op rfl (o_next rfl s73 H (fun i35 k35 v35 w hi35 hnv35 H => ?_) (fun w hall35 H => ?_))
          · skip
            refine Rg_op rfl (o_val (v := .bool true) (d := 75) rfl rfl (ex_extract rfl rfl) ?_)
            refine Rg_end ?_
            refine V_seq rfl ?_
            refine V_true rfl rfl ?_
            refine V_skip rfl ?_
            refine V_block rfl ?_
            refine V_seq rfl ?_
            refine V_region rfl ?_
            refine Rg_op rfl (o_val (v := .tuple #[.int .i64 k35, .slice v35.A v35.xs.length v35.c]) (d := 76) rfl rfl (ex_entry (enc := kI.enc) (evv := (Sld.val (α := Int))) (k := k35) (v := v35) s73 hi35 H) ?_)
            refine Rg_op rfl (o_val (v := .int .i64 k35) (d := 77) rfl rfl (ex_extract rfl rfl) ?_)
            refine Rg_op rfl (o_val (v := .slice v35.A v35.xs.length v35.c) (d := 78) rfl rfl (ex_extract rfl rfl) ?_)
            refine Rg_op rfl (o_val (v := .int .i64 k35) (d := 14) rfl rfl (ex_assign rfl) ?_)
            refine Rg_op rfl (o_val (v := .slice v35.A v35.xs.length v35.c) (d := 15) rfl rfl (ex_assign rfl) ?_)
            refine Rg_end ?_
            refine V_seq rfl ?_
            refine V_region rfl ?_
            refine Rg_op rfl (o_val (v := .slice v35.A v35.xs.length v35.c) (d := 79) rfl rfl (ex_move rfl) ?_)
            refine Rg_op rfl (o_val (v := .int .i64 ((r : Nat) : Int)) (d := 80) rfl rfl (ex_move s13) ?_)
            have hvx9 := kv_get hkv hi35
            have hr36 := (rows_row (show (kv.map (·.2))[i35]? = some v35 from by rw [List.getElem?_map, hi35]; rfl) (H.pull 4 rfl rfl)).1
            obtain ⟨ad37, x37, cs37, hA37, hx37, hR37, hc37⟩ := Row.get hr36 ((r : Nat) : Int) ((by first | omega | (simp only [List.length_set]; omega))) ((by first | omega | (simp only [List.length_set]; omega)))
            obtain rfl := hR37
            refine Rg_op rfl (o_val (v := .pointer (some (ad37.add ((((r : Nat) : Int)).toNat * 1)))) (d := 81) rfl rfl (ex_indexAddr sl26 rfl hA37 rfl ((by first | omega | (simp only [List.length_set]; omega))) ((by first | omega | (simp only [List.length_set]; omega))) rfl) ?_)
            refine Rg_op rfl (o_val (v := .int .i64 x37) (d := 82) rfl rfl (ex_load ca3 rfl (hc37 0 _ rfl)) ?_)
            refine Rg_op rfl (o_val (v := .bool (decide (x37 ≠ 0))) (d := 83) rfl rfl (ex_neq rfl rfl) ?_)
            refine Rg_end ?_
            refine V_cond (b := (decide (x37 ≠ 0))) rfl rfl (fun hb38 => ?_) (fun hb38 => ?_)
            · have hb38 : x37 ≠ 0 := of_decide_eq_true hb38
              have hz9 := hb38
              refine V_draw [0, 1, 2, 3, 4, 6, 7, 8, 9, 11, 14] (.p 0 (.p 1 (.p 2 (.p 3 (.p 4 (.q 5 (.p 6 (.p 7 (.p 8 (.p 9 (.q 10 (.p 11 (.l 12 (.l 13 (.p 14 (.l 15 .done)))))))))))))))) (fun _ => False) rfl mixed (by kernel_rfl) fun w39 hD => ?_
              have H := H.drew hD
              refine c_p (v := .slice A28 ((s.Wide * s.High).toNat) c29) (d := 84) rfl rfl rfl (fun w' => ex_move s12) ?_
              refine c_p (v := .int .i64 ((r : Nat) : Int)) (d := 85) rfl rfl rfl (fun w' => ex_move s13) ?_
              refine c_p (v := .slice A28 ((s.Wide * s.High).toNat) c29) (d := 86) rfl rfl rfl (fun w' => ex_move s12) ?_
              refine c_p (v := .int .i64 ((r : Nat) : Int)) (d := 87) rfl rfl rfl (fun w' => ex_move s13) ?_
              have hr40 := (own_row (H.pull 1 rfl rfl)).1
              obtain ⟨ad41, x41, cs41, hA41, hx41, hR41, hc41⟩ := Row.get hr40 ((r : Nat) : Int) ((by first | omega | (simp only [List.length_set]; omega))) ((by first | omega | (simp only [List.length_set]; omega)))
              obtain rfl := hR41
              refine c_p (v := .pointer (some (ad41.add ((((r : Nat) : Int)).toNat * 1)))) (d := 88) rfl rfl rfl (fun w' => ex_indexAddr sl29 rfl hA41 rfl ((by first | omega | (simp only [List.length_set]; omega))) ((by first | omega | (simp only [List.length_set]; omega))) rfl) ?_
              have hx9 : x41 = ⟨Ac, cc, visEnts kv vis r⟩ := by have h9 := hx41; rw [show (((r : Nat) : Int)).toNat = r from rfl, List.getElem?_set_self (show r < ds.length by omega)] at h9; injection h9 with h9; exact h9.symm
              subst hx9
              refine c_q (v := .slice Ac ((visEnts kv vis r).length) cc) (d := 89) rfl rfl rfl (fun w' hG => ex_load ca41 rfl (hG.cell (hc41 0 _ rfl) id)) ?_
              refine c_p (v := .int .i64 k35) (d := 90) rfl rfl rfl (fun w' => ex_move rfl) ?_
              refine c_p (v := .slice v35.A v35.xs.length v35.c) (d := 91) rfl rfl rfl (fun w' => ex_move rfl) ?_
              refine c_p (v := .int .i64 ((r : Nat) : Int)) (d := 92) rfl rfl rfl (fun w' => ex_move s13) ?_
              have hr42 := (rows_row (show (kv.map (·.2))[i35]? = some v35 from by rw [List.getElem?_map, hi35]; rfl) (H.pull 4 rfl rfl)).1
              obtain ⟨ad43, x43, cs43, hA43, hx43, hR43, hc43⟩ := Row.get hr42 ((r : Nat) : Int) ((by first | omega | (simp only [List.length_set]; omega))) ((by first | omega | (simp only [List.length_set]; omega)))
              obtain rfl := hR43
              refine c_p (v := .pointer (some (ad43.add ((((r : Nat) : Int)).toNat * 1)))) (d := 93) rfl rfl rfl (fun w' => ex_indexAddr sl26 rfl hA43 rfl ((by first | omega | (simp only [List.length_set]; omega))) ((by first | omega | (simp only [List.length_set]; omega))) rfl) ?_
              refine c_q (v := .int .i64 x43) (d := 94) rfl rfl rfl (fun w' hG => ex_load ca3 rfl (hG.cell (hc43 0 _ rfl) id)) ?_
              have hxx9 : x43 = x37 := by have h1 := hx37; rw [hx43] at h1; injection h1
              refine c_p (v := .agg #[.int .i64 k35, .int .i64 65535, .int .i64 x43]) (d := 95) rfl rfl rfl (fun w' => ex_eq (by kernel_rfl)) ?_
              refine c_l rfl (o_lit (cs := [.int .i64 k35, .int .i64 65535, .int .i64 x43]) (e := 113) rfl (fun W => by kernel_rfl) H fun b44 w45 hA H => ⟨.inr (Below.agr hA), ?_⟩)
              have H := H.pull 3 rfl rfl
              refine c_l rfl (o_append (ys := [(⟨k35, 65535, x43⟩ : Entry)]) (ts := #[]) rfl sl41 rfl rfl rfl H (row_lit1 (z := (⟨k35, 65535, x43⟩ : Entry)) (H.rd 1 rfl) rfl) (by first | omega | (simp only [List.length_append, List.length_cons, List.length_nil, List.length_map, List.length_take]; omega)) (by first | omega | (simp only [List.length_append, List.length_cons, List.length_nil, List.length_map, List.length_take]; omega)) fun A46 c47 w48 hA H => ⟨.inl (by kernel_rfl), ?_⟩)
              have H := (H.pull 1 rfl rfl).drop
              have hr50 := (own_row (H.pull 2 rfl rfl)).1
              obtain ⟨ad51, x51, cs51, hA51, hx51, hR51, hc51⟩ := Row.get hr50 ((r : Nat) : Int) ((by first | omega | (simp only [List.length_set]; omega))) ((by first | omega | (simp only [List.length_set]; omega)))
              obtain rfl := hR51
              refine c_p (v := .pointer (some (ad51.add ((((r : Nat) : Int)).toNat * 1)))) (d := 98) rfl rfl rfl (fun w' => ex_indexAddr sl29 rfl hA51 rfl ((by first | omega | (simp only [List.length_set]; omega))) ((by first | omega | (simp only [List.length_set]; omega))) rfl) ?_
              have H := H.pull 2 rfl rfl
              refine c_l rfl (o_set (vs := [.slice A46 (((visEnts kv vis r) ++ [(⟨k35, 65535, x43⟩ : Entry)]).length) c47]) (x1 := (⟨A46, c47, ((visEnts kv vis r) ++ [(⟨k35, 65535, x43⟩ : Entry)])⟩ : Sld Entry)) (i := (((r : Nat) : Int)).toNat) (off := 0) rfl ts41 hA51 rfl rfl rfl rfl hx51 rfl rfl H fun w52 hA H => ⟨.inl (by kernel_rfl), ?_⟩)
              refine c_done ?_
              have H := H.pull 1 rfl rfl
              have hi9 := (List.getElem?_eq_some_iff.1 hi35).1
              have hvn2 : (vis ++ [i35]).Nodup := by rw [List.nodup_append]; exact ⟨hvn, by simp, fun a ha c hc => by simp at hc; subst hc; rintro rfl; exact hnv35 ha⟩
              have hvl2 : ∀ j ∈ vis ++ [i35], j < kv.length := fun j hj => (List.mem_append.1 hj).elim (hvl j) (fun hj => by simp at hj; subst hj; exact hi9)
              have e9 : (visEnts kv vis r) ++ [(⟨k35, 65535, x43⟩ : Entry)] = visEnts kv (vis ++ [i35]) r := by rw [vis_snoc hi35, entO, if_pos (by rw [show v35.xs[r]? = some x43 from hx43]; simpa [hxx9] using hz9), show v35.xs[r]? = some x43 from hx43]; rfl
              rw [show (((r : Nat) : Int)).toNat = r from rfl, List.set_set, e9] at H
              exact ⟨vis ++ [i35], ⟨A46, c47, s4, s5, s7, s12, s13, s68, s69, s70, s71, s72, s73, s1000000, (Hp.pull 5 rfl rfl (Hp.pull 4 rfl rfl (Hp.pull 5 rfl rfl (Hp.pull 4 rfl rfl (Hp.pull 5 rfl rfl (Hp.pull 5 rfl rfl H)))))), hvn2, hvl2⟩, by have := nodup_len hvn2 hvl2; simp only [List.length_append, List.length_cons, List.length_nil] at *; omega⟩
            · have hb38 : ¬ (x37 ≠ 0) := of_decide_eq_false hb38
              have hz9 := hb38
              refine V_skip rfl ?_
              have H := H.pull 1 rfl rfl
              have H := H.pull 2 rfl rfl
              have hi9 := (List.getElem?_eq_some_iff.1 hi35).1
              have hvn2 : (vis ++ [i35]).Nodup := by rw [List.nodup_append]; exact ⟨hvn, by simp, fun a ha c hc => by simp at hc; subst hc; rintro rfl; exact hnv35 ha⟩
              have hvl2 : ∀ j ∈ vis ++ [i35], j < kv.length := fun j hj => (List.mem_append.1 hj).elim (hvl j) (fun hj => by simp at hj; subst hj; exact hi9)
              have e9 : visEnts kv vis r = visEnts kv (vis ++ [i35]) r := by rw [vis_snoc hi35, entO, if_neg (by rw [show v35.xs[r]? = some x37 from hx37]; simpa using hz9)]; simp
              rw [e9] at H
              exact ⟨vis ++ [i35], ⟨Ac, cc, s4, s5, s7, s12, s13, s68, s69, s70, s71, s72, s73, s1000000, (Hp.pull 5 rfl rfl (Hp.pull 4 rfl rfl (Hp.pull 5 rfl rfl (Hp.pull 4 rfl rfl (Hp.pull 5 rfl rfl (Hp.pull 5 rfl rfl H)))))), hvn2, hvl2⟩, by have := nodup_len hvn2 hvl2; simp only [List.length_append, List.length_cons, List.length_nil] at *; omega⟩
          · skip
            refine Rg_op rfl (o_val (v := .bool false) (d := 75) rfl rfl (ex_extract rfl rfl) ?_)
            refine Rg_end ?_
            refine V_seq rfl ?_
            refine V_false rfl rfl ?_
            refine V_exit rfl ?_
            refine V_region rfl ?_
            refine Rg_op rfl (o_val (v := .slice A28 ((s.Wide * s.High).toNat) c29) (d := 99) rfl rfl (ex_move s12) ?_)
            refine Rg_op rfl (o_val (v := .int .i64 ((r : Nat) : Int)) (d := 100) rfl rfl (ex_move s13) ?_)
            have hr53 := (own_row (H.pull 1 rfl rfl)).1
            obtain ⟨ad54, x54, cs54, hA54, hx54, hR54, hc54⟩ := Row.get hr53 ((r : Nat) : Int) ((by first | omega | (simp only [List.length_set]; omega))) ((by first | omega | (simp only [List.length_set]; omega)))
            obtain rfl := hR54
            refine Rg_op rfl (o_val (v := .pointer (some (ad54.add ((((r : Nat) : Int)).toNat * 1)))) (d := 101) rfl rfl (ex_indexAddr sl29 rfl hA54 rfl ((by first | omega | (simp only [List.length_set]; omega))) ((by first | omega | (simp only [List.length_set]; omega))) rfl) ?_)
            have hx9 : x54 = ⟨Ac, cc, visEnts kv vis r⟩ := by have h9 := hx54; rw [show (((r : Nat) : Int)).toNat = r from rfl, List.getElem?_set_self (show r < ds.length by omega)] at h9; injection h9 with h9; exact h9.symm
            subst hx9
            refine Rg_op rfl (o_val (v := .slice Ac ((visEnts kv vis r).length) cc) (d := 102) rfl rfl (ex_load ca41 rfl (hc54 0 _ rfl)) ?_)
            have H := H.pull 2 rfl rfl
            have hvl12 : (visEnts kv vis r).length ≤ 12 := by have h1 := (vis_all hkv hvn hvl hall35 r).length_eq; have h2 : (entsAt s l r).length ≤ l.length := List.length_filterMap_le _ _; omega
            refine Rg_op rfl (o_call (fv := []) (cap := []) (vs := [.slice Ac ((visEnts kv vis r).length) cc, .func (.func 43) #[] #[]]) rfl rfl cl42 rfl (esort12_c _ _ _ _ _ _ (visEnts kv vis r).toArray (fun x y : Entry => cmp3 x.Key y.Key) 43 [] [] H (by simpa using (by omega : (visEnts kv vis r).length ≤ 100000)) cl43 (fun x y w => cmpE_c x y w) (by simpa using hvl12)) fun v w55 hS => ?_)
            have H := hS
            have e9 := sort12_ins (ents_keys (s := s) hnd r) (vis_all hkv hvn hvl hall35 r)
            rw [e9, show insAll (entsAt s l r) = tabAt s l r from rfl] at H
            have H := H.pull 2 rfl rfl
            have hlen9 : (visEnts kv vis r).length = (tabAt s l r).length := by rw [tabAt, ← e9, ins_len]
            have H := own_ghost (l' := ds.set r ⟨Ac, cc, tabAt s l r⟩) (by rw [List.map_set, List.map_set, hlen9]) H
            have H := H.pull 3 rfl rfl
            have H := H.pull 2 rfl rfl
            have H := big_in (f := fun s => SA.own kEnt 113 s.A s.c s.xs) (l := ds.set r ⟨Ac, cc, tabAt s l r⟩) (x := ⟨Ac, cc, tabAt s l r⟩) (l' := ds.eraseIdx r) (perm_set _ (by omega)) H
            have H := H.pull 2 rfl rfl
            have H := ranged_done H
            refine Rg_end ?_
            refine V_region rfl ?_
            refine Rg_op rfl (o_val (v := .int .i64 (((r : Nat) : Int) + 1)) (d := 104) rfl rfl (ex_add s69 rfl (by omega)) ?_)
            refine Rg_op rfl (o_val (v := .int .i64 (((r : Nat) : Int) + 1)) (d := 69) rfl rfl (ex_move rfl) ?_)
            refine Rg_end ?_
            exact ⟨r + 1, ⟨ds.set r ⟨Ac, cc, tabAt s l r⟩, s4, s5, s7, s12, s68, rfl, s1000000, (Hp.pull 4 rfl rfl (Hp.pull 4 rfl rfl (Hp.pull 4 rfl rfl (Hp.pull 1 rfl rfl (Hp.pull 4 rfl rfl H))))), by omega, by rw [List.length_set]; exact hdl, lt_next (fun i hi => by rw [List.getElem?_set_ne (by omega)]; exact hdone i hi) (by rw [List.getElem?_set_self (by omega)]; rfl), fun i h1 h2 => by rw [List.getElem?_set_ne (by omega)]; exact hrest i (by omega) h2⟩, by omega⟩
        · have hb32 : ¬ (((r : Nat) : Int) < (((s.Wide * s.High).toNat : Nat) : Int)) := of_decide_eq_false hb32
          refine V_exit rfl ?_
          refine V_seq rfl ?_
          refine V_region rfl ?_
          refine Rg_op rfl (o_val (v := .slice A28 ((s.Wide * s.High).toNat) c29) (d := 105) rfl rfl (ex_move s12) ?_)
          refine Rg_op rfl (o_val (v := .slice A28 ((s.Wide * s.High).toNat) c29) (d := 4) rfl rfl (ex_assign rfl) ?_)
          refine Rg_op rfl (o_val (v := .int .i64 0) (d := 5) rfl rfl (ex_assign rfl) ?_)
          refine Rg_end ?_
          have H := H.pull 1 rfl rfl
          have hte : tabsE s l = 0 := tabsE_no hs (by omega) hallw
          have hr9 : tabsP s l = ds.map (·.xs) := by
            rw [tabsP, if_neg (by omega)]
            apply List.ext_getElem?
            intro i
            by_cases hi : i < (s.Wide * s.High).toNat
            · rw [List.getElem?_map, List.getElem?_range hi, List.getElem?_map, hdone i (by omega)]; rfl
            · rw [List.getElem?_eq_none (by simp; omega), List.getElem?_eq_none (by simp; omega)]
          have H := rows_done H
          refine V_ret rfl (end0 (v := .tuple #[.slice A28 ((s.Wide * s.High).toNat) c29, .int .i64 0]) s1000000 (res_tmp2 Try.results11 rfl rfl) ?_)
          exact ⟨A28, c29, by rw [hr9, hte, List.length_map, hdl], H.below, by rw [hr9]; exact H.give⟩

end Go.Proofs.Ytlnogaoihkinbaa
set_option linter.unusedSectionVars false
namespace Go.Proofs.Ytlnogaoihkinbaa
open Go.Gk Go.RowKit
structure Arr where
  Packet : Int
  Core : Int
  Tick : Int
  deriving DecidableEq
structure Drp where
  Packet : Int
  Router : Int
  Out : Int
  Tick : Int
  deriving DecidableEq
structure V2 where
  a : Int
  b : Int
  deriving DecidableEq
def kArr : Kd Arr := flat 3 (fun x => [.int .i64 x.Packet, .int .i64 x.Core, .int .i64 x.Tick]) (fun _ => rfl) (fun _ => rfl)
def kDrp : Kd Drp := flat 4 (fun x => [.int .i64 x.Packet, .int .i64 x.Router, .int .i64 x.Out, .int .i64 x.Tick]) (fun _ => rfl) (fun _ => rfl)
def kV2 : Kd V2 := flat 2 (fun x => [.int .i64 x.a, .int .i64 x.b]) (fun _ => rfl) (fun _ => rfl)
/-- A queue in memory. -/
structure Qd where
  b : Nat
  A : Option Addr
  c : Nat
  xs : List Int
def Qd.val (q : Qd) : Value := .pointer (some ⟨q.b, 0, none⟩)
abbrev SA.ints (A : Option Addr) (c : Nat) (xs : List Int) : SA := SA.que (fun x => .int .i64 x) 3 A c xs
def qpart (q : Qd) : SA := SA.star (SA.cel q.b #[.slice q.A q.xs.length q.c] 153) (SA.ints q.A q.c q.xs)
abbrev SA.queues (kv : List (Port × Qd)) : SA := SA.big (fun x : Port × Qd => qpart x.2) kv
/-- What is in a queue. -/
def qf (kv : List (Port × Qd)) (k : Port) : List Int := ((mget k kv).map (·.xs)).getD []
def updP {β : Type} (f : Port → β) (k : Port) (x : β) : Port → β := fun p => if p = k then x else f p
section
variable {n0 : Nat} {w0 w : World} {L : List SA} {kv : List (Port × Qd)} {k : Port} {q : Qd} {i : Nat}
theorem map_ghost {κ ν : Type} {enc : κ → Value} {ev : ν → Value} {b : Nat} {kv kv' : List (κ × ν)} (h : kv.map (fun x => (enc x.1, ev x.2)) = kv'.map (fun x => (enc x.1, ev x.2))) (H : Hp n0 w0 w (SA.map enc ev b kv :: L)) : Hp n0 w0 w (SA.map enc ev b kv' :: L) := by
  refine H.weaken fun F hF ⟨x, hs, hb⟩ => ⟨x, ⟨?_, ?_, hs.nodup, hs.lt⟩, hb⟩
  · have := congrArg (List.map (·.1)) h
    simp only [List.map_map] at this
    rw [hs.keys]; exact this
  · have := congrArg (List.map (·.2)) h
    simp only [List.map_map] at this
    rw [hs.vals]; exact this
theorem mget_at {κ ν : Type} [DecidableEq κ] {k : κ} {v : ν} : ∀ {kv : List (κ × ν)}, mget k kv = some v → ∃ i : Nat, kv[i]? = some (k, v)
  | x :: l, h => by
    simp only [mget] at h
    split at h
    · rename_i hk
      injection h with h
      exact ⟨0, by subst hk h; rfl⟩
    · obtain ⟨i, hi⟩ := mget_at h
      exact ⟨i + 1, by simpa using hi⟩
theorem mget_nodup {κ ν : Type} [DecidableEq κ] {k : κ} {v : ν} : ∀ {kv : List (κ × ν)} {i : Nat}, (kv.map (·.1)).Nodup → kv[i]? = some (k, v) → mget k kv = some v
  | [], i, _, h => by simp at h
  | x :: l, 0, _, h => by simp at h; subst h; simp [mget]
  | x :: l, i + 1, hn, h => by
    simp only [List.map_cons, List.nodup_cons] at hn
    have h2 : l[i]? = some (k, v) := by simpa using h
    have hne : k ≠ x.1 := fun e => hn.1 (by rw [← e]; exact List.mem_map.2 ⟨_, List.mem_of_getElem? h2, rfl⟩)
    simp only [mget, if_neg hne]
    exact mget_nodup hn.2 h2
theorem mget_put {κ ν : Type} [DecidableEq κ] (k : κ) (v : ν) : ∀ (kv : List (κ × ν)), mget k (mput k v kv) = some v
  | [] => by simp [mput, mget]
  | x :: l => by
    simp only [mput]
    by_cases hk : k = x.1
    · simp [hk, mget]
    · simp only [if_neg hk, mget]; exact mget_put k v l
theorem mget_set {κ ν : Type} [DecidableEq κ] {k : κ} {v u : ν} {kv : List (κ × ν)} {i : Nat} (hn : (kv.map (·.1)).Nodup) (h : kv[i]? = some (k, v)) (p : κ) : mget p (kv.set i (k, u)) = if p = k then some u else mget p kv := by
  have hkeys : (kv.set i (k, u)).map (·.1) = kv.map (·.1) := by
    rw [List.map_set]
    exact set_self (by simp [h])
  by_cases hp : p = k
  · subst hp
    rw [if_pos rfl]
    exact mget_nodup (i := i) (by rw [hkeys]; exact hn) (List.getElem?_set_self (List.getElem?_eq_some_iff.1 h).1)
  · rw [if_neg hp]
    cases hm : mget p kv with
    | none =>
      have : ¬ (mget p (kv.set i (k, u))).isSome = true := by
        rw [mget_key, hkeys, ← mget_key, hm]; simp
      simpa using this
    | some x =>
      obtain ⟨j, hj⟩ := mget_at hm
      have hij : i ≠ j := by
        rintro rfl
        rw [h] at hj
        injection hj with hj
        injection hj with hj
        exact hp hj.symm
      exact mget_nodup (i := j) (by rw [hkeys]; exact hn) (by rw [List.getElem?_set_ne hij]; exact hj)
theorem mget_app {κ ν : Type} [DecidableEq κ] {k : κ} {v : ν} : ∀ {kv : List (κ × ν)} (p : κ), mget p (kv ++ [(k, v)]) = ((mget p kv).or (if p = k then some v else none))
  | [], p => by simp [mget]
  | x :: l, p => by
    simp only [List.cons_append, mget]
    by_cases hp : p = x.1
    · simp [hp]
    · simp only [if_neg hp]; exact mget_app p
/-- A queue comes back, changed. -/
theorem q_back {A : Option Addr} {c mq : Nat} {xs : List Int} (hi : kv[i]? = some (k, q)) (H : Hp n0 w0 w (SA.map kPort.enc Qd.val mq kv :: SA.cel q.b #[.slice A xs.length c] 153 :: SA.ints A c xs :: SA.queues (kv.eraseIdx i) :: L)) :
    Hp n0 w0 w (SA.map kPort.enc Qd.val mq (kv.set i (k, ⟨q.b, A, c, xs⟩)) :: SA.queues (kv.set i (k, ⟨q.b, A, c, xs⟩)) :: L) := by
  have hl := (List.getElem?_eq_some_iff.1 hi).1
  have H1 := (H.pull 2 rfl rfl).pull 2 rfl rfl
  have H2 : Hp n0 w0 w (qpart ⟨q.b, A, c, xs⟩ :: SA.map kPort.enc Qd.val mq kv :: SA.queues (kv.eraseIdx i) :: L) := H1.join
  have H3 : Hp n0 w0 w (qpart ⟨q.b, A, c, xs⟩ :: SA.queues (kv.eraseIdx i) :: SA.map kPort.enc Qd.val mq kv :: L) := H2.perm (List.Perm.cons _ (List.Perm.swap _ _ _))
  have H4 := big_in (f := fun x : Port × Qd => qpart x.2) (l := kv.set i (k, ⟨q.b, A, c, xs⟩)) (x := (k, ⟨q.b, A, c, xs⟩)) (l' := kv.eraseIdx i) (perm_set _ hl) H3
  refine map_ghost ?_ (H4.pull 1 rfl rfl)
  rw [List.map_set]
  exact (set_self (by simp [hi, Qd.val])).symm
/-- A queue is taken out. -/
theorem q_out {mq : Nat} (hi : kv[i]? = some (k, q)) (H : Hp n0 w0 w (SA.map kPort.enc Qd.val mq kv :: SA.queues kv :: L)) : Hp n0 w0 w (SA.map kPort.enc Qd.val mq kv :: SA.cel q.b #[.slice q.A q.xs.length q.c] 153 :: SA.ints q.A q.c q.xs :: SA.queues (kv.eraseIdx i) :: L) := by
  have H1 := big_out (f := fun x : Port × Qd => qpart x.2) (perm_at hi) (H.pull 1 rfl rfl)
  have H2 : Hp n0 w0 w (SA.cel q.b #[.slice q.A q.xs.length q.c] 153 :: SA.ints q.A q.c q.xs :: SA.queues (kv.eraseIdx i) :: SA.map kPort.enc Qd.val mq kv :: L) := Hp.split H1
  exact (H2.pull 3 rfl rfl)
theorem qf_set {A : Option Addr} {c : Nat} {xs : List Int} (hn : (kv.map (·.1)).Nodup) (hi : kv[i]? = some (k, q)) : qf (kv.set i (k, ⟨q.b, A, c, xs⟩)) = updP (qf kv) k xs := by
  funext p
  simp only [qf, updP, mget_set hn hi]
  by_cases hp : p = k <;> simp [hp]
theorem qf_app {k : Port} {q : Qd} (hq : q.xs = []) (hk : k ∉ kv.map (·.1)) : qf (kv ++ [(k, q)]) = qf kv := by
  funext p
  simp only [qf, mget_app]
  by_cases hp : p = k
  · subst hp
    have : mget p kv = none := by
      cases hm : mget p kv with
      | none => rfl
      | some v => exact absurd (mget_key.1 (by rw [hm]; rfl)) hk
    simp [this, hq]
  · simp [hp]
def QRel (kv kv' : List (Port × Qd)) (k : Port) (q : Qd) : Prop := qf kv' = qf kv ∧ q.xs = qf kv k ∧ (kv'.map (·.1)).Nodup ∧ ∀ p ∈ kv'.map (·.1), p ∈ kv.map (·.1) ∨ p = k
theorem erase_last {ι : Type} (l : List ι) (x : ι) : (l ++ [x]).eraseIdx l.length = l := by
  rw [List.eraseIdx_append_of_length_le (Nat.le_refl _)]
  simp
theorem mget_none {κ ν : Type} [DecidableEq κ] {k : κ} {kv : List (κ × ν)} (h : (mget k kv).isNone = true) : k ∉ kv.map (·.1) := fun hm => by
  have := mget_key.2 hm
  cases hg : mget k kv <;> simp_all
theorem QRel.new {kv : List (Port × Qd)} {k : Port} {q : Qd} (hn : (kv.map (·.1)).Nodup) (hk : k ∉ kv.map (·.1)) (hq : q.xs = []) : QRel kv (kv ++ [(k, q)]) k q := by
  refine ⟨qf_app hq hk, ?_, ?_, fun p hp => ?_⟩
  · have : mget k kv = none := by
      cases hm : mget k kv with
      | none => rfl
      | some v => exact absurd (mget_key.1 (by rw [hm]; rfl)) hk
    simp [qf, this, hq]
  · rw [List.map_append, List.nodup_append]
    exact ⟨hn, by simp, fun a ha b hb => by simp at hb; subst hb; rintro rfl; exact hk ha⟩
  · rw [List.map_append, List.mem_append] at hp
    simpa using hp
theorem QRel.old {kv : List (Port × Qd)} {k : Port} {q : Qd} (hn : (kv.map (·.1)).Nodup) (hm : mget k kv = some q) : QRel kv kv k q :=
  ⟨rfl, by simp [qf, hm], hn, fun p hp => .inl hp⟩
end
section
variable {P : Program} {σ : Env} {w : World} {d : Option Nat} {t xT yT e : TypeId} {p : String} {af : Array Edge} {g : Option (Nat × Bool)} {x y : Operand}
theorem run_equalInp (n : Nat) (ht : P.underlying xT = some (.pointer e)) (w : World) (a : Option Addr) : (Op.equalIn (n + 1) xT (.pointer a) (.pointer none)).run P w = .ok a.isNone w := by
  cases a <;> simp [Op.equalIn, run_underlying ht]
theorem run_equalp (ht : P.underlying xT = some (.pointer e)) (w : World) (a : Option Addr) : (Op.equal xT (.pointer a) (.pointer none)).run P w = .ok a.isNone w := run_equalInp 9999 ht w a
theorem ex_nilPtr {o : Option Qd} (hu : P.underlying xT = some (.pointer e)) (hx : ev σ x = (o.map Qd.val).getD (.pointer none)) (hy : ev σ y = .pointer none) : Ex P σ ⟨d, .binOp .eql xT x y yT, t, p, af, g⟩ w (.bool o.isNone) := by
  obtain ⟨a, ha, hn⟩ : ∃ a : Option Addr, ev σ x = .pointer a ∧ a.isNone = o.isNone := by
    cases o with
    | none => exact ⟨none, hx, rfl⟩
    | some q => exact ⟨_, hx, rfl⟩
  have h2 : (binOp .eql xT (.pointer a) (.pointer none)).run P w = .ok (.bool a.isNone) w := by simp only [binOp]; simp [run_equalp hu]
  have h3 : (eqGuard .eql xT x y (.pointer a) (.pointer none)).run P w = .ok () w := by simp [eqGuard]
  rw [← hn]
  simp [Ex, execOp, ha, hy, h2, h3]
end
end Go.Proofs.Ytlnogaoihkinbaa
namespace Go.Proofs.Ytlnogaoihkinbaa
open Go.Gk Go.RowKit
theorem ca139 : cellsAgg Try.prog 139 = some none := by kernel_rfl
theorem ca150 : cellsAgg Try.prog 150 = some (some 3) := by kernel_rfl
theorem fo142_4 : fieldOff Try.prog 142 4 = some 6 := by kernel_rfl
theorem fo153_0 : fieldOff Try.prog 153 0 = some 0 := by kernel_rfl
theorem mt139 : mapT Try.prog 139 = some ⟨150, 151, .pointer none⟩ := by kernel_rfl
theorem outputs_c (w0 : World) :
    Calls Try.prog 63 #[] w0 fun e w' => ∃ v, e = .returned v ∧ (∃ A' c', v = .slice A' ([1, 2, 4, 8, 16]).length c' ∧ Below w0.heap.size w0 w' ∧ New (SA.own kInt 3 A' c' ([1, 2, 4, 8, 16])) w0 w') := by
  refine calls_of (n := 2) (l := []) Try.func63 rfl rfl rfl ?_
  have H := Hp.start w0
  refine V_seq rfl ?_
  refine V_region rfl ?_
  refine Rg_op rfl (o_val (v := .slice none 0 0) (d := 0) rfl rfl (ex_assign rfl) ?_)
  refine Rg_end ?_
  refine V_seq rfl ?_
  refine V_region rfl ?_
  refine Rg_op rfl (o_lit (cs := [.int .i64 1, .int .i64 2, .int .i64 4, .int .i64 8, .int .i64 16]) (e := 3) rfl (fun W => by kernel_rfl) H fun b1 w2 hA H => ?_)
  refine Rg_op rfl (o_val (v := .slice (some ⟨b1, 0, none⟩) 5 5) (d := 0) rfl rfl (ex_assign rfl) ?_)
  refine Rg_end ?_
  have H := own_litF (m := 1) (enc := fun x : Int => [.int .i64 x]) (hl := fun _ => rfl) (h1 := fun _ => rfl) (zs := ([1, 2, 4, 8, 16] : List Int)) H rfl
  refine V_ret rfl (end0 (v := .slice (some ⟨b1, 0, none⟩) 5 5) rfl (res_tmp Try.results63 rfl) ?_)
  exact ⟨_, _, rfl, H.below, H.give⟩

theorem queue_c (n0 : Nat) (wb w0 : World) (L : List SA) (bw mq : Nat) (cs : Array Value) (kv : List (Port × Qd)) (k : Port) (H : Hp n0 wb w0 (SA.cel bw cs 142 :: SA.map kPort.enc Qd.val mq kv :: SA.queues kv :: L)) (hq : cs[6]? = some (.map (some mq))) (hn : (kv.map (·.1)).Nodup) :
    Calls Try.prog 88 #[.pointer (some ⟨bw, 0, none⟩), .agg #[.int .i64 k.r, .int .i64 k.o, .int .i64 k.c]] w0 fun e w' => ∃ v, e = .returned v ∧ (∃ kv' i q, v = q.val ∧ kv'[i]? = some (k, q) ∧ QRel kv kv' k q ∧ Hp n0 wb w' (SA.cel bw cs 142 :: SA.map kPort.enc Qd.val mq kv' :: SA.cel q.b #[.slice q.A q.xs.length q.c] 153 :: SA.ints q.A q.c q.xs :: SA.queues (kv'.eraseIdx i) :: L)) := by
  refine calls_of (n := 25) (l := [.pointer (some ⟨bw, 0, none⟩), .agg #[.int .i64 k.r, .int .i64 k.o, .int .i64 k.c]]) Try.func88 rfl rfl rfl ?_
  refine V_seq rfl ?_
  refine V_region rfl ?_
  refine Rg_op rfl (o_box (v := .agg #[.int .i64 k.r, .int .i64 k.o, .int .i64 k.c]) rfl rfl H fun b1 w2 hA H => ?_)
  refine Rg_op rfl (o_val (v := .pointer none) (d := 4) rfl rfl (ex_assign rfl) ?_)
  refine Rg_end ?_
  refine V_seq rfl ?_
  refine V_seq rfl ?_
  refine V_draw [0, 1, 2, 6] (.p 0 (.p 1 (.p 2 (.q 3 (.q 4 (.q 5 (.p 6 .done))))))) (fun _ => False) rfl mixed (by kernel_rfl) fun w3 hD => ?_
  have H := H.drew hD
  refine c_p (v := .pointer (some ⟨bw, 0, none⟩)) (d := 5) rfl rfl rfl (fun w' => ex_move rfl) ?_
  refine c_p (v := .pointer (some ⟨bw, 0, none⟩)) (d := 6) rfl rfl rfl (fun w' => ex_nilCheck rfl) ?_
  refine c_p (v := .pointer (some ⟨bw, 6, none⟩)) (d := 7) rfl rfl rfl (fun w' => ex_fieldAddr fo142_4 rfl rfl) ?_
  refine c_q (v := .map (some mq)) (d := 8) rfl rfl rfl (fun w' hG => ex_load ca139 rfl (hG.cell ((cell_of (H.rd 1 rfl)).trans hq) id)) ?_
  refine c_q (v := .agg #[.int .i64 k.r, .int .i64 k.o, .int .i64 k.c]) (d := 9) rfl rfl rfl (fun w' hG => ex_loadN (vs := [.int .i64 k.r, .int .i64 k.o, .int .i64 k.c]) ca150 rfl rfl (fun j u hj => hG.cell (blk_cells (vs := [.int .i64 k.r, .int .i64 k.o, .int .i64 k.c]) (H.rd 0 rfl) rfl j u hj) id)) ?_
  refine c_q (v := ((mget k kv).map Qd.val).getD (.pointer none)) (d := 10) rfl rfl rfl (fun w' hG => ex_lookup (k := k) mt139 kPort rfl rfl ((H.mapAt 2 rfl).agr hG id)) ?_
  refine c_p (v := .bool ((mget k kv).isNone)) (d := 11) rfl rfl rfl (fun w' => ex_nilPtr Try.underlying151 rfl rfl) ?_
  refine c_done ?_
  refine V_cond (b := ((mget k kv).isNone)) rfl rfl (fun hb4 => ?_) (fun hb4 => ?_)
  · skip
    have hbn := hb4
    refine V_draw [0, 1, 2, 5] (.p 0 (.p 1 (.p 2 (.q 3 (.q 4 (.p 5 (.l 6 (.l 7 .done)))))))) (fun _ => False) rfl mixed (by kernel_rfl) fun w5 hD => ?_
    have H := H.drew hD
    refine c_p (v := .pointer (some ⟨bw, 0, none⟩)) (d := 12) rfl rfl rfl (fun w' => ex_move rfl) ?_
    refine c_p (v := .pointer (some ⟨bw, 0, none⟩)) (d := 13) rfl rfl rfl (fun w' => ex_nilCheck rfl) ?_
    refine c_p (v := .pointer (some ⟨bw, 6, none⟩)) (d := 14) rfl rfl rfl (fun w' => ex_fieldAddr fo142_4 rfl rfl) ?_
    refine c_q (v := .map (some mq)) (d := 15) rfl rfl rfl (fun w' hG => ex_load ca139 rfl (hG.cell ((cell_of (H.rd 1 rfl)).trans hq) id)) ?_
    refine c_q (v := .agg #[.int .i64 k.r, .int .i64 k.o, .int .i64 k.c]) (d := 16) rfl rfl rfl (fun w' hG => ex_loadN (vs := [.int .i64 k.r, .int .i64 k.o, .int .i64 k.c]) ca150 rfl rfl (fun j u hj => hG.cell (blk_cells (vs := [.int .i64 k.r, .int .i64 k.o, .int .i64 k.c]) (H.rd 0 rfl) rfl j u hj) id)) ?_
    refine c_p (v := .agg #[.slice none 0 0]) (d := 17) rfl rfl rfl (fun w' => ex_eq (by kernel_rfl)) ?_
    refine c_l rfl (o_box (v := .agg #[.slice none 0 0]) rfl rfl H fun b6 w7 hA H => ⟨.inr (Below.agr hA), ?_⟩)
    have H := H.pull 3 rfl rfl
    refine c_l rfl (o_mapUpdate (k := k) (v := (⟨b6, none, 0, []⟩ : Qd)) rfl mt139 kPort rfl rfl rfl H fun w8 hA H => ⟨.inl (by kernel_rfl), ?_⟩)
    refine c_done ?_
    refine V_seq rfl ?_
    refine V_draw [0, 1, 2, 6] (.p 0 (.p 1 (.p 2 (.q 3 (.q 4 (.q 5 (.p 6 .done))))))) (fun _ => False) rfl mixed (by kernel_rfl) fun w9 hD => ?_
    have H := H.drew hD
    have hmq : mget k (mput k (⟨b6, none, 0, []⟩ : Qd) kv) = some ⟨b6, none, 0, []⟩ := mget_put _ _ _
    refine c_p (v := .pointer (some ⟨bw, 0, none⟩)) (d := 19) rfl rfl rfl (fun w' => ex_move rfl) ?_
    refine c_p (v := .pointer (some ⟨bw, 0, none⟩)) (d := 20) rfl rfl rfl (fun w' => ex_nilCheck rfl) ?_
    refine c_p (v := .pointer (some ⟨bw, 6, none⟩)) (d := 21) rfl rfl rfl (fun w' => ex_fieldAddr fo142_4 rfl rfl) ?_
    refine c_q (v := .map (some mq)) (d := 22) rfl rfl rfl (fun w' hG => ex_load ca139 rfl (hG.cell ((cell_of (H.rd 3 rfl)).trans hq) id)) ?_
    refine c_q (v := .agg #[.int .i64 k.r, .int .i64 k.o, .int .i64 k.c]) (d := 23) rfl rfl rfl (fun w' hG => ex_loadN (vs := [.int .i64 k.r, .int .i64 k.o, .int .i64 k.c]) ca150 rfl rfl (fun j u hj => hG.cell (blk_cells (vs := [.int .i64 k.r, .int .i64 k.o, .int .i64 k.c]) (H.rd 2 rfl) rfl j u hj) id)) ?_
    refine c_q (v := .pointer (some ⟨b6, 0, none⟩)) (d := 24) rfl rfl rfl (fun w' hG => by rw [show Value.pointer (some ⟨b6, 0, none⟩) = ((mget k (mput k (⟨b6, none, 0, []⟩ : Qd) kv)).map Qd.val).getD (.pointer none) from by rw [hmq]; rfl]; exact ex_lookup (k := k) mt139 kPort rfl rfl ((H.mapAt 0 rfl).agr hG id)) ?_
    refine c_p (v := .pointer (some ⟨b6, 0, none⟩)) (d := 4) rfl rfl rfl (fun w' => ex_assign rfl) ?_
    refine c_done ?_
    have H := que_nil H (fun x : Int => Value.int .i64 x) 3
    have H := H.pull 3 rfl rfl
    have H := H.drop
    have H := H.pull 4 rfl rfl
    have H := H.pull 1 rfl rfl
    have H := H.pull 3 rfl rfl
    have H := H.pull 3 rfl rfl
    have H := H.pull 4 rfl rfl
    have hmp := mput_new (v := (⟨b6, none, 0, []⟩ : Qd)) (mget_none hbn)
    rw [hmp] at H
    refine V_ret rfl (end0 (v := .pointer (some ⟨b6, 0, none⟩)) rfl (res_tmp Try.results88 rfl) ?_)
    exact ⟨kv ++ [(k, (⟨b6, none, 0, []⟩ : Qd))], kv.length, (⟨b6, none, 0, []⟩ : Qd), rfl, by simp, QRel.new hn (mget_none hbn) rfl, by rw [erase_last]; exact H⟩
  · skip
    obtain ⟨q, hmq⟩ : ∃ q, mget k kv = some q := by cases hm9 : mget k kv with | none => rw [hm9] at hb4; cases hb4 | some q => exact ⟨q, rfl⟩
    refine V_skip rfl ?_
    refine V_seq rfl ?_
    refine V_draw [0, 1, 2, 6] (.p 0 (.p 1 (.p 2 (.q 3 (.q 4 (.q 5 (.p 6 .done))))))) (fun _ => False) rfl mixed (by kernel_rfl) fun w10 hD => ?_
    have H := H.drew hD
    refine c_p (v := .pointer (some ⟨bw, 0, none⟩)) (d := 19) rfl rfl rfl (fun w' => ex_move rfl) ?_
    refine c_p (v := .pointer (some ⟨bw, 0, none⟩)) (d := 20) rfl rfl rfl (fun w' => ex_nilCheck rfl) ?_
    refine c_p (v := .pointer (some ⟨bw, 6, none⟩)) (d := 21) rfl rfl rfl (fun w' => ex_fieldAddr fo142_4 rfl rfl) ?_
    refine c_q (v := .map (some mq)) (d := 22) rfl rfl rfl (fun w' hG => ex_load ca139 rfl (hG.cell ((cell_of (H.rd 1 rfl)).trans hq) id)) ?_
    refine c_q (v := .agg #[.int .i64 k.r, .int .i64 k.o, .int .i64 k.c]) (d := 23) rfl rfl rfl (fun w' hG => ex_loadN (vs := [.int .i64 k.r, .int .i64 k.o, .int .i64 k.c]) ca150 rfl rfl (fun j u hj => hG.cell (blk_cells (vs := [.int .i64 k.r, .int .i64 k.o, .int .i64 k.c]) (H.rd 0 rfl) rfl j u hj) id)) ?_
    refine c_q (v := .pointer (some ⟨q.b, 0, none⟩)) (d := 24) rfl rfl rfl (fun w' hG => by rw [show Value.pointer (some ⟨q.b, 0, none⟩) = ((mget k kv).map Qd.val).getD (.pointer none) from by rw [hmq]; rfl]; exact ex_lookup (k := k) mt139 kPort rfl rfl ((H.mapAt 2 rfl).agr hG id)) ?_
    refine c_p (v := .pointer (some ⟨q.b, 0, none⟩)) (d := 4) rfl rfl rfl (fun w' => ex_assign rfl) ?_
    refine c_done ?_
    have H := H.drop
    have H := H.pull 2 rfl rfl
    have H := H.pull 2 rfl rfl
    obtain ⟨i, hi⟩ := mget_at hmq
    refine V_ret rfl (end0 (v := .pointer (some ⟨q.b, 0, none⟩)) rfl (res_tmp Try.results88 rfl) ?_)
    exact ⟨kv, i, q, rfl, hi, QRel.old hn hmq, Hp.pull 4 rfl rfl (q_out hi H)⟩

theorem put_c (n0 : Nat) (wb w0 : World) (L : List SA) (b : Nat) (A : Option Addr) (c : Nat) (xs : List Int) (p : Int) (H : Hp n0 wb w0 (SA.cel b #[.slice A xs.length c] 153 :: SA.ints A c xs :: L)) (hl : xs.length ≤ 100000) :
    Calls Try.prog 90 #[.pointer (some ⟨b, 0, none⟩), .int .i64 p] w0 fun e w' => ∃ v, e = .returned v ∧ (∃ A' c', Hp n0 wb w' (SA.cel b #[.slice A' (xs ++ [p]).length c'] 153 :: SA.ints A' c' (xs ++ [p]) :: L)) := by
  refine calls_of (n := 14) (l := [.pointer (some ⟨b, 0, none⟩), .int .i64 p]) Try.func90 rfl rfl rfl ?_
  refine V_region rfl ?_
  refine Rg_op rfl (o_val (v := .pointer (some ⟨b, 0, none⟩)) (d := 4) rfl rfl (ex_move rfl) ?_)
  refine Rg_op rfl (o_val (v := .pointer (some ⟨b, 0, none⟩)) (d := 5) rfl rfl (ex_move rfl) ?_)
  refine Rg_op rfl (o_val (v := .pointer (some ⟨b, 0, none⟩)) (d := 6) rfl rfl (ex_nilCheck rfl) ?_)
  refine Rg_op rfl (o_val (v := .pointer (some ⟨b, 0, none⟩)) (d := 7) rfl rfl (ex_fieldAddr fo153_0 rfl rfl) ?_)
  refine Rg_op rfl (o_val (v := .slice A xs.length c) (d := 8) rfl rfl (ex_load ca26 rfl (cell_of (H.rd 0 rfl))) ?_)
  refine Rg_op rfl (o_val (v := .int .i64 p) (d := 9) rfl rfl (ex_move rfl) ?_)
  refine Rg_op rfl (o_lit (cs := [.int .i64 p]) (e := 3) rfl (fun W => by kernel_rfl) H fun b1 w2 hA H => ?_)
  have H := H.pull 2 rfl rfl
  refine Rg_op rfl (o_appendQ (z := p) rfl sl26 rfl rfl rfl H ⟨_, rfl, cell_of (H.rd 1 rfl)⟩ rfl (by simp only []; omega) (by omega) fun A9 c9 w3 hA H => ?_)
  refine Rg_op rfl (o_val (v := .pointer (some ⟨b, 0, none⟩)) (d := 12) rfl rfl (ex_nilCheck rfl) ?_)
  refine Rg_op rfl (o_val (v := .pointer (some ⟨b, 0, none⟩)) (d := 13) rfl rfl (ex_fieldAddr fo153_0 rfl rfl) ?_)
  refine Rg_op rfl (o_store (vs := [.slice A9 (xs.length + 1) c9]) rfl ts26 rfl rfl rfl rfl 2 rfl rfl rfl rfl H fun w4 hA H => ?_)
  refine Rg_end ?_
  have H := H.pull 2 rfl rfl
  have H := H.drop
  have H := H.pull 1 rfl rfl
  have H := H.pull 1 rfl rfl
  refine end0 (v := .tuple #[]) rfl (res_none Try.results90) ?_
  exact ⟨A9, c9, by rw [List.length_append]; exact H⟩

theorem take_c (n0 : Nat) (wb w0 : World) (L : List SA) (b : Nat) (A : Option Addr) (c : Nat) (x : Int) (xs : List Int) (H : Hp n0 wb w0 (SA.cel b #[.slice A (x :: xs).length c] 153 :: SA.ints A c (x :: xs) :: L)) :
    Calls Try.prog 91 #[.pointer (some ⟨b, 0, none⟩)] w0 fun e w' => ∃ v, e = .returned v ∧ (v = .int .i64 x ∧ Hp n0 wb w' (SA.cel b #[.slice (cutA A c 1 1) xs.length (c - 1)] 153 :: SA.ints (cutA A c 1 1) (c - 1) xs :: L)) := by
  refine calls_of (n := 19) (l := [.pointer (some ⟨b, 0, none⟩)]) Try.func91 rfl rfl rfl ?_
  refine V_seq rfl ?_
  refine V_region rfl ?_
  refine Rg_op rfl (o_val (v := .int .i64 0) (d := 2) rfl rfl (ex_assign rfl) ?_)
  refine Rg_end ?_
  refine V_seq rfl ?_
  refine V_region rfl ?_
  refine Rg_op rfl (o_val (v := .pointer (some ⟨b, 0, none⟩)) (d := 4) rfl rfl (ex_move rfl) ?_)
  refine Rg_op rfl (o_val (v := .pointer (some ⟨b, 0, none⟩)) (d := 5) rfl rfl (ex_nilCheck rfl) ?_)
  refine Rg_op rfl (o_val (v := .pointer (some ⟨b, 0, none⟩)) (d := 6) rfl rfl (ex_fieldAddr fo153_0 rfl rfl) ?_)
  refine Rg_op rfl (o_val (v := .slice A ((x :: xs).length) c) (d := 7) rfl rfl (ex_load ca26 rfl (cell_of (H.rd 0 rfl))) ?_)
  obtain ⟨ad9, hA9, hlo9, hc9⟩ := que_row (i := 0) (u := x) (H.pull 1 rfl rfl) rfl
  refine Rg_op rfl (o_val (v := .pointer (some (ad9.add 0))) (d := 8) rfl rfl (ex_indexAddr (a := 0) sl26 rfl hA9 rfl (by omega) (by simp only [List.length_cons]; omega) rfl) ?_)
  refine Rg_op rfl (o_val (v := .int .i64 x) (d := 9) rfl rfl (ex_load ca3 rfl hc9) ?_)
  refine Rg_op rfl (o_val (v := .int .i64 x) (d := 3) rfl rfl (ex_assign rfl) ?_)
  refine Rg_end ?_
  refine V_seq rfl ?_
  refine V_region rfl ?_
  refine Rg_op rfl (o_val (v := .pointer (some ⟨b, 0, none⟩)) (d := 10) rfl rfl (ex_move rfl) ?_)
  refine Rg_op rfl (o_val (v := .pointer (some ⟨b, 0, none⟩)) (d := 11) rfl rfl (ex_move rfl) ?_)
  refine Rg_op rfl (o_val (v := .pointer (some ⟨b, 0, none⟩)) (d := 12) rfl rfl (ex_nilCheck rfl) ?_)
  refine Rg_op rfl (o_val (v := .pointer (some ⟨b, 0, none⟩)) (d := 13) rfl rfl (ex_fieldAddr fo153_0 rfl rfl) ?_)
  refine Rg_op rfl (o_val (v := .slice A ((x :: xs).length) c) (d := 14) rfl rfl (ex_load ca26 rfl (cell_of (H.rd 0 rfl))) ?_)
  have H := H.pull 1 rfl rfl
  have H := que_cut H
  refine Rg_op rfl (o_val (v := .slice (cutA A c 1 1) xs.length (c - 1)) (d := 15) rfl rfl (ex_sliceL (a := 1) sl26 rfl rfl (by omega) (by simp only [List.length_cons]; omega) (by simp)) ?_)
  refine Rg_op rfl (o_val (v := .pointer (some ⟨b, 0, none⟩)) (d := 16) rfl rfl (ex_nilCheck rfl) ?_)
  refine Rg_op rfl (o_val (v := .pointer (some ⟨b, 0, none⟩)) (d := 17) rfl rfl (ex_fieldAddr fo153_0 rfl rfl) ?_)
  refine Rg_op rfl (o_store (vs := [.slice (cutA A c 1 1) xs.length (c - 1)]) rfl ts26 rfl rfl rfl rfl 1 rfl rfl rfl rfl H fun w1 hA H => ?_)
  refine Rg_end ?_
  refine V_seq rfl ?_
  refine V_region rfl ?_
  refine Rg_op rfl (o_val (v := .int .i64 x) (d := 18) rfl rfl (ex_move rfl) ?_)
  refine Rg_op rfl (o_val (v := .int .i64 x) (d := 2) rfl rfl (ex_assign rfl) ?_)
  refine Rg_end ?_
  have H := H.pull 1 rfl rfl
  have H := H.pull 1 rfl rfl
  refine V_ret rfl (end0 (v := .int .i64 x) rfl (res_tmp Try.results91 rfl) ?_)
  exact ⟨rfl, H⟩

end Go.Proofs.Ytlnogaoihkinbaa
namespace Go.Proofs.Ytlnogaoihkinbaa
open Go.Gk Go.RowKit
section
variable {κ ν : Type} [DecidableEq κ]
theorem mdel_keys {k : κ} : ∀ {kv : List (κ × ν)}, (kv.map (·.1)).Nodup → ((mdel k kv).map (·.1)).Nodup ∧ (∀ p, p ∈ (mdel k kv).map (·.1) ↔ p ∈ kv.map (·.1) ∧ p ≠ k)
  | [], h => ⟨h, fun p => by simp [mdel]⟩
  | x :: l, h => by
    simp only [List.map_cons, List.nodup_cons] at h
    simp only [mdel]
    by_cases hk : k = x.1
    · rw [if_pos hk]
      refine ⟨h.2, fun p => ?_⟩
      simp only [List.map_cons, List.mem_cons]
      constructor
      · exact fun hp => ⟨.inr hp, fun e => h.1 (by rw [← hk, ← e]; exact hp)⟩
      · rintro ⟨hp | hp, hne⟩
        · exact absurd (hp.trans hk.symm) hne
        · exact hp
    · rw [if_neg hk]
      obtain ⟨h1, h2⟩ := mdel_keys (k := k) h.2
      simp only [List.map_cons, List.nodup_cons, List.mem_cons]
      refine ⟨⟨fun hc => h.1 ((h2 _).1 hc).1, h1⟩, fun p => ?_⟩
      rw [h2]
      constructor
      · rintro (hp | hp)
        · exact ⟨.inl hp, fun e => hk (e ▸ hp)⟩
        · exact ⟨.inr hp.1, hp.2⟩
      · rintro ⟨hp | hp, hne⟩
        · exact .inl hp
        · exact .inr ⟨hp, hne⟩
theorem mget_mdel {k : κ} : ∀ {kv : List (κ × ν)}, (kv.map (·.1)).Nodup → ∀ p, mget p (mdel k kv) = if p = k then none else mget p kv
  | [], h, p => by simp [mdel, mget]
  | x :: l, h, p => by
    simp only [List.map_cons, List.nodup_cons] at h
    simp only [mdel]
    by_cases hk : k = x.1
    · rw [if_pos hk]
      by_cases hp : p = k
      · rw [if_pos hp]
        cases hm : mget p l with
        | none => rfl
        | some v => exact absurd (mget_key.1 (by rw [hm]; rfl)) (by rw [hp, hk]; exact h.1)
      · rw [if_neg hp]
        simp only [mget]
        rw [if_neg (fun e => hp (e.trans hk.symm))]
    · rw [if_neg hk]
      simp only [mget]
      by_cases hx : p = x.1
      · rw [if_pos hx, if_pos hx, if_neg (fun e => hk (e.symm.trans hx))]
      · rw [if_neg hx, if_neg hx]
        exact mget_mdel h.2 p
theorem mget_mput {k : κ} {v : ν} : ∀ {kv : List (κ × ν)} (p : κ), mget p (mput k v kv) = if p = k then some v else mget p kv
  | [], p => by simp [mput, mget]
  | x :: l, p => by
    simp only [mput]
    by_cases hk : k = x.1
    · rw [if_pos hk]
      simp only [mget]
      by_cases hp : p = k
      · simp [hp]
      · rw [if_neg hp, if_neg hp, if_neg (fun e => hp (e.trans hk.symm))]
    · rw [if_neg hk]
      simp only [mget]
      by_cases hx : p = x.1
      · rw [if_pos hx, if_pos hx, if_neg (fun e => hk (e.symm.trans hx))]
      · rw [if_neg hx, if_neg hx]; exact mget_mput p
theorem mput_keys {k : κ} {v : ν} : ∀ {kv : List (κ × ν)}, (kv.map (·.1)).Nodup → ((mput k v kv).map (·.1)).Nodup ∧ (∀ p, p ∈ (mput k v kv).map (·.1) ↔ p ∈ kv.map (·.1) ∨ p = k)
  | [], h => ⟨by simp [mput], fun p => by simp [mput]⟩
  | x :: l, h => by
    simp only [List.map_cons, List.nodup_cons] at h
    simp only [mput]
    by_cases hk : k = x.1
    · rw [if_pos hk]
      simp only [List.map_cons, List.nodup_cons, List.mem_cons]
      exact ⟨⟨by rw [hk]; exact h.1, h.2⟩, fun p => ⟨fun hp => hp.elim .inr (fun hp => .inl (.inr hp)), fun hp => hp.elim (fun hp => hp.elim (fun hp => .inl (hp.trans hk.symm)) .inr) .inl⟩⟩
    · rw [if_neg hk]
      obtain ⟨h1, h2⟩ := mput_keys (k := k) (v := v) h.2
      simp only [List.map_cons, List.nodup_cons, List.mem_cons]
      refine ⟨⟨fun hc => ?_, h1⟩, fun p => ?_⟩
      · rcases (h2 _).1 hc with hc | hc
        · exact h.1 hc
        · exact hk hc.symm
      · rw [h2]
        constructor
        · rintro (hp | hp | hp)
          · exact .inl (.inl hp)
          · exact .inl (.inr hp)
          · exact .inr hp
        · rintro ((hp | hp) | hp)
          · exact .inl hp
          · exact .inr (.inl hp)
          · exact .inr (.inr hp)
end
def outs4 : List Int := [1, 2, 4, 8]
abbrev CF := Port → Option Int
def cf (kv : List (Port × Int)) : CF := fun k => mget k kv
def comN (C : CF) (r : Int) (j : Nat) : List Int := (outs4.take j).filterMap fun o => C ⟨r, o, 0⟩
def comL (C : CF) (r : Int) : List Int := comN C r 4
def delN (kv : List (Port × Int)) (r : Int) (j : Nat) : List (Port × Int) := (outs4.take j).foldl (fun kv o => mdel ⟨r, o, 0⟩ kv) kv
def srcIs (l : List Packet) (r p : Int) : Bool := decide ((l[p.toNat]?).map (·.Source) = some r)
def sndN (l : List Packet) (ps : List Int) (r : Int) (j : Nat) : List Int := (ps.take j).filter (srcIs l r)
def sndL (l : List Packet) (ps : List Int) (r : Int) : List Int := ps.filter (srcIs l r)
theorem outs_at {j : Nat} {x : Int} (hj : j < 4) (hx : ([1, 2, 4, 8, 16] : List Int)[j]? = some x) : outs4[j]? = some x := by
  match j, hj with
  | 0, _ => exact hx
  | 1, _ => exact hx
  | 2, _ => exact hx
  | 3, _ => exact hx
theorem comN_next {C : CF} {r : Int} {j : Nat} {x : Int} (hx : outs4[j]? = some x) : comN C r (j + 1) = comN C r j ++ (C ⟨r, x, 0⟩).toList := by
  simp only [comN, List.take_add_one, hx, Option.toList_some, List.filterMap_append, List.filterMap_cons, List.filterMap_nil]
  cases C ⟨r, x, 0⟩ <;> rfl
theorem comL_split {C : CF} {r : Int} {j : Nat} {x v : Int} (hx : outs4[j]? = some x) (hv : C ⟨r, x, 0⟩ = some v) : ∃ post, comL C r = comN C r j ++ v :: post := by
  have hj := (List.getElem?_eq_some_iff.1 hx).1
  have hg := (List.getElem?_eq_some_iff.1 hx).2
  refine ⟨(outs4.drop (j + 1)).filterMap fun o => C ⟨r, o, 0⟩, ?_⟩
  have h1 : outs4.take 4 = outs4.take j ++ x :: outs4.drop (j + 1) := by
    rw [show outs4.take 4 = outs4 from rfl, ← hg, List.getElem_cons_drop, List.take_append_drop]
  rw [comL, comN, h1, List.filterMap_append, List.filterMap_cons, hv]
  rfl
theorem delN_next {kv : List (Port × Int)} {r : Int} {j : Nat} {x : Int} (hx : outs4[j]? = some x) : mdel ⟨r, x, 0⟩ (delN kv r j) = delN kv r (j + 1) := by
  simp only [delN, List.take_add_one, hx, Option.toList_some, List.foldl_append, List.foldl_cons, List.foldl_nil]
theorem delN_get {kv : List (Port × Int)} {r : Int} (hn : (kv.map (·.1)).Nodup) : ∀ (j : Nat), ((delN kv r j).map (·.1)).Nodup ∧ (∀ p, p ∈ (delN kv r j).map (·.1) → p ∈ kv.map (·.1)) ∧ ∀ p, mget p (delN kv r j) = if p.r = r ∧ p.c = 0 ∧ p.o ∈ outs4.take j then none else mget p kv
  | 0 => ⟨hn, fun p h => h, fun p => by simp [delN]⟩
  | j + 1 => by
    obtain ⟨h1, h2, h3⟩ := delN_get hn j
    cases hx : outs4[j]? with
    | none =>
      have e : outs4.take (j + 1) = outs4.take j := by rw [List.take_add_one, hx]; simp
      have e2 : delN kv r (j + 1) = delN kv r j := by rw [delN, e]; rfl
      rw [e2, e]
      exact ⟨h1, h2, h3⟩
    | some x =>
      rw [← delN_next hx]
      obtain ⟨h4, h5⟩ := mdel_keys (k := (⟨r, x, 0⟩ : Port)) h1
      refine ⟨h4, fun p hp => h2 p ((h5 p).1 hp).1, fun p => ?_⟩
      rw [mget_mdel h1, h3, List.take_add_one, hx]
      by_cases hp : p = ⟨r, x, 0⟩
      · subst hp; simp
      · rw [if_neg hp]
        simp only [Option.toList_some, List.mem_append, List.mem_singleton]
        have : ¬ (p.r = r ∧ p.c = 0 ∧ p.o = x) := fun ⟨a, b, c⟩ => hp (by cases p; simp_all)
        by_cases h6 : p.r = r ∧ p.c = 0 ∧ p.o ∈ outs4.take j
        · rw [if_pos h6, if_pos ⟨h6.1, h6.2.1, .inl h6.2.2⟩]
        · rw [if_neg h6, if_neg]
          rintro ⟨a, b, c | c⟩
          · exact h6 ⟨a, b, c⟩
          · exact this ⟨a, b, c⟩
theorem out_new {j : Nat} {x : Int} (hx : outs4[j]? = some x) : x ∉ outs4.take j := by
  have hj := (List.getElem?_eq_some_iff.1 hx).1
  match j, hj with
  | 0, _ => simp
  | 1, _ => simp [outs4] at hx ⊢; omega
  | 2, _ => simp [outs4] at hx ⊢; omega
  | 3, _ => simp [outs4] at hx ⊢; omega
theorem delN_at {kv : List (Port × Int)} {r : Int} (hn : (kv.map (·.1)).Nodup) {j : Nat} {x : Int} (hx : outs4[j]? = some x) : mget ⟨r, x, 0⟩ (delN kv r j) = cf kv ⟨r, x, 0⟩ := by
  rw [(delN_get hn j).2.2, if_neg (fun h => out_new hx h.2.2)]
  rfl
theorem sndN_next {l : List Packet} {ps : List Int} {r : Int} {j : Nat} {p : Int} (hp : ps[j]? = some p) : sndN l ps r (j + 1) = sndN l ps r j ++ (if srcIs l r p = true then [p] else []) := by
  simp only [sndN, List.take_add_one, hp, Option.toList_some, List.filter_append, List.filter_cons, List.filter_nil]
theorem sndL_split {l : List Packet} {ps : List Int} {r : Int} {j : Nat} {p : Int} (hp : ps[j]? = some p) (hs : srcIs l r p = true) : ∃ post, sndL l ps r = sndN l ps r j ++ p :: post := by
  have hj := (List.getElem?_eq_some_iff.1 hp).1
  have hg := (List.getElem?_eq_some_iff.1 hp).2
  refine ⟨(ps.drop (j + 1)).filter (srcIs l r), ?_⟩
  have h1 : ps = ps.take j ++ p :: ps.drop (j + 1) := by rw [← hg, List.getElem_cons_drop, List.take_append_drop]
  conv => lhs; rw [sndL, h1]
  rw [List.filter_append, List.filter_cons, if_pos hs]
  rfl
end Go.Proofs.Ytlnogaoihkinbaa
namespace Go.Proofs.Ytlnogaoihkinbaa
open Go.Gk Go.RowKit
theorem ca119 : cellsAgg Try.prog 119 = some none := by kernel_rfl
theorem ca138 : cellsAgg Try.prog 138 = some none := by kernel_rfl
theorem ca140 : cellsAgg Try.prog 140 = some none := by kernel_rfl
theorem ca55 : cellsAgg Try.prog 55 = some none := by kernel_rfl
theorem cl63 : callable Try.prog 63 = true := by kernel_rfl
theorem fo142_2 : fieldOff Try.prog 142 2 = some 4 := by kernel_rfl
theorem fo142_3 : fieldOff Try.prog 142 3 = some 5 := by kernel_rfl
theorem fo142_5 : fieldOff Try.prog 142 5 = some 7 := by kernel_rfl
theorem mt140 : mapT Try.prog 140 = some ⟨150, 3, .int .i64 0⟩ := by kernel_rfl
theorem ts150 : tySize Try.prog 150 = some 3 := by kernel_rfl
theorem tz150 : tyZero Try.prog 150 = some (.agg #[.int .i64 0, .int .i64 0, .int .i64 0]) := by kernel_rfl
theorem enterIter_c (n0 : Nat) (wb : World) (bw mc ms b1 b2 b3 : Nat) (cs : Array Value) (kvC : List (Port × Int)) (kvS : List (Int × Sld Int)) (Al : Option Addr) (cl : Nat) (l : List Packet) (t r : Int) (hn0 : n0 = wb.heap.size) (hL : Row kPkt wb.cell? Al l) (hw7 : cs[7]? = some (.map (some mc))) (hw5 : cs[5]? = some (.map (some ms))) (hw4 : cs[4]? = some (.slice Al l.length cl)) (hn : (kvC.map (·.1)).Nodup) (hS : ∀ (t p : Int), p ∈ (lkS t kvS).xs → 0 ≤ p ∧ p < l.length) (hSl : (lkS t kvS).xs.length ≤ 100000) : IterN Try.prog 87 [] [.pointer (some ⟨b1, 0, none⟩), .pointer (some ⟨b2, 0, none⟩), .pointer (some ⟨b3, 0, none⟩)] (comL (cf kvC) r ++ sndL l (lkS t kvS).xs r) (fun x => .int .i64 x) (SA.star (SA.star (SA.star (SA.star (SA.star (SA.star (SA.cel b1 #[.int .i64 r] 3) (SA.cel b2 #[.pointer (some ⟨bw, 0, none⟩)] 138)) (SA.cel b3 #[.int .i64 t] 3)) (SA.cel bw cs 142)) (SA.map kPort.enc (fun x : Int => Value.int .i64 x) mc kvC)) (SA.map kI.enc (Sld.val (α := Int)) ms kvS)) (SA.rows kInt 3 (kvS.map (·.2)))) (SA.star (SA.star (SA.star (SA.cel bw cs 142) (SA.map kPort.enc (fun x : Int => Value.int .i64 x) mc (delN kvC r 4))) (SA.map kI.enc (Sld.val (α := Int)) ms kvS)) (SA.rows kInt 3 (kvS.map (·.2)))) n0 wb := by
  subst hn0
  intro C y w0 L hY H
  refine calls_of (n := 72) (l := [.func (.yield y) #[] #[], .pointer (some ⟨b1, 0, none⟩), .pointer (some ⟨b2, 0, none⟩), .pointer (some ⟨b3, 0, none⟩)]) Try.func87 rfl rfl rfl ?_
  have H := (H.pull 1 rfl rfl).split.split.split.split.split.split.pull 7 rfl rfl
  refine V_seq rfl ?_
  refine V_seq rfl ?_
  refine V_region rfl ?_
  refine Rg_op rfl (o_call (fv := []) (cap := []) (vs := []) rfl rfl cl63 rfl (outputs_c _) fun v w4 hS => ?_)
  obtain ⟨A2, c3, rfl, hB, hN⟩ := hS
  have H := H.new hB hN
  refine Rg_op rfl (o_val (v := .slice A2 4 c3) (d := 13) rfl rfl (ex_sliceH sl26 rfl rfl (by first | omega | (have := (own_row (H.pull 0 rfl rfl)).2.1; simp only [List.length_cons, List.length_nil] at this; omega)) (by first | omega | (have := (own_row (H.pull 0 rfl rfl)).2.1; simp only [List.length_cons, List.length_nil] at this; omega)) rfl) ?_)
  refine Rg_op rfl (o_val (v := .int .i64 ((4 : Nat) : Int)) (d := 14) rfl rfl (ex_len (ts := #[]) sl26 rfl) ?_)
  refine Rg_op rfl (o_val (v := .int .i64 0) (d := 15) rfl rfl (ex_move rfl) ?_)
  refine Rg_end ?_
  refine V_block rfl ?_
  refine V_loop rfl (γ := Nat) (fun j σ w => σ 0 = .func (.yield y) #[] #[] ∧ σ 1 = .pointer (some ⟨b1, 0, none⟩) ∧ σ 2 = .pointer (some ⟨b2, 0, none⟩) ∧ σ 3 = .pointer (some ⟨b3, 0, none⟩) ∧ σ 13 = .slice A2 4 c3 ∧ σ 14 = .int .i64 ((4 : Nat) : Int) ∧ σ 15 = .int .i64 ((j : Nat) : Int) ∧ σ 1000000 = undef ∧ Hp wb.heap.size wb w (SA.own kInt 3 A2 c3 ([1, 2, 4, 8, 16]) :: C (comN (cf kvC) r j) :: SA.cel b1 #[.int .i64 r] 3 :: SA.cel b2 #[.pointer (some ⟨bw, 0, none⟩)] 138 :: SA.cel b3 #[.int .i64 t] 3 :: SA.cel bw cs 142 :: SA.map kPort.enc (fun x : Int => Value.int .i64 x) mc (delN kvC r j) :: SA.map kI.enc (Sld.val (α := Int)) ms kvS :: SA.rows kInt 3 (kvS.map (·.2)) :: L) ∧ j ≤ 4) (fun j => 4 - j) (0) ⟨rfl, rfl, rfl, rfl, rfl, rfl, rfl, rfl, H, by omega⟩ (fun j σ w hI => ?_)
  obtain ⟨s0, s1, s2, s3, s13, s14, s15, s1000000, H, hj⟩ := hI
  refine V_seq rfl ?_
  refine V_region rfl ?_
  refine Rg_op rfl (o_val (v := .bool (decide (((j : Nat) : Int) < ((4 : Nat) : Int)))) (d := 16) rfl rfl (ex_lss s15 s14) ?_)
  refine Rg_end ?_
  refine V_seq rfl ?_
  refine V_cond (b := (decide (((j : Nat) : Int) < ((4 : Nat) : Int)))) rfl rfl (fun hb5 => ?_) (fun hb5 => ?_)
  · have hb5 : ((j : Nat) : Int) < ((4 : Nat) : Int) := of_decide_eq_true hb5
    refine V_skip rfl ?_
    refine V_seq rfl ?_
    refine V_block rfl ?_
    refine V_seq rfl ?_
    refine V_region rfl ?_
    have hr6 := (own_row (H.pull 0 rfl rfl)).1
    obtain ⟨ad7, x7, cs7, hA7, hx7, hR7, hc7⟩ := Row.get hr6 ((j : Nat) : Int) ((by first | omega | (simp only [List.length_cons, List.length_nil]; omega))) ((by first | omega | (simp only [List.length_cons, List.length_nil]; omega)))
    obtain rfl := hR7
    refine Rg_op rfl (o_val (v := .pointer (some (ad7.add ((((j : Nat) : Int)).toNat * 1)))) (d := 17) rfl rfl (ex_indexAddr sl26 s13 hA7 s15 ((by first | omega | (simp only [List.length_cons, List.length_nil]; omega))) ((by first | omega | (simp only [List.length_cons, List.length_nil]; omega))) rfl) ?_)
    refine Rg_op rfl (o_val (v := .int .i64 x7) (d := 18) rfl rfl (ex_load ca3 rfl (hc7 0 _ rfl)) ?_)
    refine Rg_op rfl (o_val (v := .int .i64 x7) (d := 6) rfl rfl (ex_assign rfl) ?_)
    refine Rg_end ?_
    refine V_seq rfl ?_
    refine V_region rfl ?_
    have hxo : outs4[j]? = some x7 := outs_at (by omega) hx7
    refine Rg_op rfl (o_val (v := .int .i64 r) (d := 19) rfl rfl (ex_load ca3 s1 (cell_of (H.rd 2 rfl))) ?_)
    refine Rg_op rfl (o_val (v := .int .i64 x7) (d := 20) rfl rfl (ex_move rfl) ?_)
    refine Rg_op rfl (o_val (v := .agg #[.int .i64 r, .int .i64 x7, .int .i64 0]) (d := 21) rfl rfl (ex_eq (by kernel_rfl)) ?_)
    refine Rg_op rfl (o_alloc rfl tz150 H fun b8 w9 hA H => ?_)
    refine Rg_op rfl (o_store (vs := [.int .i64 r, .int .i64 x7, .int .i64 0]) rfl ts150 rfl rfl rfl rfl 0 rfl rfl rfl rfl H fun w10 hA H => ?_)
    refine Rg_end ?_
    refine V_seq rfl ?_
    refine V_draw [1, 2, 6, 7, 8, 9, 10] (.q 0 (.p 1 (.p 2 (.q 3 (.q 4 (.q 5 (.p 6 (.p 7 (.p 8 (.p 9 (.p 10 .done))))))))))) (fun _ => False) rfl mixed (by kernel_rfl) fun w11 hD => ?_
    have H := H.drew hD
    refine c_q (v := .pointer (some ⟨bw, 0, none⟩)) (d := 23) rfl rfl rfl (fun w' hG => ex_load ca138 s2 (hG.cell (cell_of (H.rd 4 rfl)) id)) ?_
    refine c_p (v := .pointer (some ⟨bw, 0, none⟩)) (d := 24) rfl rfl rfl (fun w' => ex_nilCheck rfl) ?_
    refine c_p (v := .pointer (some ⟨bw, 7, none⟩)) (d := 25) rfl rfl rfl (fun w' => ex_fieldAddr fo142_5 rfl rfl) ?_
    refine c_q (v := .map (some mc)) (d := 26) rfl rfl rfl (fun w' hG => ex_load ca140 rfl (hG.cell ((cell_of (H.rd 6 rfl)).trans hw7) id)) ?_
    refine c_q (v := .agg #[.int .i64 r, .int .i64 x7, .int .i64 0]) (d := 27) rfl rfl rfl (fun w' hG => ex_loadN (vs := [.int .i64 r, .int .i64 x7, .int .i64 0]) ca150 rfl rfl (fun j u hj => hG.cell (blk_cells (vs := [.int .i64 r, .int .i64 x7, .int .i64 0]) (H.rd 0 rfl) rfl j u hj) id)) ?_
    refine c_q (v := .tuple #[.int .i64 ((mget (⟨r, x7, 0⟩ : Port) (delN kvC r j)).getD 0), .bool ((mget (⟨r, x7, 0⟩ : Port) (delN kvC r j)).isSome)]) (d := 28) rfl rfl rfl (fun w' hG => by rw [show (Value.int .i64 ((mget (⟨r, x7, 0⟩ : Port) (delN kvC r j)).getD 0) : Value) = ((mget (⟨r, x7, 0⟩ : Port) (delN kvC r j)).map (fun x : Int => Value.int .i64 x)).getD (.int .i64 0) from get_int.symm]; exact ex_lookupOk (k := (⟨r, x7, 0⟩ : Port)) mt140 kPort rfl rfl ((H.mapAt 7 rfl).agr hG id)) ?_
    refine c_p (v := .tuple #[.int .i64 ((mget (⟨r, x7, 0⟩ : Port) (delN kvC r j)).getD 0), .bool ((mget (⟨r, x7, 0⟩ : Port) (delN kvC r j)).isSome)]) (d := 22) rfl rfl rfl (fun w' => ex_move rfl) ?_
    refine c_p (v := .int .i64 ((mget (⟨r, x7, 0⟩ : Port) (delN kvC r j)).getD 0)) (d := 29) rfl rfl rfl (fun w' => ex_extract rfl rfl) ?_
    refine c_p (v := .bool ((mget (⟨r, x7, 0⟩ : Port) (delN kvC r j)).isSome)) (d := 30) rfl rfl rfl (fun w' => ex_extract rfl rfl) ?_
    refine c_p (v := .int .i64 ((mget (⟨r, x7, 0⟩ : Port) (delN kvC r j)).getD 0)) (d := 8) rfl rfl rfl (fun w' => ex_assign rfl) ?_
    refine c_p (v := .bool ((mget (⟨r, x7, 0⟩ : Port) (delN kvC r j)).isSome)) (d := 9) rfl rfl rfl (fun w' => ex_assign rfl) ?_
    refine c_done ?_
    refine V_seq rfl ?_
    refine V_draw [1, 2] (.q 0 (.p 1 (.p 2 (.q 3 (.q 4 (.l 5 .done)))))) (fun _ => False) rfl mixed (by kernel_rfl) fun w12 hD => ?_
    have H := H.drew hD
    refine c_q (v := .pointer (some ⟨bw, 0, none⟩)) (d := 31) rfl rfl rfl (fun w' hG => ex_load ca138 s2 (hG.cell (cell_of (H.rd 4 rfl)) id)) ?_
    refine c_p (v := .pointer (some ⟨bw, 0, none⟩)) (d := 32) rfl rfl rfl (fun w' => ex_nilCheck rfl) ?_
    refine c_p (v := .pointer (some ⟨bw, 7, none⟩)) (d := 33) rfl rfl rfl (fun w' => ex_fieldAddr fo142_5 rfl rfl) ?_
    refine c_q (v := .map (some mc)) (d := 34) rfl rfl rfl (fun w' hG => ex_load ca140 rfl (hG.cell ((cell_of (H.rd 6 rfl)).trans hw7) id)) ?_
    refine c_q (v := .agg #[.int .i64 r, .int .i64 x7, .int .i64 0]) (d := 35) rfl rfl rfl (fun w' hG => ex_loadN (vs := [.int .i64 r, .int .i64 x7, .int .i64 0]) ca150 rfl rfl (fun j u hj => hG.cell (blk_cells (vs := [.int .i64 r, .int .i64 x7, .int .i64 0]) (H.rd 0 rfl) rfl j u hj) id)) ?_
    have H := H.pull 7 rfl rfl
    refine c_l rfl (o_delete (k := (⟨r, x7, 0⟩ : Port)) rfl mt140 kPort rfl rfl H fun w13 hA H => ⟨.inl (by kernel_rfl), ?_⟩)
    refine c_done ?_
    refine V_seq rfl ?_
    refine V_region rfl ?_
    refine Rg_op rfl (o_val (v := .bool ((mget (⟨r, x7, 0⟩ : Port) (delN kvC r j)).isSome)) (d := 36) rfl rfl (ex_move rfl) ?_)
    refine Rg_op rfl (o_val (v := .bool ((mget (⟨r, x7, 0⟩ : Port) (delN kvC r j)).isSome)) (d := 37) rfl rfl (ex_move rfl) ?_)
    by_cases hg14 : ((mget (⟨r, x7, 0⟩ : Port) (delN kvC r j)).isSome) = true
    · skip
      refine Rg_op rfl (o_valg (v := .func (.yield y) #[] #[]) (d := 38) rfl rfl (wanted_yes (b := ((mget (⟨r, x7, 0⟩ : Port) (delN kvC r j)).isSome)) rfl rfl rfl hg14) (ex_move s0) ?_)
      refine Rg_op rfl (o_valg (v := .int .i64 ((mget (⟨r, x7, 0⟩ : Port) (delN kvC r j)).getD 0)) (d := 39) rfl rfl (wanted_yes (b := ((mget (⟨r, x7, 0⟩ : Port) (delN kvC r j)).isSome)) rfl rfl rfl hg14) (ex_move rfl) ?_)
      have hv9 : cf kvC ⟨r, x7, 0⟩ = some ((mget (⟨r, x7, 0⟩ : Port) (delN kvC r j)).getD 0) := by rw [← delN_at hn hxo]; cases hm9 : mget (⟨r, x7, 0⟩ : Port) (delN kvC r j) with | none => rw [hm9] at hg14; cases hg14 | some u => rfl
      obtain ⟨po9, hpo9⟩ := comL_split hxo hv9
      have H := H.pull 3 rfl rfl
      refine Rg_op rfl (o_g (wanted_yes (b := ((mget (⟨r, x7, 0⟩ : Port) (delN kvC r j)).isSome)) rfl rfl rfl hg14) (o_yield rfl rfl rfl (Yields.mono (hY (comN (cf kvC) r j) ((mget (⟨r, x7, 0⟩ : Port) (delN kvC r j)).getD 0) _ _ _ (by rw [hpo9, List.append_assoc, List.cons_append]) H) fun w15 H => ?_)))
      refine Rg_op rfl (o_valg (v := .bool false) (d := 41) rfl rfl (wanted_yes (b := ((mget (⟨r, x7, 0⟩ : Port) (delN kvC r j)).isSome)) rfl rfl rfl hg14) (ex_not (q := true) rfl) ?_)
      refine Rg_op rfl (o_val (v := .bool false) (d := 42) rfl rfl (ex_pick (q := ((mget (⟨r, x7, 0⟩ : Port) (delN kvC r j)).isSome)) rfl (fun h => rfl) (fun h => absurd hg14 (by rw [h]; decide))) ?_)
      refine Rg_end ?_
      refine V_false rfl rfl ?_
      refine V_skip rfl ?_
      refine V_region rfl ?_
      refine Rg_op rfl (o_val (v := .int .i64 (((j : Nat) : Int) + 1)) (d := 43) rfl rfl (ex_add s15 rfl (by omega)) ?_)
      refine Rg_op rfl (o_val (v := .int .i64 (((j : Nat) : Int) + 1)) (d := 15) rfl rfl (ex_move rfl) ?_)
      refine Rg_end ?_
      rw [delN_next hxo] at H
      rw [show comN (cf kvC) r j ++ [(mget (⟨r, x7, 0⟩ : Port) (delN kvC r j)).getD 0] = comN (cf kvC) r (j + 1) from by rw [comN_next hxo, hv9]; rfl] at H
      exact ⟨j + 1, ⟨s0, s1, s2, s3, s13, s14, rfl, s1000000, (Hp.pull 8 rfl rfl (Hp.pull 7 rfl rfl (Hp.pull 8 rfl rfl (Hp.pull 8 rfl rfl (Hp.pull 8 rfl rfl (Hp.pull 8 rfl rfl (Hp.pull 3 rfl rfl (Hp.pull 8 rfl rfl (Hp.pull 8 rfl rfl (Hp.drop (Hp.pull 2 rfl rfl H))))))))))), by omega⟩, by omega⟩
    · skip
      refine Rg_op rfl (o_skip (d := 38) rfl rfl (wanted_no (b := ((mget (⟨r, x7, 0⟩ : Port) (delN kvC r j)).isSome)) rfl rfl rfl (by simpa using hg14)) ?_)
      refine Rg_op rfl (o_skip (d := 39) rfl rfl (wanted_no (b := ((mget (⟨r, x7, 0⟩ : Port) (delN kvC r j)).isSome)) rfl rfl rfl (by simpa using hg14)) ?_)
      refine Rg_op rfl (o_skip (d := 40) rfl rfl (wanted_no (b := ((mget (⟨r, x7, 0⟩ : Port) (delN kvC r j)).isSome)) rfl rfl rfl (by simpa using hg14)) ?_)
      refine Rg_op rfl (o_skip (d := 41) rfl rfl (wanted_no (b := ((mget (⟨r, x7, 0⟩ : Port) (delN kvC r j)).isSome)) rfl rfl rfl (by simpa using hg14)) ?_)
      refine Rg_op rfl (o_val (v := .bool false) (d := 42) rfl rfl (ex_pick (q := ((mget (⟨r, x7, 0⟩ : Port) (delN kvC r j)).isSome)) rfl (fun h => absurd h hg14) (fun h => rfl)) ?_)
      refine Rg_end ?_
      refine V_false rfl rfl ?_
      refine V_skip rfl ?_
      refine V_region rfl ?_
      refine Rg_op rfl (o_val (v := .int .i64 (((j : Nat) : Int) + 1)) (d := 43) rfl rfl (ex_add s15 rfl (by omega)) ?_)
      refine Rg_op rfl (o_val (v := .int .i64 (((j : Nat) : Int) + 1)) (d := 15) rfl rfl (ex_move rfl) ?_)
      refine Rg_end ?_
      rw [delN_next hxo] at H
      rw [show comN (cf kvC) r j = comN (cf kvC) r (j + 1) from by rw [comN_next hxo, ← delN_at hn hxo]; cases hm9 : mget (⟨r, x7, 0⟩ : Port) (delN kvC r j) with | none => simp | some u => rw [hm9] at hg14; exact absurd rfl hg14] at H
      exact ⟨j + 1, ⟨s0, s1, s2, s3, s13, s14, rfl, s1000000, (Hp.pull 8 rfl rfl (Hp.pull 8 rfl rfl (Hp.pull 8 rfl rfl (Hp.pull 8 rfl rfl (Hp.pull 8 rfl rfl (Hp.pull 8 rfl rfl (Hp.pull 2 rfl rfl (Hp.pull 8 rfl rfl (Hp.pull 8 rfl rfl (Hp.drop (Hp.pull 1 rfl rfl H))))))))))), by omega⟩, by omega⟩
  · have hb5 : ¬ (((j : Nat) : Int) < ((4 : Nat) : Int)) := of_decide_eq_false hb5
    refine V_exit rfl ?_
    refine V_seq rfl ?_
    refine V_draw [1, 2, 6, 7] (.q 0 (.p 1 (.p 2 (.q 3 (.q 4 (.q 5 (.p 6 (.p 7 .done)))))))) (fun _ => False) rfl mixed (by kernel_rfl) fun w16 hD => ?_
    have H := H.drew hD
    refine c_q (v := .pointer (some ⟨bw, 0, none⟩)) (d := 44) rfl rfl rfl (fun w' hG => ex_load ca138 s2 (hG.cell (cell_of (H.rd 3 rfl)) id)) ?_
    refine c_p (v := .pointer (some ⟨bw, 0, none⟩)) (d := 45) rfl rfl rfl (fun w' => ex_nilCheck rfl) ?_
    refine c_p (v := .pointer (some ⟨bw, 5, none⟩)) (d := 46) rfl rfl rfl (fun w' => ex_fieldAddr fo142_3 rfl rfl) ?_
    refine c_q (v := .map (some ms)) (d := 47) rfl rfl rfl (fun w' hG => ex_load ca119 rfl (hG.cell ((cell_of (H.rd 5 rfl)).trans hw5) id)) ?_
    refine c_q (v := .int .i64 t) (d := 48) rfl rfl rfl (fun w' hG => ex_load ca3 s3 (hG.cell (cell_of (H.rd 4 rfl)) id)) ?_
    refine c_q (v := .slice ((lkS t kvS).A) ((lkS t kvS).xs.length) ((lkS t kvS).c)) (d := 49) rfl rfl rfl (fun w' hG => by rw [show (Value.slice ((lkS t kvS).A) ((lkS t kvS).xs.length) ((lkS t kvS).c) : Value) = ((mget t kvS).map (Sld.val (α := Int))).getD (.slice none 0 0) from get_sld.symm]; exact ex_lookup (k := t) mt119 kI rfl rfl ((H.mapAt 7 rfl).agr hG id)) ?_
    refine c_p (v := .int .i64 (((lkS t kvS).xs.length : Nat) : Int)) (d := 50) rfl rfl rfl (fun w' => ex_len (ts := #[]) sl26 rfl) ?_
    refine c_p (v := .int .i64 0) (d := 51) rfl rfl rfl (fun w' => ex_move rfl) ?_
    refine c_done ?_
    refine V_block rfl ?_
    have H := H.pull 1 rfl rfl
    have hj4 : j = 4 := by omega
    subst hj4
    rw [show comN (cf kvC) r 4 = comL (cf kvC) r ++ sndN l (lkS t kvS).xs r 0 from (List.append_nil _).symm] at H
    refine V_loop rfl (γ := Nat) (fun j σ w => σ 0 = .func (.yield y) #[] #[] ∧ σ 1 = .pointer (some ⟨b1, 0, none⟩) ∧ σ 2 = .pointer (some ⟨b2, 0, none⟩) ∧ σ 49 = .slice ((lkS t kvS).A) ((lkS t kvS).xs.length) ((lkS t kvS).c) ∧ σ 50 = .int .i64 (((lkS t kvS).xs.length : Nat) : Int) ∧ σ 51 = .int .i64 ((j : Nat) : Int) ∧ σ 1000000 = undef ∧ Hp wb.heap.size wb w (C (comL (cf kvC) r ++ sndN l (lkS t kvS).xs r j) :: SA.own kInt 3 A2 c3 ([1, 2, 4, 8, 16]) :: SA.cel b1 #[.int .i64 r] 3 :: SA.cel b2 #[.pointer (some ⟨bw, 0, none⟩)] 138 :: SA.cel b3 #[.int .i64 t] 3 :: SA.cel bw cs 142 :: SA.map kPort.enc (fun x : Int => Value.int .i64 x) mc (delN kvC r 4) :: SA.map kI.enc (Sld.val (α := Int)) ms kvS :: SA.rows kInt 3 (kvS.map (·.2)) :: L) ∧ j ≤ (lkS t kvS).xs.length) (fun j => (lkS t kvS).xs.length - j) (0) ⟨s0, s1, s2, rfl, rfl, rfl, s1000000, H, by omega⟩ (fun j σ w hI => ?_)
    obtain ⟨s0, s1, s2, s49, s50, s51, s1000000, H, hj⟩ := hI
    refine V_seq rfl ?_
    refine V_region rfl ?_
    refine Rg_op rfl (o_val (v := .bool (decide (((j : Nat) : Int) < (((lkS t kvS).xs.length : Nat) : Int)))) (d := 52) rfl rfl (ex_lss s51 s50) ?_)
    refine Rg_end ?_
    refine V_seq rfl ?_
    refine V_cond (b := (decide (((j : Nat) : Int) < (((lkS t kvS).xs.length : Nat) : Int)))) rfl rfl (fun hb17 => ?_) (fun hb17 => ?_)
    · have hb17 : ((j : Nat) : Int) < (((lkS t kvS).xs.length : Nat) : Int) := of_decide_eq_true hb17
      refine V_skip rfl ?_
      refine V_seq rfl ?_
      refine V_block rfl ?_
      refine V_seq rfl ?_
      refine V_region rfl ?_
      have hr18 := (lk_row (k := t) (H.pull 8 rfl rfl)).1
      obtain ⟨ad19, x19, cs19, hA19, hx19, hR19, hc19⟩ := Row.get hr18 ((j : Nat) : Int) ((by first | omega | (simp only [List.length_cons, List.length_nil]; omega))) ((by first | omega | (simp only [List.length_cons, List.length_nil]; omega)))
      obtain rfl := hR19
      refine Rg_op rfl (o_val (v := .pointer (some (ad19.add ((((j : Nat) : Int)).toNat * 1)))) (d := 53) rfl rfl (ex_indexAddr sl26 s49 hA19 s51 ((by first | omega | (simp only [List.length_cons, List.length_nil]; omega))) ((by first | omega | (simp only [List.length_cons, List.length_nil]; omega))) rfl) ?_)
      refine Rg_op rfl (o_val (v := .int .i64 x19) (d := 54) rfl rfl (ex_load ca3 rfl (hc19 0 _ rfl)) ?_)
      refine Rg_op rfl (o_val (v := .int .i64 x19) (d := 11) rfl rfl (ex_assign rfl) ?_)
      refine Rg_end ?_
      refine V_seq rfl ?_
      refine V_draw [1, 2, 4, 5, 6, 9, 10, 11, 12, 14, 15] (.q 0 (.p 1 (.p 2 (.q 3 (.p 4 (.p 5 (.p 6 (.q 7 (.q 8 (.p 9 (.p 10 (.p 11 (.p 12 (.l 13 (.p 14 (.p 15 .done)))))))))))))))) (fun _ => False) rfl mixed (by kernel_rfl) fun w20 hD => ?_
      have H := H.drew hD
      have hp9 : (lkS t kvS).xs[j]? = some x19 := hx19
      obtain ⟨h0p, h1p⟩ := hS t x19 (List.mem_of_getElem? hp9)
      refine c_q (v := .pointer (some ⟨bw, 0, none⟩)) (d := 55) rfl rfl rfl (fun w' hG => ex_load ca138 s2 (hG.cell (cell_of (H.rd 3 rfl)) id)) ?_
      refine c_p (v := .pointer (some ⟨bw, 0, none⟩)) (d := 56) rfl rfl rfl (fun w' => ex_nilCheck rfl) ?_
      refine c_p (v := .pointer (some ⟨bw, 4, none⟩)) (d := 57) rfl rfl rfl (fun w' => ex_fieldAddr fo142_2 rfl rfl) ?_
      refine c_q (v := .slice Al l.length cl) (d := 58) rfl rfl rfl (fun w' hG => ex_load ca55 rfl (hG.cell ((cell_of (H.rd 5 rfl)).trans hw4) id)) ?_
      refine c_p (v := .int .i64 x19) (d := 59) rfl rfl rfl (fun w' => ex_move rfl) ?_
      obtain ⟨ad21, x21, cs21, hA21, hx21, hR21, hc21⟩ := Row.get hL x19 ((by first | omega | (simp only [List.length_cons, List.length_nil]; omega))) ((by first | omega | (simp only [List.length_cons, List.length_nil]; omega)))
      obtain rfl := hR21
      refine c_p (v := .pointer (some (ad21.add ((x19).toNat * 4)))) (d := 60) rfl rfl rfl (fun w' => ex_indexAddr sl55 rfl hA21 rfl ((by first | omega | (simp only [List.length_cons, List.length_nil]; omega))) ((by first | omega | (simp only [List.length_cons, List.length_nil]; omega))) rfl) ?_
      refine c_p (v := .pointer (some (ad21.add ((x19).toNat * 4 + 1)))) (d := 61) rfl rfl rfl (fun w' => ex_fieldAddr fo58_1 rfl (add_add _ _ _)) ?_
      refine c_q (v := .int .i64 x21.Source) (d := 62) rfl rfl rfl (fun w' hG => ex_load ca3 rfl (hG.cell (H.cell0 (hc21 1 _ rfl)) id)) ?_
      refine c_q (v := .int .i64 r) (d := 63) rfl rfl rfl (fun w' hG => ex_load ca3 s1 (hG.cell (cell_of (H.rd 2 rfl)) id)) ?_
      have hsr9 : (l[x19.toNat]?).map (·.Source) = some x21.Source := by rw [hx21]; rfl
      refine c_p (v := .bool (decide (x21.Source = r))) (d := 64) rfl rfl rfl (fun w' => ex_eql rfl rfl) ?_
      refine c_p (v := .bool (decide (x21.Source = r))) (d := 65) rfl rfl rfl (fun w' => ex_move rfl) ?_
      by_cases hg22 : x21.Source = r
      · skip
        refine c_pg (v := .func (.yield y) #[] #[]) (d := 66) rfl rfl rfl (wanted_yes (b := (decide (x21.Source = r))) rfl rfl rfl (decide_eq_true hg22)) (fun w' => ex_move s0) ?_
        refine c_pg (v := .int .i64 x19) (d := 67) rfl rfl rfl (wanted_yes (b := (decide (x21.Source = r))) rfl rfl rfl (decide_eq_true hg22)) (fun w' => ex_move rfl) ?_
        have hs9 : srcIs l r x19 = true := by unfold srcIs; rw [hsr9]; exact decide_eq_true (congrArg some hg22)
        obtain ⟨po9, hpo9⟩ := sndL_split (l := l) (r := r) hp9 hs9
        refine c_l rfl (o_g (wanted_yes (b := (decide (x21.Source = r))) rfl rfl rfl (decide_eq_true hg22)) (o_yield rfl rfl rfl (Yields.mono (hY (comL (cf kvC) r ++ sndN l (lkS t kvS).xs r j) x19 _ _ _ (by rw [hpo9, ← List.append_assoc]) H) fun w23 H => ⟨.inl (by kernel_rfl), ?_⟩)))
        refine c_pg (v := .bool false) (d := 69) rfl rfl rfl (wanted_yes (b := (decide (x21.Source = r))) rfl rfl rfl (decide_eq_true hg22)) (fun w' => ex_not (q := true) rfl) ?_
        refine c_p (v := .bool false) (d := 70) rfl rfl rfl (fun w' => ex_pick (q := (decide (x21.Source = r))) rfl (fun h => rfl) (fun h => absurd hg22 (of_decide_eq_false h))) ?_
        refine c_done ?_
        refine V_false rfl rfl ?_
        refine V_skip rfl ?_
        refine V_region rfl ?_
        refine Rg_op rfl (o_val (v := .int .i64 (((j : Nat) : Int) + 1)) (d := 71) rfl rfl (ex_add s51 rfl (by omega)) ?_)
        refine Rg_op rfl (o_val (v := .int .i64 (((j : Nat) : Int) + 1)) (d := 51) rfl rfl (ex_move rfl) ?_)
        refine Rg_end ?_
        rw [show ((comL (cf kvC) r ++ sndN l (lkS t kvS).xs r j) ++ [x19]) = comL (cf kvC) r ++ sndN l (lkS t kvS).xs r (j + 1) from by rw [sndN_next hp9, if_pos hs9, List.append_assoc] ] at H
        exact ⟨j + 1, ⟨s0, s1, s2, s49, s50, rfl, s1000000, H, by omega⟩, by omega⟩
      · skip
        refine c_ps (d := 66) rfl rfl rfl (wanted_no (b := (decide (x21.Source = r))) rfl rfl rfl (decide_eq_false hg22)) ?_
        refine c_ps (d := 67) rfl rfl rfl (wanted_no (b := (decide (x21.Source = r))) rfl rfl rfl (decide_eq_false hg22)) ?_
        refine c_l rfl (o_skip (d := 68) rfl rfl (wanted_no (b := (decide (x21.Source = r))) rfl rfl rfl (decide_eq_false hg22)) ⟨.inr (Agr.refl _ _), ?_⟩)
        refine c_ps (d := 69) rfl rfl rfl (wanted_no (b := (decide (x21.Source = r))) rfl rfl rfl (decide_eq_false hg22)) ?_
        refine c_p (v := .bool false) (d := 70) rfl rfl rfl (fun w' => ex_pick (q := (decide (x21.Source = r))) rfl (fun h => absurd (of_decide_eq_true h) hg22) (fun h => rfl)) ?_
        refine c_done ?_
        refine V_false rfl rfl ?_
        refine V_skip rfl ?_
        refine V_region rfl ?_
        refine Rg_op rfl (o_val (v := .int .i64 (((j : Nat) : Int) + 1)) (d := 71) rfl rfl (ex_add s51 rfl (by omega)) ?_)
        refine Rg_op rfl (o_val (v := .int .i64 (((j : Nat) : Int) + 1)) (d := 51) rfl rfl (ex_move rfl) ?_)
        refine Rg_end ?_
        have hs9 : srcIs l r x19 = false := by unfold srcIs; rw [hsr9]; exact decide_eq_false (fun e => hg22 (Option.some.inj e))
        rw [show (comL (cf kvC) r ++ sndN l (lkS t kvS).xs r j) = comL (cf kvC) r ++ sndN l (lkS t kvS).xs r (j + 1) from by rw [sndN_next hp9, if_neg (by rw [hs9]; decide)] ; simp] at H
        exact ⟨j + 1, ⟨s0, s1, s2, s49, s50, rfl, s1000000, H, by omega⟩, by omega⟩
    · have hb17 : ¬ (((j : Nat) : Int) < (((lkS t kvS).xs.length : Nat) : Int)) := of_decide_eq_false hb17
      refine V_exit rfl ?_
      have H := H.pull 1 rfl rfl
      have H := H.drop
      have H := H.pull 1 rfl rfl
      have H := H.drop
      have H := H.pull 1 rfl rfl
      have H := H.drop
      have H := H.pull 1 rfl rfl
      have H := H.drop
      have H := H.pull 4 rfl rfl
      have H := H.pull 4 rfl rfl
      have H := H.pull 4 rfl rfl
      have H := H.pull 4 rfl rfl
      have e9 : sndN l (lkS t kvS).xs r j = sndL l (lkS t kvS).xs r := by rw [sndN, sndL, List.take_of_length_le (by omega)]
      rw [e9] at H
      refine end0 (v := .tuple #[]) s1000000 (res_none Try.results87) ?_
      exact Hp.pull 1 rfl rfl H.join.join.join

end Go.Proofs.Ytlnogaoihkinbaa
namespace Go.Proofs.Ytlnogaoihkinbaa
open Go.Gk Go.RowKit
structure ES where
  Q : Port → List Int
  dr : List Drp
  mo : List V2
def setMost (mo : List V2) (r : Nat) (cls n : Int) : List V2 := match mo[r]? with
  | some x => mo.set r (if cls = 0 then ⟨max x.a n, x.b⟩ else ⟨x.a, max x.b n⟩)
  | none => mo
def outStep (s : Spec) (t r p cls outs : Int) (e : ES) (o : Int) : ES :=
  if bAnd .i64 outs o = 0 then e
  else if nextB s r o = false ∨ (((e.Q ⟨r, o, cls⟩).length : Nat) : Int) = s.Room then ⟨e.Q, e.dr ++ [⟨p, r, o, t⟩], e.mo⟩
  else ⟨updP e.Q ⟨r, o, cls⟩ (e.Q ⟨r, o, cls⟩ ++ [p]), e.dr, setMost e.mo r.toNat cls (((e.Q ⟨r, o, cls⟩).length : Nat) + 1)⟩
def outs5 : List Int := [1, 2, 4, 8, 16]
def enterP (s : Spec) (tab : List Entry) (key t r p cls : Int) (e : ES) : ES :=
  if (find tab key).2 = false then ⟨e.Q, e.dr ++ [⟨p, r, 0, t⟩], e.mo⟩ else outs5.foldl (outStep s t r p cls (find tab key).1) e
theorem updP_self {β : Type} (f : Port → β) (k : Port) : updP f k (f k) = f := by
  funext p
  unfold updP
  split
  · rename_i h; rw [h]
  · rfl
theorem setMost_len (mo : List V2) (r : Nat) (cls n : Int) : (setMost mo r cls n).length = mo.length := by
  unfold setMost
  split <;> simp
theorem outStep_dr (s : Spec) (t r p cls outs : Int) (e : ES) (o : Int) : (outStep s t r p cls outs e o).dr.length ≤ e.dr.length + 1 ∧ (outStep s t r p cls outs e o).mo.length = e.mo.length := by
  unfold outStep
  split
  · exact ⟨by omega, rfl⟩
  · split
    · exact ⟨by simp, rfl⟩
    · exact ⟨by simp, setMost_len _ _ _ _⟩
/-- The queues are short. -/
def shortQ (s : Spec) (Q : Port → List Int) : Prop := ∀ k, (((Q k).length : Nat) : Int) ≤ s.Room
theorem outStep_short {s : Spec} {t r p cls outs : Int} {e : ES} {o : Int} (h : shortQ s e.Q) : shortQ s (outStep s t r p cls outs e o).Q := by
  unfold outStep
  split
  · exact h
  · split
    · exact h
    · rename_i h1 h2
      intro k
      simp only [updP]
      split
      · have := h ⟨r, o, cls⟩
        simp only [not_or] at h2
        simp only [List.length_append, List.length_cons, List.length_nil]
        omega
      · exact h k
/-- The keys of the queues are ports of the mesh. -/
def portOk (s : Spec) (k : Port) : Prop := 0 ≤ k.r ∧ k.r < s.Wide * s.High ∧ k.o ∈ outs5 ∧ (k.c = 0 ∨ k.c = 1)
def cell0 (cls : Int) (x : V2) : Int := if cls = 0 then x.a else x.b
theorem cell_cls {cls : Int} (h : cls = 0 ∨ cls = 1) (x : V2) : [Value.int .i64 x.a, .int .i64 x.b][cls.toNat]? = some (.int .i64 (cell0 cls x)) := by
  rcases h with rfl | rfl <;> rfl
theorem set_cls {cls : Int} (h : cls = 0 ∨ cls = 1) (x : V2) (v : Int) : setL [Value.int .i64 x.a, .int .i64 x.b] cls.toNat [.int .i64 v] = [.int .i64 (if cls = 0 then (⟨v, x.b⟩ : V2) else ⟨x.a, v⟩).a, .int .i64 (if cls = 0 then (⟨v, x.b⟩ : V2) else ⟨x.a, v⟩).b] := by
  rcases h with rfl | rfl <;> rfl
theorem fit_cls {cls : Int} (h : cls = 0 ∨ cls = 1) : Nat.ble (cls.toNat + 1) 2 = true := by
  rcases h with rfl | rfl <;> rfl
theorem most_at {mo : List V2} {r : Nat} {cls n : Int} {x : V2} (hx : mo[r]? = some x) : mo.set r (if cls = 0 then (⟨max (cell0 cls x) n, x.b⟩ : V2) else ⟨x.a, max (cell0 cls x) n⟩) = setMost mo r cls n := by
  unfold setMost cell0
  rw [hx]
  by_cases h : cls = 0 <;> simp [h]
section
variable {P : Program} {σ : Env} {w : World} {d : Option Nat} {t xT : TypeId} {p : String} {af : Array Edge} {g : Option (Nat × Bool)} {x y : Operand}
def arrT (P : Program) (t : TypeId) : Option (Nat × TypeId × Nat) := match P.underlying t with
  | some (.array n e) => (P.info? e).map fun i => (n, e, i.size)
  | _ => none
theorem ex_indexArr {n sz : Nat} {e : TypeId} {ad ad' : Addr} {k : IntKind} {a : Int} (ht : arrT P xT = some (n, e, sz)) (hx : ev σ x = .pointer (some ad)) (hy : ev σ y = .int k a) (h0 : 0 ≤ a) (h1 : a < n) (ha : ad.add (a.toNat * sz) = ad') : Ex P σ ⟨d, .indexAddr xT x y, t, p, af, g⟩ w (.pointer (some ad')) := by
  subst ha
  unfold arrT at ht
  split at ht <;> try (cases ht)
  rename_i n' e' hu
  obtain ⟨i, hi, hq⟩ := Option.map_eq_some_iff.1 ht
  injection hq with q1 q2
  injection q2 with q2 q3
  subst q1 q2 q3
  simp [Ex, execOp, hx, hy, Instr.indexAt, asIntOf, run_underlying hu, Instr.sureAddr, h0, h1, sizeOf, typeInfo, hi]
end
theorem arr101 : arrT Try.prog 101 = some (2, 3, 1) := by kernel_rfl
structure SS where
  Q : Port → List Int
  C : CF
  ar : List Arr
def sendK (Q : Port → List Int) (r o : Int) : Port := if (Q ⟨r, o, 1⟩).length = 0 then ⟨r, o, 0⟩ else ⟨r, o, 1⟩
def sendP (s : Spec) (t r o : Int) (e : SS) : SS := match e.Q (sendK e.Q r o) with
  | [] => e
  | p :: rest => if o = 16 then ⟨updP e.Q (sendK e.Q r o) rest, e.C, e.ar ++ [⟨p, r, t⟩]⟩ else ⟨updP e.Q (sendK e.Q r o) rest, updP e.C ⟨nextR s r o, back o, 0⟩ (some p), e.ar⟩
def comOk (s : Spec) (k : Port) : Prop := 0 ≤ k.r ∧ k.r < s.Wide * s.High ∧ k.o ∈ outs4 ∧ k.c = 0
def leadQ (s : Spec) (Q : Port → List Int) : Prop := ∀ k, Q k ≠ [] → nextB s k.r k.o = true
theorem next_in {s : Spec} {r o : Int} (h : nextB s r o = true) : 0 ≤ nextR s r o ∧ nextR s r o < s.Wide * s.High := by
  simp only [nextB, decide_eq_true_eq] at h
  obtain ⟨⟨⟨h1, h2⟩, h3⟩, h4⟩ := h
  unfold nextR
  have h5 : 0 ≤ (moved s r o).2 * s.Wide := Int.mul_nonneg h3 (by omega)
  have h6 : ((moved s r o).2 + 1) * s.Wide ≤ s.High * s.Wide := Int.mul_le_mul_of_nonneg_right (by omega) (by omega)
  rw [Int.add_mul, Int.one_mul, Int.mul_comm s.High] at h6
  omega
theorem back_in {o : Int} (h : o ∈ outs5) (h16 : o ≠ 16) : back o ∈ outs4 := by
  simp only [outs5, List.mem_cons, List.not_mem_nil, or_false] at h
  rcases h with rfl | rfl | rfl | rfl | rfl
  · decide
  · decide
  · decide
  · decide
  · exact absurd rfl h16
theorem cf_put {kv : List (Port × Int)} (k : Port) (v : Int) : cf (mput k v kv) = updP (cf kv) k (some v) := by
  funext p
  simp only [cf, updP, mget_mput]
theorem send_none {s : Spec} {t r o : Int} {e : SS} (h1 : (e.Q ⟨r, o, 1⟩).length = 0) (h0 : (e.Q ⟨r, o, 0⟩).length = 0) : sendP s t r o e = e := by
  have hk : sendK e.Q r o = ⟨r, o, 0⟩ := if_pos h1
  unfold sendP
  rw [hk, List.eq_nil_of_length_eq_zero h0]
theorem send_at {s : Spec} {t r o : Int} {e : SS} {k : Port} {x : Int} {rest : List Int} (hk : sendK e.Q r o = k) (hx : e.Q k = x :: rest) : sendP s t r o e = if o = 16 then ⟨updP e.Q k rest, e.C, e.ar ++ [⟨x, r, t⟩]⟩ else ⟨updP e.Q k rest, updP e.C ⟨nextR s r o, back o, 0⟩ (some x), e.ar⟩ := by
  unfold sendP
  rw [hk, hx]
end Go.Proofs.Ytlnogaoihkinbaa
namespace Go.Proofs.Ytlnogaoihkinbaa
open Go.Gk Go.RowKit
theorem ca29 : cellsAgg Try.prog 29 = some none := by kernel_rfl
theorem ca60 : cellsAgg Try.prog 60 = some none := by kernel_rfl
theorem ca61 : cellsAgg Try.prog 61 = some none := by kernel_rfl
theorem cl88 : callable Try.prog 88 = true := by kernel_rfl
theorem cl90 : callable Try.prog 90 = true := by kernel_rfl
theorem fo142_0 : fieldOff Try.prog 142 0 = some 0 := by kernel_rfl
theorem fo142_1 : fieldOff Try.prog 142 1 = some 3 := by kernel_rfl
theorem fo142_6 : fieldOff Try.prog 142 6 = some 8 := by kernel_rfl
theorem fo63_1 : fieldOff Try.prog 63 1 = some 1 := by kernel_rfl
theorem fo63_2 : fieldOff Try.prog 63 2 = some 2 := by kernel_rfl
theorem sl60 : sliceT Try.prog 60 = some ⟨110, 4, 32, .agg #[.int .i64 0, .int .i64 0, .int .i64 0, .int .i64 0]⟩ := by kernel_rfl
theorem sl61 : sliceT Try.prog 61 = some ⟨101, 2, 16, .agg #[.int .i64 0, .int .i64 0]⟩ := by kernel_rfl
theorem ts60 : tySize Try.prog 60 = some 1 := by kernel_rfl
theorem enter_c (wb w0 : World) (L : List SA) (s : Spec) (bw ms mq mc : Nat) (At : Option Addr) (ct : Nat) (ts : List (List Entry)) (Al : Option Addr) (cl : Nat) (l : List Packet) (kvQ : List (Port × Qd)) (Aa Ad Am : Option Addr) (ca cd cm : Nat) (arr : List Arr) (dr : List Drp) (mo : List V2) (rest t r p : Int) (tab : List Entry) (pk : Packet) (H : Hp wb.heap.size wb w0 (SA.cel bw #[.int .i64 s.Wide, .int .i64 s.High, .int .i64 s.Room, .slice At ts.length ct, .slice Al l.length cl, .map (some ms), .map (some mq), .map (some mc), .slice Aa arr.length ca, .slice Ad dr.length cd, .slice Am mo.length cm, .int .i64 rest] 142 :: SA.map kPort.enc Qd.val mq kvQ :: SA.queues kvQ :: SA.own kDrp 110 Ad cd dr :: SA.own kV2 101 Am cm mo :: L)) (hT : Row (kSl kEnt) wb.cell? At ts) (hL : Row kPkt wb.cell? Al l) (hs : chk s = 0) (h0r : 0 ≤ r) (h1r : r < s.Wide * s.High) (htl : ((ts.length : Nat) : Int) = s.Wide * s.High) (htb : ts[r.toNat]? = some tab) (h0p : 0 ≤ p) (hpk : l[p.toNat]? = some pk) (hcls : pk.Class = 0 ∨ pk.Class = 1) (htab : tab.length ≤ 100000) (hn : (kvQ.map (·.1)).Nodup) (hpo : ∀ k ∈ kvQ.map (·.1), portOk s k) (hsq : shortQ s (qf kvQ)) (hdr : dr.length ≤ 1000000000000) (hmo : ((mo.length : Nat) : Int) = s.Wide * s.High) (hll : l.length ≤ 100000) :
    Calls Try.prog 62 #[.pointer (some ⟨bw, 0, none⟩), .int .i64 t, .int .i64 r, .int .i64 p] w0 fun e w' => ∃ v, e = .returned v ∧ (∃ kv' e' Ad' cd', enterP s tab pk.Key t r p pk.Class ⟨qf kvQ, dr, mo⟩ = e' ∧ e'.Q = qf kv' ∧ (kv'.map (·.1)).Nodup ∧ (∀ k ∈ kv'.map (·.1), portOk s k) ∧ Hp wb.heap.size wb w' (SA.cel bw #[.int .i64 s.Wide, .int .i64 s.High, .int .i64 s.Room, .slice At ts.length ct, .slice Al l.length cl, .map (some ms), .map (some mq), .map (some mc), .slice Aa arr.length ca, .slice Ad' e'.dr.length cd', .slice Am e'.mo.length cm, .int .i64 rest] 142 :: SA.map kPort.enc Qd.val mq kv' :: SA.queues kv' :: SA.own kDrp 110 Ad' cd' e'.dr :: SA.own kV2 101 Am cm e'.mo :: L)) := by
  obtain ⟨hs1, hs2, hs3, hs4, hs5, hs6⟩ := chk_ok hs
  obtain ⟨hm1, hm2⟩ := mul64 hs
  have h1p := (List.getElem?_eq_some_iff.1 hpk).1
  refine calls_of (n := 147) (l := [.pointer (some ⟨bw, 0, none⟩), .int .i64 t, .int .i64 r, .int .i64 p]) Try.func62 rfl rfl rfl ?_
  refine V_seq rfl ?_
  refine V_draw [0, 1, 2, 4, 5, 7, 8, 9, 11, 12, 13, 16, 17, 18, 19, 20] (.p 0 (.p 1 (.p 2 (.q 3 (.p 4 (.p 5 (.q 6 (.p 7 (.p 8 (.p 9 (.q 10 (.p 11 (.p 12 (.p 13 (.q 14 (.l 15 (.p 16 (.p 17 (.p 18 (.p 19 (.p 20 .done))))))))))))))))))))) (fun _ => False) rfl mixed (by kernel_rfl) fun w1 hD => ?_
  have H := H.drew hD
  refine c_p (v := .pointer (some ⟨bw, 0, none⟩)) (d := 17) rfl rfl rfl (fun w' => ex_move rfl) ?_
  refine c_p (v := .pointer (some ⟨bw, 0, none⟩)) (d := 18) rfl rfl rfl (fun w' => ex_nilCheck rfl) ?_
  refine c_p (v := .pointer (some ⟨bw, 3, none⟩)) (d := 19) rfl rfl rfl (fun w' => ex_fieldAddr fo142_1 rfl rfl) ?_
  refine c_q (v := .slice At ts.length ct) (d := 20) rfl rfl rfl (fun w' hG => ex_load ca29 rfl (hG.cell (cell_of (H.rd 0 rfl)) id)) ?_
  refine c_p (v := .int .i64 r) (d := 21) rfl rfl rfl (fun w' => ex_move rfl) ?_
  obtain ⟨ad2, x2, cs2, hA2, hx2, hR2, hc2⟩ := Row.get hT r ((by first | omega | (simp only [List.length_cons, List.length_nil]; omega))) ((by first | omega | (simp only [List.length_cons, List.length_nil]; omega)))
  obtain ⟨Ae3, ce3, rfl, hle3, hme3, hWe3⟩ := hR2
  refine c_p (v := .pointer (some (ad2.add ((r).toNat * 1)))) (d := 22) rfl rfl rfl (fun w' => ex_indexAddr sl29 rfl hA2 rfl ((by first | omega | (simp only [List.length_cons, List.length_nil]; omega))) ((by first | omega | (simp only [List.length_cons, List.length_nil]; omega))) rfl) ?_
  obtain rfl : tab = x2 := by have h1 := hx2; rw [htb] at h1; injection h1
  refine c_q (v := .slice Ae3 tab.length ce3) (d := 23) rfl rfl rfl (fun w' hG => ex_load ca41 rfl (hG.cell (H.cell0 (hc2 0 _ rfl)) id)) ?_
  refine c_p (v := .pointer (some ⟨bw, 0, none⟩)) (d := 24) rfl rfl rfl (fun w' => ex_move rfl) ?_
  refine c_p (v := .pointer (some ⟨bw, 0, none⟩)) (d := 25) rfl rfl rfl (fun w' => ex_nilCheck rfl) ?_
  refine c_p (v := .pointer (some ⟨bw, 4, none⟩)) (d := 26) rfl rfl rfl (fun w' => ex_fieldAddr fo142_2 rfl rfl) ?_
  refine c_q (v := .slice Al l.length cl) (d := 27) rfl rfl rfl (fun w' hG => ex_load ca55 rfl (hG.cell (cell_of (H.rd 0 rfl)) id)) ?_
  refine c_p (v := .int .i64 p) (d := 28) rfl rfl rfl (fun w' => ex_move rfl) ?_
  obtain ⟨ad4, x4, cs4, hA4, hx4, hR4, hc4⟩ := Row.get hL p ((by first | omega | (simp only [List.length_cons, List.length_nil]; omega))) ((by first | omega | (simp only [List.length_cons, List.length_nil]; omega)))
  obtain rfl := hR4
  refine c_p (v := .pointer (some (ad4.add ((p).toNat * 4)))) (d := 29) rfl rfl rfl (fun w' => ex_indexAddr sl55 rfl hA4 rfl ((by first | omega | (simp only [List.length_cons, List.length_nil]; omega))) ((by first | omega | (simp only [List.length_cons, List.length_nil]; omega))) rfl) ?_
  obtain rfl : pk = x4 := by have h1 := hx4; rw [hpk] at h1; injection h1
  refine c_p (v := .pointer (some (ad4.add ((p).toNat * 4 + 2)))) (d := 30) rfl rfl rfl (fun w' => ex_fieldAddr fo58_2 rfl (add_add _ _ _)) ?_
  refine c_q (v := .int .i64 pk.Key) (d := 31) rfl rfl rfl (fun w' hG => ex_load ca3 rfl (hG.cell (H.cell0 (hc4 2 _ rfl)) id)) ?_
  refine c_l rfl (o_call (fv := []) (cap := []) (vs := [.slice Ae3 tab.length ce3, .int .i64 pk.Key]) rfl rfl cl19 rfl (find_c _ _ tab pk.Key _ (hWe3.mono (fun _ _ h => H.cell0 h)) (by omega)) fun v w5 hS => ?_)
  obtain ⟨rfl, hB⟩ := hS
  refine ⟨.inr (Below.agr hB), ?_⟩
  have H := H.keep hB
  refine c_p (v := .tuple #[.int .i64 ((find tab pk.Key).1), .bool ((find tab pk.Key).2)]) (d := 16) rfl rfl rfl (fun w' => ex_move rfl) ?_
  refine c_p (v := .int .i64 ((find tab pk.Key).1)) (d := 33) rfl rfl rfl (fun w' => ex_extract rfl rfl) ?_
  refine c_p (v := .bool ((find tab pk.Key).2)) (d := 34) rfl rfl rfl (fun w' => ex_extract rfl rfl) ?_
  refine c_p (v := .int .i64 ((find tab pk.Key).1)) (d := 8) rfl rfl rfl (fun w' => ex_assign rfl) ?_
  refine c_p (v := .bool ((find tab pk.Key).2)) (d := 9) rfl rfl rfl (fun w' => ex_assign rfl) ?_
  refine c_done ?_
  refine V_seq rfl ?_
  refine V_seq rfl ?_
  refine V_region rfl ?_
  refine Rg_op rfl (o_val (v := .bool ((find tab pk.Key).2)) (d := 35) rfl rfl (ex_move rfl) ?_)
  refine Rg_op rfl (o_val (v := .bool (!((find tab pk.Key).2))) (d := 36) rfl rfl (ex_not rfl) ?_)
  refine Rg_end ?_
  refine V_cond (b := (!((find tab pk.Key).2))) rfl rfl (fun hb6 => ?_) (fun hb6 => ?_)
  · skip
    have hf9 : (find tab pk.Key).2 = false := by simpa using hb6
    refine V_seq rfl ?_
    refine V_region rfl ?_
    refine Rg_op rfl (o_val (v := .pointer (some ⟨bw, 0, none⟩)) (d := 37) rfl rfl (ex_move rfl) ?_)
    refine Rg_op rfl (o_val (v := .pointer (some ⟨bw, 0, none⟩)) (d := 38) rfl rfl (ex_move rfl) ?_)
    refine Rg_op rfl (o_val (v := .pointer (some ⟨bw, 0, none⟩)) (d := 39) rfl rfl (ex_nilCheck rfl) ?_)
    refine Rg_op rfl (o_val (v := .pointer (some ⟨bw, 8, none⟩)) (d := 40) rfl rfl (ex_fieldAddr fo142_6 rfl rfl) ?_)
    refine Rg_op rfl (o_val (v := .pointer (some ⟨bw, 9, none⟩)) (d := 41) rfl rfl (ex_fieldAddr fo63_1 rfl rfl) ?_)
    refine Rg_op rfl (o_val (v := .slice Ad dr.length cd) (d := 42) rfl rfl (ex_load ca60 rfl (cell_of (H.rd 0 rfl))) ?_)
    refine Rg_op rfl (o_val (v := .int .i64 p) (d := 43) rfl rfl (ex_move rfl) ?_)
    refine Rg_op rfl (o_val (v := .int .i64 r) (d := 44) rfl rfl (ex_move rfl) ?_)
    refine Rg_op rfl (o_val (v := .int .i64 t) (d := 45) rfl rfl (ex_move rfl) ?_)
    refine Rg_op rfl (o_val (v := .agg #[.int .i64 p, .int .i64 r, .int .i64 0, .int .i64 t]) (d := 46) rfl rfl (ex_eq (by kernel_rfl)) ?_)
    refine Rg_op rfl (o_lit (cs := [.int .i64 p, .int .i64 r, .int .i64 0, .int .i64 t]) (e := 110) rfl (fun W => by kernel_rfl) H fun b7 w8 hA H => ?_)
    have H := H.pull 4 rfl rfl
    refine Rg_op rfl (o_append (ys := [(⟨p, r, 0, t⟩ : Drp)]) (ts := #[]) rfl sl60 rfl rfl rfl H (row_lit1 (z := (⟨p, r, 0, t⟩ : Drp)) (H.rd 1 rfl) rfl) (by first | omega | (simp only [List.length_append, List.length_cons, List.length_nil, List.length_map, List.length_take]; omega)) (by first | omega | (simp only [List.length_append, List.length_cons, List.length_nil, List.length_map, List.length_take]; omega)) fun A9 c10 w11 hA H => ?_)
    have H := (H.pull 1 rfl rfl).drop
    refine Rg_op rfl (o_val (v := .pointer (some ⟨bw, 0, none⟩)) (d := 49) rfl rfl (ex_nilCheck rfl) ?_)
    refine Rg_op rfl (o_val (v := .pointer (some ⟨bw, 8, none⟩)) (d := 50) rfl rfl (ex_fieldAddr fo142_6 rfl rfl) ?_)
    refine Rg_op rfl (o_val (v := .pointer (some ⟨bw, 9, none⟩)) (d := 51) rfl rfl (ex_fieldAddr fo63_1 rfl rfl) ?_)
    refine Rg_op rfl (o_store (vs := [.slice A9 ((dr ++ [(⟨p, r, 0, t⟩ : Drp)]).length) c10]) rfl ts60 rfl rfl rfl rfl 1 rfl rfl rfl rfl H fun w13 hA H => ?_)
    refine Rg_end ?_
    have H := H.pull 4 rfl rfl
    have H := H.pull 2 rfl rfl
    have H := H.pull 4 rfl rfl
    have H := H.pull 4 rfl rfl
    have H := H.pull 4 rfl rfl
    have hen : enterP s tab pk.Key t r p pk.Class ⟨qf kvQ, dr, mo⟩ = ⟨qf kvQ, dr ++ [⟨p, r, 0, t⟩], mo⟩ := if_pos hf9
    refine V_ret rfl (end0 (v := .tuple #[]) rfl (res_none Try.results62) ?_)
    exact ⟨kvQ, _, A9, c10, hen, rfl, hn, hpo, H⟩
  · skip
    have hf9 : ¬ (find tab pk.Key).2 = false := by simpa using hb6
    refine V_skip rfl ?_
    refine V_seq rfl ?_
    refine V_region rfl ?_
    refine Rg_op rfl (o_call (fv := []) (cap := []) (vs := []) rfl rfl cl63 rfl (outputs_c _) fun v w17 hS => ?_)
    obtain ⟨A15, c16, rfl, hB, hN⟩ := hS
    have H := H.new hB hN
    refine Rg_op rfl (o_val (v := .int .i64 ((([1, 2, 4, 8, 16]).length : Nat) : Int)) (d := 53) rfl rfl (ex_len (ts := #[]) sl26 rfl) ?_)
    refine Rg_op rfl (o_val (v := .int .i64 0) (d := 54) rfl rfl (ex_move rfl) ?_)
    refine Rg_end ?_
    refine V_block rfl ?_
    refine V_loop rfl (γ := Nat) (fun j σ w => ∃ (kv : List (Port × Qd)) (e : ES) (Ad2 : Option Addr) (cd2 : Nat), σ 0 = .pointer (some ⟨bw, 0, none⟩) ∧ σ 1 = .int .i64 t ∧ σ 2 = .int .i64 r ∧ σ 3 = .int .i64 p ∧ σ 8 = .int .i64 ((find tab pk.Key).1) ∧ σ 52 = .slice A15 (([1, 2, 4, 8, 16]).length) c16 ∧ σ 53 = .int .i64 ((([1, 2, 4, 8, 16]).length : Nat) : Int) ∧ σ 54 = .int .i64 ((j : Nat) : Int) ∧ σ 1000000 = undef ∧ Hp wb.heap.size wb w (SA.own kInt 3 A15 c16 ([1, 2, 4, 8, 16]) :: SA.cel bw #[.int .i64 s.Wide, .int .i64 s.High, .int .i64 s.Room, .slice At ts.length ct, .slice Al l.length cl, .map (some ms), .map (some mq), .map (some mc), .slice Aa arr.length ca, .slice Ad2 e.dr.length cd2, .slice Am mo.length cm, .int .i64 rest] 142 :: SA.map kPort.enc Qd.val mq kv :: SA.queues kv :: SA.own kDrp 110 Ad2 cd2 e.dr :: SA.own kV2 101 Am cm e.mo :: L) ∧ j ≤ 5 ∧ e = (outs5.take j).foldl (outStep s t r p pk.Class (find tab pk.Key).1) ⟨qf kvQ, dr, mo⟩ ∧ e.Q = qf kv ∧ (kv.map (·.1)).Nodup ∧ (∀ k ∈ kv.map (·.1), portOk s k) ∧ shortQ s e.Q ∧ e.dr.length ≤ dr.length + j ∧ e.mo.length = mo.length) (fun j => 5 - j) (0) ⟨kvQ, ⟨qf kvQ, dr, mo⟩, Ad, cd, rfl, rfl, rfl, rfl, rfl, rfl, rfl, rfl, rfl, H, by omega, rfl, rfl, hn, hpo, hsq, Nat.le_refl _, rfl⟩ (fun j σ w hI => ?_)
    obtain ⟨kv, e, Ad2, cd2, hI⟩ := hI
    obtain ⟨s0, s1, s2, s3, s8, s52, s53, s54, s1000000, H, hj, he, heq, hnk, hpk2, hsh, hdl, hml⟩ := hI
    refine V_seq rfl ?_
    refine V_region rfl ?_
    refine Rg_op rfl (o_val (v := .bool (decide (((j : Nat) : Int) < ((([1, 2, 4, 8, 16]).length : Nat) : Int)))) (d := 55) rfl rfl (ex_lss s54 s53) ?_)
    refine Rg_end ?_
    refine V_seq rfl ?_
    refine V_cond (b := (decide (((j : Nat) : Int) < ((([1, 2, 4, 8, 16]).length : Nat) : Int)))) rfl rfl (fun hb18 => ?_) (fun hb18 => ?_)
    · have hb18 : ((j : Nat) : Int) < ((([1, 2, 4, 8, 16]).length : Nat) : Int) := of_decide_eq_true hb18
      have hj5 : j < 5 := by have h9 := hb18; simp only [List.length_cons, List.length_nil] at h9; omega
      refine V_skip rfl ?_
      refine V_seq rfl ?_
      refine V_block rfl ?_
      refine V_seq rfl ?_
      refine V_region rfl ?_
      have hr19 := (own_row (H.pull 0 rfl rfl)).1
      obtain ⟨ad20, x20, cs20, hA20, hx20, hR20, hc20⟩ := Row.get hr19 ((j : Nat) : Int) ((by first | omega | (simp only [List.length_cons, List.length_nil]; omega))) ((by first | omega | (simp only [List.length_cons, List.length_nil]; omega)))
      obtain rfl := hR20
      refine Rg_op rfl (o_val (v := .pointer (some (ad20.add ((((j : Nat) : Int)).toNat * 1)))) (d := 56) rfl rfl (ex_indexAddr sl26 s52 hA20 s54 ((by first | omega | (simp only [List.length_cons, List.length_nil]; omega))) ((by first | omega | (simp only [List.length_cons, List.length_nil]; omega))) rfl) ?_)
      refine Rg_op rfl (o_val (v := .int .i64 x20) (d := 57) rfl rfl (ex_load ca3 rfl (hc20 0 _ rfl)) ?_)
      refine Rg_op rfl (o_val (v := .int .i64 x20) (d := 11) rfl rfl (ex_assign rfl) ?_)
      refine Rg_end ?_
      refine V_seq rfl ?_
      refine V_seq rfl ?_
      refine V_region rfl ?_
      have hxo : outs5[j]? = some x20 := hx20
      refine Rg_op rfl (o_val (v := .int .i64 ((find tab pk.Key).1)) (d := 58) rfl rfl (ex_move s8) ?_)
      refine Rg_op rfl (o_val (v := .int .i64 x20) (d := 59) rfl rfl (ex_move rfl) ?_)
      refine Rg_op rfl (o_val (v := .int .i64 (bAnd .i64 ((find tab pk.Key).1) x20)) (d := 60) rfl rfl (ex_and rfl rfl) ?_)
      refine Rg_op rfl (o_val (v := .bool (decide ((bAnd .i64 ((find tab pk.Key).1) x20) = 0))) (d := 61) rfl rfl (ex_eql rfl rfl) ?_)
      refine Rg_end ?_
      refine V_cond (b := (decide ((bAnd .i64 ((find tab pk.Key).1) x20) = 0))) rfl rfl (fun hb21 => ?_) (fun hb21 => ?_)
      · have hb21 : (bAnd .i64 ((find tab pk.Key).1) x20) = 0 := of_decide_eq_true hb21
        refine V_exit rfl ?_
        refine V_region rfl ?_
        refine Rg_op rfl (o_val (v := .int .i64 (((j : Nat) : Int) + 1)) (d := 146) rfl rfl (ex_add s54 rfl (by omega)) ?_)
        refine Rg_op rfl (o_val (v := .int .i64 (((j : Nat) : Int) + 1)) (d := 54) rfl rfl (ex_move rfl) ?_)
        refine Rg_end ?_
        have hst9 : outStep s t r p pk.Class (find tab pk.Key).1 e x20 = e := if_pos (by assumption)
        have hQ9 : (outStep s t r p pk.Class (find tab pk.Key).1 e x20).Q = qf kv := by rw [hst9]; exact heq
        have hK9 := hnk
        have hP9 := hpk2
        rw [← hst9] at H
        exact ⟨j + 1, ⟨kv, outStep s t r p pk.Class (find tab pk.Key).1 e x20, Ad2, cd2, s0, s1, s2, s3, s8, s52, s53, rfl, s1000000, H, by omega, by rw [List.take_add_one, hxo, Option.toList_some, List.foldl_append, ← he]; rfl, hQ9, hK9, hP9, outStep_short hsh, by have := (outStep_dr s t r p pk.Class (find tab pk.Key).1 e x20).1; omega, by rw [(outStep_dr s t r p pk.Class (find tab pk.Key).1 e x20).2]; exact hml⟩, by omega⟩
      · have hb21 : ¬ ((bAnd .i64 ((find tab pk.Key).1) x20) = 0) := of_decide_eq_false hb21
        refine V_skip rfl ?_
        refine V_seq rfl ?_
        refine V_region rfl ?_
        refine Rg_op rfl (o_val (v := .pointer (some ⟨bw, 0, none⟩)) (d := 62) rfl rfl (ex_move s0) ?_)
        refine Rg_op rfl (o_val (v := .int .i64 r) (d := 63) rfl rfl (ex_move s2) ?_)
        refine Rg_op rfl (o_val (v := .int .i64 x20) (d := 64) rfl rfl (ex_move rfl) ?_)
        refine Rg_op rfl (o_val (v := .pointer (some ⟨bw, 0, none⟩)) (d := 65) rfl rfl (ex_move s0) ?_)
        refine Rg_op rfl (o_val (v := .pointer (some ⟨bw, 0, none⟩)) (d := 66) rfl rfl (ex_nilCheck rfl) ?_)
        refine Rg_op rfl (o_val (v := .pointer (some ⟨bw, 4, none⟩)) (d := 67) rfl rfl (ex_fieldAddr fo142_2 rfl rfl) ?_)
        refine Rg_op rfl (o_val (v := .slice Al l.length cl) (d := 68) rfl rfl (ex_load ca55 rfl (cell_of (H.rd 1 rfl))) ?_)
        refine Rg_op rfl (o_val (v := .int .i64 p) (d := 69) rfl rfl (ex_move s3) ?_)
        refine Rg_op rfl (o_val (v := .pointer (some (ad4.add ((p).toNat * 4)))) (d := 70) rfl rfl (ex_indexAddr sl55 rfl hA4 rfl ((by first | omega | (simp only [List.length_cons, List.length_nil]; omega))) ((by first | omega | (simp only [List.length_cons, List.length_nil]; omega))) rfl) ?_)
        refine Rg_op rfl (o_val (v := .pointer (some (ad4.add ((p).toNat * 4 + 3)))) (d := 71) rfl rfl (ex_fieldAddr fo58_3 rfl (add_add _ _ _)) ?_)
        refine Rg_op rfl (o_val (v := .int .i64 pk.Class) (d := 72) rfl rfl (ex_load ca3 rfl (H.cell0 (hc4 3 _ rfl))) ?_)
        have hsh9 := hsh ⟨r, x20, pk.Class⟩
        refine Rg_op rfl (o_val (v := .agg #[.int .i64 r, .int .i64 x20, .int .i64 pk.Class]) (d := 73) rfl rfl (ex_eq (by kernel_rfl)) ?_)
        have H := H.pull 3 rfl rfl
        have H := H.pull 3 rfl rfl
        have H := H.pull 3 rfl rfl
        refine Rg_op rfl (o_call (fv := []) (cap := []) (vs := [.pointer (some ⟨bw, 0, none⟩), .agg #[.int .i64 r, .int .i64 x20, .int .i64 pk.Class]]) rfl rfl cl88 rfl (queue_c _ _ _ _ bw mq #[.int .i64 s.Wide, .int .i64 s.High, .int .i64 s.Room, .slice At ts.length ct, .slice Al l.length cl, .map (some ms), .map (some mq), .map (some mc), .slice Aa arr.length ca, .slice Ad2 e.dr.length cd2, .slice Am mo.length cm, .int .i64 rest] kv (⟨r, x20, pk.Class⟩ : Port) H rfl hnk) fun v w23 hS => ?_)
        obtain ⟨kv22, iq22, q22, rfl, hqi22, hqr22, H⟩ := hS
        refine Rg_op rfl (o_val (v := .pointer (some ⟨q22.b, 0, none⟩)) (d := 12) rfl rfl (ex_assign rfl) ?_)
        refine Rg_end ?_
        refine V_seq rfl ?_
        refine V_seq rfl ?_
        refine V_region rfl ?_
        have hq9 : q22.xs.length ≤ 64 := by have h1 := hqr22.2.1; rw [h1, ← heq]; omega
        refine Rg_op rfl (o_val (v := .pointer (some ⟨bw, 0, none⟩)) (d := 76) rfl rfl (ex_move s0) ?_)
        refine Rg_op rfl (o_val (v := .pointer (some ⟨bw, 0, none⟩)) (d := 77) rfl rfl (ex_nilCheck rfl) ?_)
        refine Rg_op rfl (o_val (v := .pointer (some ⟨bw, 0, none⟩)) (d := 78) rfl rfl (ex_fieldAddr fo142_0 rfl rfl) ?_)
        refine Rg_op rfl (o_val (v := .agg #[.int .i64 s.Wide, .int .i64 s.High, .int .i64 s.Room]) (d := 79) rfl rfl (ex_loadN (vs := [.int .i64 s.Wide, .int .i64 s.High, .int .i64 s.Room]) ca33 rfl rfl (blk_cells (H.rd 0 rfl) rfl)) ?_)
        refine Rg_op rfl (o_val (v := .int .i64 r) (d := 80) rfl rfl (ex_move s2) ?_)
        refine Rg_op rfl (o_val (v := .int .i64 x20) (d := 81) rfl rfl (ex_move rfl) ?_)
        refine Rg_op rfl (o_call (fv := []) (cap := []) (vs := [.agg #[.int .i64 s.Wide, .int .i64 s.High, .int .i64 s.Room], .int .i64 r, .int .i64 x20]) rfl rfl cl89 rfl (next_c s r x20 _ (by assumption) (by omega) (by omega)) fun v w24 hS => ?_)
        obtain ⟨rfl, hB⟩ := hS
        have H := H.keep hB
        refine Rg_op rfl (o_val (v := .tuple #[.int .i64 (nextR s r x20), .bool (nextB s r x20)]) (d := 75) rfl rfl (ex_move rfl) ?_)
        refine Rg_op rfl (o_val (v := .int .i64 (nextR s r x20)) (d := 83) rfl rfl (ex_extract rfl rfl) ?_)
        refine Rg_op rfl (o_val (v := .bool (nextB s r x20)) (d := 84) rfl rfl (ex_extract rfl rfl) ?_)
        refine Rg_op rfl (o_val (v := .int .i64 (nextR s r x20)) (d := 13) rfl rfl (ex_assign rfl) ?_)
        refine Rg_op rfl (o_val (v := .bool (nextB s r x20)) (d := 14) rfl rfl (ex_assign rfl) ?_)
        refine Rg_end ?_
        refine V_seq rfl ?_
        refine V_join (fun σ w => σ 0 = .pointer (some ⟨bw, 0, none⟩) ∧ σ 1 = .int .i64 t ∧ σ 2 = .int .i64 r ∧ σ 3 = .int .i64 p ∧ σ 8 = .int .i64 ((find tab pk.Key).1) ∧ σ 11 = .int .i64 x20 ∧ σ 12 = .pointer (some ⟨q22.b, 0, none⟩) ∧ σ 14 = .bool (nextB s r x20) ∧ σ 52 = .slice A15 (([1, 2, 4, 8, 16]).length) c16 ∧ σ 53 = .int .i64 ((([1, 2, 4, 8, 16]).length : Nat) : Int) ∧ σ 54 = .int .i64 ((j : Nat) : Int) ∧ σ 55 = .bool (decide (((j : Nat) : Int) < ((([1, 2, 4, 8, 16]).length : Nat) : Int))) ∧ σ 56 = .pointer (some (ad20.add ((((j : Nat) : Int)).toNat * 1))) ∧ σ 57 = .int .i64 x20 ∧ σ 58 = .int .i64 ((find tab pk.Key).1) ∧ σ 59 = .int .i64 x20 ∧ σ 60 = .int .i64 (bAnd .i64 ((find tab pk.Key).1) x20) ∧ σ 61 = .bool (decide ((bAnd .i64 ((find tab pk.Key).1) x20) = 0)) ∧ σ 62 = .pointer (some ⟨bw, 0, none⟩) ∧ σ 63 = .int .i64 r ∧ σ 64 = .int .i64 x20 ∧ σ 65 = .pointer (some ⟨bw, 0, none⟩) ∧ σ 66 = .pointer (some ⟨bw, 0, none⟩) ∧ σ 67 = .pointer (some ⟨bw, 4, none⟩) ∧ σ 68 = .slice Al l.length cl ∧ σ 69 = .int .i64 p ∧ σ 70 = .pointer (some (ad4.add ((p).toNat * 4))) ∧ σ 71 = .pointer (some (ad4.add ((p).toNat * 4 + 3))) ∧ σ 72 = .int .i64 pk.Class ∧ σ 73 = .agg #[.int .i64 r, .int .i64 x20, .int .i64 pk.Class] ∧ σ 74 = .pointer (some ⟨q22.b, 0, none⟩) ∧ σ 75 = .tuple #[.int .i64 (nextR s r x20), .bool (nextB s r x20)] ∧ σ 76 = .pointer (some ⟨bw, 0, none⟩) ∧ σ 77 = .pointer (some ⟨bw, 0, none⟩) ∧ σ 78 = .pointer (some ⟨bw, 0, none⟩) ∧ σ 79 = .agg #[.int .i64 s.Wide, .int .i64 s.High, .int .i64 s.Room] ∧ σ 80 = .int .i64 r ∧ σ 81 = .int .i64 x20 ∧ σ 82 = .tuple #[.int .i64 (nextR s r x20), .bool (nextB s r x20)] ∧ σ 83 = .int .i64 (nextR s r x20) ∧ σ 84 = .bool (nextB s r x20) ∧ σ 85 = .bool (nextB s r x20) ∧ σ 86 = .bool (!(nextB s r x20)) ∧ σ 87 = .bool (!(nextB s r x20)) ∧ σ 99 = .bool (decide (((!(nextB s r x20)) = true) ∨ (((q22.xs.length : Nat) : Int) = s.Room))) ∧ σ 1000000 = undef ∧ Hp wb.heap.size wb w (SA.cel bw #[.int .i64 s.Wide, .int .i64 s.High, .int .i64 s.Room, .slice At ts.length ct, .slice Al l.length cl, .map (some ms), .map (some mq), .map (some mc), .slice Aa arr.length ca, .slice Ad2 e.dr.length cd2, .slice Am mo.length cm, .int .i64 rest] 142 :: SA.map kPort.enc Qd.val mq kv22 :: SA.cel q22.b #[.slice q22.A q22.xs.length q22.c] 153 :: SA.ints q22.A q22.c q22.xs :: SA.queues (kv22.eraseIdx iq22) :: SA.own kInt 3 A15 c16 ([1, 2, 4, 8, 16]) :: SA.own kDrp 110 Ad2 cd2 e.dr :: SA.own kV2 101 Am cm e.mo :: L)) ?_ (fun σ w hI => ?_)
        · skip
          refine V_draw [0, 1, 2, 3, 4, 5, 7, 8, 9, 10, 11, 13, 14] (.p 0 (.p 1 (.p 2 (.p 3 (.p 4 (.p 5 (.q 6 (.p 7 (.p 8 (.p 9 (.p 10 (.p 11 (.q 12 (.p 13 (.p 14 .done))))))))))))))) (fun _ => False) rfl mixed (by kernel_rfl) fun w25 hD => ?_
          have H := H.drew hD
          refine c_p (v := .bool (nextB s r x20)) (d := 85) rfl rfl rfl (fun w' => ex_move rfl) ?_
          refine c_p (v := .bool (!(nextB s r x20))) (d := 86) rfl rfl rfl (fun w' => ex_not rfl) ?_
          refine c_p (v := .bool (!(nextB s r x20))) (d := 87) rfl rfl rfl (fun w' => ex_move rfl) ?_
          by_cases hg26 : (!(nextB s r x20)) = true
          · skip
            refine c_ps (d := 88) rfl rfl rfl (wanted_no (b := (!(nextB s r x20))) rfl rfl rfl hg26) ?_
            refine c_ps (d := 89) rfl rfl rfl (wanted_no (b := (!(nextB s r x20))) rfl rfl rfl hg26) ?_
            refine c_ps (d := 90) rfl rfl rfl (wanted_no (b := (!(nextB s r x20))) rfl rfl rfl hg26) ?_
            refine c_qs (d := 91) rfl rfl rfl (wanted_no (b := (!(nextB s r x20))) rfl rfl rfl hg26) ?_
            refine c_ps (d := 92) rfl rfl rfl (wanted_no (b := (!(nextB s r x20))) rfl rfl rfl hg26) ?_
            refine c_ps (d := 93) rfl rfl rfl (wanted_no (b := (!(nextB s r x20))) rfl rfl rfl hg26) ?_
            refine c_ps (d := 94) rfl rfl rfl (wanted_no (b := (!(nextB s r x20))) rfl rfl rfl hg26) ?_
            refine c_ps (d := 95) rfl rfl rfl (wanted_no (b := (!(nextB s r x20))) rfl rfl rfl hg26) ?_
            refine c_ps (d := 96) rfl rfl rfl (wanted_no (b := (!(nextB s r x20))) rfl rfl rfl hg26) ?_
            refine c_qs (d := 97) rfl rfl rfl (wanted_no (b := (!(nextB s r x20))) rfl rfl rfl hg26) ?_
            refine c_ps (d := 98) rfl rfl rfl (wanted_no (b := (!(nextB s r x20))) rfl rfl rfl hg26) ?_
            refine c_p (v := .bool true) (d := 99) rfl rfl rfl (fun w' => ex_pick (q := (!(nextB s r x20))) rfl (fun h => rfl) (fun h => absurd hg26 (by rw [h]; decide))) ?_
            refine c_done ?_
            exact ⟨s0, s1, s2, s3, s8, rfl, rfl, rfl, s52, s53, s54, rfl, rfl, rfl, rfl, rfl, rfl, rfl, rfl, rfl, rfl, rfl, rfl, rfl, rfl, rfl, rfl, rfl, rfl, rfl, rfl, rfl, rfl, rfl, rfl, rfl, rfl, rfl, rfl, rfl, rfl, rfl, rfl, rfl, (show (.bool true : Value) = .bool (decide (((!(nextB s r x20)) = true) ∨ (((q22.xs.length : Nat) : Int) = s.Room))) from by first | (simp only [hg26, true_or, or_true, false_or, or_false, true_and, and_true, false_and, and_false, decide_true, decide_false, Bool.not_true, Bool.not_false]; done) | (simp [hg26]; done) | (simp [hg26]; rfl)), s1000000, H⟩
          · skip
            refine c_pg (v := .pointer (some ⟨q22.b, 0, none⟩)) (d := 88) rfl rfl rfl (wanted_yes (b := (!(nextB s r x20))) rfl rfl rfl (by simpa using hg26)) (fun w' => ex_move rfl) ?_
            refine c_pg (v := .pointer (some ⟨q22.b, 0, none⟩)) (d := 89) rfl rfl rfl (wanted_yes (b := (!(nextB s r x20))) rfl rfl rfl (by simpa using hg26)) (fun w' => ex_nilCheck rfl) ?_
            refine c_pg (v := .pointer (some ⟨q22.b, 0, none⟩)) (d := 90) rfl rfl rfl (wanted_yes (b := (!(nextB s r x20))) rfl rfl rfl (by simpa using hg26)) (fun w' => ex_fieldAddr fo153_0 rfl rfl) ?_
            refine c_qg (v := .slice q22.A q22.xs.length q22.c) (d := 91) rfl rfl rfl (wanted_yes (b := (!(nextB s r x20))) rfl rfl rfl (by simpa using hg26)) (fun w' hG => ex_load ca26 rfl (hG.cell (cell_of (H.rd 2 rfl)) id)) ?_
            refine c_pg (v := .int .i64 ((q22.xs.length : Nat) : Int)) (d := 92) rfl rfl rfl (wanted_yes (b := (!(nextB s r x20))) rfl rfl rfl (by simpa using hg26)) (fun w' => ex_len (ts := #[]) sl26 rfl) ?_
            refine c_pg (v := .pointer (some ⟨bw, 0, none⟩)) (d := 93) rfl rfl rfl (wanted_yes (b := (!(nextB s r x20))) rfl rfl rfl (by simpa using hg26)) (fun w' => ex_move s0) ?_
            refine c_pg (v := .pointer (some ⟨bw, 0, none⟩)) (d := 94) rfl rfl rfl (wanted_yes (b := (!(nextB s r x20))) rfl rfl rfl (by simpa using hg26)) (fun w' => ex_nilCheck rfl) ?_
            refine c_pg (v := .pointer (some ⟨bw, 0, none⟩)) (d := 95) rfl rfl rfl (wanted_yes (b := (!(nextB s r x20))) rfl rfl rfl (by simpa using hg26)) (fun w' => ex_fieldAddr fo142_0 rfl rfl) ?_
            refine c_pg (v := .pointer (some ⟨bw, 2, none⟩)) (d := 96) rfl rfl rfl (wanted_yes (b := (!(nextB s r x20))) rfl rfl rfl (by simpa using hg26)) (fun w' => ex_fieldAddr fo33_2 rfl rfl) ?_
            refine c_qg (v := .int .i64 s.Room) (d := 97) rfl rfl rfl (wanted_yes (b := (!(nextB s r x20))) rfl rfl rfl (by simpa using hg26)) (fun w' hG => ex_load ca3 rfl (hG.cell (cell_of (H.rd 0 rfl)) id)) ?_
            refine c_pg (v := .bool (decide (((q22.xs.length : Nat) : Int) = s.Room))) (d := 98) rfl rfl rfl (wanted_yes (b := (!(nextB s r x20))) rfl rfl rfl (by simpa using hg26)) (fun w' => ex_eql rfl rfl) ?_
            refine c_p (v := .bool (decide (((q22.xs.length : Nat) : Int) = s.Room))) (d := 99) rfl rfl rfl (fun w' => ex_pick (q := (!(nextB s r x20))) rfl (fun h => absurd h hg26) (fun h => rfl)) ?_
            refine c_done ?_
            exact ⟨s0, s1, s2, s3, s8, rfl, rfl, rfl, s52, s53, s54, rfl, rfl, rfl, rfl, rfl, rfl, rfl, rfl, rfl, rfl, rfl, rfl, rfl, rfl, rfl, rfl, rfl, rfl, rfl, rfl, rfl, rfl, rfl, rfl, rfl, rfl, rfl, rfl, rfl, rfl, rfl, rfl, rfl, (show (.bool (decide (((q22.xs.length : Nat) : Int) = s.Room)) : Value) = .bool (decide (((!(nextB s r x20)) = true) ∨ (((q22.xs.length : Nat) : Int) = s.Room))) from by first | (simp only [hg26, true_or, or_true, false_or, or_false, true_and, and_true, false_and, and_false, decide_true, decide_false, Bool.not_true, Bool.not_false]; done) | (simp [hg26]; done) | (simp [hg26]; rfl)), s1000000, H⟩
        obtain ⟨s0, s1, s2, s3, s8, s11, s12, s14, s52, s53, s54, s55, s56, s57, s58, s59, s60, s61, s62, s63, s64, s65, s66, s67, s68, s69, s70, s71, s72, s73, s74, s75, s76, s77, s78, s79, s80, s81, s82, s83, s84, s85, s86, s87, s99, s1000000, H⟩ := hI
        refine V_cond (b := (decide (((!(nextB s r x20)) = true) ∨ (((q22.xs.length : Nat) : Int) = s.Room)))) rfl s99 (fun hb27 => ?_) (fun hb27 => ?_)
        · have hb27 : ((!(nextB s r x20)) = true) ∨ (((q22.xs.length : Nat) : Int) = s.Room) := of_decide_eq_true hb27
          have hway := hb27
          refine V_seq rfl ?_
          refine V_region rfl ?_
          refine Rg_op rfl (o_val (v := .pointer (some ⟨bw, 0, none⟩)) (d := 100) rfl rfl (ex_move s0) ?_)
          refine Rg_op rfl (o_val (v := .pointer (some ⟨bw, 0, none⟩)) (d := 101) rfl rfl (ex_move s0) ?_)
          refine Rg_op rfl (o_val (v := .pointer (some ⟨bw, 0, none⟩)) (d := 102) rfl rfl (ex_nilCheck rfl) ?_)
          refine Rg_op rfl (o_val (v := .pointer (some ⟨bw, 8, none⟩)) (d := 103) rfl rfl (ex_fieldAddr fo142_6 rfl rfl) ?_)
          refine Rg_op rfl (o_val (v := .pointer (some ⟨bw, 9, none⟩)) (d := 104) rfl rfl (ex_fieldAddr fo63_1 rfl rfl) ?_)
          refine Rg_op rfl (o_val (v := .slice Ad2 e.dr.length cd2) (d := 105) rfl rfl (ex_load ca60 rfl (cell_of (H.rd 0 rfl))) ?_)
          refine Rg_op rfl (o_val (v := .int .i64 p) (d := 106) rfl rfl (ex_move s3) ?_)
          refine Rg_op rfl (o_val (v := .int .i64 r) (d := 107) rfl rfl (ex_move s2) ?_)
          refine Rg_op rfl (o_val (v := .int .i64 x20) (d := 108) rfl rfl (ex_move s11) ?_)
          refine Rg_op rfl (o_val (v := .int .i64 t) (d := 109) rfl rfl (ex_move s1) ?_)
          refine Rg_op rfl (o_val (v := .agg #[.int .i64 p, .int .i64 r, .int .i64 x20, .int .i64 t]) (d := 110) rfl rfl (ex_eq (by kernel_rfl)) ?_)
          refine Rg_op rfl (o_lit (cs := [.int .i64 p, .int .i64 r, .int .i64 x20, .int .i64 t]) (e := 110) rfl (fun W => by kernel_rfl) H fun b28 w29 hA H => ?_)
          have H := H.pull 7 rfl rfl
          refine Rg_op rfl (o_append (ys := [(⟨p, r, x20, t⟩ : Drp)]) (ts := #[]) rfl sl60 rfl rfl rfl H (row_lit1 (z := (⟨p, r, x20, t⟩ : Drp)) (H.rd 1 rfl) rfl) (by first | omega | (simp only [List.length_append, List.length_cons, List.length_nil, List.length_map, List.length_take]; omega)) (by first | omega | (simp only [List.length_append, List.length_cons, List.length_nil, List.length_map, List.length_take]; omega)) fun A30 c31 w32 hA H => ?_)
          have H := (H.pull 1 rfl rfl).drop
          refine Rg_op rfl (o_val (v := .pointer (some ⟨bw, 0, none⟩)) (d := 113) rfl rfl (ex_nilCheck rfl) ?_)
          refine Rg_op rfl (o_val (v := .pointer (some ⟨bw, 8, none⟩)) (d := 114) rfl rfl (ex_fieldAddr fo142_6 rfl rfl) ?_)
          refine Rg_op rfl (o_val (v := .pointer (some ⟨bw, 9, none⟩)) (d := 115) rfl rfl (ex_fieldAddr fo63_1 rfl rfl) ?_)
          refine Rg_op rfl (o_store (vs := [.slice A30 ((e.dr ++ [(⟨p, r, x20, t⟩ : Drp)]).length) c31]) rfl ts60 rfl rfl rfl rfl 1 rfl rfl rfl rfl H fun w34 hA H => ?_)
          refine Rg_end ?_
          refine V_exit rfl ?_
          refine V_region rfl ?_
          refine Rg_op rfl (o_val (v := .int .i64 (((j : Nat) : Int) + 1)) (d := 146) rfl rfl (ex_add s54 rfl (by omega)) ?_)
          refine Rg_op rfl (o_val (v := .int .i64 (((j : Nat) : Int) + 1)) (d := 54) rfl rfl (ex_move rfl) ?_)
          refine Rg_end ?_
          have H := H.pull 5 rfl rfl
          have H := H.pull 5 rfl rfl
          have H := H.pull 5 rfl rfl
          have H := H.pull 5 rfl rfl
          have H := q_back hqi22 H
          obtain ⟨hr1, hr2, hr3, hr4⟩ := hqr22
          have hK9 : (((kv22.set iq22 ((⟨r, x20, pk.Class⟩ : Port), (⟨q22.b, q22.A, q22.c, q22.xs⟩ : Qd)))).map (·.1)).Nodup := by rw [List.map_set]; rw [set_self (by simp [hqi22])]; exact hr3
          have hP9 : ∀ k ∈ ((kv22.set iq22 ((⟨r, x20, pk.Class⟩ : Port), (⟨q22.b, q22.A, q22.c, q22.xs⟩ : Qd)))).map (·.1), portOk s k := fun k hk => by rw [List.map_set, set_self (by simp [hqi22])] at hk; rcases hr4 k hk with hk | rfl; exact hpk2 k hk; exact ⟨h0r, h1r, List.mem_of_getElem? hxo, hcls⟩
          have hst9 : outStep s t r p pk.Class (find tab pk.Key).1 e x20 = ⟨e.Q, e.dr ++ [⟨p, r, x20, t⟩], e.mo⟩ := by rw [outStep, if_neg (by assumption), if_pos (by rw [heq, ← hr2]; simpa using hway)]
          have hQ9 : (outStep s t r p pk.Class (find tab pk.Key).1 e x20).Q = qf ((kv22.set iq22 ((⟨r, x20, pk.Class⟩ : Port), (⟨q22.b, q22.A, q22.c, q22.xs⟩ : Qd)))) := by rw [hst9, qf_set hr3 hqi22, hr2, hr1, updP_self]; exact heq
          have hH9 := hst9
          rw [show e.dr ++ [(⟨p, r, x20, t⟩ : Drp)] = (outStep s t r p pk.Class (find tab pk.Key).1 e x20).dr from by rw [hst9]] at H
          rw [show e.mo = (outStep s t r p pk.Class (find tab pk.Key).1 e x20).mo from by rw [hst9]] at H
          exact ⟨j + 1, ⟨(kv22.set iq22 ((⟨r, x20, pk.Class⟩ : Port), (⟨q22.b, q22.A, q22.c, q22.xs⟩ : Qd))), outStep s t r p pk.Class (find tab pk.Key).1 e x20, A30, c31, s0, s1, s2, s3, s8, s52, s53, rfl, s1000000, (Hp.pull 5 rfl rfl (Hp.pull 4 rfl rfl (Hp.pull 3 rfl rfl (Hp.pull 3 rfl rfl (Hp.pull 4 rfl rfl (Hp.pull 5 rfl rfl H)))))), by omega, by rw [List.take_add_one, hxo, Option.toList_some, List.foldl_append, ← he]; rfl, hQ9, hK9, hP9, outStep_short hsh, by have := (outStep_dr s t r p pk.Class (find tab pk.Key).1 e x20).1; omega, by rw [(outStep_dr s t r p pk.Class (find tab pk.Key).1 e x20).2]; exact hml⟩, by omega⟩
        · have hb27 : ¬ (((!(nextB s r x20)) = true) ∨ (((q22.xs.length : Nat) : Int) = s.Room)) := of_decide_eq_false hb27
          have hway := hb27
          refine V_skip rfl ?_
          refine V_seq rfl ?_
          refine V_region rfl ?_
          refine Rg_op rfl (o_val (v := .pointer (some ⟨q22.b, 0, none⟩)) (d := 116) rfl rfl (ex_move s12) ?_)
          refine Rg_op rfl (o_val (v := .int .i64 p) (d := 117) rfl rfl (ex_move s3) ?_)
          have H := H.pull 3 rfl rfl
          have H := H.pull 3 rfl rfl
          refine Rg_op rfl (o_call (fv := []) (cap := []) (vs := [.pointer (some ⟨q22.b, 0, none⟩), .int .i64 p]) rfl rfl cl90 rfl (put_c _ _ _ _ _ _ _ q22.xs p H (by omega)) fun v w37 hS => ?_)
          obtain ⟨A35, c36, H⟩ := hS
          refine Rg_end ?_
          refine V_seq rfl ?_
          refine V_draw [0, 1, 2, 3, 5, 6, 7, 8, 10, 11, 12, 14, 15, 16] (.p 0 (.p 1 (.p 2 (.p 3 (.q 4 (.p 5 (.p 6 (.p 7 (.p 8 (.q 9 (.p 10 (.p 11 (.p 12 (.q 13 (.p 14 (.p 15 (.p 16 .done))))))))))))))))) (fun _ => False) rfl mixed (by kernel_rfl) fun w38 hD => ?_
          have H := H.drew hD
          refine c_p (v := .pointer (some ⟨bw, 0, none⟩)) (d := 119) rfl rfl rfl (fun w' => ex_move s0) ?_
          refine c_p (v := .pointer (some ⟨bw, 0, none⟩)) (d := 120) rfl rfl rfl (fun w' => ex_nilCheck rfl) ?_
          refine c_p (v := .pointer (some ⟨bw, 8, none⟩)) (d := 121) rfl rfl rfl (fun w' => ex_fieldAddr fo142_6 rfl rfl) ?_
          refine c_p (v := .pointer (some ⟨bw, 10, none⟩)) (d := 122) rfl rfl rfl (fun w' => ex_fieldAddr fo63_2 rfl rfl) ?_
          refine c_q (v := .slice Am mo.length cm) (d := 123) rfl rfl rfl (fun w' hG => ex_load ca61 rfl (hG.cell (cell_of (H.rd 2 rfl)) id)) ?_
          refine c_p (v := .int .i64 r) (d := 124) rfl rfl rfl (fun w' => ex_move s2) ?_
          refine c_p (v := .pointer (some ⟨bw, 0, none⟩)) (d := 125) rfl rfl rfl (fun w' => ex_move s0) ?_
          refine c_p (v := .pointer (some ⟨bw, 0, none⟩)) (d := 126) rfl rfl rfl (fun w' => ex_nilCheck rfl) ?_
          refine c_p (v := .pointer (some ⟨bw, 4, none⟩)) (d := 127) rfl rfl rfl (fun w' => ex_fieldAddr fo142_2 rfl rfl) ?_
          refine c_q (v := .slice Al l.length cl) (d := 128) rfl rfl rfl (fun w' hG => ex_load ca55 rfl (hG.cell (cell_of (H.rd 2 rfl)) id)) ?_
          refine c_p (v := .int .i64 p) (d := 129) rfl rfl rfl (fun w' => ex_move s3) ?_
          refine c_p (v := .pointer (some (ad4.add ((p).toNat * 4)))) (d := 130) rfl rfl rfl (fun w' => ex_indexAddr sl55 rfl hA4 rfl ((by first | omega | (simp only [List.length_cons, List.length_nil]; omega))) ((by first | omega | (simp only [List.length_cons, List.length_nil]; omega))) rfl) ?_
          refine c_p (v := .pointer (some (ad4.add ((p).toNat * 4 + 3)))) (d := 131) rfl rfl rfl (fun w' => ex_fieldAddr fo58_3 rfl (add_add _ _ _)) ?_
          refine c_q (v := .int .i64 pk.Class) (d := 132) rfl rfl rfl (fun w' hG => ex_load ca3 rfl (hG.cell (H.cell0 (hc4 3 _ rfl)) id)) ?_
          have hr39 := (own_row (H.pull 7 rfl rfl)).1
          obtain ⟨ad40, x40, cs40, hA40, hx40, hR40, hc40⟩ := Row.get hr39 r ((by first | omega | (simp only [List.length_cons, List.length_nil]; omega))) ((by first | omega | (simp only [List.length_cons, List.length_nil]; omega)))
          obtain rfl := hR40
          refine c_p (v := .pointer (some (ad40.add ((r).toNat * 2)))) (d := 133) rfl rfl rfl (fun w' => ex_indexAddr sl61 rfl hA40 rfl ((by first | omega | (simp only [List.length_cons, List.length_nil]; omega))) ((by first | omega | (simp only [List.length_cons, List.length_nil]; omega))) rfl) ?_
          refine c_p (v := .pointer (some (ad40.add ((r).toNat * 2 + pk.Class.toNat)))) (d := 134) rfl rfl rfl (fun w' => ex_indexArr (a := pk.Class) arr101 rfl rfl (by omega) (by omega) (by rw [add_add, Nat.mul_one])) ?_
          refine c_p (v := .pointer (some (ad40.add ((r).toNat * 2 + pk.Class.toNat)))) (d := 15) rfl rfl rfl (fun w' => ex_assign rfl) ?_
          refine c_done ?_
          refine V_draw [0, 1, 2, 4, 5, 6, 8, 9, 10] (.p 0 (.p 1 (.p 2 (.q 3 (.p 4 (.p 5 (.p 6 (.q 7 (.p 8 (.p 9 (.p 10 (.l 11 .done)))))))))))) (fun _ => False) rfl mixed (by kernel_rfl) fun w41 hD => ?_
          have H := H.drew hD
          refine c_p (v := .pointer (some (ad40.add ((r).toNat * 2 + pk.Class.toNat)))) (d := 135) rfl rfl rfl (fun w' => ex_move rfl) ?_
          refine c_p (v := .pointer (some (ad40.add ((r).toNat * 2 + pk.Class.toNat)))) (d := 136) rfl rfl rfl (fun w' => ex_move rfl) ?_
          refine c_p (v := .pointer (some (ad40.add ((r).toNat * 2 + pk.Class.toNat)))) (d := 137) rfl rfl rfl (fun w' => ex_nilCheck rfl) ?_
          have hr9 := (own_row (H.pull 7 rfl rfl)).1
          obtain ⟨ad8, x8, cs8, hA8, hx8, hR8, hc8⟩ := Row.get hr9 r (by omega) (by omega)
          obtain rfl := hR8
          obtain rfl : ad40 = ad8 := by have h9 := hA40.symm.trans hA8; injection h9
          refine c_q (v := .int .i64 (cell0 pk.Class x8)) (d := 138) rfl rfl rfl (fun w' hG => ex_load ca3 rfl (hG.cell (hc8 pk.Class.toNat _ (cell_cls hcls x8)) id)) ?_
          refine c_p (v := .pointer (some ⟨q22.b, 0, none⟩)) (d := 139) rfl rfl rfl (fun w' => ex_move s12) ?_
          refine c_p (v := .pointer (some ⟨q22.b, 0, none⟩)) (d := 140) rfl rfl rfl (fun w' => ex_nilCheck rfl) ?_
          refine c_p (v := .pointer (some ⟨q22.b, 0, none⟩)) (d := 141) rfl rfl rfl (fun w' => ex_fieldAddr fo153_0 rfl rfl) ?_
          refine c_q (v := .slice A35 ((q22.xs ++ [p]).length) c36) (d := 142) rfl rfl rfl (fun w' hG => ex_load ca26 rfl (hG.cell (cell_of (H.rd 0 rfl)) id)) ?_
          refine c_p (v := .int .i64 (((q22.xs ++ [p]).length : Nat) : Int)) (d := 143) rfl rfl rfl (fun w' => ex_len (ts := #[]) sl26 rfl) ?_
          refine c_p (v := .int .i64 (max (cell0 pk.Class x8) (((q22.xs ++ [p]).length : Nat) : Int))) (d := 144) rfl rfl rfl (fun w' => ex_max2 rfl rfl) ?_
          refine c_p (v := .pointer (some (ad40.add ((r).toNat * 2 + pk.Class.toNat)))) (d := 145) rfl rfl rfl (fun w' => ex_nilCheck rfl) ?_
          have H := H.pull 7 rfl rfl
          refine c_l rfl (o_set (vs := [.int .i64 (max (cell0 pk.Class x8) (((q22.xs ++ [p]).length : Nat) : Int))]) (x1 := (if pk.Class = 0 then (⟨max (cell0 pk.Class x8) (((q22.xs ++ [p]).length : Nat) : Int), x8.b⟩ : V2) else ⟨x8.a, max (cell0 pk.Class x8) (((q22.xs ++ [p]).length : Nat) : Int)⟩)) (i := r.toNat) (off := pk.Class.toNat) rfl ts3 hA8 rfl rfl rfl rfl hx8 (set_cls hcls x8 _) (fit_cls hcls) H fun w42 hA H => ⟨.inl (by kernel_rfl), ?_⟩)
          refine c_done ?_
          refine V_region rfl ?_
          refine Rg_op rfl (o_val (v := .int .i64 (((j : Nat) : Int) + 1)) (d := 146) rfl rfl (ex_add s54 rfl (by omega)) ?_)
          refine Rg_op rfl (o_val (v := .int .i64 (((j : Nat) : Int) + 1)) (d := 54) rfl rfl (ex_move rfl) ?_)
          refine Rg_end ?_
          have H := H.pull 5 rfl rfl
          have H := H.pull 3 rfl rfl
          have H := H.pull 3 rfl rfl
          have H := H.pull 5 rfl rfl
          have H := q_back hqi22 H
          obtain ⟨hr1, hr2, hr3, hr4⟩ := hqr22
          have hK9 : (((kv22.set iq22 ((⟨r, x20, pk.Class⟩ : Port), (⟨q22.b, A35, c36, (q22.xs ++ [p])⟩ : Qd)))).map (·.1)).Nodup := by rw [List.map_set]; rw [set_self (by simp [hqi22])]; exact hr3
          have hP9 : ∀ k ∈ ((kv22.set iq22 ((⟨r, x20, pk.Class⟩ : Port), (⟨q22.b, A35, c36, (q22.xs ++ [p])⟩ : Qd)))).map (·.1), portOk s k := fun k hk => by rw [List.map_set, set_self (by simp [hqi22])] at hk; rcases hr4 k hk with hk | rfl; exact hpk2 k hk; exact ⟨h0r, h1r, List.mem_of_getElem? hxo, hcls⟩
          have hst9 : outStep s t r p pk.Class (find tab pk.Key).1 e x20 = ⟨updP e.Q ⟨r, x20, pk.Class⟩ (e.Q ⟨r, x20, pk.Class⟩ ++ [p]), e.dr, setMost e.mo r.toNat pk.Class (((e.Q ⟨r, x20, pk.Class⟩).length : Nat) + 1)⟩ := by rw [outStep, if_neg (by assumption), if_neg (by rw [heq, ← hr2]; simpa using hway)]
          have hQ9 : (outStep s t r p pk.Class (find tab pk.Key).1 e x20).Q = qf ((kv22.set iq22 ((⟨r, x20, pk.Class⟩ : Port), (⟨q22.b, A35, c36, (q22.xs ++ [p])⟩ : Qd)))) := by rw [hst9, qf_set hr3 hqi22, hr1, ← heq, hr2, ← heq]
          rw [show (e.mo.set r.toNat (if pk.Class = 0 then (⟨max (cell0 pk.Class x8) (((q22.xs ++ [p]).length : Nat) : Int), x8.b⟩ : V2) else ⟨x8.a, max (cell0 pk.Class x8) (((q22.xs ++ [p]).length : Nat) : Int)⟩)) = (outStep s t r p pk.Class (find tab pk.Key).1 e x20).mo from by rw [hst9, most_at hx8, heq, ← hr2]; congr 1; simp only [List.length_append, List.length_cons, List.length_nil]; omega] at H
          rw [show e.dr = (outStep s t r p pk.Class (find tab pk.Key).1 e x20).dr from by rw [hst9]] at H
          exact ⟨j + 1, ⟨(kv22.set iq22 ((⟨r, x20, pk.Class⟩ : Port), (⟨q22.b, A35, c36, (q22.xs ++ [p])⟩ : Qd))), outStep s t r p pk.Class (find tab pk.Key).1 e x20, Ad2, cd2, s0, s1, s2, s3, s8, s52, s53, rfl, s1000000, (Hp.pull 5 rfl rfl (Hp.pull 4 rfl rfl (Hp.pull 3 rfl rfl (Hp.pull 3 rfl rfl (Hp.pull 5 rfl rfl (Hp.pull 2 rfl rfl H)))))), by omega, by rw [List.take_add_one, hxo, Option.toList_some, List.foldl_append, ← he]; rfl, hQ9, hK9, hP9, outStep_short hsh, by have := (outStep_dr s t r p pk.Class (find tab pk.Key).1 e x20).1; omega, by rw [(outStep_dr s t r p pk.Class (find tab pk.Key).1 e x20).2]; exact hml⟩, by omega⟩
    · have hb18 : ¬ (((j : Nat) : Int) < ((([1, 2, 4, 8, 16]).length : Nat) : Int)) := of_decide_eq_false hb18
      have hj5 : ¬ j < 5 := by have h9 := hb18; simp only [List.length_cons, List.length_nil] at h9; omega
      refine V_exit rfl ?_
      have H := H.drop
      have H := H.pull 4 rfl rfl
      have H := H.pull 4 rfl rfl
      have H := H.pull 4 rfl rfl
      have H := H.pull 4 rfl rfl
      have H := H.pull 4 rfl rfl
      have hen : enterP s tab pk.Key t r p pk.Class ⟨qf kvQ, dr, mo⟩ = e := by rw [he, List.take_of_length_le (by simp only [outs5, List.length_cons, List.length_nil]; omega)]; exact if_neg hf9
      refine end0 (v := .tuple #[]) s1000000 (res_none Try.results62) ?_
      exact ⟨kv, e, Ad2, cd2, hen, heq, hnk, hpk2, by rw [hml]; exact H⟩

end Go.Proofs.Ytlnogaoihkinbaa
namespace Go.Proofs.Ytlnogaoihkinbaa
open Go.Gk Go.RowKit
theorem ca59 : cellsAgg Try.prog 59 = some none := by kernel_rfl
theorem cl91 : callable Try.prog 91 = true := by kernel_rfl
theorem cl92 : callable Try.prog 92 = true := by kernel_rfl
theorem fo63_0 : fieldOff Try.prog 63 0 = some 0 := by kernel_rfl
theorem sl59 : sliceT Try.prog 59 = some ⟨97, 3, 24, .agg #[.int .i64 0, .int .i64 0, .int .i64 0]⟩ := by kernel_rfl
theorem ts59 : tySize Try.prog 59 = some 1 := by kernel_rfl
theorem send_c (wb w0 : World) (L : List SA) (s : Spec) (bw ms mq mc : Nat) (At : Option Addr) (ct : Nat) (ts : List (List Entry)) (Al : Option Addr) (cl : Nat) (l : List Packet) (kvQ : List (Port × Qd)) (kvC : List (Port × Int)) (Aa Ad Am : Option Addr) (ca cd cm : Nat) (arr : List Arr) (dr : List Drp) (mo : List V2) (rest t r o : Int) (H : Hp wb.heap.size wb w0 (SA.cel bw #[.int .i64 s.Wide, .int .i64 s.High, .int .i64 s.Room, .slice At ts.length ct, .slice Al l.length cl, .map (some ms), .map (some mq), .map (some mc), .slice Aa arr.length ca, .slice Ad dr.length cd, .slice Am mo.length cm, .int .i64 rest] 142 :: SA.map kPort.enc Qd.val mq kvQ :: SA.queues kvQ :: SA.map kPort.enc (fun x : Int => Value.int .i64 x) mc kvC :: SA.own kArr 97 Aa ca arr :: L)) (hs : chk s = 0) (h0r : 0 ≤ r) (h1r : r < s.Wide * s.High) (ho5 : o ∈ outs5) (hn : (kvQ.map (·.1)).Nodup) (hnC : (kvC.map (·.1)).Nodup) (hpo : ∀ k ∈ kvQ.map (·.1), portOk s k) (hcO : ∀ k ∈ kvC.map (·.1), comOk s k) (hld : leadQ s (qf kvQ)) (har : arr.length ≤ 10000000) :
    Calls Try.prog 64 #[.pointer (some ⟨bw, 0, none⟩), .int .i64 t, .int .i64 r, .int .i64 o] w0 fun e w' => ∃ v, e = .returned v ∧ (∃ kv' kvC' e' Aa' ca', sendP s t r o ⟨qf kvQ, cf kvC, arr⟩ = e' ∧ e'.Q = qf kv' ∧ e'.C = cf kvC' ∧ (kv'.map (·.1)).Nodup ∧ (kvC'.map (·.1)).Nodup ∧ (∀ k ∈ kv'.map (·.1), portOk s k) ∧ (∀ k ∈ kvC'.map (·.1), comOk s k) ∧ Hp wb.heap.size wb w' (SA.cel bw #[.int .i64 s.Wide, .int .i64 s.High, .int .i64 s.Room, .slice At ts.length ct, .slice Al l.length cl, .map (some ms), .map (some mq), .map (some mc), .slice Aa' e'.ar.length ca', .slice Ad dr.length cd, .slice Am mo.length cm, .int .i64 rest] 142 :: SA.map kPort.enc Qd.val mq kv' :: SA.queues kv' :: SA.map kPort.enc (fun x : Int => Value.int .i64 x) mc kvC' :: SA.own kArr 97 Aa' ca' e'.ar :: L)) := by
  obtain ⟨hs1, hs2, hs3, hs4, hs5, hs6⟩ := chk_ok hs
  obtain ⟨hm1, hm2⟩ := mul64 hs
  refine calls_of (n := 72) (l := [.pointer (some ⟨bw, 0, none⟩), .int .i64 t, .int .i64 r, .int .i64 o]) Try.func64 rfl rfl rfl ?_
  refine V_seq rfl ?_
  refine V_region rfl ?_
  refine Rg_op rfl (o_val (v := .pointer (some ⟨bw, 0, none⟩)) (d := 12) rfl rfl (ex_move rfl) ?_)
  refine Rg_op rfl (o_val (v := .int .i64 r) (d := 13) rfl rfl (ex_move rfl) ?_)
  refine Rg_op rfl (o_val (v := .int .i64 o) (d := 14) rfl rfl (ex_move rfl) ?_)
  refine Rg_op rfl (o_val (v := .agg #[.int .i64 r, .int .i64 o, .int .i64 1]) (d := 15) rfl rfl (ex_eq (by kernel_rfl)) ?_)
  have H := H.pull 2 rfl rfl
  have H := H.pull 2 rfl rfl
  have H := H.pull 2 rfl rfl
  refine Rg_op rfl (o_call (fv := []) (cap := []) (vs := [.pointer (some ⟨bw, 0, none⟩), .agg #[.int .i64 r, .int .i64 o, .int .i64 1]]) rfl rfl cl88 rfl (queue_c _ _ _ _ bw mq #[.int .i64 s.Wide, .int .i64 s.High, .int .i64 s.Room, .slice At ts.length ct, .slice Al l.length cl, .map (some ms), .map (some mq), .map (some mc), .slice Aa arr.length ca, .slice Ad dr.length cd, .slice Am mo.length cm, .int .i64 rest] kvQ (⟨r, o, 1⟩ : Port) H rfl hn) fun v w2 hS => ?_)
  obtain ⟨kv1, iq1, q1, rfl, hqi1, hqr1, H⟩ := hS
  refine Rg_op rfl (o_val (v := .pointer (some ⟨q1.b, 0, none⟩)) (d := 8) rfl rfl (ex_assign rfl) ?_)
  refine Rg_end ?_
  refine V_seq rfl ?_
  refine V_seq rfl ?_
  refine V_region rfl ?_
  refine Rg_op rfl (o_val (v := .pointer (some ⟨q1.b, 0, none⟩)) (d := 17) rfl rfl (ex_move rfl) ?_)
  refine Rg_op rfl (o_val (v := .pointer (some ⟨q1.b, 0, none⟩)) (d := 18) rfl rfl (ex_nilCheck rfl) ?_)
  refine Rg_op rfl (o_val (v := .pointer (some ⟨q1.b, 0, none⟩)) (d := 19) rfl rfl (ex_fieldAddr fo153_0 rfl rfl) ?_)
  refine Rg_op rfl (o_val (v := .slice q1.A q1.xs.length q1.c) (d := 20) rfl rfl (ex_load ca26 rfl (cell_of (H.rd 2 rfl))) ?_)
  refine Rg_op rfl (o_val (v := .int .i64 ((q1.xs.length : Nat) : Int)) (d := 21) rfl rfl (ex_len (ts := #[]) sl26 rfl) ?_)
  refine Rg_op rfl (o_val (v := .bool (decide (((q1.xs.length : Nat) : Int) = 0))) (d := 22) rfl rfl (ex_eql rfl rfl) ?_)
  refine Rg_end ?_
  refine V_cond (b := (decide (((q1.xs.length : Nat) : Int) = 0))) rfl rfl (fun hb3 => ?_) (fun hb3 => ?_)
  · have hb3 : ((q1.xs.length : Nat) : Int) = 0 := of_decide_eq_true hb3
    refine V_region rfl ?_
    have H := H.pull 4 rfl rfl
    have H := H.pull 4 rfl rfl
    have H := H.pull 4 rfl rfl
    have H := H.pull 4 rfl rfl
    have H := q_back hqi1 H
    obtain ⟨hr1, hr2, hr3, hr4⟩ := hqr1
    have hQ1 : qf ((kv1.set iq1 ((⟨r, o, 1⟩ : Port), (⟨q1.b, q1.A, q1.c, q1.xs⟩ : Qd)))) = qf kvQ := by rw [qf_set hr3 hqi1, hr2, hr1, updP_self]
    have hK1 : (((kv1.set iq1 ((⟨r, o, 1⟩ : Port), (⟨q1.b, q1.A, q1.c, q1.xs⟩ : Qd)))).map (·.1)).Nodup := by rw [List.map_set, set_self (by simp [hqi1])]; exact hr3
    have hP1 : ∀ k ∈ ((kv1.set iq1 ((⟨r, o, 1⟩ : Port), (⟨q1.b, q1.A, q1.c, q1.xs⟩ : Qd)))).map (·.1), portOk s k := fun k hk => by rw [List.map_set, set_self (by simp [hqi1])] at hk; rcases hr4 k hk with hk | rfl; exact hpo k hk; exact ⟨h0r, h1r, ho5, .inr rfl⟩
    refine Rg_op rfl (o_val (v := .pointer (some ⟨bw, 0, none⟩)) (d := 23) rfl rfl (ex_move rfl) ?_)
    refine Rg_op rfl (o_val (v := .int .i64 r) (d := 24) rfl rfl (ex_move rfl) ?_)
    refine Rg_op rfl (o_val (v := .int .i64 o) (d := 25) rfl rfl (ex_move rfl) ?_)
    refine Rg_op rfl (o_val (v := .agg #[.int .i64 r, .int .i64 o, .int .i64 0]) (d := 26) rfl rfl (ex_eq (by kernel_rfl)) ?_)
    have H := H.pull 1 rfl rfl
    have H := H.pull 1 rfl rfl
    have H := H.pull 2 rfl rfl
    refine Rg_op rfl (o_call (fv := []) (cap := []) (vs := [.pointer (some ⟨bw, 0, none⟩), .agg #[.int .i64 r, .int .i64 o, .int .i64 0]]) rfl rfl cl88 rfl (queue_c _ _ _ _ bw mq #[.int .i64 s.Wide, .int .i64 s.High, .int .i64 s.Room, .slice At ts.length ct, .slice Al l.length cl, .map (some ms), .map (some mq), .map (some mc), .slice Aa arr.length ca, .slice Ad dr.length cd, .slice Am mo.length cm, .int .i64 rest] (kv1.set iq1 ((⟨r, o, 1⟩ : Port), (⟨q1.b, q1.A, q1.c, q1.xs⟩ : Qd))) (⟨r, o, 0⟩ : Port) H rfl hK1) fun v w5 hS => ?_)
    obtain ⟨kv4, iq4, q4, rfl, hqi4, hqr4, H⟩ := hS
    refine Rg_op rfl (o_val (v := .pointer (some ⟨q4.b, 0, none⟩)) (d := 8) rfl rfl (ex_assign rfl) ?_)
    refine Rg_end ?_
    refine V_seq rfl ?_
    refine V_seq rfl ?_
    refine V_region rfl ?_
    refine Rg_op rfl (o_val (v := .pointer (some ⟨q4.b, 0, none⟩)) (d := 28) rfl rfl (ex_move rfl) ?_)
    refine Rg_op rfl (o_val (v := .pointer (some ⟨q4.b, 0, none⟩)) (d := 29) rfl rfl (ex_nilCheck rfl) ?_)
    refine Rg_op rfl (o_val (v := .pointer (some ⟨q4.b, 0, none⟩)) (d := 30) rfl rfl (ex_fieldAddr fo153_0 rfl rfl) ?_)
    refine Rg_op rfl (o_val (v := .slice q4.A q4.xs.length q4.c) (d := 31) rfl rfl (ex_load ca26 rfl (cell_of (H.rd 2 rfl))) ?_)
    refine Rg_op rfl (o_val (v := .int .i64 ((q4.xs.length : Nat) : Int)) (d := 32) rfl rfl (ex_len (ts := #[]) sl26 rfl) ?_)
    refine Rg_op rfl (o_val (v := .bool (decide (((q4.xs.length : Nat) : Int) = 0))) (d := 33) rfl rfl (ex_eql rfl rfl) ?_)
    refine Rg_end ?_
    refine V_cond (b := (decide (((q4.xs.length : Nat) : Int) = 0))) rfl rfl (fun hb6 => ?_) (fun hb6 => ?_)
    · have hb6 : ((q4.xs.length : Nat) : Int) = 0 := of_decide_eq_true hb6
      have H := H.pull 4 rfl rfl
      have H := H.pull 4 rfl rfl
      have H := H.pull 4 rfl rfl
      have H := H.pull 4 rfl rfl
      have H := q_back hqi4 H
      have H := H.pull 4 rfl rfl
      have H := H.pull 4 rfl rfl
      have H := H.pull 3 rfl rfl
      have H := H.pull 3 rfl rfl
      have H := H.pull 4 rfl rfl
      obtain ⟨hs1_, hs2_, hs3_, hs4_⟩ := hqr4
      have hQ9 : qf ((kv4.set iq4 ((⟨r, o, 0⟩ : Port), (⟨q4.b, q4.A, q4.c, q4.xs⟩ : Qd)))) = updP (qf kvQ) (⟨r, o, 0⟩ : Port) q4.xs := by rw [qf_set hs3_ hqi4, hs1_, hQ1]
      have hK9 : (((kv4.set iq4 ((⟨r, o, 0⟩ : Port), (⟨q4.b, q4.A, q4.c, q4.xs⟩ : Qd)))).map (·.1)).Nodup := by rw [List.map_set, set_self (by simp [hqi4])]; exact hs3_
      have hP9 : ∀ k ∈ ((kv4.set iq4 ((⟨r, o, 0⟩ : Port), (⟨q4.b, q4.A, q4.c, q4.xs⟩ : Qd)))).map (·.1), portOk s k := fun k hk => by rw [List.map_set, set_self (by simp [hqi4])] at hk; rcases hs4_ k hk with hk | rfl; exact hP1 k hk; exact ⟨h0r, h1r, ho5, by simp⟩
      have hqx9 : q4.xs = qf kvQ (⟨r, o, 0⟩ : Port) := by rw [hs2_, hQ1]
      have hs9 : sendP s t r o ⟨qf kvQ, cf kvC, arr⟩ = ⟨qf kvQ, cf kvC, arr⟩ := send_none (by show (qf kvQ ⟨r, o, 1⟩).length = 0; rw [← hr2]; omega) (by show (qf kvQ ⟨r, o, 0⟩).length = 0; rw [← hqx9]; omega)
      have hQ8 : qf kvQ = qf ((kv4.set iq4 ((⟨r, o, 0⟩ : Port), (⟨q4.b, q4.A, q4.c, q4.xs⟩ : Qd)))) := by rw [hQ9, hqx9, updP_self]
      refine V_ret rfl (end0 (v := .tuple #[]) rfl (res_none Try.results64) ?_)
      exact ⟨(kv4.set iq4 ((⟨r, o, 0⟩ : Port), (⟨q4.b, q4.A, q4.c, q4.xs⟩ : Qd))), kvC, _, Aa, ca, hs9, hQ8, rfl, hK9, hnC, hP9, hcO, H⟩
    · have hb6 : ¬ (((q4.xs.length : Nat) : Int) = 0) := of_decide_eq_false hb6
      have hne9 : q4.xs.length ≠ 0 := by omega
      refine V_skip rfl ?_
      refine V_seq rfl ?_
      refine V_region rfl ?_
      refine Rg_op rfl (o_val (v := .pointer (some ⟨q4.b, 0, none⟩)) (d := 34) rfl rfl (ex_move rfl) ?_)
      have H := H.pull 3 rfl rfl
      have H := H.pull 3 rfl rfl
      obtain ⟨x9, rs9, hx9⟩ : ∃ x rs, q4.xs = x :: rs := by cases h9 : q4.xs with | nil => rw [h9] at hne9; exact absurd rfl hne9 | cons a l => exact ⟨a, l, rfl⟩
      rw [hx9] at H
      refine Rg_op rfl (o_call (fv := []) (cap := []) (vs := [.pointer (some ⟨q4.b, 0, none⟩)]) rfl rfl cl91 rfl (take_c _ _ _ _ _ _ _ x9 rs9 H) fun v w7 hS => ?_)
      obtain ⟨rfl, H⟩ := hS
      refine Rg_op rfl (o_val (v := .int .i64 x9) (d := 9) rfl rfl (ex_assign rfl) ?_)
      refine Rg_end ?_
      refine V_seq rfl ?_
      refine V_seq rfl ?_
      refine V_region rfl ?_
      refine Rg_op rfl (o_val (v := .int .i64 o) (d := 36) rfl rfl (ex_move rfl) ?_)
      refine Rg_op rfl (o_val (v := .bool (decide (o = 16))) (d := 37) rfl rfl (ex_eql rfl rfl) ?_)
      refine Rg_end ?_
      refine V_cond (b := (decide (o = 16))) rfl rfl (fun hb8 => ?_) (fun hb8 => ?_)
      · have hb8 : o = 16 := of_decide_eq_true hb8
        have h16 : o = 16 := hb8
        refine V_seq rfl ?_
        refine V_region rfl ?_
        refine Rg_op rfl (o_val (v := .pointer (some ⟨bw, 0, none⟩)) (d := 38) rfl rfl (ex_move rfl) ?_)
        refine Rg_op rfl (o_val (v := .pointer (some ⟨bw, 0, none⟩)) (d := 39) rfl rfl (ex_move rfl) ?_)
        refine Rg_op rfl (o_val (v := .pointer (some ⟨bw, 0, none⟩)) (d := 40) rfl rfl (ex_nilCheck rfl) ?_)
        refine Rg_op rfl (o_val (v := .pointer (some ⟨bw, 8, none⟩)) (d := 41) rfl rfl (ex_fieldAddr fo142_6 rfl rfl) ?_)
        refine Rg_op rfl (o_val (v := .pointer (some ⟨bw, 8, none⟩)) (d := 42) rfl rfl (ex_fieldAddr fo63_0 rfl rfl) ?_)
        refine Rg_op rfl (o_val (v := .slice Aa arr.length ca) (d := 43) rfl rfl (ex_load ca59 rfl (cell_of (H.rd 2 rfl))) ?_)
        refine Rg_op rfl (o_val (v := .int .i64 x9) (d := 44) rfl rfl (ex_move rfl) ?_)
        refine Rg_op rfl (o_val (v := .int .i64 r) (d := 45) rfl rfl (ex_move rfl) ?_)
        refine Rg_op rfl (o_val (v := .int .i64 t) (d := 46) rfl rfl (ex_move rfl) ?_)
        refine Rg_op rfl (o_val (v := .agg #[.int .i64 x9, .int .i64 r, .int .i64 t]) (d := 47) rfl rfl (ex_eq (by kernel_rfl)) ?_)
        refine Rg_op rfl (o_lit (cs := [.int .i64 x9, .int .i64 r, .int .i64 t]) (e := 97) rfl (fun W => by kernel_rfl) H fun b9 w10 hA H => ?_)
        have H := H.pull 7 rfl rfl
        refine Rg_op rfl (o_append (ys := [(⟨x9, r, t⟩ : Arr)]) (ts := #[]) rfl sl59 rfl rfl rfl H (row_lit1 (z := (⟨x9, r, t⟩ : Arr)) (H.rd 1 rfl) rfl) (by first | omega | (simp only [List.length_append, List.length_cons, List.length_nil, List.length_map, List.length_take]; omega)) (by first | omega | (simp only [List.length_append, List.length_cons, List.length_nil, List.length_map, List.length_take]; omega)) fun A11 c12 w13 hA H => ?_)
        have H := (H.pull 1 rfl rfl).drop
        refine Rg_op rfl (o_val (v := .pointer (some ⟨bw, 0, none⟩)) (d := 50) rfl rfl (ex_nilCheck rfl) ?_)
        refine Rg_op rfl (o_val (v := .pointer (some ⟨bw, 8, none⟩)) (d := 51) rfl rfl (ex_fieldAddr fo142_6 rfl rfl) ?_)
        refine Rg_op rfl (o_val (v := .pointer (some ⟨bw, 8, none⟩)) (d := 52) rfl rfl (ex_fieldAddr fo63_0 rfl rfl) ?_)
        refine Rg_op rfl (o_store (vs := [.slice A11 ((arr ++ [(⟨x9, r, t⟩ : Arr)]).length) c12]) rfl ts59 rfl rfl rfl rfl 3 rfl rfl rfl rfl H fun w15 hA H => ?_)
        refine Rg_end ?_
        have H := H.pull 5 rfl rfl
        have H := H.pull 4 rfl rfl
        have H := H.pull 4 rfl rfl
        have H := H.pull 5 rfl rfl
        have H := q_back hqi4 H
        have H := H.pull 3 rfl rfl
        have H := H.pull 4 rfl rfl
        have H := H.pull 3 rfl rfl
        have H := H.pull 3 rfl rfl
        have H := H.pull 4 rfl rfl
        obtain ⟨hs1_, hs2_, hs3_, hs4_⟩ := hqr4
        have hQ9 : qf ((kv4.set iq4 ((⟨r, o, 0⟩ : Port), (⟨q4.b, (cutA q4.A q4.c 1 1), (q4.c - 1), rs9⟩ : Qd)))) = updP (qf kvQ) (⟨r, o, 0⟩ : Port) rs9 := by rw [qf_set hs3_ hqi4, hs1_, hQ1]
        have hK9 : (((kv4.set iq4 ((⟨r, o, 0⟩ : Port), (⟨q4.b, (cutA q4.A q4.c 1 1), (q4.c - 1), rs9⟩ : Qd)))).map (·.1)).Nodup := by rw [List.map_set, set_self (by simp [hqi4])]; exact hs3_
        have hP9 : ∀ k ∈ ((kv4.set iq4 ((⟨r, o, 0⟩ : Port), (⟨q4.b, (cutA q4.A q4.c 1 1), (q4.c - 1), rs9⟩ : Qd)))).map (·.1), portOk s k := fun k hk => by rw [List.map_set, set_self (by simp [hqi4])] at hk; rcases hs4_ k hk with hk | rfl; exact hP1 k hk; exact ⟨h0r, h1r, ho5, by simp⟩
        have hqx9 : q4.xs = qf kvQ (⟨r, o, 0⟩ : Port) := by rw [hs2_, hQ1]
        have hk9 : sendK (qf kvQ) r o = (⟨r, o, 0⟩ : Port) := if_pos (show (qf kvQ ⟨r, o, 1⟩).length = 0 by rw [← hr2]; omega)
        have hs9 := send_at (s := s) (t := t) (r := r) (o := o) (e := ⟨qf kvQ, cf kvC, arr⟩) hk9 (by show qf kvQ (⟨r, o, 0⟩ : Port) = _; rw [← hqx9, hx9])
        rw [if_pos h16] at hs9
        refine V_ret rfl (end0 (v := .tuple #[]) rfl (res_none Try.results64) ?_)
        exact ⟨(kv4.set iq4 ((⟨r, o, 0⟩ : Port), (⟨q4.b, (cutA q4.A q4.c 1 1), (q4.c - 1), rs9⟩ : Qd))), kvC, _, A11, c12, hs9, hQ9.symm, rfl, hK9, hnC, hP9, hcO, H⟩
      · have hb8 : ¬ (o = 16) := of_decide_eq_false hb8
        have h16 : o ≠ 16 := hb8
        refine V_skip rfl ?_
        refine V_seq rfl ?_
        refine V_region rfl ?_
        refine Rg_op rfl (o_val (v := .pointer (some ⟨bw, 0, none⟩)) (d := 54) rfl rfl (ex_move rfl) ?_)
        refine Rg_op rfl (o_val (v := .pointer (some ⟨bw, 0, none⟩)) (d := 55) rfl rfl (ex_nilCheck rfl) ?_)
        refine Rg_op rfl (o_val (v := .pointer (some ⟨bw, 0, none⟩)) (d := 56) rfl rfl (ex_fieldAddr fo142_0 rfl rfl) ?_)
        refine Rg_op rfl (o_val (v := .agg #[.int .i64 s.Wide, .int .i64 s.High, .int .i64 s.Room]) (d := 57) rfl rfl (ex_loadN (vs := [.int .i64 s.Wide, .int .i64 s.High, .int .i64 s.Room]) ca33 rfl rfl (blk_cells (H.rd 2 rfl) rfl)) ?_)
        refine Rg_op rfl (o_val (v := .int .i64 r) (d := 58) rfl rfl (ex_move rfl) ?_)
        refine Rg_op rfl (o_val (v := .int .i64 o) (d := 59) rfl rfl (ex_move rfl) ?_)
        refine Rg_op rfl (o_call (fv := []) (cap := []) (vs := [.agg #[.int .i64 s.Wide, .int .i64 s.High, .int .i64 s.Room], .int .i64 r, .int .i64 o]) rfl rfl cl89 rfl (next_c s r o _ (by assumption) (by omega) (by omega)) fun v w16 hS => ?_)
        obtain ⟨rfl, hB⟩ := hS
        have H := H.keep hB
        refine Rg_op rfl (o_val (v := .tuple #[.int .i64 (nextR s r o), .bool (nextB s r o)]) (d := 53) rfl rfl (ex_move rfl) ?_)
        refine Rg_op rfl (o_val (v := .int .i64 (nextR s r o)) (d := 61) rfl rfl (ex_extract rfl rfl) ?_)
        refine Rg_op rfl (o_val (v := .bool (nextB s r o)) (d := 62) rfl rfl (ex_extract rfl rfl) ?_)
        refine Rg_op rfl (o_val (v := .int .i64 (nextR s r o)) (d := 10) rfl rfl (ex_assign rfl) ?_)
        refine Rg_op rfl (o_val (v := .bool (nextB s r o)) (d := 11) rfl rfl (ex_assign rfl) ?_)
        refine Rg_end ?_
        refine V_draw [0, 1, 2, 4, 5, 7, 8] (.p 0 (.p 1 (.p 2 (.q 3 (.p 4 (.p 5 (.p 8 (.l 6 (.p 7 (.l 9 .done)))))))))) (fun _ => False) rfl mixed (by kernel_rfl) fun w17 hD => ?_
        have H := H.drew hD
        refine c_p (v := .pointer (some ⟨bw, 0, none⟩)) (d := 63) rfl rfl rfl (fun w' => ex_move rfl) ?_
        refine c_p (v := .pointer (some ⟨bw, 0, none⟩)) (d := 64) rfl rfl rfl (fun w' => ex_nilCheck rfl) ?_
        refine c_p (v := .pointer (some ⟨bw, 7, none⟩)) (d := 65) rfl rfl rfl (fun w' => ex_fieldAddr fo142_5 rfl rfl) ?_
        refine c_q (v := .map (some mc)) (d := 66) rfl rfl rfl (fun w' hG => ex_load ca140 rfl (hG.cell (cell_of (H.rd 2 rfl)) id)) ?_
        refine c_p (v := .int .i64 (nextR s r o)) (d := 67) rfl rfl rfl (fun w' => ex_move rfl) ?_
        refine c_p (v := .int .i64 o) (d := 68) rfl rfl rfl (fun w' => ex_move rfl) ?_
        refine c_p (v := .int .i64 x9) (d := 71) rfl rfl rfl (fun w' => ex_move rfl) ?_
        refine c_l rfl (o_call (fv := []) (cap := []) (vs := [.int .i64 o]) rfl rfl cl92 rfl (back_c o _) fun v w18 hS => ?_)
        obtain ⟨rfl, hB⟩ := hS
        refine ⟨.inr (Below.agr hB), ?_⟩
        have H := H.keep hB
        refine c_p (v := .agg #[.int .i64 (nextR s r o), .int .i64 (back o), .int .i64 0]) (d := 70) rfl rfl rfl (fun w' => ex_eq (by kernel_rfl)) ?_
        have H := H.pull 5 rfl rfl
        refine c_l rfl (o_mapUpdate (k := (⟨nextR s r o, back o, 0⟩ : Port)) (v := x9) rfl mt140 kPort rfl rfl rfl H fun w19 hA H => ⟨.inl (by kernel_rfl), ?_⟩)
        refine c_done ?_
        have H := H.pull 5 rfl rfl
        have H := H.pull 3 rfl rfl
        have H := H.pull 3 rfl rfl
        have H := H.pull 5 rfl rfl
        have H := q_back hqi4 H
        have H := H.pull 4 rfl rfl
        have H := H.pull 3 rfl rfl
        have H := H.pull 3 rfl rfl
        have H := H.pull 3 rfl rfl
        have H := H.pull 4 rfl rfl
        obtain ⟨hs1_, hs2_, hs3_, hs4_⟩ := hqr4
        have hQ9 : qf ((kv4.set iq4 ((⟨r, o, 0⟩ : Port), (⟨q4.b, (cutA q4.A q4.c 1 1), (q4.c - 1), rs9⟩ : Qd)))) = updP (qf kvQ) (⟨r, o, 0⟩ : Port) rs9 := by rw [qf_set hs3_ hqi4, hs1_, hQ1]
        have hK9 : (((kv4.set iq4 ((⟨r, o, 0⟩ : Port), (⟨q4.b, (cutA q4.A q4.c 1 1), (q4.c - 1), rs9⟩ : Qd)))).map (·.1)).Nodup := by rw [List.map_set, set_self (by simp [hqi4])]; exact hs3_
        have hP9 : ∀ k ∈ ((kv4.set iq4 ((⟨r, o, 0⟩ : Port), (⟨q4.b, (cutA q4.A q4.c 1 1), (q4.c - 1), rs9⟩ : Qd)))).map (·.1), portOk s k := fun k hk => by rw [List.map_set, set_self (by simp [hqi4])] at hk; rcases hs4_ k hk with hk | rfl; exact hP1 k hk; exact ⟨h0r, h1r, ho5, by simp⟩
        have hqx9 : q4.xs = qf kvQ (⟨r, o, 0⟩ : Port) := by rw [hs2_, hQ1]
        have hk9 : sendK (qf kvQ) r o = (⟨r, o, 0⟩ : Port) := if_pos (show (qf kvQ ⟨r, o, 1⟩).length = 0 by rw [← hr2]; omega)
        have hs9 := send_at (s := s) (t := t) (r := r) (o := o) (e := ⟨qf kvQ, cf kvC, arr⟩) hk9 (by show qf kvQ (⟨r, o, 0⟩ : Port) = _; rw [← hqx9, hx9])
        rw [if_neg h16] at hs9
        have hlead := next_in (hld (⟨r, o, 0⟩ : Port) (by rw [← hqx9, hx9]; simp))
        refine end0 (v := .tuple #[]) rfl (res_none Try.results64) ?_
        exact ⟨(kv4.set iq4 ((⟨r, o, 0⟩ : Port), (⟨q4.b, (cutA q4.A q4.c 1 1), (q4.c - 1), rs9⟩ : Qd))), mput ⟨nextR s r o, back o, 0⟩ x9 kvC, _, Aa, ca, hs9, hQ9.symm, (cf_put _ _).symm, hK9, (mput_keys hnC).1, hP9, fun k hk => ((mput_keys hnC).2 k).1 hk |>.elim (hcO k) (fun e => e ▸ ⟨hlead.1, hlead.2, back_in ho5 h16, rfl⟩), H⟩
  · have hb3 : ¬ (((q1.xs.length : Nat) : Int) = 0) := of_decide_eq_false hb3
    refine V_skip rfl ?_
    refine V_seq rfl ?_
    refine V_seq rfl ?_
    refine V_region rfl ?_
    refine Rg_op rfl (o_val (v := .pointer (some ⟨q1.b, 0, none⟩)) (d := 28) rfl rfl (ex_move rfl) ?_)
    refine Rg_op rfl (o_val (v := .pointer (some ⟨q1.b, 0, none⟩)) (d := 29) rfl rfl (ex_nilCheck rfl) ?_)
    refine Rg_op rfl (o_val (v := .pointer (some ⟨q1.b, 0, none⟩)) (d := 30) rfl rfl (ex_fieldAddr fo153_0 rfl rfl) ?_)
    refine Rg_op rfl (o_val (v := .slice q1.A q1.xs.length q1.c) (d := 31) rfl rfl (ex_load ca26 rfl (cell_of (H.rd 2 rfl))) ?_)
    refine Rg_op rfl (o_val (v := .int .i64 ((q1.xs.length : Nat) : Int)) (d := 32) rfl rfl (ex_len (ts := #[]) sl26 rfl) ?_)
    refine Rg_op rfl (o_val (v := .bool (decide (((q1.xs.length : Nat) : Int) = 0))) (d := 33) rfl rfl (ex_eql rfl rfl) ?_)
    refine Rg_end ?_
    refine V_cond (b := (decide (((q1.xs.length : Nat) : Int) = 0))) rfl rfl (fun hb20 => ?_) (fun hb20 => ?_)
    · have hb20 : ((q1.xs.length : Nat) : Int) = 0 := of_decide_eq_true hb20
      exact (show False by omega).elim
    · have hb20 : ¬ (((q1.xs.length : Nat) : Int) = 0) := of_decide_eq_false hb20
      have hne9 : q1.xs.length ≠ 0 := by omega
      refine V_skip rfl ?_
      refine V_seq rfl ?_
      refine V_region rfl ?_
      refine Rg_op rfl (o_val (v := .pointer (some ⟨q1.b, 0, none⟩)) (d := 34) rfl rfl (ex_move rfl) ?_)
      have H := H.pull 3 rfl rfl
      have H := H.pull 3 rfl rfl
      obtain ⟨x9, rs9, hx9⟩ : ∃ x rs, q1.xs = x :: rs := by cases h9 : q1.xs with | nil => rw [h9] at hne9; exact absurd rfl hne9 | cons a l => exact ⟨a, l, rfl⟩
      rw [hx9] at H
      refine Rg_op rfl (o_call (fv := []) (cap := []) (vs := [.pointer (some ⟨q1.b, 0, none⟩)]) rfl rfl cl91 rfl (take_c _ _ _ _ _ _ _ x9 rs9 H) fun v w21 hS => ?_)
      obtain ⟨rfl, H⟩ := hS
      refine Rg_op rfl (o_val (v := .int .i64 x9) (d := 9) rfl rfl (ex_assign rfl) ?_)
      refine Rg_end ?_
      refine V_seq rfl ?_
      refine V_seq rfl ?_
      refine V_region rfl ?_
      refine Rg_op rfl (o_val (v := .int .i64 o) (d := 36) rfl rfl (ex_move rfl) ?_)
      refine Rg_op rfl (o_val (v := .bool (decide (o = 16))) (d := 37) rfl rfl (ex_eql rfl rfl) ?_)
      refine Rg_end ?_
      refine V_cond (b := (decide (o = 16))) rfl rfl (fun hb22 => ?_) (fun hb22 => ?_)
      · have hb22 : o = 16 := of_decide_eq_true hb22
        have h16 : o = 16 := hb22
        refine V_seq rfl ?_
        refine V_region rfl ?_
        refine Rg_op rfl (o_val (v := .pointer (some ⟨bw, 0, none⟩)) (d := 38) rfl rfl (ex_move rfl) ?_)
        refine Rg_op rfl (o_val (v := .pointer (some ⟨bw, 0, none⟩)) (d := 39) rfl rfl (ex_move rfl) ?_)
        refine Rg_op rfl (o_val (v := .pointer (some ⟨bw, 0, none⟩)) (d := 40) rfl rfl (ex_nilCheck rfl) ?_)
        refine Rg_op rfl (o_val (v := .pointer (some ⟨bw, 8, none⟩)) (d := 41) rfl rfl (ex_fieldAddr fo142_6 rfl rfl) ?_)
        refine Rg_op rfl (o_val (v := .pointer (some ⟨bw, 8, none⟩)) (d := 42) rfl rfl (ex_fieldAddr fo63_0 rfl rfl) ?_)
        refine Rg_op rfl (o_val (v := .slice Aa arr.length ca) (d := 43) rfl rfl (ex_load ca59 rfl (cell_of (H.rd 2 rfl))) ?_)
        refine Rg_op rfl (o_val (v := .int .i64 x9) (d := 44) rfl rfl (ex_move rfl) ?_)
        refine Rg_op rfl (o_val (v := .int .i64 r) (d := 45) rfl rfl (ex_move rfl) ?_)
        refine Rg_op rfl (o_val (v := .int .i64 t) (d := 46) rfl rfl (ex_move rfl) ?_)
        refine Rg_op rfl (o_val (v := .agg #[.int .i64 x9, .int .i64 r, .int .i64 t]) (d := 47) rfl rfl (ex_eq (by kernel_rfl)) ?_)
        refine Rg_op rfl (o_lit (cs := [.int .i64 x9, .int .i64 r, .int .i64 t]) (e := 97) rfl (fun W => by kernel_rfl) H fun b23 w24 hA H => ?_)
        have H := H.pull 7 rfl rfl
        refine Rg_op rfl (o_append (ys := [(⟨x9, r, t⟩ : Arr)]) (ts := #[]) rfl sl59 rfl rfl rfl H (row_lit1 (z := (⟨x9, r, t⟩ : Arr)) (H.rd 1 rfl) rfl) (by first | omega | (simp only [List.length_append, List.length_cons, List.length_nil, List.length_map, List.length_take]; omega)) (by first | omega | (simp only [List.length_append, List.length_cons, List.length_nil, List.length_map, List.length_take]; omega)) fun A25 c26 w27 hA H => ?_)
        have H := (H.pull 1 rfl rfl).drop
        refine Rg_op rfl (o_val (v := .pointer (some ⟨bw, 0, none⟩)) (d := 50) rfl rfl (ex_nilCheck rfl) ?_)
        refine Rg_op rfl (o_val (v := .pointer (some ⟨bw, 8, none⟩)) (d := 51) rfl rfl (ex_fieldAddr fo142_6 rfl rfl) ?_)
        refine Rg_op rfl (o_val (v := .pointer (some ⟨bw, 8, none⟩)) (d := 52) rfl rfl (ex_fieldAddr fo63_0 rfl rfl) ?_)
        refine Rg_op rfl (o_store (vs := [.slice A25 ((arr ++ [(⟨x9, r, t⟩ : Arr)]).length) c26]) rfl ts59 rfl rfl rfl rfl 3 rfl rfl rfl rfl H fun w29 hA H => ?_)
        refine Rg_end ?_
        have H := H.pull 5 rfl rfl
        have H := H.pull 4 rfl rfl
        have H := H.pull 4 rfl rfl
        have H := H.pull 5 rfl rfl
        have H := q_back hqi1 H
        have H := H.pull 3 rfl rfl
        have H := H.pull 4 rfl rfl
        have H := H.pull 3 rfl rfl
        have H := H.pull 3 rfl rfl
        have H := H.pull 4 rfl rfl
        obtain ⟨hs1_, hs2_, hs3_, hs4_⟩ := hqr1
        have hQ9 : qf ((kv1.set iq1 ((⟨r, o, 1⟩ : Port), (⟨q1.b, (cutA q1.A q1.c 1 1), (q1.c - 1), rs9⟩ : Qd)))) = updP (qf kvQ) (⟨r, o, 1⟩ : Port) rs9 := by rw [qf_set hs3_ hqi1, hs1_]
        have hK9 : (((kv1.set iq1 ((⟨r, o, 1⟩ : Port), (⟨q1.b, (cutA q1.A q1.c 1 1), (q1.c - 1), rs9⟩ : Qd)))).map (·.1)).Nodup := by rw [List.map_set, set_self (by simp [hqi1])]; exact hs3_
        have hP9 : ∀ k ∈ ((kv1.set iq1 ((⟨r, o, 1⟩ : Port), (⟨q1.b, (cutA q1.A q1.c 1 1), (q1.c - 1), rs9⟩ : Qd)))).map (·.1), portOk s k := fun k hk => by rw [List.map_set, set_self (by simp [hqi1])] at hk; rcases hs4_ k hk with hk | rfl; exact hpo k hk; exact ⟨h0r, h1r, ho5, by simp⟩
        have hqx9 : q1.xs = qf kvQ (⟨r, o, 1⟩ : Port) := by rw [hs2_]
        have hk9 : sendK (qf kvQ) r o = (⟨r, o, 1⟩ : Port) := if_neg (show ¬ (qf kvQ ⟨r, o, 1⟩).length = 0 by rw [← hqx9]; omega)
        have hs9 := send_at (s := s) (t := t) (r := r) (o := o) (e := ⟨qf kvQ, cf kvC, arr⟩) hk9 (by show qf kvQ (⟨r, o, 1⟩ : Port) = _; rw [← hqx9, hx9])
        rw [if_pos h16] at hs9
        refine V_ret rfl (end0 (v := .tuple #[]) rfl (res_none Try.results64) ?_)
        exact ⟨(kv1.set iq1 ((⟨r, o, 1⟩ : Port), (⟨q1.b, (cutA q1.A q1.c 1 1), (q1.c - 1), rs9⟩ : Qd))), kvC, _, A25, c26, hs9, hQ9.symm, rfl, hK9, hnC, hP9, hcO, H⟩
      · have hb22 : ¬ (o = 16) := of_decide_eq_false hb22
        have h16 : o ≠ 16 := hb22
        refine V_skip rfl ?_
        refine V_seq rfl ?_
        refine V_region rfl ?_
        refine Rg_op rfl (o_val (v := .pointer (some ⟨bw, 0, none⟩)) (d := 54) rfl rfl (ex_move rfl) ?_)
        refine Rg_op rfl (o_val (v := .pointer (some ⟨bw, 0, none⟩)) (d := 55) rfl rfl (ex_nilCheck rfl) ?_)
        refine Rg_op rfl (o_val (v := .pointer (some ⟨bw, 0, none⟩)) (d := 56) rfl rfl (ex_fieldAddr fo142_0 rfl rfl) ?_)
        refine Rg_op rfl (o_val (v := .agg #[.int .i64 s.Wide, .int .i64 s.High, .int .i64 s.Room]) (d := 57) rfl rfl (ex_loadN (vs := [.int .i64 s.Wide, .int .i64 s.High, .int .i64 s.Room]) ca33 rfl rfl (blk_cells (H.rd 2 rfl) rfl)) ?_)
        refine Rg_op rfl (o_val (v := .int .i64 r) (d := 58) rfl rfl (ex_move rfl) ?_)
        refine Rg_op rfl (o_val (v := .int .i64 o) (d := 59) rfl rfl (ex_move rfl) ?_)
        refine Rg_op rfl (o_call (fv := []) (cap := []) (vs := [.agg #[.int .i64 s.Wide, .int .i64 s.High, .int .i64 s.Room], .int .i64 r, .int .i64 o]) rfl rfl cl89 rfl (next_c s r o _ (by assumption) (by omega) (by omega)) fun v w30 hS => ?_)
        obtain ⟨rfl, hB⟩ := hS
        have H := H.keep hB
        refine Rg_op rfl (o_val (v := .tuple #[.int .i64 (nextR s r o), .bool (nextB s r o)]) (d := 53) rfl rfl (ex_move rfl) ?_)
        refine Rg_op rfl (o_val (v := .int .i64 (nextR s r o)) (d := 61) rfl rfl (ex_extract rfl rfl) ?_)
        refine Rg_op rfl (o_val (v := .bool (nextB s r o)) (d := 62) rfl rfl (ex_extract rfl rfl) ?_)
        refine Rg_op rfl (o_val (v := .int .i64 (nextR s r o)) (d := 10) rfl rfl (ex_assign rfl) ?_)
        refine Rg_op rfl (o_val (v := .bool (nextB s r o)) (d := 11) rfl rfl (ex_assign rfl) ?_)
        refine Rg_end ?_
        refine V_draw [0, 1, 2, 4, 5, 7, 8] (.p 0 (.p 1 (.p 2 (.q 3 (.p 4 (.p 5 (.p 8 (.l 6 (.p 7 (.l 9 .done)))))))))) (fun _ => False) rfl mixed (by kernel_rfl) fun w31 hD => ?_
        have H := H.drew hD
        refine c_p (v := .pointer (some ⟨bw, 0, none⟩)) (d := 63) rfl rfl rfl (fun w' => ex_move rfl) ?_
        refine c_p (v := .pointer (some ⟨bw, 0, none⟩)) (d := 64) rfl rfl rfl (fun w' => ex_nilCheck rfl) ?_
        refine c_p (v := .pointer (some ⟨bw, 7, none⟩)) (d := 65) rfl rfl rfl (fun w' => ex_fieldAddr fo142_5 rfl rfl) ?_
        refine c_q (v := .map (some mc)) (d := 66) rfl rfl rfl (fun w' hG => ex_load ca140 rfl (hG.cell (cell_of (H.rd 2 rfl)) id)) ?_
        refine c_p (v := .int .i64 (nextR s r o)) (d := 67) rfl rfl rfl (fun w' => ex_move rfl) ?_
        refine c_p (v := .int .i64 o) (d := 68) rfl rfl rfl (fun w' => ex_move rfl) ?_
        refine c_p (v := .int .i64 x9) (d := 71) rfl rfl rfl (fun w' => ex_move rfl) ?_
        refine c_l rfl (o_call (fv := []) (cap := []) (vs := [.int .i64 o]) rfl rfl cl92 rfl (back_c o _) fun v w32 hS => ?_)
        obtain ⟨rfl, hB⟩ := hS
        refine ⟨.inr (Below.agr hB), ?_⟩
        have H := H.keep hB
        refine c_p (v := .agg #[.int .i64 (nextR s r o), .int .i64 (back o), .int .i64 0]) (d := 70) rfl rfl rfl (fun w' => ex_eq (by kernel_rfl)) ?_
        have H := H.pull 5 rfl rfl
        refine c_l rfl (o_mapUpdate (k := (⟨nextR s r o, back o, 0⟩ : Port)) (v := x9) rfl mt140 kPort rfl rfl rfl H fun w33 hA H => ⟨.inl (by kernel_rfl), ?_⟩)
        refine c_done ?_
        have H := H.pull 5 rfl rfl
        have H := H.pull 3 rfl rfl
        have H := H.pull 3 rfl rfl
        have H := H.pull 5 rfl rfl
        have H := q_back hqi1 H
        have H := H.pull 4 rfl rfl
        have H := H.pull 3 rfl rfl
        have H := H.pull 3 rfl rfl
        have H := H.pull 3 rfl rfl
        have H := H.pull 4 rfl rfl
        obtain ⟨hs1_, hs2_, hs3_, hs4_⟩ := hqr1
        have hQ9 : qf ((kv1.set iq1 ((⟨r, o, 1⟩ : Port), (⟨q1.b, (cutA q1.A q1.c 1 1), (q1.c - 1), rs9⟩ : Qd)))) = updP (qf kvQ) (⟨r, o, 1⟩ : Port) rs9 := by rw [qf_set hs3_ hqi1, hs1_]
        have hK9 : (((kv1.set iq1 ((⟨r, o, 1⟩ : Port), (⟨q1.b, (cutA q1.A q1.c 1 1), (q1.c - 1), rs9⟩ : Qd)))).map (·.1)).Nodup := by rw [List.map_set, set_self (by simp [hqi1])]; exact hs3_
        have hP9 : ∀ k ∈ ((kv1.set iq1 ((⟨r, o, 1⟩ : Port), (⟨q1.b, (cutA q1.A q1.c 1 1), (q1.c - 1), rs9⟩ : Qd)))).map (·.1), portOk s k := fun k hk => by rw [List.map_set, set_self (by simp [hqi1])] at hk; rcases hs4_ k hk with hk | rfl; exact hpo k hk; exact ⟨h0r, h1r, ho5, by simp⟩
        have hqx9 : q1.xs = qf kvQ (⟨r, o, 1⟩ : Port) := by rw [hs2_]
        have hk9 : sendK (qf kvQ) r o = (⟨r, o, 1⟩ : Port) := if_neg (show ¬ (qf kvQ ⟨r, o, 1⟩).length = 0 by rw [← hqx9]; omega)
        have hs9 := send_at (s := s) (t := t) (r := r) (o := o) (e := ⟨qf kvQ, cf kvC, arr⟩) hk9 (by show qf kvQ (⟨r, o, 1⟩ : Port) = _; rw [← hqx9, hx9])
        rw [if_neg h16] at hs9
        have hlead := next_in (hld (⟨r, o, 1⟩ : Port) (by rw [← hqx9, hx9]; simp))
        refine end0 (v := .tuple #[]) rfl (res_none Try.results64) ?_
        exact ⟨(kv1.set iq1 ((⟨r, o, 1⟩ : Port), (⟨q1.b, (cutA q1.A q1.c 1 1), (q1.c - 1), rs9⟩ : Qd))), mput ⟨nextR s r o, back o, 0⟩ x9 kvC, _, Aa, ca, hs9, hQ9.symm, (cf_put _ _).symm, hK9, (mput_keys hnC).1, hP9, fun k hk => ((mput_keys hnC).2 k).1 hk |>.elim (hcO k) (fun e => e ▸ ⟨hlead.1, hlead.2, back_in ho5 h16, rfl⟩), H⟩

end Go.Proofs.Ytlnogaoihkinbaa
