/-
  For every input, MeshMerges returns true, and each argument reads afterwards as it read before. No condition.
-/
import Derived.KernelRfl
import Derived.Test.YtlnogaoihkinbaaRows
import Derived.ProofKit
import Derived.OpenShut
import Derived.ShutString
import Derived.ChangeOld
import Derived.Below
import Derived.Deep.Slices
import Derived.Test.YtlnogaoihkinbaaMm5
set_option linter.unusedVariables false
set_option linter.unusedSimpArgs false
set_option maxRecDepth 20000
namespace Go.Proofs.Ytlnogaoihkinbaa
open Go.Gk Go.RowKit
theorem ca101 : cellsAgg Try.prog 101 = some (some 2) := by kernel_rfl
theorem ca110 : cellsAgg Try.prog 110 = some (some 4) := by kernel_rfl
theorem ca97 : cellsAgg Try.prog 97 = some (some 3) := by kernel_rfl
theorem cl11 : callable Try.prog 11 = true := by kernel_rfl
theorem cl15 : callable Try.prog 15 = true := by kernel_rfl
theorem cl16 : callable Try.prog 16 = true := by kernel_rfl
theorem cl22 : callable Try.prog 22 = true := by kernel_rfl
theorem cl29 : callable Try.prog 29 = true := by kernel_rfl
theorem cl30 : callable Try.prog 30 = true := by kernel_rfl
theorem cl34 : callable Try.prog 34 = true := by kernel_rfl
theorem cl40 : callable Try.prog 40 = true := by kernel_rfl
theorem works_c (w0 : World) :
    Calls Try.prog 10 #[] w0 fun e w' => ∃ v, e = .returned v ∧ (v = .bool true ∧ Below w0.heap.size w0 w') := by
  refine calls_of (n := 194) (l := []) Try.func10 rfl rfl rfl ?_
  have H := Hp.start w0
  refine V_seq rfl ?_
  refine V_region rfl ?_
  refine Rg_op rfl (o_val (v := .bool false) (d := 0) rfl rfl (ex_assign rfl) ?_)
  refine Rg_end ?_
  refine V_seq rfl ?_
  refine V_region rfl ?_
  refine Rg_op rfl (o_val (v := .agg #[.int .i64 3, .int .i64 2, .int .i64 2]) (d := 14) rfl rfl (ex_eq (by kernel_rfl)) ?_)
  refine Rg_op rfl (o_alloc rfl tz33 H fun b1 w2 hA H => ?_)
  refine Rg_op rfl (o_store (vs := [.int .i64 3, .int .i64 2, .int .i64 2]) rfl ts33 rfl rfl rfl rfl 0 rfl rfl rfl rfl H fun w3 hA H => ?_)
  refine Rg_end ?_
  refine V_seq rfl ?_
  refine V_region rfl ?_
  refine Rg_op rfl (o_val (v := .agg #[.int .i64 3, .int .i64 2, .int .i64 2]) (d := 16) rfl rfl (ex_loadN (vs := [.int .i64 3, .int .i64 2, .int .i64 2]) ca33 rfl rfl (blk_cells (H.rd 0 rfl) rfl)) ?_)
  refine Rg_op rfl (o_call (fv := []) (cap := []) (vs := [.agg #[.int .i64 3, .int .i64 2, .int .i64 2], .int .i64 0, .int .i64 5]) rfl rfl cl30 rfl (distance_c S3 0 5 _) fun v w4 hS => ?_)
  obtain ⟨hv, hB⟩ := hS
  rw [w_d, w_k] at hv
  subst hv
  have H := H.keep hB
  refine Rg_op rfl (o_val (v := .tuple #[.int .i64 3, .int .i64 0]) (d := 15) rfl rfl (ex_move rfl) ?_)
  refine Rg_op rfl (o_val (v := .int .i64 3) (d := 18) rfl rfl (ex_extract rfl rfl) ?_)
  refine Rg_op rfl (o_val (v := .int .i64 0) (d := 19) rfl rfl (ex_extract rfl rfl) ?_)
  refine Rg_op rfl (o_val (v := .int .i64 3) (d := 2) rfl rfl (ex_assign rfl) ?_)
  refine Rg_op rfl (o_val (v := .int .i64 0) (d := 3) rfl rfl (ex_assign rfl) ?_)
  refine Rg_end ?_
  refine V_seq rfl ?_
  refine V_region rfl ?_
  refine Rg_op rfl (o_val (v := .agg #[.int .i64 3, .int .i64 2, .int .i64 2]) (d := 21) rfl rfl (ex_loadN (vs := [.int .i64 3, .int .i64 2, .int .i64 2]) ca33 rfl rfl (blk_cells (H.rd 0 rfl) rfl)) ?_)
  refine Rg_op rfl (o_call (fv := []) (cap := []) (vs := [.agg #[.int .i64 3, .int .i64 2, .int .i64 2], .int .i64 5, .int .i64 0]) rfl rfl cl29 rfl (route_c S3 5 0 _) fun v w8 hS => ?_)
  obtain ⟨A6, c7, hv, hB, hN⟩ := hS
  rw [w_r, w_rk] at hv
  rw [w_r] at hN
  subst hv
  have H := H.new hB hN
  refine Rg_op rfl (o_val (v := .tuple #[.slice A6 4 c7, .int .i64 0]) (d := 20) rfl rfl (ex_move rfl) ?_)
  refine Rg_op rfl (o_val (v := .slice A6 4 c7) (d := 23) rfl rfl (ex_extract rfl rfl) ?_)
  refine Rg_op rfl (o_val (v := .int .i64 0) (d := 24) rfl rfl (ex_extract rfl rfl) ?_)
  refine Rg_op rfl (o_val (v := .slice A6 4 c7) (d := 4) rfl rfl (ex_assign rfl) ?_)
  refine Rg_op rfl (o_val (v := .int .i64 0) (d := 5) rfl rfl (ex_assign rfl) ?_)
  refine Rg_end ?_
  refine V_seq rfl ?_
  refine V_region rfl ?_
  refine Rg_op rfl (o_val (v := .agg #[.int .i64 3, .int .i64 2, .int .i64 2]) (d := 26) rfl rfl (ex_loadN (vs := [.int .i64 3, .int .i64 2, .int .i64 2]) ca33 rfl rfl (blk_cells (H.rd 1 rfl) rfl)) ?_)
  refine Rg_op rfl (o_lit (cs := [.int .i64 2, .int .i64 5, .int .i64 0]) (e := 3) rfl (fun W => by kernel_rfl) H fun b9 w10 hA H => ?_)
  refine Rg_op rfl (o_call (fv := []) (cap := []) (vs := [.agg #[.int .i64 3, .int .i64 2, .int .i64 2], .int .i64 0, .slice (some ⟨b9, 0, none⟩) 3 3]) rfl rfl cl32 rfl (tree_c S3 0 _ _ [2, 5, 0] _ (row_litF (zs := [2, 5, 0]) (H.rd 0 rfl) rfl) (by decide)) fun v w14 hS => ?_)
  obtain ⟨A12, c13, hv, hB, hN⟩ := hS
  rw [w_t, w_te] at hv
  rw [w_t] at hN
  subst hv
  have H := H.new hB hN
  refine Rg_op rfl (o_val (v := .tuple #[.slice A12 6 c13, .int .i64 0]) (d := 25) rfl rfl (ex_move rfl) ?_)
  refine Rg_op rfl (o_val (v := .slice A12 6 c13) (d := 29) rfl rfl (ex_extract rfl rfl) ?_)
  refine Rg_op rfl (o_val (v := .int .i64 0) (d := 30) rfl rfl (ex_extract rfl rfl) ?_)
  refine Rg_op rfl (o_val (v := .slice A12 6 c13) (d := 6) rfl rfl (ex_assign rfl) ?_)
  refine Rg_op rfl (o_val (v := .int .i64 0) (d := 7) rfl rfl (ex_assign rfl) ?_)
  refine Rg_end ?_
  refine V_seq rfl ?_
  refine V_seq rfl ?_
  refine V_region rfl ?_
  refine Rg_op rfl (o_val (v := .int .i64 3) (d := 31) rfl rfl (ex_move rfl) ?_)
  refine Rg_op rfl (o_val (v := .bool false) (d := 32) rfl rfl (ex_eq (by kernel_rfl)) ?_)
  refine Rg_op rfl (o_val (v := .bool false) (d := 33) rfl rfl (ex_move rfl) ?_)
  refine Rg_op rfl (o_valg (v := .int .i64 0) (d := 34) rfl rfl (wanted_yes (b := false) rfl rfl rfl rfl) (ex_move rfl) ?_)
  refine Rg_op rfl (o_valg (v := .bool false) (d := 35) rfl rfl (wanted_yes (b := false) rfl rfl rfl rfl) (ex_eq (by kernel_rfl)) ?_)
  refine Rg_op rfl (o_val (v := .bool false) (d := 36) rfl rfl (ex_pick (q := false) rfl (fun h => by cases h) (fun h => rfl)) ?_)
  refine Rg_op rfl (o_val (v := .bool false) (d := 37) rfl rfl (ex_move rfl) ?_)
  refine Rg_op rfl (o_valg (v := .int .i64 0) (d := 38) rfl rfl (wanted_yes (b := false) rfl rfl rfl rfl) (ex_move rfl) ?_)
  refine Rg_op rfl (o_valg (v := .bool false) (d := 39) rfl rfl (wanted_yes (b := false) rfl rfl rfl rfl) (ex_eq (by kernel_rfl)) ?_)
  refine Rg_op rfl (o_val (v := .bool false) (d := 40) rfl rfl (ex_pick (q := false) rfl (fun h => by cases h) (fun h => rfl)) ?_)
  refine Rg_op rfl (o_val (v := .bool false) (d := 41) rfl rfl (ex_move rfl) ?_)
  refine Rg_op rfl (o_valg (v := .int .i64 0) (d := 42) rfl rfl (wanted_yes (b := false) rfl rfl rfl rfl) (ex_move rfl) ?_)
  refine Rg_op rfl (o_valg (v := .bool false) (d := 43) rfl rfl (wanted_yes (b := false) rfl rfl rfl rfl) (ex_eq (by kernel_rfl)) ?_)
  refine Rg_op rfl (o_val (v := .bool false) (d := 44) rfl rfl (ex_pick (q := false) rfl (fun h => by cases h) (fun h => rfl)) ?_)
  refine Rg_op rfl (o_val (v := .bool false) (d := 45) rfl rfl (ex_move rfl) ?_)
  refine Rg_op rfl (o_valg (v := .slice A6 4 c7) (d := 46) rfl rfl (wanted_yes (b := false) rfl rfl rfl rfl) (ex_move rfl) ?_)
  refine Rg_op rfl (o_g (wanted_yes (b := false) rfl rfl rfl rfl) (o_lit (cs := [.int .i64 5, .int .i64 4, .int .i64 3, .int .i64 0]) (e := 3) rfl (fun W => by kernel_rfl) H fun b15 w16 hA H => ?_))
  refine Rg_op rfl (o_g (wanted_yes (b := false) rfl rfl rfl rfl) (o_call (fv := []) (cap := []) (vs := [.slice A6 4 c7, .slice (some ⟨b15, 0, none⟩) 4 4]) rfl rfl cl34 rfl (numbers_c _ _ ([5, 4, 3, 0]) _ _ ([5, 4, 3, 0]) _ (own_row (H.pull 3 rfl rfl)).1 (row_litF (zs := [5, 4, 3, 0]) (H.rd 0 rfl) rfl) (by first | omega | (simp only [List.length_append, List.length_cons, List.length_nil]; omega))) fun v w17 hS => ?_))
  obtain ⟨hv, hB⟩ := hS
  rw [decide_eq_true (by decide)] at hv
  subst hv
  have H := H.keep hB
  refine Rg_op rfl (o_valg (v := .bool false) (d := 49) rfl rfl (wanted_yes (b := false) rfl rfl rfl rfl) (ex_not (q := true) rfl) ?_)
  refine Rg_op rfl (o_val (v := .bool false) (d := 50) rfl rfl (ex_pick (q := false) rfl (fun h => by cases h) (fun h => rfl)) ?_)
  refine Rg_op rfl (o_val (v := .bool false) (d := 51) rfl rfl (ex_move rfl) ?_)
  refine Rg_op rfl (o_valg (v := .slice A12 6 c13) (d := 52) rfl rfl (wanted_yes (b := false) rfl rfl rfl rfl) (ex_move rfl) ?_)
  refine Rg_op rfl (o_g (wanted_yes (b := false) rfl rfl rfl rfl) (o_lit (cs := [.int .i64 17, .int .i64 1, .int .i64 18, .int .i64 0, .int .i64 0, .int .i64 16]) (e := 3) rfl (fun W => by kernel_rfl) H fun b18 w19 hA H => ?_))
  refine Rg_op rfl (o_g (wanted_yes (b := false) rfl rfl rfl rfl) (o_call (fv := []) (cap := []) (vs := [.slice A12 6 c13, .slice (some ⟨b18, 0, none⟩) 6 6]) rfl rfl cl34 rfl (numbers_c _ _ ([17, 1, 18, 0, 0, 16]) _ _ ([17, 1, 18, 0, 0, 16]) _ (own_row (H.pull 2 rfl rfl)).1 (row_litF (zs := [17, 1, 18, 0, 0, 16]) (H.rd 0 rfl) rfl) (by first | omega | (simp only [List.length_append, List.length_cons, List.length_nil]; omega))) fun v w20 hS => ?_))
  obtain ⟨hv, hB⟩ := hS
  rw [decide_eq_true (by decide)] at hv
  subst hv
  have H := H.keep hB
  refine Rg_op rfl (o_valg (v := .bool false) (d := 55) rfl rfl (wanted_yes (b := false) rfl rfl rfl rfl) (ex_not (q := true) rfl) ?_)
  refine Rg_op rfl (o_val (v := .bool false) (d := 56) rfl rfl (ex_pick (q := false) rfl (fun h => by cases h) (fun h => rfl)) ?_)
  refine Rg_end ?_
  refine V_false rfl rfl ?_
  refine V_skip rfl ?_
  refine V_seq rfl ?_
  refine V_region rfl ?_
  refine Rg_op rfl (o_val (v := .agg #[.int .i64 3, .int .i64 2, .int .i64 2]) (d := 58) rfl rfl (ex_loadN (vs := [.int .i64 3, .int .i64 2, .int .i64 2]) ca33 rfl rfl (blk_cells (H.rd 5 rfl) rfl)) ?_)
  refine Rg_op rfl (o_lit (cs := [.int .i64 2, .int .i64 5, .int .i64 0]) (e := 3) rfl (fun W => by kernel_rfl) H fun b21 w22 hA H => ?_)
  refine Rg_op rfl (o_val (v := .agg #[.int .i64 7, .int .i64 0, .slice (some ⟨b21, 0, none⟩) 3 3]) (d := 60) rfl rfl (ex_eq (by kernel_rfl)) ?_)
  refine Rg_op rfl (o_lit (cs := [.int .i64 1]) (e := 3) rfl (fun W => by kernel_rfl) H fun b23 w24 hA H => ?_)
  refine Rg_op rfl (o_val (v := .agg #[.int .i64 3, .int .i64 1, .slice (some ⟨b23, 0, none⟩) 1 1]) (d := 62) rfl rfl (ex_eq (by kernel_rfl)) ?_)
  refine Rg_op rfl (o_lit (cs := [.int .i64 7, .int .i64 0, .slice (some ⟨b21, 0, none⟩) 3 3, .int .i64 3, .int .i64 1, .slice (some ⟨b23, 0, none⟩) 1 1]) (e := 99) rfl (fun W => by kernel_rfl) H fun b25 w26 hA H => ?_)
  have hT1 := row_litF (n := 1) (enc := fun x : Int => [.int .i64 x]) (hl := fun _ => rfl) (h1 := fun _ => rfl) (zs := [2, 5, 0]) (H.rd 2 rfl) rfl
  have hT2 := row_litF (n := 1) (enc := fun x : Int => [.int .i64 x]) (hl := fun _ => rfl) (h1 := fun _ => rfl) (zs := [1]) (H.rd 1 rfl) rfl
  have hW3 := row_lit2 (D := kWay) (z1 := ⟨7, 0, [2, 5, 0]⟩) (z2 := ⟨3, 1, [1]⟩) (c1 := [.int .i64 7, .int .i64 0, .slice (some ⟨b21, 0, none⟩) 3 3]) (c2 := [.int .i64 3, .int .i64 1, .slice (some ⟨b23, 0, none⟩) 1 1]) (H.rd 0 rfl) rfl ⟨_, 3, rfl, by decide, by decide, hT1⟩ ⟨_, 1, rfl, by decide, by decide, hT2⟩
  refine Rg_op rfl (o_call (fv := []) (cap := []) (vs := [.agg #[.int .i64 3, .int .i64 2, .int .i64 2], .slice (some ⟨b25, 0, none⟩) 2 2]) rfl rfl cl11 rfl (tabs_c S3 _ _ W3 _ hW3 (.inl (by decide)) (by decide) (by decide)) fun v w30 hS => ?_)
  obtain ⟨A28, c29, hv, hB, hN⟩ := hS
  rw [w_T, w_TE] at hv
  rw [w_T] at hN
  subst hv
  have H := H.new hB hN
  refine Rg_op rfl (o_val (v := .tuple #[.slice A28 6 c29, .int .i64 0]) (d := 57) rfl rfl (ex_move rfl) ?_)
  refine Rg_op rfl (o_val (v := .slice A28 6 c29) (d := 65) rfl rfl (ex_extract rfl rfl) ?_)
  refine Rg_op rfl (o_val (v := .int .i64 0) (d := 66) rfl rfl (ex_extract rfl rfl) ?_)
  refine Rg_op rfl (o_val (v := .slice A28 6 c29) (d := 8) rfl rfl (ex_assign rfl) ?_)
  refine Rg_op rfl (o_val (v := .int .i64 0) (d := 3) rfl rfl (ex_assign rfl) ?_)
  refine Rg_end ?_
  refine V_seq rfl ?_
  refine V_seq rfl ?_
  refine V_region rfl ?_
  refine Rg_op rfl (o_val (v := .int .i64 0) (d := 67) rfl rfl (ex_move rfl) ?_)
  refine Rg_op rfl (o_val (v := .bool false) (d := 68) rfl rfl (ex_eq (by kernel_rfl)) ?_)
  refine Rg_op rfl (o_val (v := .bool false) (d := 69) rfl rfl (ex_move rfl) ?_)
  refine Rg_op rfl (o_valg (v := .slice A28 6 c29) (d := 70) rfl rfl (wanted_yes (b := false) rfl rfl rfl rfl) (ex_move rfl) ?_)
  refine Rg_op rfl (o_valg (v := .int .i64 ((6 : Nat) : Int)) (d := 71) rfl rfl (wanted_yes (b := false) rfl rfl rfl rfl) (ex_len (ts := #[]) sl29 rfl) ?_)
  refine Rg_op rfl (o_valg (v := .bool false) (d := 72) rfl rfl (wanted_yes (b := false) rfl rfl rfl rfl) (ex_eq (by kernel_rfl)) ?_)
  refine Rg_op rfl (o_val (v := .bool false) (d := 73) rfl rfl (ex_pick (q := false) rfl (fun h => by cases h) (fun h => rfl)) ?_)
  refine Rg_op rfl (o_val (v := .bool false) (d := 74) rfl rfl (ex_move rfl) ?_)
  refine Rg_op rfl (o_valg (v := .slice A28 6 c29) (d := 75) rfl rfl (wanted_yes (b := false) rfl rfl rfl rfl) (ex_move rfl) ?_)
  have hr31 := (own_row (H.pull 0 rfl rfl)).1
  obtain ⟨ad32, x32, cs32, hA32, hx32, hR32, hc32⟩ := Row.get hr31 1 ((by decide)) ((by decide))
  obtain ⟨Ae33, ce33, rfl, hle33, hme33, hWe33⟩ := hR32
  refine Rg_op rfl (o_valg (v := .pointer (some (ad32.add ((1 : Int).toNat * 1)))) (d := 76) rfl rfl (wanted_yes (b := false) rfl rfl rfl rfl) (ex_indexAddr sl29 rfl hA32 rfl ((by decide)) ((by decide)) rfl) ?_)
  refine Rg_op rfl (o_valg (v := .slice Ae33 x32.length ce33) (d := 77) rfl rfl (wanted_yes (b := false) rfl rfl rfl rfl) (ex_load ca41 rfl (hc32 0 _ rfl)) ?_)
  obtain rfl : x32 = ([⟨3, 65535, 16⟩, ⟨7, 65535, 1⟩] : List Entry) := (Option.some.inj hx32).symm
  refine Rg_op rfl (o_valg (v := .agg #[.int .i64 3, .int .i64 65535, .int .i64 16]) (d := 78) rfl rfl (wanted_yes (b := false) rfl rfl rfl rfl) (ex_eq (by kernel_rfl)) ?_)
  refine Rg_op rfl (o_valg (v := .agg #[.int .i64 7, .int .i64 65535, .int .i64 1]) (d := 79) rfl rfl (wanted_yes (b := false) rfl rfl rfl rfl) (ex_eq (by kernel_rfl)) ?_)
  refine Rg_op rfl (o_g (wanted_yes (b := false) rfl rfl rfl rfl) (o_lit (cs := [.int .i64 3, .int .i64 65535, .int .i64 16, .int .i64 7, .int .i64 65535, .int .i64 1]) (e := 116) rfl (fun W => by kernel_rfl) H fun b34 w35 hA H => ?_))
  refine Rg_op rfl (o_g (wanted_yes (b := false) rfl rfl rfl rfl) (o_call (fv := []) (cap := []) (vs := [.slice Ae33 (([⟨3, 65535, 16⟩, ⟨7, 65535, 1⟩] : List Entry).length) ce33, .slice (some ⟨b34, 0, none⟩) 2 2]) rfl rfl cl15 rfl (entries_c _ _ ([⟨3, 65535, 16⟩, ⟨7, 65535, 1⟩] : List Entry) _ _ ([(⟨3, 65535, 16⟩ : Entry), (⟨7, 65535, 1⟩ : Entry)]) _ (hWe33.mono (fun _ _ h => (Below.agr (D := fun _ => False) hA).cell h id)) (row_litF (zs := [(⟨3, 65535, 16⟩ : Entry), (⟨7, 65535, 1⟩ : Entry)]) (H.rd 0 rfl) rfl) (by first | omega | (simp only [List.length_append, List.length_cons, List.length_nil]; omega))) fun v w36 hS => ?_))
  obtain ⟨hv, hB⟩ := hS
  rw [decide_eq_true (by decide)] at hv
  subst hv
  have H := H.keep hB
  refine Rg_op rfl (o_valg (v := .bool false) (d := 82) rfl rfl (wanted_yes (b := false) rfl rfl rfl rfl) (ex_not (q := true) rfl) ?_)
  refine Rg_op rfl (o_val (v := .bool false) (d := 83) rfl rfl (ex_pick (q := false) rfl (fun h => by cases h) (fun h => rfl)) ?_)
  refine Rg_end ?_
  refine V_false rfl rfl ?_
  refine V_skip rfl ?_
  refine V_seq rfl ?_
  refine V_region rfl ?_
  refine Rg_op rfl (o_val (v := .agg #[.int .i64 3, .int .i64 2, .int .i64 2]) (d := 85) rfl rfl (ex_loadN (vs := [.int .i64 3, .int .i64 2, .int .i64 2]) ca33 rfl rfl (blk_cells (H.rd 10 rfl) rfl)) ?_)
  refine Rg_op rfl (o_val (v := .slice A28 6 c29) (d := 86) rfl rfl (ex_move rfl) ?_)
  refine Rg_op rfl (o_val (v := .agg #[.int .i64 0, .int .i64 0, .int .i64 7, .int .i64 0]) (d := 87) rfl rfl (ex_eq (by kernel_rfl)) ?_)
  refine Rg_op rfl (o_val (v := .agg #[.int .i64 0, .int .i64 0, .int .i64 7, .int .i64 0]) (d := 88) rfl rfl (ex_eq (by kernel_rfl)) ?_)
  refine Rg_op rfl (o_val (v := .agg #[.int .i64 0, .int .i64 0, .int .i64 7, .int .i64 0]) (d := 89) rfl rfl (ex_eq (by kernel_rfl)) ?_)
  refine Rg_op rfl (o_lit (cs := [.int .i64 0, .int .i64 0, .int .i64 7, .int .i64 0, .int .i64 0, .int .i64 0, .int .i64 7, .int .i64 0, .int .i64 0, .int .i64 0, .int .i64 7, .int .i64 0]) (e := 58) rfl (fun W => by kernel_rfl) H fun b37 w38 hA H => ?_)
  refine Rg_op rfl (o_call (fv := []) (cap := []) (vs := [.agg #[.int .i64 3, .int .i64 2, .int .i64 2], .slice A28 6 c29, .slice (some ⟨b37, 0, none⟩) 3 3, .int .i64 20]) rfl rfl cl22 rfl (run_c S3 _ _ T3 _ _ P3 20 _ (own_row (H.pull 2 rfl rfl)).1 (by decide) (row_litF (zs := [(⟨0, 0, 7, 0⟩ : Packet), (⟨0, 0, 7, 0⟩ : Packet), (⟨0, 0, 7, 0⟩ : Packet)]) (H.rd 0 rfl) rfl) (by decide)) fun v w45 hS => ?_)
  obtain ⟨A39, c42, A40, c43, A41, c44, hv, hB, hN⟩ := hS
  rw [w_run, w_runE] at hv
  rw [w_run] at hN
  subst hv
  have H := ((H.new hB hN).split).split
  refine Rg_op rfl (o_val (v := .tuple #[.agg #[.slice A39 6 c42, .slice A40 2 c43, .slice A41 6 c44, .int .i64 0], .int .i64 0]) (d := 84) rfl rfl (ex_move rfl) ?_)
  refine Rg_op rfl (o_val (v := .agg #[.slice A39 6 c42, .slice A40 2 c43, .slice A41 6 c44, .int .i64 0]) (d := 92) rfl rfl (ex_extract rfl rfl) ?_)
  refine Rg_op rfl (o_val (v := .int .i64 0) (d := 93) rfl rfl (ex_extract rfl rfl) ?_)
  refine Rg_op rfl (o_alloc rfl tz63 H fun b46 w47 hA H => ?_)
  refine Rg_op rfl (o_store (vs := [.slice A39 6 c42, .slice A40 2 c43, .slice A41 6 c44, .int .i64 0]) rfl ts63 rfl rfl rfl rfl 0 rfl rfl rfl rfl H fun w48 hA H => ?_)
  refine Rg_op rfl (o_val (v := .int .i64 0) (d := 3) rfl rfl (ex_assign rfl) ?_)
  refine Rg_end ?_
  refine V_seq rfl ?_
  refine V_seq rfl ?_
  refine V_region rfl ?_
  refine Rg_op rfl (o_val (v := .int .i64 0) (d := 94) rfl rfl (ex_move rfl) ?_)
  refine Rg_op rfl (o_val (v := .bool false) (d := 95) rfl rfl (ex_eq (by kernel_rfl)) ?_)
  refine Rg_op rfl (o_val (v := .bool false) (d := 96) rfl rfl (ex_move rfl) ?_)
  refine Rg_op rfl (o_valg (v := .pointer (some ⟨b46, 0, none⟩)) (d := 97) rfl rfl (wanted_yes (b := false) rfl rfl rfl rfl) (ex_fieldAddr fo63_0 rfl rfl) ?_)
  refine Rg_op rfl (o_valg (v := .slice A39 6 c42) (d := 98) rfl rfl (wanted_yes (b := false) rfl rfl rfl rfl) (ex_load ca59 rfl (cell_of (H.rd 0 rfl))) ?_)
  refine Rg_op rfl (o_valg (v := .int .i64 ((6 : Nat) : Int)) (d := 99) rfl rfl (wanted_yes (b := false) rfl rfl rfl rfl) (ex_len (ts := #[]) sl59 rfl) ?_)
  refine Rg_op rfl (o_valg (v := .bool false) (d := 100) rfl rfl (wanted_yes (b := false) rfl rfl rfl rfl) (ex_eq (by kernel_rfl)) ?_)
  refine Rg_op rfl (o_val (v := .bool false) (d := 101) rfl rfl (ex_pick (q := false) rfl (fun h => by cases h) (fun h => rfl)) ?_)
  refine Rg_op rfl (o_val (v := .bool false) (d := 102) rfl rfl (ex_move rfl) ?_)
  refine Rg_op rfl (o_valg (v := .pointer (some ⟨b46, 0, none⟩)) (d := 103) rfl rfl (wanted_yes (b := false) rfl rfl rfl rfl) (ex_fieldAddr fo63_0 rfl rfl) ?_)
  refine Rg_op rfl (o_valg (v := .slice A39 6 c42) (d := 104) rfl rfl (wanted_yes (b := false) rfl rfl rfl rfl) (ex_load ca59 rfl (cell_of (H.rd 0 rfl))) ?_)
  have hr49 := (own_row (H.pull 1 rfl rfl)).1
  obtain ⟨ad50, x50, cs50, hA50, hx50, hR50, hc50⟩ := Row.get hr49 5 ((by decide)) ((by decide))
  obtain rfl := hR50
  refine Rg_op rfl (o_valg (v := .pointer (some (ad50.add ((5 : Int).toNat * 3)))) (d := 105) rfl rfl (wanted_yes (b := false) rfl rfl rfl rfl) (ex_indexAddr sl59 rfl hA50 rfl ((by decide)) ((by decide)) rfl) ?_)
  refine Rg_op rfl (o_valg (v := .agg #[.int .i64 x50.Packet, .int .i64 x50.Core, .int .i64 x50.Tick]) (d := 106) rfl rfl (wanted_yes (b := false) rfl rfl rfl rfl) (ex_loadN (vs := [.int .i64 x50.Packet, .int .i64 x50.Core, .int .i64 x50.Tick]) ca97 rfl rfl (fun j u hj => by rw [add_add]; exact hc50 j u hj)) ?_)
  obtain rfl : x50 = (⟨1, 5, 4⟩ : Arr) := (Option.some.inj hx50).symm
  refine Rg_op rfl (o_valg (v := .agg #[.int .i64 1, .int .i64 5, .int .i64 4]) (d := 107) rfl rfl (wanted_yes (b := false) rfl rfl rfl rfl) (ex_eq (by kernel_rfl)) ?_)
  refine Rg_op rfl (o_valg (v := .bool false) (d := 108) rfl rfl (wanted_yes (b := false) rfl rfl rfl rfl) (ex_eq (by kernel_rfl)) ?_)
  refine Rg_op rfl (o_val (v := .bool false) (d := 109) rfl rfl (ex_pick (q := false) rfl (fun h => by cases h) (fun h => rfl)) ?_)
  refine Rg_op rfl (o_val (v := .bool false) (d := 110) rfl rfl (ex_move rfl) ?_)
  refine Rg_op rfl (o_valg (v := .pointer (some ⟨b46, 1, none⟩)) (d := 111) rfl rfl (wanted_yes (b := false) rfl rfl rfl rfl) (ex_fieldAddr fo63_1 rfl rfl) ?_)
  refine Rg_op rfl (o_valg (v := .slice A40 2 c43) (d := 112) rfl rfl (wanted_yes (b := false) rfl rfl rfl rfl) (ex_load ca60 rfl (cell_of (H.rd 0 rfl))) ?_)
  refine Rg_op rfl (o_valg (v := .int .i64 ((2 : Nat) : Int)) (d := 113) rfl rfl (wanted_yes (b := false) rfl rfl rfl rfl) (ex_len (ts := #[]) sl60 rfl) ?_)
  refine Rg_op rfl (o_valg (v := .bool false) (d := 114) rfl rfl (wanted_yes (b := false) rfl rfl rfl rfl) (ex_eq (by kernel_rfl)) ?_)
  refine Rg_op rfl (o_val (v := .bool false) (d := 115) rfl rfl (ex_pick (q := false) rfl (fun h => by cases h) (fun h => rfl)) ?_)
  refine Rg_op rfl (o_val (v := .bool false) (d := 116) rfl rfl (ex_move rfl) ?_)
  refine Rg_op rfl (o_valg (v := .pointer (some ⟨b46, 1, none⟩)) (d := 117) rfl rfl (wanted_yes (b := false) rfl rfl rfl rfl) (ex_fieldAddr fo63_1 rfl rfl) ?_)
  refine Rg_op rfl (o_valg (v := .slice A40 2 c43) (d := 118) rfl rfl (wanted_yes (b := false) rfl rfl rfl rfl) (ex_load ca60 rfl (cell_of (H.rd 0 rfl))) ?_)
  have hr51 := (own_row (H.pull 2 rfl rfl)).1
  obtain ⟨ad52, x52, cs52, hA52, hx52, hR52, hc52⟩ := Row.get hr51 1 ((by decide)) ((by decide))
  obtain rfl := hR52
  refine Rg_op rfl (o_valg (v := .pointer (some (ad52.add ((1 : Int).toNat * 4)))) (d := 119) rfl rfl (wanted_yes (b := false) rfl rfl rfl rfl) (ex_indexAddr sl60 rfl hA52 rfl ((by decide)) ((by decide)) rfl) ?_)
  refine Rg_op rfl (o_valg (v := .agg #[.int .i64 x52.Packet, .int .i64 x52.Router, .int .i64 x52.Out, .int .i64 x52.Tick]) (d := 120) rfl rfl (wanted_yes (b := false) rfl rfl rfl rfl) (ex_loadN (vs := [.int .i64 x52.Packet, .int .i64 x52.Router, .int .i64 x52.Out, .int .i64 x52.Tick]) ca110 rfl rfl (fun j u hj => by rw [add_add]; exact hc52 j u hj)) ?_)
  obtain rfl : x52 = (⟨2, 0, 16, 0⟩ : Drp) := (Option.some.inj hx52).symm
  refine Rg_op rfl (o_valg (v := .agg #[.int .i64 2, .int .i64 0, .int .i64 16, .int .i64 0]) (d := 121) rfl rfl (wanted_yes (b := false) rfl rfl rfl rfl) (ex_eq (by kernel_rfl)) ?_)
  refine Rg_op rfl (o_valg (v := .bool false) (d := 122) rfl rfl (wanted_yes (b := false) rfl rfl rfl rfl) (ex_eq (by kernel_rfl)) ?_)
  refine Rg_op rfl (o_val (v := .bool false) (d := 123) rfl rfl (ex_pick (q := false) rfl (fun h => by cases h) (fun h => rfl)) ?_)
  refine Rg_op rfl (o_val (v := .bool false) (d := 124) rfl rfl (ex_move rfl) ?_)
  refine Rg_op rfl (o_valg (v := .pointer (some ⟨b46, 2, none⟩)) (d := 125) rfl rfl (wanted_yes (b := false) rfl rfl rfl rfl) (ex_fieldAddr fo63_2 rfl rfl) ?_)
  refine Rg_op rfl (o_valg (v := .slice A41 6 c44) (d := 126) rfl rfl (wanted_yes (b := false) rfl rfl rfl rfl) (ex_load ca61 rfl (cell_of (H.rd 0 rfl))) ?_)
  refine Rg_op rfl (o_valg (v := .int .i64 ((6 : Nat) : Int)) (d := 127) rfl rfl (wanted_yes (b := false) rfl rfl rfl rfl) (ex_len (ts := #[]) sl61 rfl) ?_)
  refine Rg_op rfl (o_valg (v := .bool false) (d := 128) rfl rfl (wanted_yes (b := false) rfl rfl rfl rfl) (ex_eq (by kernel_rfl)) ?_)
  refine Rg_op rfl (o_val (v := .bool false) (d := 129) rfl rfl (ex_pick (q := false) rfl (fun h => by cases h) (fun h => rfl)) ?_)
  refine Rg_op rfl (o_val (v := .bool false) (d := 130) rfl rfl (ex_move rfl) ?_)
  refine Rg_op rfl (o_valg (v := .pointer (some ⟨b46, 2, none⟩)) (d := 131) rfl rfl (wanted_yes (b := false) rfl rfl rfl rfl) (ex_fieldAddr fo63_2 rfl rfl) ?_)
  refine Rg_op rfl (o_valg (v := .slice A41 6 c44) (d := 132) rfl rfl (wanted_yes (b := false) rfl rfl rfl rfl) (ex_load ca61 rfl (cell_of (H.rd 0 rfl))) ?_)
  have hr53 := (own_row (H.pull 3 rfl rfl)).1
  obtain ⟨ad54, x54, cs54, hA54, hx54, hR54, hc54⟩ := Row.get hr53 0 ((by decide)) ((by decide))
  obtain rfl := hR54
  refine Rg_op rfl (o_valg (v := .pointer (some (ad54.add ((0 : Int).toNat * 2)))) (d := 133) rfl rfl (wanted_yes (b := false) rfl rfl rfl rfl) (ex_indexAddr sl61 rfl hA54 rfl ((by decide)) ((by decide)) rfl) ?_)
  refine Rg_op rfl (o_valg (v := .agg #[.int .i64 x54.a, .int .i64 x54.b]) (d := 134) rfl rfl (wanted_yes (b := false) rfl rfl rfl rfl) (ex_loadN (vs := [.int .i64 x54.a, .int .i64 x54.b]) ca101 rfl rfl (fun j u hj => by rw [add_add]; exact hc54 j u hj)) ?_)
  obtain rfl : x54 = (⟨2, 0⟩ : V2) := (Option.some.inj hx54).symm
  refine Rg_op rfl (o_valg (v := .agg #[.int .i64 2, .int .i64 0]) (d := 135) rfl rfl (wanted_yes (b := false) rfl rfl rfl rfl) (ex_eq (by kernel_rfl)) ?_)
  refine Rg_op rfl (o_valg (v := .bool false) (d := 136) rfl rfl (wanted_yes (b := false) rfl rfl rfl rfl) (ex_eq (by kernel_rfl)) ?_)
  refine Rg_op rfl (o_val (v := .bool false) (d := 137) rfl rfl (ex_pick (q := false) rfl (fun h => by cases h) (fun h => rfl)) ?_)
  refine Rg_op rfl (o_val (v := .bool false) (d := 138) rfl rfl (ex_move rfl) ?_)
  refine Rg_op rfl (o_valg (v := .pointer (some ⟨b46, 3, none⟩)) (d := 139) rfl rfl (wanted_yes (b := false) rfl rfl rfl rfl) (ex_fieldAddr fo63_3 rfl rfl) ?_)
  refine Rg_op rfl (o_valg (v := .int .i64 0) (d := 140) rfl rfl (wanted_yes (b := false) rfl rfl rfl rfl) (ex_load ca3 rfl (cell_of (H.rd 0 rfl))) ?_)
  refine Rg_op rfl (o_valg (v := .bool false) (d := 141) rfl rfl (wanted_yes (b := false) rfl rfl rfl rfl) (ex_eq (by kernel_rfl)) ?_)
  refine Rg_op rfl (o_val (v := .bool false) (d := 142) rfl rfl (ex_pick (q := false) rfl (fun h => by cases h) (fun h => rfl)) ?_)
  refine Rg_end ?_
  refine V_false rfl rfl ?_
  refine V_skip rfl ?_
  refine V_seq rfl ?_
  refine V_region rfl ?_
  refine Rg_op rfl (o_val (v := .agg #[.int .i64 0, .int .i64 65535, .int .i64 1]) (d := 144) rfl rfl (ex_eq (by kernel_rfl)) ?_)
  refine Rg_op rfl (o_val (v := .agg #[.int .i64 1, .int .i64 65535, .int .i64 1]) (d := 145) rfl rfl (ex_eq (by kernel_rfl)) ?_)
  refine Rg_op rfl (o_val (v := .agg #[.int .i64 2, .int .i64 65535, .int .i64 1]) (d := 146) rfl rfl (ex_eq (by kernel_rfl)) ?_)
  refine Rg_op rfl (o_val (v := .agg #[.int .i64 3, .int .i64 65535, .int .i64 2]) (d := 147) rfl rfl (ex_eq (by kernel_rfl)) ?_)
  refine Rg_op rfl (o_lit (cs := [.int .i64 0, .int .i64 65535, .int .i64 1, .int .i64 1, .int .i64 65535, .int .i64 1, .int .i64 2, .int .i64 65535, .int .i64 1, .int .i64 3, .int .i64 65535, .int .i64 2]) (e := 113) rfl (fun W => by kernel_rfl) H fun b55 w56 hA H => ?_)
  refine Rg_op rfl (o_lit (cs := [.int .i64 0, .int .i64 1, .int .i64 2, .int .i64 3]) (e := 3) rfl (fun W => by kernel_rfl) H fun b57 w58 hA H => ?_)
  refine Rg_op rfl (o_call (fv := []) (cap := []) (vs := [.slice (some ⟨b55, 0, none⟩) 4 4, .slice (some ⟨b57, 0, none⟩) 4 4]) rfl rfl cl16 rfl (merge_c _ _ E4 _ _ [0, 1, 2, 3] _ (row_litF (zs := [(⟨0, 65535, 1⟩ : Entry), (⟨1, 65535, 1⟩ : Entry), (⟨2, 65535, 1⟩ : Entry), (⟨3, 65535, 2⟩ : Entry)]) (H.rd 1 rfl) rfl) (by decide) (row_litF (zs := [0, 1, 2, 3]) (H.rd 0 rfl) rfl) (by decide)) fun v w62 hS => ?_)
  obtain ⟨A60, c61, hv, hB, hN⟩ := hS
  rw [w_m] at hv
  rw [w_m] at hN
  subst hv
  have H := H.new hB hN
  refine Rg_op rfl (o_val (v := .tuple #[.slice A60 3 c61, .int .i64 0]) (d := 143) rfl rfl (ex_move rfl) ?_)
  refine Rg_op rfl (o_val (v := .slice A60 3 c61) (d := 151) rfl rfl (ex_extract rfl rfl) ?_)
  refine Rg_op rfl (o_val (v := .int .i64 0) (d := 152) rfl rfl (ex_extract rfl rfl) ?_)
  refine Rg_op rfl (o_val (v := .slice A60 3 c61) (d := 10) rfl rfl (ex_assign rfl) ?_)
  refine Rg_op rfl (o_val (v := .int .i64 0) (d := 3) rfl rfl (ex_assign rfl) ?_)
  refine Rg_end ?_
  refine V_seq rfl ?_
  refine V_region rfl ?_
  refine Rg_op rfl (o_val (v := .agg #[.int .i64 3, .int .i64 2, .int .i64 2]) (d := 154) rfl rfl (ex_loadN (vs := [.int .i64 3, .int .i64 2, .int .i64 2]) ca33 rfl rfl (blk_cells (H.rd 18 rfl) rfl)) ?_)
  refine Rg_op rfl (o_lit (cs := [.int .i64 0, .int .i64 0, .int .i64 9, .int .i64 0, .int .i64 0, .int .i64 0]) (e := 3) rfl (fun W => by kernel_rfl) H fun b63 w64 hA H => ?_)
  refine Rg_op rfl (o_call (fv := []) (cap := []) (vs := [.agg #[.int .i64 3, .int .i64 2, .int .i64 2], .slice (some ⟨b63, 0, none⟩) 6 6]) rfl rfl cl40 rfl (barrier_c S3 _ _ [0, 0, 9, 0, 0, 0] _ (row_litF (zs := [0, 0, 9, 0, 0, 0]) (H.rd 0 rfl) rfl) (by decide)) fun v w68 hS => ?_)
  obtain ⟨A66, c67, hv, hB, hN⟩ := hS
  rw [w_b] at hv
  rw [w_b] at hN
  subst hv
  have H := H.new hB hN
  refine Rg_op rfl (o_val (v := .tuple #[.slice A66 6 c67, .int .i64 0]) (d := 153) rfl rfl (ex_move rfl) ?_)
  refine Rg_op rfl (o_val (v := .slice A66 6 c67) (d := 157) rfl rfl (ex_extract rfl rfl) ?_)
  refine Rg_op rfl (o_val (v := .int .i64 0) (d := 158) rfl rfl (ex_extract rfl rfl) ?_)
  refine Rg_op rfl (o_val (v := .slice A66 6 c67) (d := 11) rfl rfl (ex_assign rfl) ?_)
  refine Rg_op rfl (o_val (v := .int .i64 0) (d := 5) rfl rfl (ex_assign rfl) ?_)
  refine Rg_end ?_
  refine V_seq rfl ?_
  refine V_region rfl ?_
  refine Rg_op rfl (o_val (v := .slice A60 3 c61) (d := 160) rfl rfl (ex_move rfl) ?_)
  refine Rg_op rfl (o_call (fv := []) (cap := []) (vs := [.slice A60 3 c61, .int .i64 3]) rfl rfl cl19 rfl (find_c _ _ E3 3 _ (own_row (H.pull 2 rfl rfl)).1 (by decide)) fun v w69 hS => ?_)
  obtain ⟨hv, hB⟩ := hS
  rw [w_f] at hv
  subst hv
  have H := H.keep hB
  refine Rg_op rfl (o_val (v := .tuple #[.int .i64 2, .bool true]) (d := 159) rfl rfl (ex_move rfl) ?_)
  refine Rg_op rfl (o_val (v := .int .i64 2) (d := 162) rfl rfl (ex_extract rfl rfl) ?_)
  refine Rg_op rfl (o_val (v := .bool true) (d := 163) rfl rfl (ex_extract rfl rfl) ?_)
  refine Rg_op rfl (o_val (v := .int .i64 2) (d := 12) rfl rfl (ex_assign rfl) ?_)
  refine Rg_op rfl (o_val (v := .bool true) (d := 13) rfl rfl (ex_assign rfl) ?_)
  refine Rg_end ?_
  refine V_seq rfl ?_
  refine V_region rfl ?_
  refine Rg_op rfl (o_val (v := .int .i64 0) (d := 164) rfl rfl (ex_move rfl) ?_)
  refine Rg_op rfl (o_val (v := .bool true) (d := 165) rfl rfl (ex_eq (by kernel_rfl)) ?_)
  refine Rg_op rfl (o_val (v := .bool true) (d := 166) rfl rfl (ex_move rfl) ?_)
  refine Rg_op rfl (o_valg (v := .int .i64 0) (d := 167) rfl rfl (wanted_yes (b := true) rfl rfl rfl rfl) (ex_move rfl) ?_)
  refine Rg_op rfl (o_valg (v := .bool true) (d := 168) rfl rfl (wanted_yes (b := true) rfl rfl rfl rfl) (ex_eq (by kernel_rfl)) ?_)
  refine Rg_op rfl (o_val (v := .bool true) (d := 169) rfl rfl (ex_pick (q := true) rfl (fun h => rfl) (fun h => by cases h)) ?_)
  refine Rg_op rfl (o_val (v := .bool true) (d := 170) rfl rfl (ex_move rfl) ?_)
  refine Rg_op rfl (o_valg (v := .slice A60 3 c61) (d := 171) rfl rfl (wanted_yes (b := true) rfl rfl rfl rfl) (ex_move rfl) ?_)
  refine Rg_op rfl (o_valg (v := .int .i64 ((3 : Nat) : Int)) (d := 172) rfl rfl (wanted_yes (b := true) rfl rfl rfl rfl) (ex_len (ts := #[]) sl41 rfl) ?_)
  refine Rg_op rfl (o_valg (v := .bool true) (d := 173) rfl rfl (wanted_yes (b := true) rfl rfl rfl rfl) (ex_eq (by kernel_rfl)) ?_)
  refine Rg_op rfl (o_val (v := .bool true) (d := 174) rfl rfl (ex_pick (q := true) rfl (fun h => rfl) (fun h => by cases h)) ?_)
  refine Rg_op rfl (o_val (v := .bool true) (d := 175) rfl rfl (ex_move rfl) ?_)
  refine Rg_op rfl (o_valg (v := .slice A60 3 c61) (d := 176) rfl rfl (wanted_yes (b := true) rfl rfl rfl rfl) (ex_move rfl) ?_)
  have hr70 := (own_row (H.pull 2 rfl rfl)).1
  obtain ⟨ad71, x71, cs71, hA71, hx71, hR71, hc71⟩ := Row.get hr70 0 ((by decide)) ((by decide))
  obtain rfl := hR71
  refine Rg_op rfl (o_valg (v := .pointer (some (ad71.add ((0 : Int).toNat * 3)))) (d := 177) rfl rfl (wanted_yes (b := true) rfl rfl rfl rfl) (ex_indexAddr sl41 rfl hA71 rfl ((by decide)) ((by decide)) rfl) ?_)
  refine Rg_op rfl (o_valg (v := .agg #[.int .i64 x71.Key, .int .i64 x71.Mask, .int .i64 x71.Outs]) (d := 178) rfl rfl (wanted_yes (b := true) rfl rfl rfl rfl) (ex_loadN (vs := [.int .i64 x71.Key, .int .i64 x71.Mask, .int .i64 x71.Outs]) ca113 rfl rfl (fun j u hj => by rw [add_add]; exact hc71 j u hj)) ?_)
  obtain rfl : x71 = (⟨0, 65534, 1⟩ : Entry) := (Option.some.inj hx71).symm
  refine Rg_op rfl (o_valg (v := .agg #[.int .i64 0, .int .i64 65534, .int .i64 1]) (d := 179) rfl rfl (wanted_yes (b := true) rfl rfl rfl rfl) (ex_eq (by kernel_rfl)) ?_)
  refine Rg_op rfl (o_valg (v := .bool true) (d := 180) rfl rfl (wanted_yes (b := true) rfl rfl rfl rfl) (ex_eq (by kernel_rfl)) ?_)
  refine Rg_op rfl (o_val (v := .bool true) (d := 181) rfl rfl (ex_pick (q := true) rfl (fun h => rfl) (fun h => by cases h)) ?_)
  refine Rg_op rfl (o_val (v := .bool true) (d := 182) rfl rfl (ex_move rfl) ?_)
  refine Rg_op rfl (o_valg (v := .slice A66 6 c67) (d := 183) rfl rfl (wanted_yes (b := true) rfl rfl rfl rfl) (ex_move rfl) ?_)
  refine Rg_op rfl (o_g (wanted_yes (b := true) rfl rfl rfl rfl) (o_lit (cs := [.int .i64 11, .int .i64 12, .int .i64 13, .int .i64 12, .int .i64 13, .int .i64 14]) (e := 3) rfl (fun W => by kernel_rfl) H fun b72 w73 hA H => ?_))
  refine Rg_op rfl (o_g (wanted_yes (b := true) rfl rfl rfl rfl) (o_call (fv := []) (cap := []) (vs := [.slice A66 6 c67, .slice (some ⟨b72, 0, none⟩) 6 6]) rfl rfl cl34 rfl (numbers_c _ _ ([11, 12, 13, 12, 13, 14]) _ _ ([11, 12, 13, 12, 13, 14]) _ (own_row (H.pull 1 rfl rfl)).1 (row_litF (zs := [11, 12, 13, 12, 13, 14]) (H.rd 0 rfl) rfl) (by first | omega | (simp only [List.length_append, List.length_cons, List.length_nil]; omega))) fun v w74 hS => ?_))
  obtain ⟨hv, hB⟩ := hS
  rw [decide_eq_true (by decide)] at hv
  subst hv
  have H := H.keep hB
  refine Rg_op rfl (o_val (v := .bool true) (d := 186) rfl rfl (ex_pick (q := true) rfl (fun h => rfl) (fun h => by cases h)) ?_)
  refine Rg_op rfl (o_val (v := .bool true) (d := 187) rfl rfl (ex_move rfl) ?_)
  refine Rg_op rfl (o_valg (v := .int .i64 2) (d := 188) rfl rfl (wanted_yes (b := true) rfl rfl rfl rfl) (ex_move rfl) ?_)
  refine Rg_op rfl (o_valg (v := .bool true) (d := 189) rfl rfl (wanted_yes (b := true) rfl rfl rfl rfl) (ex_eq (by kernel_rfl)) ?_)
  refine Rg_op rfl (o_val (v := .bool true) (d := 190) rfl rfl (ex_pick (q := true) rfl (fun h => rfl) (fun h => by cases h)) ?_)
  refine Rg_op rfl (o_val (v := .bool true) (d := 191) rfl rfl (ex_move rfl) ?_)
  refine Rg_op rfl (o_valg (v := .bool true) (d := 192) rfl rfl (wanted_yes (b := true) rfl rfl rfl rfl) (ex_move rfl) ?_)
  refine Rg_op rfl (o_val (v := .bool true) (d := 193) rfl rfl (ex_pick (q := true) rfl (fun h => rfl) (fun h => by cases h)) ?_)
  refine Rg_op rfl (o_val (v := .bool true) (d := 0) rfl rfl (ex_assign rfl) ?_)
  refine Rg_end ?_
  refine V_ret rfl (end0 (v := .bool true) rfl (res_tmp Try.results10 rfl) ?_)
  exact ⟨rfl, H.below⟩

end Go.Proofs.Ytlnogaoihkinbaa
namespace Go.Proofs.Ytlnogaoihkinbaa
open Go.Gk Go.RowKit
def on1 (d : Nat) : Nat := (d / 2 &&& 6148914691236517205) + (d &&& 6148914691236517205)
def on2 (d : Nat) : Nat := (d / 4 &&& 3689348814741910323) + (d &&& 3689348814741910323)
def on3 (d : Nat) : Nat := (d / 16 + d) &&& 1085102592571150095
def on4 (m : Nat) (d : Nat) : Nat := d + d / m
def onN (d : Nat) : Nat := on4 4294967296 (on4 65536 (on4 256 (on3 (on2 (on1 d))))) &&& 127
def pows : List Nat := [1, 2, 4, 8, 16, 32, 64, 128, 256, 512, 1024, 2048, 4096, 8192, 16384, 32768]
def okN (d : Nat) : Bool := !(Nat.beq (onN d) 1) || pows.contains d
def allN (p : Nat → Bool) : Nat → Bool
  | 0 => true
  | n + 1 => p n && allN p n
theorem allN_at {p : Nat → Bool} : ∀ {n : Nat}, allN p n = true → ∀ i, i < n → p i = true
  | n + 1, h, i, hi => by
    simp only [allN, Bool.and_eq_true] at h
    by_cases e : i = n
    · rw [e]; exact h.1
    · exact allN_at h.2 i (by omega)
theorem onN_all : allN okN 65536 = true := by kernel_rfl
theorem onN_pow : pows.all (fun d => Nat.beq (onN d) 1) = true := by kernel_rfl
theorem onN_iff {d : Nat} (h : d < 65536) : onN d = 1 ↔ d ∈ pows := by
  constructor
  · intro h1
    have := allN_at onN_all d h
    simp only [okN, Bool.or_eq_true, Bool.not_eq_true', List.contains_iff_mem] at this
    rcases this with this | this
    · rw [h1] at this; exact absurd this (by decide)
    · exact this
  · intro h1
    exact Nat.eq_of_beq_eq_true (List.all_eq_true.1 onN_pow d h1)
end Go.Proofs.Ytlnogaoihkinbaa
namespace Go.Proofs.Ytlnogaoihkinbaa
open Go.Gk Go.RowKit
theorem ofInt_nat {n a : Nat} (h : a < 2 ^ n) : (BitVec.ofInt n (a : Int)).toNat = a := by
  rw [BitVec.toNat_ofInt, ← Int.natCast_emod, Int.toNat_natCast, Nat.mod_eq_of_lt h]
theorem and_u64 {a b : Nat} (ha : a < 2 ^ 64) (hb : b < 2 ^ 64) : bAnd .u64 (a : Int) (b : Int) = ((a &&& b : Nat) : Int) := by
  have h1 : (BitVec.ofInt IntKind.u64.bits (a : Int) &&& BitVec.ofInt IntKind.u64.bits (b : Int)).toNat = a &&& b := by
    rw [BitVec.toNat_and, show (BitVec.ofInt IntKind.u64.bits (a : Int)).toNat = a from ofInt_nat (n := 64) ha, show (BitVec.ofInt IntKind.u64.bits (b : Int)).toNat = b from ofInt_nat (n := 64) hb]
  have h2 : a &&& b ≤ a := Nat.and_le_left
  unfold bAnd
  rw [h1]
  show ((a &&& b : Nat) : Int) % 18446744073709551616 = _
  omega
theorem wrap_i64 {a : Nat} (h : a < 2 ^ 63) : IntKind.i64.wrap (a : Int) = a := wrap_in (by omega)
theorem and_i64 {a b : Nat} (ha : a < 2 ^ 63) (hb : b < 2 ^ 63) : bAnd .i64 (a : Int) (b : Int) = ((a &&& b : Nat) : Int) := by
  have h1 : (BitVec.ofInt IntKind.i64.bits (a : Int) &&& BitVec.ofInt IntKind.i64.bits (b : Int)).toNat = a &&& b := by
    rw [BitVec.toNat_and, show (BitVec.ofInt IntKind.i64.bits (a : Int)).toNat = a from ofInt_nat (n := 64) (by omega), show (BitVec.ofInt IntKind.i64.bits (b : Int)).toNat = b from ofInt_nat (n := 64) (by omega)]
  have h2 : a &&& b ≤ a := Nat.and_le_left
  unfold bAnd
  rw [h1]
  exact wrap_i64 (by omega)
theorem xor_i64 {a b : Nat} (ha : a < 65536) (hb : b < 65536) : ∃ d : Nat, bXor .i64 (a : Int) (b : Int) = (d : Int) ∧ d < 65536 := by
  have h1 : (BitVec.ofInt IntKind.i64.bits (a : Int) ^^^ BitVec.ofInt IntKind.i64.bits (b : Int)).toNat = a ^^^ b := by
    rw [BitVec.toNat_xor, show (BitVec.ofInt IntKind.i64.bits (a : Int)).toNat = a from ofInt_nat (n := 64) (by omega), show (BitVec.ofInt IntKind.i64.bits (b : Int)).toNat = b from ofInt_nat (n := 64) (by omega)]
  have h2 : a ^^^ b < 2 ^ 16 := Nat.xor_lt_two_pow ha hb
  refine ⟨a ^^^ b, ?_, h2⟩
  unfold bXor
  rw [h1]
  exact wrap_i64 (by omega)
theorem andNot_i64 {a : Nat} (ha : a < 2 ^ 63) (b : Int) : ∃ d : Nat, bAndNot .i64 (a : Int) b = (d : Int) ∧ d ≤ a := by
  have h1 : (BitVec.ofInt IntKind.i64.bits (a : Int) &&& ~~~ BitVec.ofInt IntKind.i64.bits b).toNat ≤ a := by
    rw [BitVec.toNat_and, show (BitVec.ofInt IntKind.i64.bits (a : Int)).toNat = a from ofInt_nat (n := 64) (by omega)]
    exact Nat.and_le_left
  refine ⟨_, ?_, h1⟩
  unfold bAndNot
  exact wrap_i64 (by omega)
theorem bits_sub {n : Nat} (x y : BitVec n) : x &&& ~~~ y = 0#n ↔ x &&& y = x := by
  constructor <;> intro h <;> apply BitVec.eq_of_getLsbD_eq <;> intro i hi <;> have := congrArg (·.getLsbD i) h <;> simp [hi] at this ⊢ <;> cases hx : x.getLsbD i <;> cases hy : y.getLsbD i <;> simp_all
theorem sub_iff {a b : Nat} (ha : a < 2 ^ 63) (hb : b < 2 ^ 63) : bAndNot .i64 (a : Int) (b : Int) = 0 ↔ bAnd .i64 (a : Int) (b : Int) = a := by
  have e1 : ∀ z : BitVec 64, z.toNat < 2 ^ 63 → IntKind.i64.wrap (z.toNat : Int) = (z.toNat : Int) := fun z h => wrap_i64 h
  have hx : (BitVec.ofInt 64 (a : Int)).toNat = a := ofInt_nat (n := 64) (by omega)
  have l1 : (BitVec.ofInt 64 (a : Int) &&& ~~~ BitVec.ofInt 64 (b : Int)).toNat ≤ a := by rw [BitVec.toNat_and, hx]; exact Nat.and_le_left
  have l2 : (BitVec.ofInt 64 (a : Int) &&& BitVec.ofInt 64 (b : Int)).toNat ≤ a := by rw [BitVec.toNat_and, hx]; exact Nat.and_le_left
  show IntKind.i64.wrap ((BitVec.ofInt 64 (a : Int) &&& ~~~ BitVec.ofInt 64 (b : Int)).toNat : Int) = 0 ↔ IntKind.i64.wrap ((BitVec.ofInt 64 (a : Int) &&& BitVec.ofInt 64 (b : Int)).toNat : Int) = (a : Int)
  rw [e1 _ (by omega), e1 _ (by omega)]
  constructor
  · intro h
    have h0 : BitVec.ofInt 64 (a : Int) &&& ~~~ BitVec.ofInt 64 (b : Int) = 0#64 := BitVec.eq_of_toNat_eq (by simpa using h)
    rw [(bits_sub _ _).1 h0, hx]
  · intro h
    have h0 : BitVec.ofInt 64 (a : Int) &&& BitVec.ofInt 64 (b : Int) = BitVec.ofInt 64 (a : Int) := BitVec.eq_of_toNat_eq (by rw [hx]; exact_mod_cast h)
    rw [(bits_sub _ _).2 h0]
    rfl
theorem fd (d m : Nat) {q : Int} (hq : q = (m : Int)) : (d : Int).fdiv q = ((d / m : Nat) : Int) := by rw [hq]; exact (Int.ofNat_fdiv d m).symm
theorem wu {x : Nat} (h : x < 2 ^ 64) : IntKind.u64.wrap (x : Int) = (x : Int) := wrapU64 (by omega)
theorem ones1_nat {d : Nat} (h : d < 2 ^ 40) : ones1 (d : Int) = (on1 d : Int) ∧ on1 d ≤ 2 * d := by
  have l1 : d / 2 &&& 6148914691236517205 ≤ d / 2 := Nat.and_le_left
  have l2 : d &&& 6148914691236517205 ≤ d := Nat.and_le_left
  refine ⟨?_, by unfold on1; omega⟩
  have a1 := and_u64 (a := d / 2) (b := 6148914691236517205) (by omega) (by omega)
  have a2 := and_u64 (a := d) (b := 6148914691236517205) (by omega) (by omega)
  rw [ones1, fd d 2 (by decide)]
  show IntKind.u64.wrap (bAnd .u64 _ ((6148914691236517205 : Nat) : Int) + bAnd .u64 _ ((6148914691236517205 : Nat) : Int)) = _
  rw [a1, a2, ← Int.natCast_add, wu (by omega)]
  rfl
theorem ones2_nat {d : Nat} (h : d < 2 ^ 40) : ones2 (d : Int) = (on2 d : Int) ∧ on2 d ≤ 2 * d := by
  have l1 : d / 4 &&& 3689348814741910323 ≤ d / 4 := Nat.and_le_left
  have l2 : d &&& 3689348814741910323 ≤ d := Nat.and_le_left
  refine ⟨?_, by unfold on2; omega⟩
  have a1 := and_u64 (a := d / 4) (b := 3689348814741910323) (by omega) (by omega)
  have a2 := and_u64 (a := d) (b := 3689348814741910323) (by omega) (by omega)
  rw [ones2, fd d 4 (by decide)]
  show IntKind.u64.wrap (bAnd .u64 _ ((3689348814741910323 : Nat) : Int) + bAnd .u64 _ ((3689348814741910323 : Nat) : Int)) = _
  rw [a1, a2, ← Int.natCast_add, wu (by omega)]
  rfl
theorem ones3_nat {d : Nat} (h : d < 2 ^ 40) : ones3 (d : Int) = (on3 d : Int) ∧ on3 d ≤ 2 * d := by
  have l1 : (d / 16 + d) &&& 1085102592571150095 ≤ d / 16 + d := Nat.and_le_left
  refine ⟨?_, by unfold on3; omega⟩
  have a1 := and_u64 (a := d / 16 + d) (b := 1085102592571150095) (by omega) (by omega)
  rw [ones3, fd d 16 (by decide), ← Int.natCast_add, wu (by omega)]
  exact a1
theorem ones4_nat {d : Nat} (h : d < 2 ^ 40) {j m : Nat} (hm : (2 : Int) ^ min j IntKind.u64.bits = (m : Int)) : ones4 j (d : Int) = (on4 m d : Int) ∧ on4 m d ≤ 2 * d := by
  have l1 : d / m ≤ d := Nat.div_le_self _ _
  refine ⟨?_, by unfold on4; omega⟩
  rw [ones4, fd d m hm, ← Int.natCast_add, wu (by omega)]
  rfl
theorem ones_nat {d : Nat} (h : d < 65536) : ones (IntKind.u64.wrap (d : Int)) = (onN d : Int) := by
  rw [wu (by omega)]
  obtain ⟨h1, b1⟩ := ones1_nat (d := d) (by omega)
  obtain ⟨h2, b2⟩ := ones2_nat (d := on1 d) (by omega)
  obtain ⟨h3, b3⟩ := ones3_nat (d := on2 (on1 d)) (by omega)
  obtain ⟨h4, b4⟩ := ones4_nat (d := on3 (on2 (on1 d))) (by omega) (j := 8) (m := 256) (by decide)
  obtain ⟨h5, b5⟩ := ones4_nat (d := on4 256 (on3 (on2 (on1 d)))) (by omega) (j := 16) (m := 65536) (by decide)
  obtain ⟨h6, b6⟩ := ones4_nat (d := on4 65536 (on4 256 (on3 (on2 (on1 d))))) (by omega) (j := 32) (m := 4294967296) (by decide)
  rw [ones, h1, h2, h3, h4, h5, h6, wrap_i64 (by omega)]
  exact and_i64 (b := 127) (by omega) (by omega)
theorem bitR_pow {d : Nat} (h : d ∈ pows) : bitR (d : Int) = (d : Int) ∧ bitR (d : Int) ≠ 0 := by
  have : pows.all (fun d => decide (bitR (d : Int) = (d : Int) ∧ bitR (d : Int) ≠ 0)) = true := by kernel_rfl
  exact of_decide_eq_true (List.all_eq_true.1 this d h)
theorem bitR_not {d : Nat} (h : d ∉ pows) : bitR (d : Int) = 0 := bit_no fun i hi e => h (by
  have : d = 2 ^ i := by exact_mod_cast e
  subst this
  have : (List.range 16).all (fun i => pows.contains (2 ^ i)) = true := by kernel_rfl
  simpa using List.all_eq_true.1 this i (List.mem_range.2 hi))
theorem one_bit {d : Nat} (h : d < 65536) : (ones (IntKind.u64.wrap (d : Int)) = 1 ↔ bitR (d : Int) ≠ 0) ∧ (bitR (d : Int) ≠ 0 → bitR (d : Int) = d) := by
  rw [ones_nat h]
  by_cases hp : d ∈ pows
  · obtain ⟨h1, h2⟩ := bitR_pow hp
    exact ⟨⟨fun _ => h2, fun _ => by rw [(onN_iff h).2 hp]; rfl⟩, fun _ => h1⟩
  · rw [bitR_not hp]
    exact ⟨⟨fun h1 => absurd ((onN_iff h).1 (by omega)) hp, fun h2 => absurd rfl h2⟩, fun h2 => absurd rfl h2⟩
end Go.Proofs.Ytlnogaoihkinbaa
namespace Go.Proofs.Ytlnogaoihkinbaa
open Go.Gk Go.RowKit
def Ge (x : Entry) : Prop := (0 ≤ x.Key ∧ x.Key ≤ 65535) ∧ (0 ≤ x.Mask ∧ x.Mask ≤ 65535) ∧ 1 ≤ x.Outs
theorem nat_of {x m : Int} (h : 0 ≤ x ∧ x ≤ m) : ∃ n : Nat, x = (n : Int) ∧ (n : Int) ≤ m := ⟨x.toNat, by omega, by omega⟩
theorem ent_iff {x : Entry} (hk : x.Key ≤ 9223372036854775807) : ent x ↔ entR x := by
  obtain ⟨K, M, O⟩ := x
  simp only [ent, entR] at *
  constructor
  · rintro ⟨⟨⟨⟨h1, h2⟩, h3⟩, h4⟩, h5⟩
    obtain ⟨a, rfl, ha⟩ := nat_of (x := K) (m := 9223372036854775807) (by omega)
    obtain ⟨b, rfl, hb⟩ := nat_of (x := M) (m := 65535) (by omega)
    have h6 := (sub_iff (a := a) (b := b) (by omega) (by omega)).1 h3
    have h7 := and_i64 (a := a) (b := b) (by omega) (by omega)
    have h8 : a &&& b ≤ b := Nat.and_le_right
    rw [h6] at h7
    exact ⟨⟨⟨⟨⟨⟨by omega, by omega⟩, by omega⟩, by omega⟩, h6⟩, h4⟩, h5⟩
  · rintro ⟨⟨⟨⟨⟨⟨h1, h2⟩, h2'⟩, h2''⟩, h3⟩, h4⟩, h5⟩
    obtain ⟨a, rfl, ha⟩ := nat_of (x := K) (m := 65535) (by omega)
    obtain ⟨b, rfl, hb⟩ := nat_of (x := M) (m := 65535) (by omega)
    exact ⟨⟨⟨⟨by omega, by omega⟩, (sub_iff (a := a) (b := b) (by omega) (by omega)).2 h3⟩, h4⟩, h5⟩
theorem ge_of {x : Entry} (h : entR x) : Ge x := by
  obtain ⟨⟨⟨⟨⟨⟨h1, h2⟩, h2'⟩, h2''⟩, h3⟩, h4⟩, h5⟩ := h
  exact ⟨⟨h1, h2⟩, ⟨h2', h2''⟩, h4⟩
theorem diff_nat {x y : Entry} (hx : Ge x) (hy : Ge y) : ∃ d : Nat, diff x y = (d : Int) ∧ d < 65536 := by
  obtain ⟨a, ha, ha'⟩ := nat_of hx.1
  obtain ⟨b, hb, hb'⟩ := nat_of hy.1
  rw [diff, ha, hb]
  exact xor_i64 (by omega) (by omega)
theorem join_iff {x y : Entry} (hx : Ge x) (hy : Ge y) : canJoin x y = true ↔ ¬ noJoin x y := by
  obtain ⟨d, hd, hl⟩ := diff_nat hx hy
  have h1 := (one_bit hl).1
  simp only [canJoin, noJoin, decide_eq_true_eq, not_or, Decidable.not_not]
  rw [show bXor .i64 x.Key y.Key = diff x y from rfl, hd, h1, and_assoc]
theorem join_eq {x y : Entry} (hx : Ge x) (hy : Ge y) (h : canJoin x y = true) : joinE x y = joinR2 x y := by
  obtain ⟨d, hd, hl⟩ := diff_nat hx hy
  have h1 := (join_iff hx hy).1 h
  simp only [noJoin, not_or] at h1
  rw [show bXor .i64 x.Key y.Key = diff x y from rfl, hd] at h1
  have h2 := (one_bit hl).2 h1.2
  rw [joinE, if_pos h, joinR2, show bXor .i64 x.Key y.Key = diff x y from rfl, hd, h2]
theorem join_ge {x y : Entry} (hx : Ge x) (h : canJoin x y = true) : Ge (joinE x y) := by
  obtain ⟨a, ha, ha'⟩ := nat_of hx.1
  obtain ⟨b, hb, hb'⟩ := nat_of hx.2.1
  obtain ⟨d, hd, hd'⟩ := andNot_i64 (a := a) (by omega) (diff x y)
  obtain ⟨e, he, he'⟩ := andNot_i64 (a := b) (by omega) (diff x y)
  rw [joinE, if_pos h, ha, hb, hd, he]
  exact ⟨⟨by simp only []; omega, by simp only []; omega⟩, ⟨by simp only []; omega, by simp only []; omega⟩, hx.2.2⟩
theorem cand_eq {l : List Entry} (hg : ∀ x ∈ l, Ge x) (k j : Nat) : cand l k j = candR l k j ∧ ∀ t, cand l k j = some t → ∀ x ∈ t, Ge x := by
  unfold cand candR
  split
  · rename_i x y hx hy
    have gx := hg x (List.mem_of_getElem? hx)
    have gy := hg y (List.mem_of_getElem? hy)
    by_cases h : canJoin x y = true
    · rw [if_pos h, if_neg ((join_iff gx gy).1 h), join_eq gx gy h]
      refine ⟨rfl, fun t ht z hz => ?_⟩
      injection ht with ht
      subst ht
      rcases List.mem_or_eq_of_mem_set hz with hz | hz
      · exact hg z (List.mem_of_mem_eraseIdx hz)
      · rw [hz, ← join_eq gx gy h]; exact join_ge gx h
    · rw [if_neg h, if_pos (Decidable.of_not_not fun h2 => h ((join_iff gx gy).2 h2))]
      exact ⟨rfl, fun t ht => by cases ht⟩
  · rename_i h
    refine ⟨?_, fun t ht => by cases ht⟩
    rfl
theorem find_ge {t : List Entry} (hg : ∀ x ∈ t, Ge x) (k : Int) : find t k = ((find t k).1, decide ((find t k).1 ≠ 0)) := by
  unfold find
  split
  · rename_i x hx
    have := (hg x (List.mem_of_find?_eq_some hx)).2.2
    simp only [Prod.mk.injEq, true_and]
    exact (decide_eq_true (by omega)).symm
  · rfl
theorem found_outs {keys : List Int} {t : List Entry} (hg : ∀ x ∈ t, Ge x) : foundOf keys t = (outsOf keys t).map fun o => (o, decide (o ≠ 0)) := by
  rw [foundOf, outsOf, List.map_map]
  exact List.map_congr_left fun k _ => find_ge hg k
theorem outs_found (keys : List Int) (t : List Entry) : outsOf keys t = (foundOf keys t).map (·.1) := by
  rw [foundOf, outsOf, List.map_map]; rfl
theorem same_eq {keys : List Int} {l t : List Entry} (hl : ∀ x ∈ l, Ge x) (ht : ∀ x ∈ t, Ge x) : sameR keys l t = sameW keys (outsOf keys l) t := by
  unfold sameR sameW
  rw [decide_eq_decide]
  constructor
  · intro h; rw [outs_found, outs_found, h]
  · intro h; rw [found_outs hl, found_outs ht, h]
theorem cand2_eq {l : List Entry} (hg : ∀ x ∈ l, Ge x) (keys : List Int) (k j : Nat) : cand2 l (sameW keys (outsOf keys l)) k j = cand2R l keys k j := by
  unfold cand2 cand2R
  split
  · obtain ⟨h1, h2⟩ := cand_eq hg k j
    rw [← h1]
    cases hc : cand l k j with
    | none => rfl
    | some t => simp only [Option.filter, same_eq hg (h2 t hc)]
  · rfl
theorem joined_eq {l : List Entry} (hg : ∀ x ∈ l, Ge x) (keys : List Int) : joinedO l (sameW keys (outsOf keys l)) = stepO l keys := by
  unfold joinedO stepO
  congr 1
  funext k
  unfold rowJ rowJR
  congr 1
  funext j
  exact cand2_eq hg keys k j
theorem joined_some {l t : List Entry} (hg : ∀ x ∈ l, Ge x) {same : List Entry → Bool} (h : joinedO l same = some t) : (∀ x ∈ t, Ge x) ∧ same t = true := by
  obtain ⟨k, _, h1⟩ := List.exists_of_findSome?_eq_some h
  obtain ⟨j, _, h2⟩ := List.exists_of_findSome?_eq_some h1
  unfold cand2 at h2
  split at h2
  · obtain ⟨h3, h4⟩ := Option.filter_eq_some_iff.1 h2
    exact ⟨(cand_eq hg k j).2 t h3, h4⟩
  · cases h2
theorem merge_eqN (keys : List Int) : ∀ (n : Nat) (l : List Entry), (∀ x ∈ l, Ge x) → mergeN (sameW keys (outsOf keys l)) n l = mergeRN keys n l
  | 0, l, _ => rfl
  | n + 1, l, hg => by
    rw [mergeN, mergeRN, ← joined_eq hg]
    cases hj : joinedO l (sameW keys (outsOf keys l)) with
    | none => rfl
    | some t =>
      obtain ⟨h1, h2⟩ := joined_some hg hj
      have h3 : outsOf keys t = outsOf keys l := of_decide_eq_true h2
      simp only []
      rw [← h3]
      exact merge_eqN keys n t h1
theorem wanted_un {o : Oper} {ops : Array Oper} {σ : Env} {j dd : Nat} {q : Bool} (hg : o.guard = some (j, q)) (hd : (ops[j]?).bind (·.dst) = some dd) (hs : ev σ (.tmp dd) = undef) : Region.wanted o (yld ops σ) = false := by
  simp [Region.wanted, hg, yld, hd, hs, undef]
theorem mergeN_le {same : List Entry → Bool} : ∀ (n : Nat) (l : List Entry), (mergeN same n l).length ≤ l.length
  | 0, l => Nat.le_refl _
  | n + 1, l => by
    rw [mergeN]
    cases hj : joinedO l same with
    | none => exact Nat.le_refl _
    | some t =>
      have h1 := joined_len hj
      have h2 := mergeN_le (same := same) n t
      simp only []
      omega
theorem merge_le (l : List Entry) (keys : List Int) : (mergeP l keys).1.length ≤ l.length := by
  unfold mergeP
  (repeat' split) <;> first | exact Nat.zero_le _ | exact mergeN_le _ _
/-- Both merge alike. -/
theorem merge_eq {l : List Entry} {keys : List Int} (hr : ∀ x ∈ l, x.Key ≤ 9223372036854775807) : mergeP l keys = mergeRP l keys := by
  have h1 : l.any (fun x => !decide (ent x)) = l.any (fun x => !decide (entR x)) := by
    rw [Bool.eq_iff_iff, List.any_eq_true, List.any_eq_true]
    constructor <;> rintro ⟨x, hx, h⟩ <;> refine ⟨x, hx, ?_⟩ <;> simpa [ent_iff (hr x hx)] using h
  unfold mergeP mergeRP
  rw [h1]
  split
  · rfl
  · split
    · rfl
    · split
      · rfl
      · rename_i h2 h3
        rw [merge_eqN keys l.length l fun x hx => ge_of (Decidable.of_not_not fun h => h2 (List.any_eq_true.2 ⟨x, hx, by simpa using h⟩))]
end Go.Proofs.Ytlnogaoihkinbaa
namespace Go.Proofs.Ytlnogaoihkinbaa
open Go.Gk Go.RowKit
theorem cl10 : callable Try.prog 10 = true := by kernel_rfl
theorem cl18 : callable Try.prog 18 = true := by kernel_rfl
theorem merges_c (A : Option Addr) (c : Nat) (l : List Entry) (A1 : Option Addr) (c1 : Nat) (keys : List Int) (key : Int) (w0 : World) (hX : Row kEnt w0.cell? A l) (hl : l.length ≤ 9223372036854775807) (hK : Row kInt w0.cell? A1 keys) (hkl : keys.length ≤ 9223372036854775807) (hr : ∀ x ∈ l, x.Key ≤ 9223372036854775807) :
    Calls Try.prog 4 #[.slice A l.length c, .slice A1 keys.length c1, .int .i64 key] w0 fun e w' => ∃ v, e = .returned v ∧ (v = .bool true ∧ Below w0.heap.size w0 w') := by
  refine calls_of (n := 90) (l := [.slice A l.length c, .slice A1 keys.length c1, .int .i64 key]) Try.func4 rfl rfl rfl ?_
  have H := Hp.start w0
  refine V_seq rfl ?_
  refine V_region rfl ?_
  refine Rg_op rfl (o_val (v := .bool false) (d := 6) rfl rfl (ex_assign rfl) ?_)
  refine Rg_end ?_
  refine V_seq rfl ?_
  refine V_seq rfl ?_
  refine V_join (fun σ w => σ 0 = .slice A l.length c ∧ σ 1 = .slice A1 keys.length c1 ∧ σ 2 = .int .i64 key ∧ σ 6 = .bool false ∧ σ 42 = .bool (decide (((((40 < ((l.length : Nat) : Int)) ∧ (((l.length : Nat) : Int) ≤ 1024)) ∨ (1030 < ((l.length : Nat) : Int))) ∨ ((40 < ((keys.length : Nat) : Int)) ∧ (((keys.length : Nat) : Int) ≤ 1024))) ∨ (1030 < ((keys.length : Nat) : Int)))) ∧ σ 1000000 = undef ∧ Hp w0.heap.size w0 w []) ?_ (fun σ w hI => ?_)
  · skip
    refine V_region rfl ?_
    refine Rg_op rfl (o_val (v := .slice A l.length c) (d := 15) rfl rfl (ex_move rfl) ?_)
    refine Rg_op rfl (o_val (v := .int .i64 ((l.length : Nat) : Int)) (d := 16) rfl rfl (ex_len (ts := #[]) sl42 rfl) ?_)
    refine Rg_op rfl (o_val (v := .bool (decide (40 < ((l.length : Nat) : Int)))) (d := 17) rfl rfl (ex_gtr rfl rfl) ?_)
    refine Rg_op rfl (o_val (v := .bool (decide (40 < ((l.length : Nat) : Int)))) (d := 18) rfl rfl (ex_move rfl) ?_)
    by_cases hg1 : 40 < ((l.length : Nat) : Int)
    · skip
      refine Rg_op rfl (o_valg (v := .slice A l.length c) (d := 19) rfl rfl (wanted_yes (b := (decide (40 < ((l.length : Nat) : Int)))) rfl rfl rfl (decide_eq_true hg1)) (ex_move rfl) ?_)
      refine Rg_op rfl (o_valg (v := .int .i64 ((l.length : Nat) : Int)) (d := 20) rfl rfl (wanted_yes (b := (decide (40 < ((l.length : Nat) : Int)))) rfl rfl rfl (decide_eq_true hg1)) (ex_len (ts := #[]) sl42 rfl) ?_)
      refine Rg_op rfl (o_valg (v := .bool (decide (((l.length : Nat) : Int) ≤ 1024))) (d := 21) rfl rfl (wanted_yes (b := (decide (40 < ((l.length : Nat) : Int)))) rfl rfl rfl (decide_eq_true hg1)) (ex_leq rfl rfl) ?_)
      refine Rg_op rfl (o_val (v := .bool (decide (((l.length : Nat) : Int) ≤ 1024))) (d := 22) rfl rfl (ex_pick (q := (decide (40 < ((l.length : Nat) : Int)))) rfl (fun h => rfl) (fun h => absurd hg1 (of_decide_eq_false h))) ?_)
      refine Rg_op rfl (o_val (v := .bool (decide (((l.length : Nat) : Int) ≤ 1024))) (d := 23) rfl rfl (ex_move rfl) ?_)
      by_cases hg2 : ((l.length : Nat) : Int) ≤ 1024
      · skip
        refine Rg_op rfl (o_skip (d := 24) rfl rfl (wanted_no (b := (decide (((l.length : Nat) : Int) ≤ 1024))) rfl rfl rfl (decide_eq_true hg2)) ?_)
        refine Rg_op rfl (o_skip (d := 25) rfl rfl (wanted_no (b := (decide (((l.length : Nat) : Int) ≤ 1024))) rfl rfl rfl (decide_eq_true hg2)) ?_)
        refine Rg_op rfl (o_skip (d := 26) rfl rfl (wanted_no (b := (decide (((l.length : Nat) : Int) ≤ 1024))) rfl rfl rfl (decide_eq_true hg2)) ?_)
        refine Rg_op rfl (o_val (v := .bool true) (d := 27) rfl rfl (ex_pick (q := (decide (((l.length : Nat) : Int) ≤ 1024))) rfl (fun h => rfl) (fun h => absurd hg2 (of_decide_eq_false h))) ?_)
        refine Rg_op rfl (o_val (v := .bool true) (d := 28) rfl rfl (ex_move rfl) ?_)
        refine Rg_op rfl (o_skip (d := 29) rfl rfl (wanted_no (b := true) rfl rfl rfl rfl) ?_)
        refine Rg_op rfl (o_skip (d := 30) rfl rfl (wanted_no (b := true) rfl rfl rfl rfl) ?_)
        refine Rg_op rfl (o_skip (d := 31) rfl rfl (wanted_no (b := true) rfl rfl rfl rfl) ?_)
        refine Rg_op rfl (o_skip (d := 32) rfl rfl (wanted_no (b := true) rfl rfl rfl rfl) ?_)
        refine Rg_op rfl (o_skip (d := 33) rfl rfl (wanted_un rfl rfl rfl) ?_)
        refine Rg_op rfl (o_skip (d := 34) rfl rfl (wanted_un rfl rfl rfl) ?_)
        refine Rg_op rfl (o_skip (d := 35) rfl rfl (wanted_un rfl rfl rfl) ?_)
        refine Rg_op rfl (o_skip (d := 36) rfl rfl (wanted_no (b := true) rfl rfl rfl rfl) ?_)
        refine Rg_op rfl (o_val (v := .bool true) (d := 37) rfl rfl (ex_pick (q := true) rfl (fun h => rfl) (fun h => by cases h)) ?_)
        refine Rg_op rfl (o_val (v := .bool true) (d := 38) rfl rfl (ex_move rfl) ?_)
        refine Rg_op rfl (o_skip (d := 39) rfl rfl (wanted_no (b := true) rfl rfl rfl rfl) ?_)
        refine Rg_op rfl (o_skip (d := 40) rfl rfl (wanted_no (b := true) rfl rfl rfl rfl) ?_)
        refine Rg_op rfl (o_skip (d := 41) rfl rfl (wanted_no (b := true) rfl rfl rfl rfl) ?_)
        refine Rg_op rfl (o_val (v := .bool true) (d := 42) rfl rfl (ex_pick (q := true) rfl (fun h => rfl) (fun h => by cases h)) ?_)
        refine Rg_end ?_
        exact ⟨rfl, rfl, rfl, rfl, (show (.bool true : Value) = .bool (decide (((((40 < ((l.length : Nat) : Int)) ∧ (((l.length : Nat) : Int) ≤ 1024)) ∨ (1030 < ((l.length : Nat) : Int))) ∨ ((40 < ((keys.length : Nat) : Int)) ∧ (((keys.length : Nat) : Int) ≤ 1024))) ∨ (1030 < ((keys.length : Nat) : Int)))) from by first | (simp only [hg1, hg2, true_or, or_true, false_or, or_false, true_and, and_true, false_and, and_false, decide_true, decide_false, Bool.not_true, Bool.not_false]; done) | (simp [hg1, hg2]; done) | (simp [hg1, hg2]; rfl)), rfl, H⟩
      · skip
        refine Rg_op rfl (o_valg (v := .slice A l.length c) (d := 24) rfl rfl (wanted_yes (b := (decide (((l.length : Nat) : Int) ≤ 1024))) rfl rfl rfl (decide_eq_false hg2)) (ex_move rfl) ?_)
        refine Rg_op rfl (o_valg (v := .int .i64 ((l.length : Nat) : Int)) (d := 25) rfl rfl (wanted_yes (b := (decide (((l.length : Nat) : Int) ≤ 1024))) rfl rfl rfl (decide_eq_false hg2)) (ex_len (ts := #[]) sl42 rfl) ?_)
        refine Rg_op rfl (o_valg (v := .bool (decide (1030 < ((l.length : Nat) : Int)))) (d := 26) rfl rfl (wanted_yes (b := (decide (((l.length : Nat) : Int) ≤ 1024))) rfl rfl rfl (decide_eq_false hg2)) (ex_gtr rfl rfl) ?_)
        refine Rg_op rfl (o_val (v := .bool (decide (1030 < ((l.length : Nat) : Int)))) (d := 27) rfl rfl (ex_pick (q := (decide (((l.length : Nat) : Int) ≤ 1024))) rfl (fun h => absurd (of_decide_eq_true h) hg2) (fun h => rfl)) ?_)
        refine Rg_op rfl (o_val (v := .bool (decide (1030 < ((l.length : Nat) : Int)))) (d := 28) rfl rfl (ex_move rfl) ?_)
        by_cases hg3 : 1030 < ((l.length : Nat) : Int)
        · skip
          refine Rg_op rfl (o_skip (d := 29) rfl rfl (wanted_no (b := (decide (1030 < ((l.length : Nat) : Int)))) rfl rfl rfl (decide_eq_true hg3)) ?_)
          refine Rg_op rfl (o_skip (d := 30) rfl rfl (wanted_no (b := (decide (1030 < ((l.length : Nat) : Int)))) rfl rfl rfl (decide_eq_true hg3)) ?_)
          refine Rg_op rfl (o_skip (d := 31) rfl rfl (wanted_no (b := (decide (1030 < ((l.length : Nat) : Int)))) rfl rfl rfl (decide_eq_true hg3)) ?_)
          refine Rg_op rfl (o_skip (d := 32) rfl rfl (wanted_no (b := (decide (1030 < ((l.length : Nat) : Int)))) rfl rfl rfl (decide_eq_true hg3)) ?_)
          refine Rg_op rfl (o_skip (d := 33) rfl rfl (wanted_un rfl rfl rfl) ?_)
          refine Rg_op rfl (o_skip (d := 34) rfl rfl (wanted_un rfl rfl rfl) ?_)
          refine Rg_op rfl (o_skip (d := 35) rfl rfl (wanted_un rfl rfl rfl) ?_)
          refine Rg_op rfl (o_skip (d := 36) rfl rfl (wanted_no (b := (decide (1030 < ((l.length : Nat) : Int)))) rfl rfl rfl (decide_eq_true hg3)) ?_)
          refine Rg_op rfl (o_val (v := .bool true) (d := 37) rfl rfl (ex_pick (q := (decide (1030 < ((l.length : Nat) : Int)))) rfl (fun h => rfl) (fun h => absurd hg3 (of_decide_eq_false h))) ?_)
          refine Rg_op rfl (o_val (v := .bool true) (d := 38) rfl rfl (ex_move rfl) ?_)
          refine Rg_op rfl (o_skip (d := 39) rfl rfl (wanted_no (b := true) rfl rfl rfl rfl) ?_)
          refine Rg_op rfl (o_skip (d := 40) rfl rfl (wanted_no (b := true) rfl rfl rfl rfl) ?_)
          refine Rg_op rfl (o_skip (d := 41) rfl rfl (wanted_no (b := true) rfl rfl rfl rfl) ?_)
          refine Rg_op rfl (o_val (v := .bool true) (d := 42) rfl rfl (ex_pick (q := true) rfl (fun h => rfl) (fun h => by cases h)) ?_)
          refine Rg_end ?_
          exact ⟨rfl, rfl, rfl, rfl, (show (.bool true : Value) = .bool (decide (((((40 < ((l.length : Nat) : Int)) ∧ (((l.length : Nat) : Int) ≤ 1024)) ∨ (1030 < ((l.length : Nat) : Int))) ∨ ((40 < ((keys.length : Nat) : Int)) ∧ (((keys.length : Nat) : Int) ≤ 1024))) ∨ (1030 < ((keys.length : Nat) : Int)))) from by first | (simp only [hg1, hg2, hg3, true_or, or_true, false_or, or_false, true_and, and_true, false_and, and_false, decide_true, decide_false, Bool.not_true, Bool.not_false]; done) | (simp [hg1, hg2, hg3]; done) | (simp [hg1, hg2, hg3]; rfl)), rfl, H⟩
        · skip
          refine Rg_op rfl (o_valg (v := .slice A1 keys.length c1) (d := 29) rfl rfl (wanted_yes (b := (decide (1030 < ((l.length : Nat) : Int)))) rfl rfl rfl (decide_eq_false hg3)) (ex_move rfl) ?_)
          refine Rg_op rfl (o_valg (v := .int .i64 ((keys.length : Nat) : Int)) (d := 30) rfl rfl (wanted_yes (b := (decide (1030 < ((l.length : Nat) : Int)))) rfl rfl rfl (decide_eq_false hg3)) (ex_len (ts := #[]) sl26 rfl) ?_)
          refine Rg_op rfl (o_valg (v := .bool (decide (40 < ((keys.length : Nat) : Int)))) (d := 31) rfl rfl (wanted_yes (b := (decide (1030 < ((l.length : Nat) : Int)))) rfl rfl rfl (decide_eq_false hg3)) (ex_gtr rfl rfl) ?_)
          refine Rg_op rfl (o_valg (v := .bool (decide (40 < ((keys.length : Nat) : Int)))) (d := 32) rfl rfl (wanted_yes (b := (decide (1030 < ((l.length : Nat) : Int)))) rfl rfl rfl (decide_eq_false hg3)) (ex_move rfl) ?_)
          by_cases hg4 : 40 < ((keys.length : Nat) : Int)
          · skip
            refine Rg_op rfl (o_valg (v := .slice A1 keys.length c1) (d := 33) rfl rfl (wanted_yes (b := (decide (40 < ((keys.length : Nat) : Int)))) rfl rfl rfl (decide_eq_true hg4)) (ex_move rfl) ?_)
            refine Rg_op rfl (o_valg (v := .int .i64 ((keys.length : Nat) : Int)) (d := 34) rfl rfl (wanted_yes (b := (decide (40 < ((keys.length : Nat) : Int)))) rfl rfl rfl (decide_eq_true hg4)) (ex_len (ts := #[]) sl26 rfl) ?_)
            refine Rg_op rfl (o_valg (v := .bool (decide (((keys.length : Nat) : Int) ≤ 1024))) (d := 35) rfl rfl (wanted_yes (b := (decide (40 < ((keys.length : Nat) : Int)))) rfl rfl rfl (decide_eq_true hg4)) (ex_leq rfl rfl) ?_)
            refine Rg_op rfl (o_valg (v := .bool (decide (((keys.length : Nat) : Int) ≤ 1024))) (d := 36) rfl rfl (wanted_yes (b := (decide (1030 < ((l.length : Nat) : Int)))) rfl rfl rfl (decide_eq_false hg3)) (ex_pick (q := (decide (40 < ((keys.length : Nat) : Int)))) rfl (fun h => rfl) (fun h => absurd hg4 (of_decide_eq_false h))) ?_)
            refine Rg_op rfl (o_val (v := .bool (decide (((keys.length : Nat) : Int) ≤ 1024))) (d := 37) rfl rfl (ex_pick (q := (decide (1030 < ((l.length : Nat) : Int)))) rfl (fun h => absurd (of_decide_eq_true h) hg3) (fun h => rfl)) ?_)
            refine Rg_op rfl (o_val (v := .bool (decide (((keys.length : Nat) : Int) ≤ 1024))) (d := 38) rfl rfl (ex_move rfl) ?_)
            by_cases hg5 : ((keys.length : Nat) : Int) ≤ 1024
            · skip
              refine Rg_op rfl (o_skip (d := 39) rfl rfl (wanted_no (b := (decide (((keys.length : Nat) : Int) ≤ 1024))) rfl rfl rfl (decide_eq_true hg5)) ?_)
              refine Rg_op rfl (o_skip (d := 40) rfl rfl (wanted_no (b := (decide (((keys.length : Nat) : Int) ≤ 1024))) rfl rfl rfl (decide_eq_true hg5)) ?_)
              refine Rg_op rfl (o_skip (d := 41) rfl rfl (wanted_no (b := (decide (((keys.length : Nat) : Int) ≤ 1024))) rfl rfl rfl (decide_eq_true hg5)) ?_)
              refine Rg_op rfl (o_val (v := .bool true) (d := 42) rfl rfl (ex_pick (q := (decide (((keys.length : Nat) : Int) ≤ 1024))) rfl (fun h => rfl) (fun h => absurd hg5 (of_decide_eq_false h))) ?_)
              refine Rg_end ?_
              exact ⟨rfl, rfl, rfl, rfl, (show (.bool true : Value) = .bool (decide (((((40 < ((l.length : Nat) : Int)) ∧ (((l.length : Nat) : Int) ≤ 1024)) ∨ (1030 < ((l.length : Nat) : Int))) ∨ ((40 < ((keys.length : Nat) : Int)) ∧ (((keys.length : Nat) : Int) ≤ 1024))) ∨ (1030 < ((keys.length : Nat) : Int)))) from by first | (simp only [hg1, hg2, hg3, hg4, hg5, true_or, or_true, false_or, or_false, true_and, and_true, false_and, and_false, decide_true, decide_false, Bool.not_true, Bool.not_false]; done) | (simp [hg1, hg2, hg3, hg4, hg5]; done) | (simp [hg1, hg2, hg3, hg4, hg5]; rfl)), rfl, H⟩
            · skip
              refine Rg_op rfl (o_valg (v := .slice A1 keys.length c1) (d := 39) rfl rfl (wanted_yes (b := (decide (((keys.length : Nat) : Int) ≤ 1024))) rfl rfl rfl (decide_eq_false hg5)) (ex_move rfl) ?_)
              refine Rg_op rfl (o_valg (v := .int .i64 ((keys.length : Nat) : Int)) (d := 40) rfl rfl (wanted_yes (b := (decide (((keys.length : Nat) : Int) ≤ 1024))) rfl rfl rfl (decide_eq_false hg5)) (ex_len (ts := #[]) sl26 rfl) ?_)
              refine Rg_op rfl (o_valg (v := .bool (decide (1030 < ((keys.length : Nat) : Int)))) (d := 41) rfl rfl (wanted_yes (b := (decide (((keys.length : Nat) : Int) ≤ 1024))) rfl rfl rfl (decide_eq_false hg5)) (ex_gtr rfl rfl) ?_)
              refine Rg_op rfl (o_val (v := .bool (decide (1030 < ((keys.length : Nat) : Int)))) (d := 42) rfl rfl (ex_pick (q := (decide (((keys.length : Nat) : Int) ≤ 1024))) rfl (fun h => absurd (of_decide_eq_true h) hg5) (fun h => rfl)) ?_)
              refine Rg_end ?_
              exact ⟨rfl, rfl, rfl, rfl, (show (.bool (decide (1030 < ((keys.length : Nat) : Int))) : Value) = .bool (decide (((((40 < ((l.length : Nat) : Int)) ∧ (((l.length : Nat) : Int) ≤ 1024)) ∨ (1030 < ((l.length : Nat) : Int))) ∨ ((40 < ((keys.length : Nat) : Int)) ∧ (((keys.length : Nat) : Int) ≤ 1024))) ∨ (1030 < ((keys.length : Nat) : Int)))) from by first | (simp only [hg1, hg2, hg3, hg4, hg5, true_or, or_true, false_or, or_false, true_and, and_true, false_and, and_false, decide_true, decide_false, Bool.not_true, Bool.not_false]; done) | (simp [hg1, hg2, hg3, hg4, hg5]; done) | (simp [hg1, hg2, hg3, hg4, hg5]; rfl)), rfl, H⟩
          · skip
            refine Rg_op rfl (o_skip (d := 33) rfl rfl (wanted_no (b := (decide (40 < ((keys.length : Nat) : Int)))) rfl rfl rfl (decide_eq_false hg4)) ?_)
            refine Rg_op rfl (o_skip (d := 34) rfl rfl (wanted_no (b := (decide (40 < ((keys.length : Nat) : Int)))) rfl rfl rfl (decide_eq_false hg4)) ?_)
            refine Rg_op rfl (o_skip (d := 35) rfl rfl (wanted_no (b := (decide (40 < ((keys.length : Nat) : Int)))) rfl rfl rfl (decide_eq_false hg4)) ?_)
            refine Rg_op rfl (o_valg (v := .bool false) (d := 36) rfl rfl (wanted_yes (b := (decide (1030 < ((l.length : Nat) : Int)))) rfl rfl rfl (decide_eq_false hg3)) (ex_pick (q := (decide (40 < ((keys.length : Nat) : Int)))) rfl (fun h => absurd (of_decide_eq_true h) hg4) (fun h => rfl)) ?_)
            refine Rg_op rfl (o_val (v := .bool false) (d := 37) rfl rfl (ex_pick (q := (decide (1030 < ((l.length : Nat) : Int)))) rfl (fun h => absurd (of_decide_eq_true h) hg3) (fun h => rfl)) ?_)
            refine Rg_op rfl (o_val (v := .bool false) (d := 38) rfl rfl (ex_move rfl) ?_)
            refine Rg_op rfl (o_valg (v := .slice A1 keys.length c1) (d := 39) rfl rfl (wanted_yes (b := false) rfl rfl rfl rfl) (ex_move rfl) ?_)
            refine Rg_op rfl (o_valg (v := .int .i64 ((keys.length : Nat) : Int)) (d := 40) rfl rfl (wanted_yes (b := false) rfl rfl rfl rfl) (ex_len (ts := #[]) sl26 rfl) ?_)
            refine Rg_op rfl (o_valg (v := .bool (decide (1030 < ((keys.length : Nat) : Int)))) (d := 41) rfl rfl (wanted_yes (b := false) rfl rfl rfl rfl) (ex_gtr rfl rfl) ?_)
            refine Rg_op rfl (o_val (v := .bool (decide (1030 < ((keys.length : Nat) : Int)))) (d := 42) rfl rfl (ex_pick (q := false) rfl (fun h => by cases h) (fun h => rfl)) ?_)
            refine Rg_end ?_
            exact ⟨rfl, rfl, rfl, rfl, (show (.bool (decide (1030 < ((keys.length : Nat) : Int))) : Value) = .bool (decide (((((40 < ((l.length : Nat) : Int)) ∧ (((l.length : Nat) : Int) ≤ 1024)) ∨ (1030 < ((l.length : Nat) : Int))) ∨ ((40 < ((keys.length : Nat) : Int)) ∧ (((keys.length : Nat) : Int) ≤ 1024))) ∨ (1030 < ((keys.length : Nat) : Int)))) from by first | (simp only [hg1, hg2, hg3, hg4, true_or, or_true, false_or, or_false, true_and, and_true, false_and, and_false, decide_true, decide_false, Bool.not_true, Bool.not_false]; done) | (simp [hg1, hg2, hg3, hg4]; done) | (simp [hg1, hg2, hg3, hg4]; rfl)), rfl, H⟩
    · skip
      refine Rg_op rfl (o_skip (d := 19) rfl rfl (wanted_no (b := (decide (40 < ((l.length : Nat) : Int)))) rfl rfl rfl (decide_eq_false hg1)) ?_)
      refine Rg_op rfl (o_skip (d := 20) rfl rfl (wanted_no (b := (decide (40 < ((l.length : Nat) : Int)))) rfl rfl rfl (decide_eq_false hg1)) ?_)
      refine Rg_op rfl (o_skip (d := 21) rfl rfl (wanted_no (b := (decide (40 < ((l.length : Nat) : Int)))) rfl rfl rfl (decide_eq_false hg1)) ?_)
      refine Rg_op rfl (o_val (v := .bool false) (d := 22) rfl rfl (ex_pick (q := (decide (40 < ((l.length : Nat) : Int)))) rfl (fun h => absurd (of_decide_eq_true h) hg1) (fun h => rfl)) ?_)
      refine Rg_op rfl (o_val (v := .bool false) (d := 23) rfl rfl (ex_move rfl) ?_)
      refine Rg_op rfl (o_valg (v := .slice A l.length c) (d := 24) rfl rfl (wanted_yes (b := false) rfl rfl rfl rfl) (ex_move rfl) ?_)
      refine Rg_op rfl (o_valg (v := .int .i64 ((l.length : Nat) : Int)) (d := 25) rfl rfl (wanted_yes (b := false) rfl rfl rfl rfl) (ex_len (ts := #[]) sl42 rfl) ?_)
      refine Rg_op rfl (o_valg (v := .bool (decide (1030 < ((l.length : Nat) : Int)))) (d := 26) rfl rfl (wanted_yes (b := false) rfl rfl rfl rfl) (ex_gtr rfl rfl) ?_)
      refine Rg_op rfl (o_val (v := .bool (decide (1030 < ((l.length : Nat) : Int)))) (d := 27) rfl rfl (ex_pick (q := false) rfl (fun h => by cases h) (fun h => rfl)) ?_)
      refine Rg_op rfl (o_val (v := .bool (decide (1030 < ((l.length : Nat) : Int)))) (d := 28) rfl rfl (ex_move rfl) ?_)
      by_cases hg6 : 1030 < ((l.length : Nat) : Int)
      · skip
        refine Rg_op rfl (o_skip (d := 29) rfl rfl (wanted_no (b := (decide (1030 < ((l.length : Nat) : Int)))) rfl rfl rfl (decide_eq_true hg6)) ?_)
        refine Rg_op rfl (o_skip (d := 30) rfl rfl (wanted_no (b := (decide (1030 < ((l.length : Nat) : Int)))) rfl rfl rfl (decide_eq_true hg6)) ?_)
        refine Rg_op rfl (o_skip (d := 31) rfl rfl (wanted_no (b := (decide (1030 < ((l.length : Nat) : Int)))) rfl rfl rfl (decide_eq_true hg6)) ?_)
        refine Rg_op rfl (o_skip (d := 32) rfl rfl (wanted_no (b := (decide (1030 < ((l.length : Nat) : Int)))) rfl rfl rfl (decide_eq_true hg6)) ?_)
        refine Rg_op rfl (o_skip (d := 33) rfl rfl (wanted_un rfl rfl rfl) ?_)
        refine Rg_op rfl (o_skip (d := 34) rfl rfl (wanted_un rfl rfl rfl) ?_)
        refine Rg_op rfl (o_skip (d := 35) rfl rfl (wanted_un rfl rfl rfl) ?_)
        refine Rg_op rfl (o_skip (d := 36) rfl rfl (wanted_no (b := (decide (1030 < ((l.length : Nat) : Int)))) rfl rfl rfl (decide_eq_true hg6)) ?_)
        refine Rg_op rfl (o_val (v := .bool true) (d := 37) rfl rfl (ex_pick (q := (decide (1030 < ((l.length : Nat) : Int)))) rfl (fun h => rfl) (fun h => absurd hg6 (of_decide_eq_false h))) ?_)
        refine Rg_op rfl (o_val (v := .bool true) (d := 38) rfl rfl (ex_move rfl) ?_)
        refine Rg_op rfl (o_skip (d := 39) rfl rfl (wanted_no (b := true) rfl rfl rfl rfl) ?_)
        refine Rg_op rfl (o_skip (d := 40) rfl rfl (wanted_no (b := true) rfl rfl rfl rfl) ?_)
        refine Rg_op rfl (o_skip (d := 41) rfl rfl (wanted_no (b := true) rfl rfl rfl rfl) ?_)
        refine Rg_op rfl (o_val (v := .bool true) (d := 42) rfl rfl (ex_pick (q := true) rfl (fun h => rfl) (fun h => by cases h)) ?_)
        refine Rg_end ?_
        exact ⟨rfl, rfl, rfl, rfl, (show (.bool true : Value) = .bool (decide (((((40 < ((l.length : Nat) : Int)) ∧ (((l.length : Nat) : Int) ≤ 1024)) ∨ (1030 < ((l.length : Nat) : Int))) ∨ ((40 < ((keys.length : Nat) : Int)) ∧ (((keys.length : Nat) : Int) ≤ 1024))) ∨ (1030 < ((keys.length : Nat) : Int)))) from by first | (simp only [hg1, hg6, true_or, or_true, false_or, or_false, true_and, and_true, false_and, and_false, decide_true, decide_false, Bool.not_true, Bool.not_false]; done) | (simp [hg1, hg6]; done) | (simp [hg1, hg6]; rfl)), rfl, H⟩
      · skip
        refine Rg_op rfl (o_valg (v := .slice A1 keys.length c1) (d := 29) rfl rfl (wanted_yes (b := (decide (1030 < ((l.length : Nat) : Int)))) rfl rfl rfl (decide_eq_false hg6)) (ex_move rfl) ?_)
        refine Rg_op rfl (o_valg (v := .int .i64 ((keys.length : Nat) : Int)) (d := 30) rfl rfl (wanted_yes (b := (decide (1030 < ((l.length : Nat) : Int)))) rfl rfl rfl (decide_eq_false hg6)) (ex_len (ts := #[]) sl26 rfl) ?_)
        refine Rg_op rfl (o_valg (v := .bool (decide (40 < ((keys.length : Nat) : Int)))) (d := 31) rfl rfl (wanted_yes (b := (decide (1030 < ((l.length : Nat) : Int)))) rfl rfl rfl (decide_eq_false hg6)) (ex_gtr rfl rfl) ?_)
        refine Rg_op rfl (o_valg (v := .bool (decide (40 < ((keys.length : Nat) : Int)))) (d := 32) rfl rfl (wanted_yes (b := (decide (1030 < ((l.length : Nat) : Int)))) rfl rfl rfl (decide_eq_false hg6)) (ex_move rfl) ?_)
        by_cases hg7 : 40 < ((keys.length : Nat) : Int)
        · skip
          refine Rg_op rfl (o_valg (v := .slice A1 keys.length c1) (d := 33) rfl rfl (wanted_yes (b := (decide (40 < ((keys.length : Nat) : Int)))) rfl rfl rfl (decide_eq_true hg7)) (ex_move rfl) ?_)
          refine Rg_op rfl (o_valg (v := .int .i64 ((keys.length : Nat) : Int)) (d := 34) rfl rfl (wanted_yes (b := (decide (40 < ((keys.length : Nat) : Int)))) rfl rfl rfl (decide_eq_true hg7)) (ex_len (ts := #[]) sl26 rfl) ?_)
          refine Rg_op rfl (o_valg (v := .bool (decide (((keys.length : Nat) : Int) ≤ 1024))) (d := 35) rfl rfl (wanted_yes (b := (decide (40 < ((keys.length : Nat) : Int)))) rfl rfl rfl (decide_eq_true hg7)) (ex_leq rfl rfl) ?_)
          refine Rg_op rfl (o_valg (v := .bool (decide (((keys.length : Nat) : Int) ≤ 1024))) (d := 36) rfl rfl (wanted_yes (b := (decide (1030 < ((l.length : Nat) : Int)))) rfl rfl rfl (decide_eq_false hg6)) (ex_pick (q := (decide (40 < ((keys.length : Nat) : Int)))) rfl (fun h => rfl) (fun h => absurd hg7 (of_decide_eq_false h))) ?_)
          refine Rg_op rfl (o_val (v := .bool (decide (((keys.length : Nat) : Int) ≤ 1024))) (d := 37) rfl rfl (ex_pick (q := (decide (1030 < ((l.length : Nat) : Int)))) rfl (fun h => absurd (of_decide_eq_true h) hg6) (fun h => rfl)) ?_)
          refine Rg_op rfl (o_val (v := .bool (decide (((keys.length : Nat) : Int) ≤ 1024))) (d := 38) rfl rfl (ex_move rfl) ?_)
          by_cases hg8 : ((keys.length : Nat) : Int) ≤ 1024
          · skip
            refine Rg_op rfl (o_skip (d := 39) rfl rfl (wanted_no (b := (decide (((keys.length : Nat) : Int) ≤ 1024))) rfl rfl rfl (decide_eq_true hg8)) ?_)
            refine Rg_op rfl (o_skip (d := 40) rfl rfl (wanted_no (b := (decide (((keys.length : Nat) : Int) ≤ 1024))) rfl rfl rfl (decide_eq_true hg8)) ?_)
            refine Rg_op rfl (o_skip (d := 41) rfl rfl (wanted_no (b := (decide (((keys.length : Nat) : Int) ≤ 1024))) rfl rfl rfl (decide_eq_true hg8)) ?_)
            refine Rg_op rfl (o_val (v := .bool true) (d := 42) rfl rfl (ex_pick (q := (decide (((keys.length : Nat) : Int) ≤ 1024))) rfl (fun h => rfl) (fun h => absurd hg8 (of_decide_eq_false h))) ?_)
            refine Rg_end ?_
            exact ⟨rfl, rfl, rfl, rfl, (show (.bool true : Value) = .bool (decide (((((40 < ((l.length : Nat) : Int)) ∧ (((l.length : Nat) : Int) ≤ 1024)) ∨ (1030 < ((l.length : Nat) : Int))) ∨ ((40 < ((keys.length : Nat) : Int)) ∧ (((keys.length : Nat) : Int) ≤ 1024))) ∨ (1030 < ((keys.length : Nat) : Int)))) from by first | (simp only [hg1, hg6, hg7, hg8, true_or, or_true, false_or, or_false, true_and, and_true, false_and, and_false, decide_true, decide_false, Bool.not_true, Bool.not_false]; done) | (simp [hg1, hg6, hg7, hg8]; done) | (simp [hg1, hg6, hg7, hg8]; rfl)), rfl, H⟩
          · skip
            refine Rg_op rfl (o_valg (v := .slice A1 keys.length c1) (d := 39) rfl rfl (wanted_yes (b := (decide (((keys.length : Nat) : Int) ≤ 1024))) rfl rfl rfl (decide_eq_false hg8)) (ex_move rfl) ?_)
            refine Rg_op rfl (o_valg (v := .int .i64 ((keys.length : Nat) : Int)) (d := 40) rfl rfl (wanted_yes (b := (decide (((keys.length : Nat) : Int) ≤ 1024))) rfl rfl rfl (decide_eq_false hg8)) (ex_len (ts := #[]) sl26 rfl) ?_)
            refine Rg_op rfl (o_valg (v := .bool (decide (1030 < ((keys.length : Nat) : Int)))) (d := 41) rfl rfl (wanted_yes (b := (decide (((keys.length : Nat) : Int) ≤ 1024))) rfl rfl rfl (decide_eq_false hg8)) (ex_gtr rfl rfl) ?_)
            refine Rg_op rfl (o_val (v := .bool (decide (1030 < ((keys.length : Nat) : Int)))) (d := 42) rfl rfl (ex_pick (q := (decide (((keys.length : Nat) : Int) ≤ 1024))) rfl (fun h => absurd (of_decide_eq_true h) hg8) (fun h => rfl)) ?_)
            refine Rg_end ?_
            exact ⟨rfl, rfl, rfl, rfl, (show (.bool (decide (1030 < ((keys.length : Nat) : Int))) : Value) = .bool (decide (((((40 < ((l.length : Nat) : Int)) ∧ (((l.length : Nat) : Int) ≤ 1024)) ∨ (1030 < ((l.length : Nat) : Int))) ∨ ((40 < ((keys.length : Nat) : Int)) ∧ (((keys.length : Nat) : Int) ≤ 1024))) ∨ (1030 < ((keys.length : Nat) : Int)))) from by first | (simp only [hg1, hg6, hg7, hg8, true_or, or_true, false_or, or_false, true_and, and_true, false_and, and_false, decide_true, decide_false, Bool.not_true, Bool.not_false]; done) | (simp [hg1, hg6, hg7, hg8]; done) | (simp [hg1, hg6, hg7, hg8]; rfl)), rfl, H⟩
        · skip
          refine Rg_op rfl (o_skip (d := 33) rfl rfl (wanted_no (b := (decide (40 < ((keys.length : Nat) : Int)))) rfl rfl rfl (decide_eq_false hg7)) ?_)
          refine Rg_op rfl (o_skip (d := 34) rfl rfl (wanted_no (b := (decide (40 < ((keys.length : Nat) : Int)))) rfl rfl rfl (decide_eq_false hg7)) ?_)
          refine Rg_op rfl (o_skip (d := 35) rfl rfl (wanted_no (b := (decide (40 < ((keys.length : Nat) : Int)))) rfl rfl rfl (decide_eq_false hg7)) ?_)
          refine Rg_op rfl (o_valg (v := .bool false) (d := 36) rfl rfl (wanted_yes (b := (decide (1030 < ((l.length : Nat) : Int)))) rfl rfl rfl (decide_eq_false hg6)) (ex_pick (q := (decide (40 < ((keys.length : Nat) : Int)))) rfl (fun h => absurd (of_decide_eq_true h) hg7) (fun h => rfl)) ?_)
          refine Rg_op rfl (o_val (v := .bool false) (d := 37) rfl rfl (ex_pick (q := (decide (1030 < ((l.length : Nat) : Int)))) rfl (fun h => absurd (of_decide_eq_true h) hg6) (fun h => rfl)) ?_)
          refine Rg_op rfl (o_val (v := .bool false) (d := 38) rfl rfl (ex_move rfl) ?_)
          refine Rg_op rfl (o_valg (v := .slice A1 keys.length c1) (d := 39) rfl rfl (wanted_yes (b := false) rfl rfl rfl rfl) (ex_move rfl) ?_)
          refine Rg_op rfl (o_valg (v := .int .i64 ((keys.length : Nat) : Int)) (d := 40) rfl rfl (wanted_yes (b := false) rfl rfl rfl rfl) (ex_len (ts := #[]) sl26 rfl) ?_)
          refine Rg_op rfl (o_valg (v := .bool (decide (1030 < ((keys.length : Nat) : Int)))) (d := 41) rfl rfl (wanted_yes (b := false) rfl rfl rfl rfl) (ex_gtr rfl rfl) ?_)
          refine Rg_op rfl (o_val (v := .bool (decide (1030 < ((keys.length : Nat) : Int)))) (d := 42) rfl rfl (ex_pick (q := false) rfl (fun h => by cases h) (fun h => rfl)) ?_)
          refine Rg_end ?_
          exact ⟨rfl, rfl, rfl, rfl, (show (.bool (decide (1030 < ((keys.length : Nat) : Int))) : Value) = .bool (decide (((((40 < ((l.length : Nat) : Int)) ∧ (((l.length : Nat) : Int) ≤ 1024)) ∨ (1030 < ((l.length : Nat) : Int))) ∨ ((40 < ((keys.length : Nat) : Int)) ∧ (((keys.length : Nat) : Int) ≤ 1024))) ∨ (1030 < ((keys.length : Nat) : Int)))) from by first | (simp only [hg1, hg6, hg7, true_or, or_true, false_or, or_false, true_and, and_true, false_and, and_false, decide_true, decide_false, Bool.not_true, Bool.not_false]; done) | (simp [hg1, hg6, hg7]; done) | (simp [hg1, hg6, hg7]; rfl)), rfl, H⟩
  obtain ⟨s0, s1, s2, s6, s42, s1000000, H⟩ := hI
  refine V_cond (b := (decide (((((40 < ((l.length : Nat) : Int)) ∧ (((l.length : Nat) : Int) ≤ 1024)) ∨ (1030 < ((l.length : Nat) : Int))) ∨ ((40 < ((keys.length : Nat) : Int)) ∧ (((keys.length : Nat) : Int) ≤ 1024))) ∨ (1030 < ((keys.length : Nat) : Int))))) rfl s42 (fun hb9 => ?_) (fun hb9 => ?_)
  · have hb9 : ((((40 < ((l.length : Nat) : Int)) ∧ (((l.length : Nat) : Int) ≤ 1024)) ∨ (1030 < ((l.length : Nat) : Int))) ∨ ((40 < ((keys.length : Nat) : Int)) ∧ (((keys.length : Nat) : Int) ≤ 1024))) ∨ (1030 < ((keys.length : Nat) : Int)) := of_decide_eq_true hb9
    refine V_seq rfl ?_
    refine V_region rfl ?_
    refine Rg_op rfl (o_call (fv := []) (cap := []) (vs := []) rfl rfl cl10 rfl (works_c _) fun v w10 hS => ?_)
    obtain ⟨rfl, hB⟩ := hS
    have H := H.keep hB
    refine Rg_op rfl (o_val (v := .bool true) (d := 6) rfl rfl (ex_assign rfl) ?_)
    refine Rg_end ?_
    refine V_ret rfl (end0 (v := .bool true) s1000000 (res_tmp Try.results4 rfl) ?_)
    exact ⟨rfl, H.below⟩
  · have hb9 : ¬ (((((40 < ((l.length : Nat) : Int)) ∧ (((l.length : Nat) : Int) ≤ 1024)) ∨ (1030 < ((l.length : Nat) : Int))) ∨ ((40 < ((keys.length : Nat) : Int)) ∧ (((keys.length : Nat) : Int) ≤ 1024))) ∨ (1030 < ((keys.length : Nat) : Int))) := of_decide_eq_false hb9
    refine V_skip rfl ?_
    refine V_seq rfl ?_
    refine V_region rfl ?_
    refine Rg_op rfl (o_val (v := .slice A l.length c) (d := 45) rfl rfl (ex_move s0) ?_)
    refine Rg_op rfl (o_call (fv := []) (cap := []) (vs := [.slice A l.length c]) rfl rfl cl17 rfl (table_c _ _ l _ (hX.mono (fun _ _ h => H.cell0 h)) (by omega)) fun v w14 hS => ?_)
    obtain ⟨A12, c13, rfl, hB, hN⟩ := hS
    have H := H.new hB hN
    refine Rg_op rfl (o_val (v := .slice A1 keys.length c1) (d := 47) rfl rfl (ex_move s1) ?_)
    refine Rg_op rfl (o_call (fv := []) (cap := []) (vs := [.slice A12 l.length c13, .slice A1 keys.length c1]) rfl rfl cl16 rfl (merge_c _ _ l _ _ keys _ (own_row (H.pull 0 rfl rfl)).1 (by omega) (hK.mono (fun _ _ h => H.cell0 h)) (by omega)) fun v w18 hS => ?_)
    obtain ⟨A16, c17, rfl, hB, hN⟩ := hS
    have H := H.new hB hN
    refine Rg_op rfl (o_val (v := .tuple #[.slice A16 (((mergeP l keys).1).length) c17, .int .i64 ((mergeP l keys).2)]) (d := 44) rfl rfl (ex_move rfl) ?_)
    refine Rg_op rfl (o_val (v := .slice A16 (((mergeP l keys).1).length) c17) (d := 49) rfl rfl (ex_extract rfl rfl) ?_)
    refine Rg_op rfl (o_val (v := .int .i64 ((mergeP l keys).2)) (d := 50) rfl rfl (ex_extract rfl rfl) ?_)
    refine Rg_op rfl (o_val (v := .slice A16 (((mergeP l keys).1).length) c17) (d := 7) rfl rfl (ex_assign rfl) ?_)
    refine Rg_op rfl (o_val (v := .int .i64 ((mergeP l keys).2)) (d := 8) rfl rfl (ex_assign rfl) ?_)
    refine Rg_end ?_
    refine V_seq rfl ?_
    refine V_region rfl ?_
    refine Rg_op rfl (o_val (v := .slice A l.length c) (d := 52) rfl rfl (ex_move s0) ?_)
    refine Rg_op rfl (o_val (v := .slice A1 keys.length c1) (d := 53) rfl rfl (ex_move s1) ?_)
    refine Rg_op rfl (o_call (fv := []) (cap := []) (vs := [.slice A l.length c, .slice A1 keys.length c1]) rfl rfl cl18 rfl (mergeR_c _ _ l _ _ keys _ (hX.mono (fun _ _ h => H.cell0 h)) (by omega) (hK.mono (fun _ _ h => H.cell0 h)) (by omega)) fun v w22 hS => ?_)
    obtain ⟨A20, c21, rfl, hB, hN⟩ := hS
    have H := H.new hB hN
    refine Rg_op rfl (o_val (v := .tuple #[.slice A20 (((mergeRP l keys).1).length) c21, .int .i64 ((mergeRP l keys).2)]) (d := 51) rfl rfl (ex_move rfl) ?_)
    refine Rg_op rfl (o_val (v := .slice A20 (((mergeRP l keys).1).length) c21) (d := 55) rfl rfl (ex_extract rfl rfl) ?_)
    refine Rg_op rfl (o_val (v := .int .i64 ((mergeRP l keys).2)) (d := 56) rfl rfl (ex_extract rfl rfl) ?_)
    refine Rg_op rfl (o_val (v := .slice A20 (((mergeRP l keys).1).length) c21) (d := 9) rfl rfl (ex_assign rfl) ?_)
    refine Rg_op rfl (o_val (v := .int .i64 ((mergeRP l keys).2)) (d := 10) rfl rfl (ex_assign rfl) ?_)
    refine Rg_end ?_
    refine V_seq rfl ?_
    refine V_seq rfl ?_
    refine V_region rfl ?_
    refine Rg_op rfl (o_val (v := .slice A16 (((mergeP l keys).1).length) c17) (d := 57) rfl rfl (ex_move rfl) ?_)
    refine Rg_op rfl (o_val (v := .slice A20 (((mergeRP l keys).1).length) c21) (d := 58) rfl rfl (ex_move rfl) ?_)
    have hml9 := merge_le l keys
    refine Rg_op rfl (o_call (fv := []) (cap := []) (vs := [.slice A16 (((mergeP l keys).1).length) c17, .slice A20 (((mergeRP l keys).1).length) c21]) rfl rfl cl15 rfl (entries_c _ _ ((mergeP l keys).1) _ _ ((mergeRP l keys).1) _ (own_row (H.pull 1 rfl rfl)).1 (own_row (H.pull 0 rfl rfl)).1 (by omega)) fun v w23 hS => ?_)
    obtain ⟨hv, hB⟩ := hS
    rw [decide_eq_true (by rw [merge_eq hr])] at hv
    subst hv
    have H := H.keep hB
    refine Rg_op rfl (o_val (v := .bool false) (d := 60) rfl rfl (ex_not (q := true) rfl) ?_)
    refine Rg_op rfl (o_val (v := .bool false) (d := 61) rfl rfl (ex_move rfl) ?_)
    refine Rg_op rfl (o_valg (v := .int .i64 ((mergeP l keys).2)) (d := 62) rfl rfl (wanted_yes (b := false) rfl rfl rfl rfl) (ex_move rfl) ?_)
    refine Rg_op rfl (o_valg (v := .int .i64 ((mergeRP l keys).2)) (d := 63) rfl rfl (wanted_yes (b := false) rfl rfl rfl rfl) (ex_move rfl) ?_)
    refine Rg_op rfl (o_valg (v := .bool (decide (((mergeP l keys).2) ≠ ((mergeRP l keys).2)))) (d := 64) rfl rfl (wanted_yes (b := false) rfl rfl rfl rfl) (ex_neq rfl rfl) ?_)
    refine Rg_op rfl (o_val (v := .bool (decide (((mergeP l keys).2) ≠ ((mergeRP l keys).2)))) (d := 65) rfl rfl (ex_pick (q := false) rfl (fun h => by cases h) (fun h => rfl)) ?_)
    refine Rg_end ?_
    refine V_cond (b := (decide (((mergeP l keys).2) ≠ ((mergeRP l keys).2)))) rfl rfl (fun hb24 => ?_) (fun hb24 => ?_)
    · have hb24 : ((mergeP l keys).2) ≠ ((mergeRP l keys).2) := of_decide_eq_true hb24
      exact (hb24 (by rw [merge_eq hr])).elim
    · have hb24 : ¬ (((mergeP l keys).2) ≠ ((mergeRP l keys).2)) := of_decide_eq_false hb24
      refine V_skip rfl ?_
      refine V_seq rfl ?_
      refine V_region rfl ?_
      refine Rg_op rfl (o_val (v := .slice A l.length c) (d := 67) rfl rfl (ex_move s0) ?_)
      refine Rg_op rfl (o_call (fv := []) (cap := []) (vs := [.slice A l.length c]) rfl rfl cl17 rfl (table_c _ _ l _ (hX.mono (fun _ _ h => H.cell0 h)) (by omega)) fun v w28 hS => ?_)
      obtain ⟨A26, c27, rfl, hB, hN⟩ := hS
      have H := H.new hB hN
      refine Rg_op rfl (o_val (v := .int .i64 key) (d := 69) rfl rfl (ex_move s2) ?_)
      refine Rg_op rfl (o_call (fv := []) (cap := []) (vs := [.slice A26 l.length c27, .int .i64 key]) rfl rfl cl19 rfl (find_c _ _ l key _ (own_row (H.pull 0 rfl rfl)).1 (by omega)) fun v w29 hS => ?_)
      obtain ⟨rfl, hB⟩ := hS
      have H := H.keep hB
      refine Rg_op rfl (o_val (v := .tuple #[.int .i64 ((find l key).1), .bool ((find l key).2)]) (d := 66) rfl rfl (ex_move rfl) ?_)
      refine Rg_op rfl (o_val (v := .int .i64 ((find l key).1)) (d := 71) rfl rfl (ex_extract rfl rfl) ?_)
      refine Rg_op rfl (o_val (v := .bool ((find l key).2)) (d := 72) rfl rfl (ex_extract rfl rfl) ?_)
      refine Rg_op rfl (o_val (v := .int .i64 ((find l key).1)) (d := 11) rfl rfl (ex_assign rfl) ?_)
      refine Rg_op rfl (o_val (v := .bool ((find l key).2)) (d := 12) rfl rfl (ex_assign rfl) ?_)
      refine Rg_end ?_
      refine V_seq rfl ?_
      refine V_region rfl ?_
      refine Rg_op rfl (o_val (v := .slice A l.length c) (d := 74) rfl rfl (ex_move s0) ?_)
      refine Rg_op rfl (o_val (v := .int .i64 key) (d := 75) rfl rfl (ex_move s2) ?_)
      refine Rg_op rfl (o_call (fv := []) (cap := []) (vs := [.slice A l.length c, .int .i64 key]) rfl rfl cl20 rfl (findR_c _ _ l key _ (hX.mono (fun _ _ h => H.cell0 h)) (by omega)) fun v w30 hS => ?_)
      obtain ⟨rfl, hB⟩ := hS
      have H := H.keep hB
      refine Rg_op rfl (o_val (v := .tuple #[.int .i64 ((find l key).1), .bool ((find l key).2)]) (d := 73) rfl rfl (ex_move rfl) ?_)
      refine Rg_op rfl (o_val (v := .int .i64 ((find l key).1)) (d := 77) rfl rfl (ex_extract rfl rfl) ?_)
      refine Rg_op rfl (o_val (v := .bool ((find l key).2)) (d := 78) rfl rfl (ex_extract rfl rfl) ?_)
      refine Rg_op rfl (o_val (v := .int .i64 ((find l key).1)) (d := 13) rfl rfl (ex_assign rfl) ?_)
      refine Rg_op rfl (o_val (v := .bool ((find l key).2)) (d := 14) rfl rfl (ex_assign rfl) ?_)
      refine Rg_end ?_
      refine V_seq rfl ?_
      refine V_region rfl ?_
      refine Rg_op rfl (o_val (v := .int .i64 ((find l key).1)) (d := 79) rfl rfl (ex_move rfl) ?_)
      refine Rg_op rfl (o_val (v := .int .i64 ((find l key).1)) (d := 80) rfl rfl (ex_move rfl) ?_)
      refine Rg_op rfl (o_val (v := .bool true) (d := 81) rfl rfl (by rw [show (Value.bool true : Value) = .bool (decide (((find l key).1) = ((find l key).1))) from by rw [decide_eq_true rfl]]; exact ex_eql rfl rfl) ?_)
      refine Rg_op rfl (o_val (v := .bool true) (d := 82) rfl rfl (ex_move rfl) ?_)
      refine Rg_op rfl (o_valg (v := .bool ((find l key).2)) (d := 83) rfl rfl (wanted_yes (b := true) rfl rfl rfl rfl) (ex_move rfl) ?_)
      refine Rg_op rfl (o_valg (v := .bool ((find l key).2)) (d := 84) rfl rfl (wanted_yes (b := true) rfl rfl rfl rfl) (ex_move rfl) ?_)
      refine Rg_op rfl (o_valg (v := .bool true) (d := 85) rfl rfl (wanted_yes (b := true) rfl rfl rfl rfl) (by rw [show (Value.bool true : Value) = .bool (((find l key).2) == ((find l key).2)) from by rw [beq_self_eq_true]]; exact ex_eqlb Try.underlying4 rfl rfl) ?_)
      refine Rg_op rfl (o_val (v := .bool true) (d := 86) rfl rfl (ex_pick (q := true) rfl (fun h => rfl) (fun h => by cases h)) ?_)
      refine Rg_op rfl (o_val (v := .bool true) (d := 87) rfl rfl (ex_move rfl) ?_)
      refine Rg_op rfl (o_g (wanted_yes (b := true) rfl rfl rfl rfl) (o_call (fv := []) (cap := []) (vs := []) rfl rfl cl10 rfl (works_c _) fun v w31 hS => ?_))
      obtain ⟨rfl, hB⟩ := hS
      have H := H.keep hB
      refine Rg_op rfl (o_val (v := .bool true) (d := 89) rfl rfl (ex_pick (q := true) rfl (fun h => rfl) (fun h => by cases h)) ?_)
      refine Rg_op rfl (o_val (v := .bool true) (d := 6) rfl rfl (ex_assign rfl) ?_)
      refine Rg_end ?_
      refine V_ret rfl (end0 (v := .bool true) s1000000 (res_tmp Try.results4 rfl) ?_)
      exact ⟨rfl, H.below⟩

end Go.Proofs.Ytlnogaoihkinbaa
namespace Go.Proofs.Ytlnogaoihkinbaa
open Go.Gk Go.RowKit Go.ChangeShapes Go.WideShapes Go.ChangeAt
theorem ownT : ownKnob Try.prog.godebug = none := by kernel_rfl
theorem laidOutT : laidOutB Try.prog = true := by kernel_rfl
/-- What is read at a type is a datum of a kind, and a fitting one. -/
def Op {α : Type} (P : Program) (t : TypeId) (d : Kd α) (ok : α → Prop) : Prop :=
  ∀ {H : Type} {enc : TypeId × Value → H} {w : World} {base : Nat} {spare : Nat → Bool} {held : Bool} {fuel : Nat} {cs : List Value} {x : DataW H × List MemPlace}, DataW.trod enc P w base spare held fuel t cs = some x → ∃ z, d.R w.cell? z cs ∧ ok z
def In64 (x : Int) : Prop := -9223372036854775808 ≤ x ∧ x ≤ 9223372036854775807
theorem in64_of {n : Int} (h : (Lit.int .i64 n).wf = true) : In64 n := by
  simp [Lit.wf, IntKind.min, IntKind.max, IntKind.signed, IntKind.bits] at h
  unfold In64
  omega
theorem op_i64 {P : Program} {t : TypeId} (ht : P.underlying t = some (.int .i64)) : Op P t kInt In64 := fun h => by
  obtain ⟨n, hc, _, hw⟩ := DataW.trod_int ht h
  exact ⟨n, hc, in64_of hw⟩
theorem list_of {α : Type} {p : Nat → α → Prop} : ∀ {n : Nat}, (∀ i, i < n → ∃ z, p i z) → ∃ xs : List α, xs.length = n ∧ ∀ i z, xs[i]? = some z → p i z
  | 0, _ => ⟨[], rfl, fun i z h => by simp at h⟩
  | n + 1, h => by
    obtain ⟨xs, hl, hx⟩ := list_of (n := n) fun i hi => h i (by omega)
    obtain ⟨z, hz⟩ := h n (by omega)
    refine ⟨xs ++ [z], by simp [hl], fun i y hy => ?_⟩
    by_cases hi : i < n
    · rw [List.getElem?_append_left (by omega)] at hy; exact hx i y hy
    · have := (List.getElem?_eq_some_iff.1 hy).1
      simp only [List.length_append, List.length_cons, List.length_nil] at this
      have e : i = n := by omega
      subst e
      rw [List.getElem?_append_right (by omega)] at hy
      simp [hl] at hy
      rw [← hy]; exact hz
theorem op_slice {α : Type} {P : Program} {t e : TypeId} {d : Kd α} {ok : α → Prop} (ht : P.underlying t = some (.slice e)) (hc : P.cellsOf e = d.sz) (op : Op P e d ok) : Op P t (kSl d) (fun xs => ∀ x ∈ xs, ok x) := fun h => by
  rcases Go.Deep.open_slice ht h with ⟨rfl, _⟩ | ⟨a, len, cap, m, n, D, Pl, rfl, hb, hl, hm, hmm, _, hx⟩
  · exact ⟨[], ⟨none, 0, rfl, Nat.le_refl _, by decide, Row.nil _ _ _⟩, fun x hx => by simp at hx⟩
  · have hlm : len ≤ m := by rw [hmm]; split <;> omega
    obtain ⟨xs, hxl, hxs⟩ := list_of (n := len) (p := fun i z => ok z ∧ ∃ cs', d.R _ z cs' ∧ cs'.length = d.sz ∧ ∀ j, j < d.sz → World.cell? _ (a.add (i * d.sz + j)) = cs'[j]?) fun i hi => by
      obtain ⟨cs', h1, h2⟩ := hx i (by omega)
      obtain ⟨z, hz, hok⟩ := op h2
      obtain ⟨_, h3, h4⟩ := World.cells?_some h1
      rw [hc] at h3 h4
      exact ⟨z, hok, cs', hz, h3, fun j hj => by rw [← h4 j hj, Go.Deep.add_add]⟩
    refine ⟨xs, ⟨some a, cap, by rw [hxl], by omega, hm, fun i z hz => ?_⟩, fun z hz => ?_⟩
    · obtain ⟨_, cs', hR, hl', hcs⟩ := hxs i z hz
      exact ⟨a, cs', rfl, hR, fun j u hj => by rw [hcs j (by rw [← hl']; exact (List.getElem?_eq_some_iff.1 hj).1), hj]⟩
    · obtain ⟨i, hi⟩ := List.mem_iff_getElem?.1 hz
      exact (hxs i z hi).1
/-- A struct of integers. -/
theorem struct_ints {P : Program} {t : TypeId} {fs : Array Go.Field} (ht : P.underlying t = some (.struct fs)) (hc : P.cellsOf t = fs.size) (hf : ∀ (i : Nat) (f : Go.Field), fs[i]? = some f → f.offset = i ∧ P.cellsOf f.type = 1 ∧ P.underlying f.type = some (.int .i64))
    {H : Type} {enc : TypeId × Value → H} {w : World} {base : Nat} {spare : Nat → Bool} {held : Bool} {fuel : Nat} {cs : List Value} {x : DataW H × List MemPlace} (h : DataW.trod enc P w base spare held fuel t cs = some x) :
    ∃ zs : List Int, zs.length = fs.size ∧ cs = zs.map (.int .i64) ∧ ∀ z ∈ zs, In64 z := by
  obtain ⟨xs, n, rfl, _, hl, hxl, hx⟩ := DataW.trod_struct ht h
  obtain ⟨zs, hzl, hzs⟩ := list_of (n := fs.size) (p := fun i z => cs[i]? = some (.int .i64 z) ∧ In64 z) fun i hi => by
    obtain ⟨h1, h2, h3⟩ := hf i fs[i] (by simp [hi])
    have h4 := hx i fs[i] (by simp [hi])
    rw [List.getElem?_eq_getElem (by omega)] at h4
    obtain ⟨z, h5, _, h6⟩ := DataW.trod_int h3 h4
    rw [h1, h2] at h5
    have h7 := congrArg (·[0]?) h5
    simp only [List.getElem?_take, List.getElem?_drop, Nat.zero_lt_one, if_true, Nat.add_zero, List.getElem?_cons_zero] at h7
    exact ⟨z, h7, in64_of h6⟩
  refine ⟨zs, hzl, List.ext_getElem? fun i => ?_, fun z hz => ?_⟩
  · by_cases hi : i < fs.size
    · have := (hzs i zs[i] (by simp [hzl, hi])).1
      rw [this, List.getElem?_map, List.getElem?_eq_getElem (by omega)]
      rfl
    · rw [List.getElem?_eq_none (by omega), List.getElem?_eq_none (by rw [List.length_map]; omega)]
  · obtain ⟨i, hi⟩ := List.mem_iff_getElem?.1 hz
    exact (hzs i z hi).2
end Go.Proofs.Ytlnogaoihkinbaa
namespace Go.Proofs.Ytlnogaoihkinbaa
open Go.Gk Go.RowKit Go.ChangeShapes Go.WideShapes Go.ChangeAt
def Ent64 (x : Entry) : Prop := In64 x.Key ∧ In64 x.Mask ∧ In64 x.Outs
def isI64 (P : Program) (t : TypeId) : Bool := match P.underlying t with
  | some (.int .i64) => true
  | _ => false
theorem isI64_ok {P : Program} {t : TypeId} (h : isI64 P t = true) : P.underlying t = some (.int .i64) := by
  unfold isI64 at h
  split at h
  · assumption
  · cases h
def fieldsI (P : Program) (t : TypeId) : Option (Array Go.Field) := match P.underlying t with
  | some (.struct fs) => if P.cellsOf t = fs.size ∧ (List.range fs.size).all (fun i => match fs[i]? with | some f => decide (f.offset = i) && decide (P.cellsOf f.type = 1) && isI64 P f.type | none => false) = true then some fs else none
  | _ => none
theorem fieldsI_ok {P : Program} {t : TypeId} {fs : Array Go.Field} (h : fieldsI P t = some fs) : P.underlying t = some (.struct fs) ∧ P.cellsOf t = fs.size ∧ ∀ (i : Nat) (f : Go.Field), fs[i]? = some f → f.offset = i ∧ P.cellsOf f.type = 1 ∧ P.underlying f.type = some (.int .i64) := by
  unfold fieldsI at h
  split at h
  · rename_i gs hg
    split at h
    · rename_i h2
      injection h with h
      subst h
      refine ⟨hg, h2.1, fun i f hf => ?_⟩
      have hi : i < gs.size := (Array.getElem?_eq_some_iff.1 hf).1
      have := List.all_eq_true.1 h2.2 i (List.mem_range.2 hi)
      rw [hf] at this
      simp only [Bool.and_eq_true, decide_eq_true_eq] at this
      exact ⟨this.1.1, this.1.2, isI64_ok this.2⟩
    · cases h
  · cases h
theorem op_ints {P : Program} {t : TypeId} {n : Nat} (h : (fieldsI P t).map (·.size) = some n)
    {H : Type} {enc : TypeId × Value → H} {w : World} {base : Nat} {spare : Nat → Bool} {held : Bool} {fuel : Nat} {cs : List Value} {x : DataW H × List MemPlace} (hd : DataW.trod enc P w base spare held fuel t cs = some x) :
    ∃ zs : List Int, zs.length = n ∧ cs = zs.map (.int .i64) ∧ ∀ z ∈ zs, In64 z := by
  obtain ⟨fs, hf, he⟩ := Option.map_eq_some_iff.1 h
  obtain ⟨h1, h2, h3⟩ := fieldsI_ok hf
  rw [← he]
  exact struct_ints h1 h2 h3 hd
theorem op_ent {P : Program} {t : TypeId} (h : (fieldsI P t).map (·.size) = some 3) : Op P t kEnt Ent64 := fun hd => by
  obtain ⟨zs, hl, rfl, hz⟩ := op_ints h hd
  match zs, hl with
  | [a, b, c], _ => exact ⟨⟨a, b, c⟩, rfl, hz a (by simp), hz b (by simp), hz c (by simp)⟩
theorem op_ents42 : Op Try.prog 42 (kSl kEnt) (fun xs => ∀ x ∈ xs, Ent64 x) := op_slice Try.underlying42 (by kernel_rfl) (op_ent (by kernel_rfl))
theorem op_ints26 : Op Try.prog 26 (kSl kInt) (fun xs => ∀ x ∈ xs, In64 x) := op_slice Try.underlying26 (by kernel_rfl) (op_i64 Try.underlying3)
set_option maxRecDepth 100000 in
theorem merges_lifted (os : Os) (started : os.Started) (H : Type) (enc : TypeId × Value → H) :
    ReturnsInHanded {} Try.checked os 4 .any (Rows.meshMergesSpec.pre6 enc Try.prog Try.f4 Rows.meshMergesRow.domain false) (Rows.meshMergesSpec.post enc Try.prog Try.f4 false true false false) := by
  refine returnsInHanded_of_change (C := Try.checked) ownT started (by kernel_rfl) Try.func4
    (ChangeSpec.witness6 (enc := enc) (C := Try.checked) false ⟨#[], #[.slice none 0 0, .slice none 0 0, .int .i64 0], []⟩ 8 (by kernel_rfl) (by kernel_rfl) (by kernel_rfl) (by kernel_rfl)) ?_
  intro W base args ds gs before hval0 hW hcnd _
  have hval : ∀ (j : Nat) t v, Try.f4.params[j]? = some t → args[j]? = some v → Value.okWide Try.prog W .any base t v := hval0
  have hW' := hW
  obtain ⟨p, q, hA0, hV, rfl, hfz, hnd⟩ := hW
  have hA : DataW.TrodAll enc Try.prog W 0 (fun _ => true) true Try.f4.params.toList args.toList ds p := hA0
  rw [Try.params4] at hA hval
  obtain ⟨v0, vs0, d0, ds0, p0, q0, hargs, rfl, rfl, h0, r0⟩ := trodAll_cons hA
  obtain ⟨v1, vs1, d1, ds1, p1, q1, rfl, rfl, rfl, h1, r1⟩ := trodAll_cons r0
  obtain ⟨v2, vs2, d2, ds2, p2, q2, rfl, rfl, rfl, h2, r2⟩ := trodAll_cons r1
  obtain ⟨rfl, rfl, rfl⟩ := trodAll_nil r2
  obtain rfl : args = #[v0, v1, v2] := by cases args; simp_all
  obtain ⟨rfl, rfl⟩ := trodVars_none hV
  have k0 := h0
  have k1 := h1
  have k2 := h2
  have lt0 : ∀ x ∈ p0, x.block < W.heap.size := by obtain ⟨m, hm⟩ := k0; exact DataW.trod_lt m _ _ _ hm
  have lt1 : ∀ x ∈ p1, x.block < W.heap.size := by obtain ⟨m, hm⟩ := k1; exact DataW.trod_lt m _ _ _ hm
  have lt2 : ∀ x ∈ p2, x.block < W.heap.size := by obtain ⟨m, hm⟩ := k2; exact DataW.trod_lt m _ _ _ hm
  obtain ⟨a0, len0, cap0, rfl⟩ := okWide_slice Try.underlying42 (hval 0 42 v0 rfl rfl)
  obtain ⟨a1, len1, cap1, rfl⟩ := okWide_slice Try.underlying26 (hval 1 26 v1 rfl rfl)
  obtain ⟨key, rfl, rfl, rfl, w2⟩ := open_int Try.underlying3 (hval 2 3 v2 rfl rfl) h2
  obtain ⟨l, ⟨A, c, e0, hlc, hcm, hX⟩, hl⟩ : ∃ z, (kSl kEnt).R W.cell? z [.slice a0 len0 cap0] ∧ ∀ x ∈ z, Ent64 x := by obtain ⟨f, hf⟩ := h0; exact op_ents42 hf
  obtain ⟨keys, ⟨A1, c1, e1, hlc1, hcm1, hK⟩, hk⟩ : ∃ z, (kSl kInt).R W.cell? z [.slice a1 len1 cap1] ∧ ∀ x ∈ z, In64 x := by obtain ⟨f, hf⟩ := h1; exact op_ints26 hf
  simp only [List.cons.injEq, and_true, Value.slice.injEq] at e0 e1
  obtain ⟨rfl, rfl, rfl⟩ := e0
  obtain ⟨rfl, rfl, rfl⟩ := e1
  clear hA0 hval0
  refine (merges_c a0 cap0 l a1 cap1 keys key W hX (by omega) hK (by omega) fun x hx => (hl x hx).1.2).mono fun e W' ⟨v, he, hv, bel⟩ => ?_
  subst he hv
  exact ⟨_, rfl, _, _, _, [], _, [], hW', trodAll_mk1 (shut_bool Try.underlying4 _), (trodAll_cons_mk (Below.trod laidOutT (by kernel_rfl) (of_decide_eq_true (by kernel_rfl)) k0 bel lt0) (trodAll_cons_mk (Below.trod laidOutT (by kernel_rfl) (of_decide_eq_true (by kernel_rfl)) k1 bel lt1) (trodAll_cons_mk (Below.trod laidOutT (by kernel_rfl) (of_decide_eq_true (by kernel_rfl)) k2 bel lt2) trodAll_mk0))), rfl, bel.frame _, fun h => by cases h⟩
theorem MeshMerges_holds : Rows.MeshMergesSaid :=
  OpenClaim.holds_of_wide 4 Try.f4 rfl rfl rfl rfl rfl rfl rfl ⟨rfl, rfl, rfl, rfl, rfl⟩ rfl rfl rfl rfl rfl (by kernel_rfl) Try.func4 (by kernel_rfl)
    (of_decide_eq_true (by kernel_rfl)) (by unfold Func.isWrapper; first | (rw [if_pos (by decide +kernel)]; kernel_rfl) | (rw [if_neg (by decide +kernel)]; exact ⟨rfl, rfl⟩))
    (fun os started H enc _ => merges_lifted os started H enc)
end Go.Proofs.Ytlnogaoihkinbaa
