/-
  For every input, MeshSame returns true, and each argument reads afterwards as it read before. No condition.
-/
import Derived.Test.YtlnogaoihkinbaaRows
import Derived.ProofKit
import Derived.OpenShut
import Derived.ShutString
import Derived.ChangeOld
import Derived.Below
import Derived.Deep.Slices
import Derived.Test.YtlnogaoihkinbaaMs5
set_option linter.unusedVariables false
set_option linter.unusedSimpArgs false
namespace Go.Proofs.Ytlnogaoihkinbaa
open Go.Gk Go.RowKit
theorem ca114 : cellsAgg Try.prog 114 = some none := by kernel_rfl
theorem sl111 : sliceT Try.prog 111 = some ⟨114, 1, 2, .int .u16 0⟩ := by kernel_rfl
theorem same9_c (A : Option Addr) (c : Nat) (l : List Entry) (A1 : Option Addr) (c1 : Nat) (ks : List Int) (w0 : World) (hX : Row kEnt w0.cell? A l) (hl : l.length ≤ 9223372036854775807) (hK : Row kU16 w0.cell? A1 ks) (hkl : ks.length ≤ 9223372036854775807) (hr : ∀ x ∈ ks, 0 ≤ x ∧ x ≤ 65535) :
    Calls Try.prog 9 #[.slice A l.length c, .slice A1 ks.length c1] w0 fun e w' => ∃ v, e = .returned v ∧ (v = .bool true ∧ Below w0.heap.size w0 w') := by
  refine calls_of (n := 184) (l := [.slice A l.length c, .slice A1 ks.length c1]) Try.func9 rfl rfl rfl ?_
  have H := Hp.start w0
  refine V_seq rfl ?_
  refine V_region rfl ?_
  refine Rg_op rfl (o_val (v := .bool false) (d := 4) rfl rfl (ex_assign rfl) ?_)
  refine Rg_end ?_
  refine V_seq rfl ?_
  refine V_seq rfl ?_
  refine V_join (fun σ w => σ 0 = .slice A l.length c ∧ σ 1 = .slice A1 ks.length c1 ∧ σ 4 = .bool false ∧ σ 35 = .bool (decide ((30 < ((l.length : Nat) : Int)) ∨ (30 < ((ks.length : Nat) : Int)))) ∧ σ 1000000 = undef ∧ Hp w0.heap.size w0 w []) ?_ (fun σ w hI => ?_)
  · skip
    refine V_region rfl ?_
    refine Rg_op rfl (o_val (v := .slice A l.length c) (d := 28) rfl rfl (ex_move rfl) ?_)
    refine Rg_op rfl (o_val (v := .int .i64 ((l.length : Nat) : Int)) (d := 29) rfl rfl (ex_len (ts := #[]) sl41 rfl) ?_)
    refine Rg_op rfl (o_val (v := .bool (decide (30 < ((l.length : Nat) : Int)))) (d := 30) rfl rfl (ex_gtr rfl rfl) ?_)
    refine Rg_op rfl (o_val (v := .bool (decide (30 < ((l.length : Nat) : Int)))) (d := 31) rfl rfl (ex_move rfl) ?_)
    by_cases hg1 : 30 < ((l.length : Nat) : Int)
    · skip
      refine Rg_op rfl (o_skip (d := 32) rfl rfl (wanted_no (b := (decide (30 < ((l.length : Nat) : Int)))) rfl rfl rfl (decide_eq_true hg1)) ?_)
      refine Rg_op rfl (o_skip (d := 33) rfl rfl (wanted_no (b := (decide (30 < ((l.length : Nat) : Int)))) rfl rfl rfl (decide_eq_true hg1)) ?_)
      refine Rg_op rfl (o_skip (d := 34) rfl rfl (wanted_no (b := (decide (30 < ((l.length : Nat) : Int)))) rfl rfl rfl (decide_eq_true hg1)) ?_)
      refine Rg_op rfl (o_val (v := .bool true) (d := 35) rfl rfl (ex_pick (q := (decide (30 < ((l.length : Nat) : Int)))) rfl (fun h => rfl) (fun h => absurd hg1 (of_decide_eq_false h))) ?_)
      refine Rg_end ?_
      exact ⟨rfl, rfl, rfl, (show (.bool true : Value) = .bool (decide ((30 < ((l.length : Nat) : Int)) ∨ (30 < ((ks.length : Nat) : Int)))) from by first | (simp only [hg1, true_or, or_true, false_or, or_false, true_and, and_true, false_and, and_false, decide_true, decide_false, Bool.not_true, Bool.not_false]; done) | (simp [hg1]; done) | (simp [hg1]; rfl)), rfl, H⟩
    · skip
      refine Rg_op rfl (o_valg (v := .slice A1 ks.length c1) (d := 32) rfl rfl (wanted_yes (b := (decide (30 < ((l.length : Nat) : Int)))) rfl rfl rfl (decide_eq_false hg1)) (ex_move rfl) ?_)
      refine Rg_op rfl (o_valg (v := .int .i64 ((ks.length : Nat) : Int)) (d := 33) rfl rfl (wanted_yes (b := (decide (30 < ((l.length : Nat) : Int)))) rfl rfl rfl (decide_eq_false hg1)) (ex_len (ts := #[]) sl111 rfl) ?_)
      refine Rg_op rfl (o_valg (v := .bool (decide (30 < ((ks.length : Nat) : Int)))) (d := 34) rfl rfl (wanted_yes (b := (decide (30 < ((l.length : Nat) : Int)))) rfl rfl rfl (decide_eq_false hg1)) (ex_gtr rfl rfl) ?_)
      refine Rg_op rfl (o_val (v := .bool (decide (30 < ((ks.length : Nat) : Int)))) (d := 35) rfl rfl (ex_pick (q := (decide (30 < ((l.length : Nat) : Int)))) rfl (fun h => absurd (of_decide_eq_true h) hg1) (fun h => rfl)) ?_)
      refine Rg_end ?_
      exact ⟨rfl, rfl, rfl, (show (.bool (decide (30 < ((ks.length : Nat) : Int))) : Value) = .bool (decide ((30 < ((l.length : Nat) : Int)) ∨ (30 < ((ks.length : Nat) : Int)))) from by first | (simp only [hg1, true_or, or_true, false_or, or_false, true_and, and_true, false_and, and_false, decide_true, decide_false, Bool.not_true, Bool.not_false]; done) | (simp [hg1]; done) | (simp [hg1]; rfl)), rfl, H⟩
  obtain ⟨s0, s1, s4, s35, s1000000, H⟩ := hI
  refine V_cond (b := (decide ((30 < ((l.length : Nat) : Int)) ∨ (30 < ((ks.length : Nat) : Int))))) rfl s35 (fun hb2 => ?_) (fun hb2 => ?_)
  · have hb2 : (30 < ((l.length : Nat) : Int)) ∨ (30 < ((ks.length : Nat) : Int)) := of_decide_eq_true hb2
    refine V_seq rfl ?_
    refine V_region rfl ?_
    refine Rg_op rfl (o_call (fv := []) (cap := []) (vs := []) rfl rfl cl10 rfl (works_c _) fun v w3 hS => ?_)
    obtain ⟨rfl, hB⟩ := hS
    have H := H.keep hB
    refine Rg_op rfl (o_val (v := .bool true) (d := 4) rfl rfl (ex_assign rfl) ?_)
    refine Rg_end ?_
    refine V_ret rfl (end0 (v := .bool true) s1000000 (res_tmp Try.results9 rfl) ?_)
    exact ⟨rfl, H.below⟩
  · have hb2 : ¬ ((30 < ((l.length : Nat) : Int)) ∨ (30 < ((ks.length : Nat) : Int))) := of_decide_eq_false hb2
    refine V_skip rfl ?_
    refine V_seq rfl ?_
    refine V_region rfl ?_
    refine Rg_op rfl (o_val (v := .slice none 0 0) (d := 5) rfl rfl (ex_assign rfl) ?_)
    refine Rg_end ?_
    refine V_seq rfl ?_
    refine V_seq rfl ?_
    refine V_region rfl ?_
    refine Rg_op rfl (o_val (v := .slice A l.length c) (d := 37) rfl rfl (ex_move s0) ?_)
    refine Rg_op rfl (o_val (v := .int .i64 ((l.length : Nat) : Int)) (d := 38) rfl rfl (ex_len (ts := #[]) sl41 rfl) ?_)
    refine Rg_op rfl (o_val (v := .int .i64 0) (d := 39) rfl rfl (ex_move rfl) ?_)
    refine Rg_end ?_
    refine V_block rfl ?_
    have H := own_nil H kEnt 113
    have e_tab : [] = ((l.take 0).map san) := rfl
    rw [e_tab] at H
    refine V_loop rfl (γ := Nat) (fun k σ w => ∃ (A_tab : Option Addr) (c_tab : Nat), σ 1 = .slice A1 ks.length c1 ∧ σ 4 = .bool false ∧ σ 5 = .slice A_tab ((((l.take k).map san)).length) c_tab ∧ σ 37 = .slice A l.length c ∧ σ 38 = .int .i64 ((l.length : Nat) : Int) ∧ σ 39 = .int .i64 ((k : Nat) : Int) ∧ σ 1000000 = undef ∧ Hp w0.heap.size w0 w [SA.own kEnt 113 A_tab c_tab ((l.take k).map san)] ∧ k ≤ l.length) (fun k => l.length - k) (0) ⟨none, 0, s1, s4, ((rfl : _ = Value.slice none (([]).length) 0).trans (congrArg (fun z => Value.slice none (List.length z) 0) e_tab)), rfl, rfl, rfl, s1000000, H, by omega⟩ (fun k σ w hI => ?_)
    obtain ⟨A_tab, c_tab, hI⟩ := hI
    obtain ⟨s1, s4, s5, s37, s38, s39, s1000000, H, hk⟩ := hI
    refine V_seq rfl ?_
    refine V_region rfl ?_
    refine Rg_op rfl (o_val (v := .bool (decide (((k : Nat) : Int) < ((l.length : Nat) : Int)))) (d := 40) rfl rfl (ex_lss s39 s38) ?_)
    refine Rg_end ?_
    refine V_seq rfl ?_
    refine V_cond (b := (decide (((k : Nat) : Int) < ((l.length : Nat) : Int)))) rfl rfl (fun hb5 => ?_) (fun hb5 => ?_)
    · have hb5 : ((k : Nat) : Int) < ((l.length : Nat) : Int) := of_decide_eq_true hb5
      refine V_skip rfl ?_
      refine V_seq rfl ?_
      refine V_block rfl ?_
      refine V_seq rfl ?_
      refine V_region rfl ?_
      obtain ⟨ad6, x6, cs6, hA6, hx6, hR6, hc6⟩ := Row.get hX ((k : Nat) : Int) (by omega) (by omega)
      obtain rfl := hR6
      refine Rg_op rfl (o_val (v := .pointer (some (ad6.add ((((k : Nat) : Int)).toNat * 3)))) (d := 41) rfl rfl (ex_indexAddr sl41 s37 hA6 s39 (by omega) (by omega) rfl) ?_)
      refine Rg_op rfl (o_val (v := .agg #[.int .i64 x6.Key, .int .i64 x6.Mask, .int .i64 x6.Outs]) (d := 42) rfl rfl (ex_loadN (vs := [.int .i64 x6.Key, .int .i64 x6.Mask, .int .i64 x6.Outs]) ca113 rfl rfl (fun j u hj => by rw [add_add]; exact H.cell0 (hc6 j u hj))) ?_)
      refine Rg_op rfl (o_alloc rfl tz113 H fun b7 w8 hA H => ?_)
      refine Rg_op rfl (o_store (vs := [.int .i64 x6.Key, .int .i64 x6.Mask, .int .i64 x6.Outs]) rfl ts113 rfl rfl rfl rfl 0 rfl rfl rfl rfl H fun w9 hA H => ?_)
      refine Rg_end ?_
      refine V_seq rfl ?_
      refine V_region rfl ?_
      refine Rg_op rfl (o_val (v := .pointer (some ⟨b7, 1, none⟩)) (d := 43) rfl rfl (ex_fieldAddr fo113_1 rfl rfl) ?_)
      refine Rg_op rfl (o_val (v := .int .i64 x6.Mask) (d := 44) rfl rfl (ex_load ca3 rfl (cell_of (H.rd 0 rfl))) ?_)
      refine Rg_op rfl (o_val (v := .int .i64 (bAnd .i64 x6.Mask 65535)) (d := 45) rfl rfl (ex_and rfl rfl) ?_)
      refine Rg_op rfl (o_val (v := .int .i64 (bAnd .i64 x6.Mask 65535)) (d := 8) rfl rfl (ex_assign rfl) ?_)
      refine Rg_end ?_
      refine V_region rfl ?_
      refine Rg_op rfl (o_val (v := .slice A_tab ((((l.take k).map san)).length) c_tab) (d := 46) rfl rfl (ex_move s5) ?_)
      refine Rg_op rfl (o_val (v := .pointer (some ⟨b7, 0, none⟩)) (d := 47) rfl rfl (ex_fieldAddr fo113_0 rfl rfl) ?_)
      refine Rg_op rfl (o_val (v := .int .i64 x6.Key) (d := 48) rfl rfl (ex_load ca3 rfl (cell_of (H.rd 0 rfl))) ?_)
      refine Rg_op rfl (o_val (v := .int .i64 (bAnd .i64 x6.Mask 65535)) (d := 49) rfl rfl (ex_move rfl) ?_)
      refine Rg_op rfl (o_val (v := .int .i64 (bAnd .i64 x6.Key (bAnd .i64 x6.Mask 65535))) (d := 50) rfl rfl (ex_and rfl rfl) ?_)
      refine Rg_op rfl (o_val (v := .int .i64 (bAnd .i64 x6.Mask 65535)) (d := 51) rfl rfl (ex_move rfl) ?_)
      refine Rg_op rfl (o_val (v := .pointer (some ⟨b7, 2, none⟩)) (d := 52) rfl rfl (ex_fieldAddr fo113_2 rfl rfl) ?_)
      refine Rg_op rfl (o_val (v := .int .i64 x6.Outs) (d := 53) rfl rfl (ex_load ca3 rfl (cell_of (H.rd 0 rfl))) ?_)
      refine Rg_op rfl (o_val (v := .int .i64 (bAnd .i64 x6.Outs 15)) (d := 54) rfl rfl (ex_and rfl rfl) ?_)
      have hb9 := and_b x6.Outs (b := 15) (by omega)
      simp only [Int.cast_ofNat_Int] at hb9
      refine Rg_op rfl (o_val (v := .int .i64 (1 + (bAnd .i64 x6.Outs 15))) (d := 55) rfl rfl (ex_add rfl rfl (by omega)) ?_)
      refine Rg_op rfl (o_val (v := .agg #[.int .i64 (bAnd .i64 x6.Key (bAnd .i64 x6.Mask 65535)), .int .i64 (bAnd .i64 x6.Mask 65535), .int .i64 (1 + (bAnd .i64 x6.Outs 15))]) (d := 56) rfl rfl (ex_eq (by kernel_rfl)) ?_)
      refine Rg_op rfl (o_lit (cs := [.int .i64 (bAnd .i64 x6.Key (bAnd .i64 x6.Mask 65535)), .int .i64 (bAnd .i64 x6.Mask 65535), .int .i64 (1 + (bAnd .i64 x6.Outs 15))]) (e := 113) rfl (fun W => by kernel_rfl) H fun b10 w11 hA H => ?_)
      have H := H.pull 2 rfl rfl
      refine Rg_op rfl (o_append (ys := [(⟨bAnd .i64 x6.Key (bAnd .i64 x6.Mask 65535), bAnd .i64 x6.Mask 65535, 1 + (bAnd .i64 x6.Outs 15)⟩ : Entry)]) (ts := #[]) rfl sl41 rfl rfl rfl H (row_lit1 (z := (⟨bAnd .i64 x6.Key (bAnd .i64 x6.Mask 65535), bAnd .i64 x6.Mask 65535, 1 + (bAnd .i64 x6.Outs 15)⟩ : Entry)) (H.rd 1 rfl) rfl) (by first | omega | (simp only [List.length_append, List.length_cons, List.length_nil, List.length_map, List.length_take]; omega)) (by first | omega | (simp only [List.length_append, List.length_cons, List.length_nil, List.length_map, List.length_take]; omega)) fun A12 c13 w14 hA H => ?_)
      have H := (H.pull 1 rfl rfl).drop
      refine Rg_op rfl (o_val (v := .slice A12 ((((l.take k).map san) ++ [(⟨bAnd .i64 x6.Key (bAnd .i64 x6.Mask 65535), bAnd .i64 x6.Mask 65535, 1 + (bAnd .i64 x6.Outs 15)⟩ : Entry)]).length) c13) (d := 5) rfl rfl (ex_assign rfl) ?_)
      refine Rg_end ?_
      refine V_region rfl ?_
      refine Rg_op rfl (o_val (v := .int .i64 (((k : Nat) : Int) + 1)) (d := 59) rfl rfl (ex_add s39 rfl (by omega)) ?_)
      refine Rg_op rfl (o_val (v := .int .i64 (((k : Nat) : Int) + 1)) (d := 39) rfl rfl (ex_move rfl) ?_)
      refine Rg_end ?_
      have e_tab : ((l.take k).map san) ++ [(⟨bAnd .i64 x6.Key (bAnd .i64 x6.Mask 65535), bAnd .i64 x6.Mask 65535, 1 + (bAnd .i64 x6.Outs 15)⟩ : Entry)] = ((l.take (k + 1)).map san) := (take_map (f := san) (k := k) hx6).symm
      rw [e_tab] at H
      exact ⟨k + 1, ⟨A12, c13, s1, s4, ((rfl : _ = Value.slice A12 ((((l.take k).map san) ++ [(⟨bAnd .i64 x6.Key (bAnd .i64 x6.Mask 65535), bAnd .i64 x6.Mask 65535, 1 + (bAnd .i64 x6.Outs 15)⟩ : Entry)]).length) c13).trans (congrArg (fun z => Value.slice A12 (List.length z) c13) e_tab)), s37, s38, rfl, s1000000, (Hp.pull 0 rfl rfl (Hp.drop (Hp.pull 1 rfl rfl H))), by omega⟩, by omega⟩
    · have hb5 : ¬ (((k : Nat) : Int) < ((l.length : Nat) : Int)) := of_decide_eq_false hb5
      refine V_exit rfl ?_
      refine V_seq rfl ?_
      refine V_region rfl ?_
      refine Rg_op rfl (o_val (v := .slice none 0 0) (d := 9) rfl rfl (ex_assign rfl) ?_)
      refine Rg_end ?_
      refine V_seq rfl ?_
      refine V_seq rfl ?_
      refine V_region rfl ?_
      refine Rg_op rfl (o_val (v := .slice A1 ks.length c1) (d := 60) rfl rfl (ex_move s1) ?_)
      refine Rg_op rfl (o_val (v := .int .i64 ((ks.length : Nat) : Int)) (d := 61) rfl rfl (ex_len (ts := #[]) sl111 rfl) ?_)
      refine Rg_op rfl (o_val (v := .int .i64 0) (d := 62) rfl rfl (ex_move rfl) ?_)
      refine Rg_end ?_
      refine V_block rfl ?_
      have htk9 : (l.take k).map san = l.map san := by rw [List.take_of_length_le (by omega)]
      rw [htk9] at H
      rw [htk9] at s5
      have H := own_nil H kInt 3
      have e_keys : [] = ((ks.take 0).map IntKind.i64.wrap) := rfl
      rw [e_keys] at H
      refine V_loop rfl (γ := Nat) (fun k σ w => ∃ (A_keys : Option Addr) (c_keys : Nat), σ 4 = .bool false ∧ σ 5 = .slice A_tab (((l.map san)).length) c_tab ∧ σ 9 = .slice A_keys ((((ks.take k).map IntKind.i64.wrap)).length) c_keys ∧ σ 60 = .slice A1 ks.length c1 ∧ σ 61 = .int .i64 ((ks.length : Nat) : Int) ∧ σ 62 = .int .i64 ((k : Nat) : Int) ∧ σ 1000000 = undef ∧ Hp w0.heap.size w0 w [SA.own kInt 3 A_keys c_keys ((ks.take k).map IntKind.i64.wrap), SA.own kEnt 113 A_tab c_tab (l.map san)] ∧ k ≤ ks.length) (fun k => ks.length - k) (0) ⟨none, 0, s4, s5, ((rfl : _ = Value.slice none (([]).length) 0).trans (congrArg (fun z => Value.slice none (List.length z) 0) e_keys)), rfl, rfl, rfl, s1000000, H, by omega⟩ (fun k σ w hI => ?_)
      obtain ⟨A_keys, c_keys, hI⟩ := hI
      obtain ⟨s4, s5, s9, s60, s61, s62, s1000000, H, hk⟩ := hI
      refine V_seq rfl ?_
      refine V_region rfl ?_
      refine Rg_op rfl (o_val (v := .bool (decide (((k : Nat) : Int) < ((ks.length : Nat) : Int)))) (d := 63) rfl rfl (ex_lss s62 s61) ?_)
      refine Rg_end ?_
      refine V_seq rfl ?_
      refine V_cond (b := (decide (((k : Nat) : Int) < ((ks.length : Nat) : Int)))) rfl rfl (fun hb17 => ?_) (fun hb17 => ?_)
      · have hb17 : ((k : Nat) : Int) < ((ks.length : Nat) : Int) := of_decide_eq_true hb17
        refine V_skip rfl ?_
        refine V_seq rfl ?_
        refine V_block rfl ?_
        refine V_seq rfl ?_
        refine V_region rfl ?_
        obtain ⟨ad18, x18, cs18, hA18, hx18, hR18, hc18⟩ := Row.get hK ((k : Nat) : Int) (by omega) (by omega)
        obtain rfl := hR18
        refine Rg_op rfl (o_val (v := .pointer (some (ad18.add ((((k : Nat) : Int)).toNat * 1)))) (d := 64) rfl rfl (ex_indexAddr sl111 s60 hA18 s62 (by omega) (by omega) rfl) ?_)
        refine Rg_op rfl (o_val (v := .int .u16 x18) (d := 65) rfl rfl (ex_load ca114 rfl (H.cell0 (hc18 0 _ rfl))) ?_)
        refine Rg_op rfl (o_val (v := .int .u16 x18) (d := 11) rfl rfl (ex_assign rfl) ?_)
        refine Rg_end ?_
        refine V_region rfl ?_
        refine Rg_op rfl (o_val (v := .slice A_keys ((((ks.take k).map IntKind.i64.wrap)).length) c_keys) (d := 66) rfl rfl (ex_move s9) ?_)
        refine Rg_op rfl (o_val (v := .int .u16 x18) (d := 67) rfl rfl (ex_move rfl) ?_)
        refine Rg_op rfl (o_val (v := .int .i64 (IntKind.i64.wrap x18)) (d := 68) rfl rfl (ex_conv Try.underlying114 Try.underlying3 rfl) ?_)
        refine Rg_op rfl (o_lit (cs := [.int .i64 (IntKind.i64.wrap x18)]) (e := 3) rfl (fun W => by kernel_rfl) H fun b19 w20 hA H => ?_)
        have H := H.pull 1 rfl rfl
        refine Rg_op rfl (o_append (ys := [IntKind.i64.wrap x18]) (ts := #[]) rfl sl26 rfl rfl rfl H (row_lit1 (z := IntKind.i64.wrap x18) (H.rd 1 rfl) rfl) (by first | omega | (simp only [List.length_append, List.length_cons, List.length_nil, List.length_map, List.length_take]; omega)) (by first | omega | (simp only [List.length_append, List.length_cons, List.length_nil, List.length_map, List.length_take]; omega)) fun A21 c22 w23 hA H => ?_)
        have H := (H.pull 1 rfl rfl).drop
        refine Rg_op rfl (o_val (v := .slice A21 ((((ks.take k).map IntKind.i64.wrap) ++ [IntKind.i64.wrap x18]).length) c22) (d := 9) rfl rfl (ex_assign rfl) ?_)
        refine Rg_end ?_
        refine V_region rfl ?_
        refine Rg_op rfl (o_val (v := .int .i64 (((k : Nat) : Int) + 1)) (d := 71) rfl rfl (ex_add s62 rfl (by omega)) ?_)
        refine Rg_op rfl (o_val (v := .int .i64 (((k : Nat) : Int) + 1)) (d := 62) rfl rfl (ex_move rfl) ?_)
        refine Rg_end ?_
        have e_keys : ((ks.take k).map IntKind.i64.wrap) ++ [IntKind.i64.wrap x18] = ((ks.take (k + 1)).map IntKind.i64.wrap) := (take_map (f := IntKind.i64.wrap) (k := k) hx18).symm
        rw [e_keys] at H
        exact ⟨k + 1, ⟨A21, c22, s4, s5, ((rfl : _ = Value.slice A21 ((((ks.take k).map IntKind.i64.wrap) ++ [IntKind.i64.wrap x18]).length) c22).trans (congrArg (fun z => Value.slice A21 (List.length z) c22) e_keys)), s60, s61, rfl, s1000000, H, by omega⟩, by omega⟩
      · have hb17 : ¬ (((k : Nat) : Int) < ((ks.length : Nat) : Int)) := of_decide_eq_false hb17
        refine V_exit rfl ?_
        refine V_seq rfl ?_
        refine V_region rfl ?_
        have hkk9 : (ks.take k).map IntKind.i64.wrap = ks := by rw [List.take_of_length_le (by omega)]; exact (List.map_congr_left (g := id) fun x hx => (wrap_in (by have := hr x hx; omega) : IntKind.i64.wrap x = x)).trans (List.map_id _)
        rw [hkk9] at H
        rw [hkk9] at s9
        have hTl : (l.map san).length = l.length := List.length_map _
        have hTg : ∀ x ∈ l.map san, entR x := fun x hx => by obtain ⟨y, _, rfl⟩ := List.mem_map.1 hx; exact san_ok y
        obtain ⟨hm0, hm1, hm2, hm3, _⟩ := merged (l := l.map san) (keys := ks) (by omega) (by omega) hTg hr
        obtain ⟨hn0, hn1, _, _, hn4⟩ := merged (l := l.map san) (keys := []) (by omega) (by simp) hTg (fun k hk => by simp at hk)
        have hml9 := merge_le (l.map san) ks
        have hnl9 := merge_le (l.map san) []
        refine Rg_op rfl (o_val (v := .slice A_tab (((l.map san)).length) c_tab) (d := 73) rfl rfl (ex_move s5) ?_)
        refine Rg_op rfl (o_val (v := .slice A_keys ((ks).length) c_keys) (d := 74) rfl rfl (ex_move s9) ?_)
        refine Rg_op rfl (o_call (fv := []) (cap := []) (vs := [.slice A_tab (((l.map san)).length) c_tab, .slice A_keys ((ks).length) c_keys]) rfl rfl cl16 rfl (merge_c _ _ (l.map san) _ _ ks _ (own_row (H.pull 1 rfl rfl)).1 (by omega) (own_row (H.pull 0 rfl rfl)).1 (by first | omega | simp)) fun v w28 hS => ?_)
        obtain ⟨A26, c27, hv, hB, hN⟩ := hS
        rw [hm0] at hv
        subst hv
        have H := H.new hB hN
        refine Rg_op rfl (o_val (v := .tuple #[.slice A26 (((mergeP (l.map san) ks).1).length) c27, .int .i64 0]) (d := 72) rfl rfl (ex_move rfl) ?_)
        refine Rg_op rfl (o_val (v := .slice A26 (((mergeP (l.map san) ks).1).length) c27) (d := 76) rfl rfl (ex_extract rfl rfl) ?_)
        refine Rg_op rfl (o_val (v := .int .i64 0) (d := 77) rfl rfl (ex_extract rfl rfl) ?_)
        refine Rg_op rfl (o_val (v := .slice A26 (((mergeP (l.map san) ks).1).length) c27) (d := 12) rfl rfl (ex_assign rfl) ?_)
        refine Rg_op rfl (o_val (v := .int .i64 0) (d := 13) rfl rfl (ex_assign rfl) ?_)
        refine Rg_end ?_
        refine V_seq rfl ?_
        refine V_region rfl ?_
        refine Rg_op rfl (o_val (v := .slice A26 (((mergeP (l.map san) ks).1).length) c27) (d := 79) rfl rfl (ex_move rfl) ?_)
        refine Rg_op rfl (o_val (v := .slice A_keys ((ks).length) c_keys) (d := 80) rfl rfl (ex_move s9) ?_)
        refine Rg_op rfl (o_call (fv := []) (cap := []) (vs := [.slice A26 (((mergeP (l.map san) ks).1).length) c27, .slice A_keys ((ks).length) c_keys]) rfl rfl cl16 rfl (merge_c _ _ (mergeP (l.map san) ks).1 _ _ ks _ (own_row (H.pull 0 rfl rfl)).1 (by omega) (own_row (H.pull 1 rfl rfl)).1 (by first | omega | simp)) fun v w32 hS => ?_)
        obtain ⟨A30, c31, hv, hB, hN⟩ := hS
        rw [hm2] at hv
        rw [hm2] at hN
        subst hv
        have H := H.new hB hN
        refine Rg_op rfl (o_val (v := .tuple #[.slice A30 (((mergeP (l.map san) ks).1).length) c31, .int .i64 0]) (d := 78) rfl rfl (ex_move rfl) ?_)
        refine Rg_op rfl (o_val (v := .slice A30 (((mergeP (l.map san) ks).1).length) c31) (d := 82) rfl rfl (ex_extract rfl rfl) ?_)
        refine Rg_op rfl (o_val (v := .int .i64 0) (d := 83) rfl rfl (ex_extract rfl rfl) ?_)
        refine Rg_op rfl (o_val (v := .slice A30 (((mergeP (l.map san) ks).1).length) c31) (d := 14) rfl rfl (ex_assign rfl) ?_)
        refine Rg_op rfl (o_val (v := .int .i64 0) (d := 15) rfl rfl (ex_assign rfl) ?_)
        refine Rg_end ?_
        refine V_seq rfl ?_
        refine V_seq rfl ?_
        refine V_join (fun σ w => σ 4 = .bool false ∧ σ 5 = .slice A_tab (((l.map san)).length) c_tab ∧ σ 9 = .slice A_keys ((ks).length) c_keys ∧ σ 12 = .slice A26 (((mergeP (l.map san) ks).1).length) c27 ∧ σ 13 = .int .i64 0 ∧ σ 103 = .bool (decide (((((l.map san)).length : Nat) : Int) < ((((mergeP (l.map san) ks).1).length : Nat) : Int))) ∧ σ 1000000 = undef ∧ Hp w0.heap.size w0 w [SA.own kEnt 113 A30 c31 ((mergeP (l.map san) ks).1), SA.own kEnt 113 A26 c27 ((mergeP (l.map san) ks).1), SA.own kInt 3 A_keys c_keys ks, SA.own kEnt 113 A_tab c_tab (l.map san)]) ?_ (fun σ w hI => ?_)
        · skip
          refine V_region rfl ?_
          refine Rg_op rfl (o_val (v := .int .i64 0) (d := 84) rfl rfl (ex_move rfl) ?_)
          refine Rg_op rfl (o_val (v := .bool false) (d := 85) rfl rfl (ex_eq (by kernel_rfl)) ?_)
          refine Rg_op rfl (o_val (v := .bool false) (d := 86) rfl rfl (ex_move rfl) ?_)
          refine Rg_op rfl (o_valg (v := .int .i64 0) (d := 87) rfl rfl (wanted_yes (b := false) rfl rfl rfl rfl) (ex_move rfl) ?_)
          refine Rg_op rfl (o_valg (v := .bool false) (d := 88) rfl rfl (wanted_yes (b := false) rfl rfl rfl rfl) (ex_eq (by kernel_rfl)) ?_)
          refine Rg_op rfl (o_val (v := .bool false) (d := 89) rfl rfl (ex_pick (q := false) rfl (fun h => by cases h) (fun h => rfl)) ?_)
          refine Rg_op rfl (o_val (v := .bool false) (d := 90) rfl rfl (ex_move rfl) ?_)
          refine Rg_op rfl (o_valg (v := .slice A26 (((mergeP (l.map san) ks).1).length) c27) (d := 91) rfl rfl (wanted_yes (b := false) rfl rfl rfl rfl) (ex_move rfl) ?_)
          refine Rg_op rfl (o_valg (v := .int .i64 ((((mergeP (l.map san) ks).1).length : Nat) : Int)) (d := 92) rfl rfl (wanted_yes (b := false) rfl rfl rfl rfl) (ex_len (ts := #[]) sl41 rfl) ?_)
          refine Rg_op rfl (o_valg (v := .slice A_tab (((l.map san)).length) c_tab) (d := 93) rfl rfl (wanted_yes (b := false) rfl rfl rfl rfl) (ex_move s5) ?_)
          refine Rg_op rfl (o_valg (v := .int .i64 ((((l.map san)).length : Nat) : Int)) (d := 94) rfl rfl (wanted_yes (b := false) rfl rfl rfl rfl) (ex_len (ts := #[]) sl41 rfl) ?_)
          refine Rg_op rfl (o_valg (v := .bool (decide (((((l.map san)).length : Nat) : Int) < ((((mergeP (l.map san) ks).1).length : Nat) : Int)))) (d := 95) rfl rfl (wanted_yes (b := false) rfl rfl rfl rfl) (ex_gtr rfl rfl) ?_)
          refine Rg_op rfl (o_val (v := .bool (decide (((((l.map san)).length : Nat) : Int) < ((((mergeP (l.map san) ks).1).length : Nat) : Int)))) (d := 96) rfl rfl (ex_pick (q := false) rfl (fun h => by cases h) (fun h => rfl)) ?_)
          refine Rg_op rfl (o_val (v := .bool (decide (((((l.map san)).length : Nat) : Int) < ((((mergeP (l.map san) ks).1).length : Nat) : Int)))) (d := 97) rfl rfl (ex_move rfl) ?_)
          by_cases hg33 : ((((l.map san)).length : Nat) : Int) < ((((mergeP (l.map san) ks).1).length : Nat) : Int)
          · skip
            refine Rg_op rfl (o_skip (d := 98) rfl rfl (wanted_no (b := (decide (((((l.map san)).length : Nat) : Int) < ((((mergeP (l.map san) ks).1).length : Nat) : Int)))) rfl rfl rfl (decide_eq_true hg33)) ?_)
            refine Rg_op rfl (o_skip (d := 99) rfl rfl (wanted_no (b := (decide (((((l.map san)).length : Nat) : Int) < ((((mergeP (l.map san) ks).1).length : Nat) : Int)))) rfl rfl rfl (decide_eq_true hg33)) ?_)
            refine Rg_op rfl (o_skip (d := 100) rfl rfl (wanted_no (b := (decide (((((l.map san)).length : Nat) : Int) < ((((mergeP (l.map san) ks).1).length : Nat) : Int)))) rfl rfl rfl (decide_eq_true hg33)) ?_)
            refine Rg_op rfl (o_skip (d := 101) rfl rfl (wanted_no (b := (decide (((((l.map san)).length : Nat) : Int) < ((((mergeP (l.map san) ks).1).length : Nat) : Int)))) rfl rfl rfl (decide_eq_true hg33)) ?_)
            refine Rg_op rfl (o_skip (d := 102) rfl rfl (wanted_no (b := (decide (((((l.map san)).length : Nat) : Int) < ((((mergeP (l.map san) ks).1).length : Nat) : Int)))) rfl rfl rfl (decide_eq_true hg33)) ?_)
            refine Rg_op rfl (o_val (v := .bool true) (d := 103) rfl rfl (ex_pick (q := (decide (((((l.map san)).length : Nat) : Int) < ((((mergeP (l.map san) ks).1).length : Nat) : Int)))) rfl (fun h => rfl) (fun h => absurd hg33 (of_decide_eq_false h))) ?_)
            refine Rg_end ?_
            exact ⟨s4, s5, s9, rfl, rfl, (show (.bool true : Value) = .bool (decide (((((l.map san)).length : Nat) : Int) < ((((mergeP (l.map san) ks).1).length : Nat) : Int))) from by first | (simp only [hg33, true_or, or_true, false_or, or_false, true_and, and_true, false_and, and_false, decide_true, decide_false, Bool.not_true, Bool.not_false]; done) | (simp [hg33]; done) | (simp [hg33]; rfl)), s1000000, H⟩
          · skip
            refine Rg_op rfl (o_valg (v := .slice A30 (((mergeP (l.map san) ks).1).length) c31) (d := 98) rfl rfl (wanted_yes (b := (decide (((((l.map san)).length : Nat) : Int) < ((((mergeP (l.map san) ks).1).length : Nat) : Int)))) rfl rfl rfl (decide_eq_false hg33)) (ex_move rfl) ?_)
            refine Rg_op rfl (o_valg (v := .int .i64 ((((mergeP (l.map san) ks).1).length : Nat) : Int)) (d := 99) rfl rfl (wanted_yes (b := (decide (((((l.map san)).length : Nat) : Int) < ((((mergeP (l.map san) ks).1).length : Nat) : Int)))) rfl rfl rfl (decide_eq_false hg33)) (ex_len (ts := #[]) sl41 rfl) ?_)
            refine Rg_op rfl (o_valg (v := .slice A26 (((mergeP (l.map san) ks).1).length) c27) (d := 100) rfl rfl (wanted_yes (b := (decide (((((l.map san)).length : Nat) : Int) < ((((mergeP (l.map san) ks).1).length : Nat) : Int)))) rfl rfl rfl (decide_eq_false hg33)) (ex_move rfl) ?_)
            refine Rg_op rfl (o_valg (v := .int .i64 ((((mergeP (l.map san) ks).1).length : Nat) : Int)) (d := 101) rfl rfl (wanted_yes (b := (decide (((((l.map san)).length : Nat) : Int) < ((((mergeP (l.map san) ks).1).length : Nat) : Int)))) rfl rfl rfl (decide_eq_false hg33)) (ex_len (ts := #[]) sl41 rfl) ?_)
            refine Rg_op rfl (o_valg (v := .bool false) (d := 102) rfl rfl (wanted_yes (b := (decide (((((l.map san)).length : Nat) : Int) < ((((mergeP (l.map san) ks).1).length : Nat) : Int)))) rfl rfl rfl (decide_eq_false hg33)) (by rw [show (Value.bool false : Value) = .bool (decide (((((mergeP (l.map san) ks).1).length : Nat) : Int) ≠ ((((mergeP (l.map san) ks).1).length : Nat) : Int))) from by rw [decide_eq_false (fun h => h rfl)]]; exact ex_neq rfl rfl) ?_)
            refine Rg_op rfl (o_val (v := .bool false) (d := 103) rfl rfl (ex_pick (q := (decide (((((l.map san)).length : Nat) : Int) < ((((mergeP (l.map san) ks).1).length : Nat) : Int)))) rfl (fun h => absurd (of_decide_eq_true h) hg33) (fun h => rfl)) ?_)
            refine Rg_end ?_
            exact ⟨s4, s5, s9, rfl, rfl, (show (.bool false : Value) = .bool (decide (((((l.map san)).length : Nat) : Int) < ((((mergeP (l.map san) ks).1).length : Nat) : Int))) from by first | (simp only [hg33, true_or, or_true, false_or, or_false, true_and, and_true, false_and, and_false, decide_true, decide_false, Bool.not_true, Bool.not_false]; done) | (simp [hg33]; done) | (simp [hg33]; rfl)), s1000000, H⟩
        obtain ⟨s4, s5, s9, s12, s13, s103, s1000000, H⟩ := hI
        refine V_cond (b := (decide (((((l.map san)).length : Nat) : Int) < ((((mergeP (l.map san) ks).1).length : Nat) : Int)))) rfl s103 (fun hb34 => ?_) (fun hb34 => ?_)
        · have hb34 : ((((l.map san)).length : Nat) : Int) < ((((mergeP (l.map san) ks).1).length : Nat) : Int) := of_decide_eq_true hb34
          exact ((show False from by omega)).elim
        · have hb34 : ¬ (((((l.map san)).length : Nat) : Int) < ((((mergeP (l.map san) ks).1).length : Nat) : Int)) := of_decide_eq_false hb34
          refine V_skip rfl ?_
          refine V_seq rfl ?_
          refine V_seq rfl ?_
          refine V_region rfl ?_
          refine Rg_op rfl (o_val (v := .slice A_keys ((ks).length) c_keys) (d := 104) rfl rfl (ex_move s9) ?_)
          refine Rg_op rfl (o_val (v := .int .i64 (((ks).length : Nat) : Int)) (d := 105) rfl rfl (ex_len (ts := #[]) sl26 rfl) ?_)
          refine Rg_op rfl (o_val (v := .int .i64 0) (d := 106) rfl rfl (ex_move rfl) ?_)
          refine Rg_end ?_
          refine V_block rfl ?_
          refine V_loop rfl (γ := Nat) (fun k σ w => σ 4 = .bool false ∧ σ 5 = .slice A_tab (((l.map san)).length) c_tab ∧ σ 12 = .slice A26 (((mergeP (l.map san) ks).1).length) c27 ∧ σ 13 = .int .i64 0 ∧ σ 104 = .slice A_keys ((ks).length) c_keys ∧ σ 105 = .int .i64 (((ks).length : Nat) : Int) ∧ σ 106 = .int .i64 ((k : Nat) : Int) ∧ σ 1000000 = undef ∧ Hp w0.heap.size w0 w [SA.own kEnt 113 A30 c31 ((mergeP (l.map san) ks).1), SA.own kEnt 113 A26 c27 ((mergeP (l.map san) ks).1), SA.own kInt 3 A_keys c_keys ks, SA.own kEnt 113 A_tab c_tab (l.map san)] ∧ k ≤ ks.length) (fun k => ks.length - k) (0) ⟨s4, s5, s12, s13, rfl, rfl, rfl, s1000000, H, by omega⟩ (fun k σ w hI => ?_)
          obtain ⟨s4, s5, s12, s13, s104, s105, s106, s1000000, H, hk⟩ := hI
          refine V_seq rfl ?_
          refine V_region rfl ?_
          refine Rg_op rfl (o_val (v := .bool (decide (((k : Nat) : Int) < (((ks).length : Nat) : Int)))) (d := 107) rfl rfl (ex_lss s106 s105) ?_)
          refine Rg_end ?_
          refine V_seq rfl ?_
          refine V_cond (b := (decide (((k : Nat) : Int) < (((ks).length : Nat) : Int)))) rfl rfl (fun hb35 => ?_) (fun hb35 => ?_)
          · have hb35 : ((k : Nat) : Int) < (((ks).length : Nat) : Int) := of_decide_eq_true hb35
            refine V_skip rfl ?_
            refine V_seq rfl ?_
            refine V_block rfl ?_
            refine V_seq rfl ?_
            refine V_region rfl ?_
            have hr36 := (own_row (H.pull 2 rfl rfl)).1
            obtain ⟨ad37, x37, cs37, hA37, hx37, hR37, hc37⟩ := Row.get hr36 ((k : Nat) : Int) (by omega) (by omega)
            obtain rfl := hR37
            refine Rg_op rfl (o_val (v := .pointer (some (ad37.add ((((k : Nat) : Int)).toNat * 1)))) (d := 108) rfl rfl (ex_indexAddr sl26 s104 hA37 s106 (by omega) (by omega) rfl) ?_)
            refine Rg_op rfl (o_val (v := .int .i64 x37) (d := 109) rfl rfl (ex_load ca3 rfl (hc37 0 _ rfl)) ?_)
            refine Rg_op rfl (o_val (v := .int .i64 x37) (d := 17) rfl rfl (ex_assign rfl) ?_)
            refine Rg_end ?_
            refine V_seq rfl ?_
            refine V_region rfl ?_
            refine Rg_op rfl (o_val (v := .slice A_tab (((l.map san)).length) c_tab) (d := 111) rfl rfl (ex_move s5) ?_)
            refine Rg_op rfl (o_val (v := .int .i64 x37) (d := 112) rfl rfl (ex_move rfl) ?_)
            refine Rg_op rfl (o_call (fv := []) (cap := []) (vs := [.slice A_tab (((l.map san)).length) c_tab, .int .i64 x37]) rfl rfl cl19 rfl (find_c _ _ (l.map san) x37 _ (own_row (H.pull 3 rfl rfl)).1 (by first | omega | (simp only [List.length_append, List.length_cons, List.length_nil]; omega))) fun v w38 hS => ?_)
            obtain ⟨rfl, hB⟩ := hS
            have H := H.keep hB
            refine Rg_op rfl (o_val (v := .tuple #[.int .i64 ((find (l.map san) x37).1), .bool ((find (l.map san) x37).2)]) (d := 110) rfl rfl (ex_move rfl) ?_)
            refine Rg_op rfl (o_val (v := .int .i64 ((find (l.map san) x37).1)) (d := 114) rfl rfl (ex_extract rfl rfl) ?_)
            refine Rg_op rfl (o_val (v := .bool ((find (l.map san) x37).2)) (d := 115) rfl rfl (ex_extract rfl rfl) ?_)
            refine Rg_op rfl (o_val (v := .int .i64 ((find (l.map san) x37).1)) (d := 18) rfl rfl (ex_assign rfl) ?_)
            refine Rg_op rfl (o_val (v := .bool ((find (l.map san) x37).2)) (d := 19) rfl rfl (ex_assign rfl) ?_)
            refine Rg_end ?_
            refine V_seq rfl ?_
            refine V_region rfl ?_
            refine Rg_op rfl (o_val (v := .slice A26 (((mergeP (l.map san) ks).1).length) c27) (d := 117) rfl rfl (ex_move s12) ?_)
            refine Rg_op rfl (o_val (v := .int .i64 x37) (d := 118) rfl rfl (ex_move rfl) ?_)
            refine Rg_op rfl (o_call (fv := []) (cap := []) (vs := [.slice A26 (((mergeP (l.map san) ks).1).length) c27, .int .i64 x37]) rfl rfl cl19 rfl (find_c _ _ (mergeP (l.map san) ks).1 x37 _ (own_row (H.pull 1 rfl rfl)).1 (by omega)) fun v w39 hS => ?_)
            obtain ⟨hv, hB⟩ := hS
            rw [hm3 x37 (List.mem_of_getElem? hx37)] at hv
            subst hv
            have H := H.keep hB
            refine Rg_op rfl (o_val (v := .tuple #[.int .i64 ((find (l.map san) x37).1), .bool ((find (l.map san) x37).2)]) (d := 116) rfl rfl (ex_move rfl) ?_)
            refine Rg_op rfl (o_val (v := .int .i64 ((find (l.map san) x37).1)) (d := 120) rfl rfl (ex_extract rfl rfl) ?_)
            refine Rg_op rfl (o_val (v := .bool ((find (l.map san) x37).2)) (d := 121) rfl rfl (ex_extract rfl rfl) ?_)
            refine Rg_op rfl (o_val (v := .int .i64 ((find (l.map san) x37).1)) (d := 20) rfl rfl (ex_assign rfl) ?_)
            refine Rg_op rfl (o_val (v := .bool ((find (l.map san) x37).2)) (d := 21) rfl rfl (ex_assign rfl) ?_)
            refine Rg_end ?_
            refine V_seq rfl ?_
            refine V_join (fun σ w => σ 4 = .bool false ∧ σ 5 = .slice A_tab (((l.map san)).length) c_tab ∧ σ 12 = .slice A26 (((mergeP (l.map san) ks).1).length) c27 ∧ σ 13 = .int .i64 0 ∧ σ 17 = .int .i64 x37 ∧ σ 18 = .int .i64 ((find (l.map san) x37).1) ∧ σ 19 = .bool ((find (l.map san) x37).2) ∧ σ 20 = .int .i64 ((find (l.map san) x37).1) ∧ σ 21 = .bool ((find (l.map san) x37).2) ∧ σ 104 = .slice A_keys ((ks).length) c_keys ∧ σ 105 = .int .i64 (((ks).length : Nat) : Int) ∧ σ 106 = .int .i64 ((k : Nat) : Int) ∧ σ 107 = .bool (decide (((k : Nat) : Int) < (((ks).length : Nat) : Int))) ∧ σ 108 = .pointer (some (ad37.add ((((k : Nat) : Int)).toNat * 1))) ∧ σ 109 = .int .i64 x37 ∧ σ 110 = .tuple #[.int .i64 ((find (l.map san) x37).1), .bool ((find (l.map san) x37).2)] ∧ σ 111 = .slice A_tab (((l.map san)).length) c_tab ∧ σ 112 = .int .i64 x37 ∧ σ 113 = .tuple #[.int .i64 ((find (l.map san) x37).1), .bool ((find (l.map san) x37).2)] ∧ σ 114 = .int .i64 ((find (l.map san) x37).1) ∧ σ 115 = .bool ((find (l.map san) x37).2) ∧ σ 116 = .tuple #[.int .i64 ((find (l.map san) x37).1), .bool ((find (l.map san) x37).2)] ∧ σ 117 = .slice A26 (((mergeP (l.map san) ks).1).length) c27 ∧ σ 118 = .int .i64 x37 ∧ σ 119 = .tuple #[.int .i64 ((find (l.map san) x37).1), .bool ((find (l.map san) x37).2)] ∧ σ 120 = .int .i64 ((find (l.map san) x37).1) ∧ σ 121 = .bool ((find (l.map san) x37).2) ∧ σ 122 = .int .i64 ((find (l.map san) x37).1) ∧ σ 123 = .int .i64 ((find (l.map san) x37).1) ∧ σ 124 = .bool false ∧ σ 125 = .bool false ∧ σ 129 = .bool false ∧ σ 1000000 = undef ∧ Hp w0.heap.size w0 w [SA.own kEnt 113 A30 c31 ((mergeP (l.map san) ks).1), SA.own kEnt 113 A26 c27 ((mergeP (l.map san) ks).1), SA.own kInt 3 A_keys c_keys ks, SA.own kEnt 113 A_tab c_tab (l.map san)]) ?_ (fun σ w hI => ?_)
            · skip
              refine V_region rfl ?_
              refine Rg_op rfl (o_val (v := .int .i64 ((find (l.map san) x37).1)) (d := 122) rfl rfl (ex_move rfl) ?_)
              refine Rg_op rfl (o_val (v := .int .i64 ((find (l.map san) x37).1)) (d := 123) rfl rfl (ex_move rfl) ?_)
              refine Rg_op rfl (o_val (v := .bool false) (d := 124) rfl rfl (by rw [show (Value.bool false : Value) = .bool (decide (((find (l.map san) x37).1) ≠ ((find (l.map san) x37).1))) from by rw [decide_eq_false (fun h => h rfl)]]; exact ex_neq rfl rfl) ?_)
              refine Rg_op rfl (o_val (v := .bool false) (d := 125) rfl rfl (ex_move rfl) ?_)
              refine Rg_op rfl (o_valg (v := .bool ((find (l.map san) x37).2)) (d := 126) rfl rfl (wanted_yes (b := false) rfl rfl rfl rfl) (ex_move rfl) ?_)
              refine Rg_op rfl (o_valg (v := .bool ((find (l.map san) x37).2)) (d := 127) rfl rfl (wanted_yes (b := false) rfl rfl rfl rfl) (ex_move rfl) ?_)
              refine Rg_op rfl (o_valg (v := .bool false) (d := 128) rfl rfl (wanted_yes (b := false) rfl rfl rfl rfl) (by rw [show (Value.bool false : Value) = .bool (((find (l.map san) x37).2) != ((find (l.map san) x37).2)) from by rw [bne_self_eq_false]]; exact ex_neqb Try.underlying4 rfl rfl) ?_)
              refine Rg_op rfl (o_val (v := .bool false) (d := 129) rfl rfl (ex_pick (q := false) rfl (fun h => by cases h) (fun h => rfl)) ?_)
              refine Rg_end ?_
              exact ⟨s4, s5, s12, s13, rfl, rfl, rfl, rfl, rfl, s104, s105, s106, rfl, rfl, rfl, rfl, rfl, rfl, rfl, rfl, rfl, rfl, rfl, rfl, rfl, rfl, rfl, rfl, rfl, rfl, rfl, rfl, s1000000, H⟩
            obtain ⟨s4, s5, s12, s13, s17, s18, s19, s20, s21, s104, s105, s106, s107, s108, s109, s110, s111, s112, s113, s114, s115, s116, s117, s118, s119, s120, s121, s122, s123, s124, s125, s129, s1000000, H⟩ := hI
            refine V_false rfl s129 ?_
            refine V_skip rfl ?_
            refine V_region rfl ?_
            refine Rg_op rfl (o_val (v := .int .i64 (((k : Nat) : Int) + 1)) (d := 130) rfl rfl (ex_add s106 rfl (by omega)) ?_)
            refine Rg_op rfl (o_val (v := .int .i64 (((k : Nat) : Int) + 1)) (d := 106) rfl rfl (ex_move rfl) ?_)
            refine Rg_end ?_
            exact ⟨k + 1, ⟨s4, s5, s12, s13, s104, s105, rfl, s1000000, H, by omega⟩, by omega⟩
          · have hb35 : ¬ (((k : Nat) : Int) < (((ks).length : Nat) : Int)) := of_decide_eq_false hb35
            refine V_exit rfl ?_
            refine V_seq rfl ?_
            refine V_region rfl ?_
            refine Rg_op rfl (o_val (v := .slice A_tab (((l.map san)).length) c_tab) (d := 132) rfl rfl (ex_move s5) ?_)
            refine Rg_op rfl (o_call (fv := []) (cap := []) (vs := [.slice A_tab (((l.map san)).length) c_tab, .slice none 0 0]) rfl rfl cl16 rfl (merge_c _ _ (l.map san) _ _ [] _ (own_row (H.pull 3 rfl rfl)).1 (by omega) (Row.nil _ _ _) (by first | omega | simp)) fun v w43 hS => ?_)
            obtain ⟨A41, c42, hv, hB, hN⟩ := hS
            rw [hn0] at hv
            subst hv
            have H := H.new hB hN
            refine Rg_op rfl (o_val (v := .tuple #[.slice A41 (((mergeP (l.map san) []).1).length) c42, .int .i64 0]) (d := 131) rfl rfl (ex_move rfl) ?_)
            refine Rg_op rfl (o_val (v := .slice A41 (((mergeP (l.map san) []).1).length) c42) (d := 134) rfl rfl (ex_extract rfl rfl) ?_)
            refine Rg_op rfl (o_val (v := .int .i64 0) (d := 135) rfl rfl (ex_extract rfl rfl) ?_)
            refine Rg_op rfl (o_val (v := .slice A41 (((mergeP (l.map san) []).1).length) c42) (d := 22) rfl rfl (ex_assign rfl) ?_)
            refine Rg_op rfl (o_val (v := .int .i64 0) (d := 13) rfl rfl (ex_assign rfl) ?_)
            refine Rg_end ?_
            refine V_seq rfl ?_
            refine V_seq rfl ?_
            refine V_region rfl ?_
            refine Rg_op rfl (o_val (v := .int .i64 0) (d := 136) rfl rfl (ex_move rfl) ?_)
            refine Rg_op rfl (o_val (v := .bool false) (d := 137) rfl rfl (ex_eq (by kernel_rfl)) ?_)
            refine Rg_end ?_
            refine V_false rfl rfl ?_
            refine V_skip rfl ?_
            refine V_seq rfl ?_
            refine V_seq rfl ?_
            refine V_region rfl ?_
            refine Rg_op rfl (o_val (v := .slice A41 (((mergeP (l.map san) []).1).length) c42) (d := 138) rfl rfl (ex_move rfl) ?_)
            refine Rg_op rfl (o_val (v := .int .i64 ((((mergeP (l.map san) []).1).length : Nat) : Int)) (d := 139) rfl rfl (ex_len (ts := #[]) sl41 rfl) ?_)
            refine Rg_op rfl (o_val (v := .int .i64 0) (d := 140) rfl rfl (ex_move rfl) ?_)
            refine Rg_end ?_
            refine V_block rfl ?_
            refine V_loop rfl (γ := Nat) (fun i σ w => σ 4 = .bool false ∧ σ 22 = .slice A41 (((mergeP (l.map san) []).1).length) c42 ∧ σ 138 = .slice A41 (((mergeP (l.map san) []).1).length) c42 ∧ σ 139 = .int .i64 ((((mergeP (l.map san) []).1).length : Nat) : Int) ∧ σ 140 = .int .i64 ((i : Nat) : Int) ∧ σ 1000000 = undef ∧ Hp w0.heap.size w0 w [SA.own kEnt 113 A41 c42 ((mergeP (l.map san) []).1), SA.own kEnt 113 A30 c31 ((mergeP (l.map san) ks).1), SA.own kEnt 113 A26 c27 ((mergeP (l.map san) ks).1), SA.own kInt 3 A_keys c_keys ks, SA.own kEnt 113 A_tab c_tab (l.map san)] ∧ i ≤ (mergeP (l.map san) []).1.length) (fun i => (mergeP (l.map san) []).1.length - i) (0) ⟨s4, rfl, rfl, rfl, rfl, s1000000, H, by omega⟩ (fun i σ w hI => ?_)
            obtain ⟨s4, s22, s138, s139, s140, s1000000, H, hi⟩ := hI
            refine V_seq rfl ?_
            refine V_region rfl ?_
            refine Rg_op rfl (o_val (v := .bool (decide (((i : Nat) : Int) < ((((mergeP (l.map san) []).1).length : Nat) : Int)))) (d := 141) rfl rfl (ex_lss s140 s139) ?_)
            refine Rg_end ?_
            refine V_seq rfl ?_
            refine V_cond (b := (decide (((i : Nat) : Int) < ((((mergeP (l.map san) []).1).length : Nat) : Int)))) rfl rfl (fun hb44 => ?_) (fun hb44 => ?_)
            · have hb44 : ((i : Nat) : Int) < ((((mergeP (l.map san) []).1).length : Nat) : Int) := of_decide_eq_true hb44
              refine V_skip rfl ?_
              refine V_seq rfl ?_
              refine V_block rfl ?_
              refine V_seq rfl ?_
              refine V_region rfl ?_
              refine Rg_op rfl (o_val (v := .int .i64 ((i : Nat) : Int)) (d := 142) rfl rfl (ex_move s140) ?_)
              have hr45 := (own_row (H.pull 0 rfl rfl)).1
              obtain ⟨ad46, x46, cs46, hA46, hx46, hR46, hc46⟩ := Row.get hr45 ((i : Nat) : Int) (by omega) (by omega)
              obtain rfl := hR46
              refine Rg_op rfl (o_val (v := .pointer (some (ad46.add ((((i : Nat) : Int)).toNat * 3)))) (d := 143) rfl rfl (ex_indexAddr sl41 s138 hA46 s140 (by omega) (by omega) rfl) ?_)
              refine Rg_op rfl (o_val (v := .agg #[.int .i64 x46.Key, .int .i64 x46.Mask, .int .i64 x46.Outs]) (d := 144) rfl rfl (ex_loadN (vs := [.int .i64 x46.Key, .int .i64 x46.Mask, .int .i64 x46.Outs]) ca113 rfl rfl (fun j u hj => by rw [add_add]; exact hc46 j u hj)) ?_)
              refine Rg_op rfl (o_alloc rfl tz113 H fun b47 w48 hA H => ?_)
              refine Rg_op rfl (o_val (v := .int .i64 ((i : Nat) : Int)) (d := 23) rfl rfl (ex_assign rfl) ?_)
              refine Rg_op rfl (o_store (vs := [.int .i64 x46.Key, .int .i64 x46.Mask, .int .i64 x46.Outs]) rfl ts113 rfl rfl rfl rfl 0 rfl rfl rfl rfl H fun w49 hA H => ?_)
              refine Rg_end ?_
              refine V_seq rfl ?_
              refine V_region rfl ?_
              refine Rg_op rfl (o_val (v := .slice A41 (((mergeP (l.map san) []).1).length) c42) (d := 145) rfl rfl (ex_move s22) ?_)
              refine Rg_op rfl (o_val (v := .int .i64 ((i : Nat) : Int)) (d := 146) rfl rfl (ex_move rfl) ?_)
              have hcap9 := (own_row (H.pull 1 rfl rfl)).2
              refine Rg_op rfl (o_val (v := .slice A41 i c42) (d := 147) rfl rfl (ex_sliceH sl41 rfl rfl (by omega) (by omega) rfl) ?_)
              refine Rg_op rfl (o_val (v := .int .i64 ((i : Nat) : Int)) (d := 148) rfl rfl (ex_len (ts := #[]) sl41 rfl) ?_)
              refine Rg_op rfl (o_val (v := .int .i64 0) (d := 149) rfl rfl (ex_move rfl) ?_)
              refine Rg_end ?_
              refine V_block rfl ?_
              refine V_loop rfl (γ := Nat) (fun j σ w => σ 4 = .bool false ∧ σ 22 = .slice A41 (((mergeP (l.map san) []).1).length) c42 ∧ σ 23 = .int .i64 ((i : Nat) : Int) ∧ σ 24 = .pointer (some ⟨b47, 0, none⟩) ∧ σ 138 = .slice A41 (((mergeP (l.map san) []).1).length) c42 ∧ σ 139 = .int .i64 ((((mergeP (l.map san) []).1).length : Nat) : Int) ∧ σ 140 = .int .i64 ((i : Nat) : Int) ∧ σ 141 = .bool (decide (((i : Nat) : Int) < ((((mergeP (l.map san) []).1).length : Nat) : Int))) ∧ σ 142 = .int .i64 ((i : Nat) : Int) ∧ σ 143 = .pointer (some (ad46.add ((((i : Nat) : Int)).toNat * 3))) ∧ σ 144 = .agg #[.int .i64 x46.Key, .int .i64 x46.Mask, .int .i64 x46.Outs] ∧ σ 145 = .slice A41 (((mergeP (l.map san) []).1).length) c42 ∧ σ 146 = .int .i64 ((i : Nat) : Int) ∧ σ 147 = .slice A41 i c42 ∧ σ 148 = .int .i64 ((i : Nat) : Int) ∧ σ 149 = .int .i64 ((j : Nat) : Int) ∧ σ 1000000 = undef ∧ Hp w0.heap.size w0 w [SA.cel b47 #[.int .i64 x46.Key, .int .i64 x46.Mask, .int .i64 x46.Outs] 113, SA.own kEnt 113 A41 c42 ((mergeP (l.map san) []).1), SA.own kEnt 113 A30 c31 ((mergeP (l.map san) ks).1), SA.own kEnt 113 A26 c27 ((mergeP (l.map san) ks).1), SA.own kInt 3 A_keys c_keys ks, SA.own kEnt 113 A_tab c_tab (l.map san)] ∧ j ≤ i) (fun j => i - j) (0) ⟨s4, s22, rfl, rfl, s138, s139, s140, rfl, rfl, rfl, rfl, rfl, rfl, rfl, rfl, rfl, s1000000, H, by omega⟩ (fun j σ w hI => ?_)
              obtain ⟨s4, s22, s23, s24, s138, s139, s140, s141, s142, s143, s144, s145, s146, s147, s148, s149, s1000000, H, hj⟩ := hI
              refine V_seq rfl ?_
              refine V_region rfl ?_
              refine Rg_op rfl (o_val (v := .bool (decide (((j : Nat) : Int) < ((i : Nat) : Int)))) (d := 150) rfl rfl (ex_lss s149 s148) ?_)
              refine Rg_end ?_
              refine V_seq rfl ?_
              refine V_cond (b := (decide (((j : Nat) : Int) < ((i : Nat) : Int)))) rfl rfl (fun hb50 => ?_) (fun hb50 => ?_)
              · have hb50 : ((j : Nat) : Int) < ((i : Nat) : Int) := of_decide_eq_true hb50
                refine V_skip rfl ?_
                refine V_seq rfl ?_
                refine V_block rfl ?_
                refine V_seq rfl ?_
                refine V_region rfl ?_
                have hr51 := (own_row (H.pull 1 rfl rfl)).1
                obtain ⟨ad52, x52, cs52, hA52, hx52, hR52, hc52⟩ := Row.get hr51 ((j : Nat) : Int) (by omega) (by omega)
                obtain rfl := hR52
                refine Rg_op rfl (o_val (v := .pointer (some (ad52.add ((((j : Nat) : Int)).toNat * 3)))) (d := 151) rfl rfl (ex_indexAddr sl41 s147 hA52 s149 (by omega) (by omega) rfl) ?_)
                refine Rg_op rfl (o_val (v := .agg #[.int .i64 x52.Key, .int .i64 x52.Mask, .int .i64 x52.Outs]) (d := 152) rfl rfl (ex_loadN (vs := [.int .i64 x52.Key, .int .i64 x52.Mask, .int .i64 x52.Outs]) ca113 rfl rfl (fun j u hj => by rw [add_add]; exact hc52 j u hj)) ?_)
                refine Rg_op rfl (o_alloc rfl tz113 H fun b53 w54 hA H => ?_)
                refine Rg_op rfl (o_store (vs := [.int .i64 x52.Key, .int .i64 x52.Mask, .int .i64 x52.Outs]) rfl ts113 rfl rfl rfl rfl 0 rfl rfl rfl rfl H fun w55 hA H => ?_)
                refine Rg_end ?_
                refine V_seq rfl ?_
                refine V_region rfl ?_
                have gx9 := hn1 x46 (List.mem_of_getElem? hx46)
                have gy9 := hn1 x52 (List.mem_of_getElem? hx52)
                obtain ⟨d9, hd9, hdl9⟩ := diff_nat (ge_of gx9) (ge_of gy9)
                rw [diff] at hd9
                refine Rg_op rfl (o_val (v := .pointer (some ⟨b47, 0, none⟩)) (d := 153) rfl rfl (ex_fieldAddr fo113_0 s24 rfl) ?_)
                refine Rg_op rfl (o_val (v := .int .i64 x46.Key) (d := 154) rfl rfl (ex_load ca3 rfl (cell_of (H.rd 1 rfl))) ?_)
                refine Rg_op rfl (o_val (v := .pointer (some ⟨b53, 0, none⟩)) (d := 155) rfl rfl (ex_fieldAddr fo113_0 rfl rfl) ?_)
                refine Rg_op rfl (o_val (v := .int .i64 x52.Key) (d := 156) rfl rfl (ex_load ca3 rfl (cell_of (H.rd 0 rfl))) ?_)
                refine Rg_op rfl (o_val (v := .int .i64 (bXor .i64 x46.Key x52.Key)) (d := 157) rfl rfl (ex_xor rfl rfl) ?_)
                refine Rg_op rfl (o_val (v := .int .i64 (bXor .i64 x46.Key x52.Key)) (d := 27) rfl rfl (ex_assign rfl) ?_)
                refine Rg_end ?_
                refine V_seq rfl ?_
                refine V_join (fun σ w => σ 4 = .bool false ∧ σ 22 = .slice A41 (((mergeP (l.map san) []).1).length) c42 ∧ σ 23 = .int .i64 ((i : Nat) : Int) ∧ σ 24 = .pointer (some ⟨b47, 0, none⟩) ∧ σ 26 = .pointer (some ⟨b53, 0, none⟩) ∧ σ 27 = .int .i64 (bXor .i64 x46.Key x52.Key) ∧ σ 138 = .slice A41 (((mergeP (l.map san) []).1).length) c42 ∧ σ 139 = .int .i64 ((((mergeP (l.map san) []).1).length : Nat) : Int) ∧ σ 140 = .int .i64 ((i : Nat) : Int) ∧ σ 141 = .bool (decide (((i : Nat) : Int) < ((((mergeP (l.map san) []).1).length : Nat) : Int))) ∧ σ 142 = .int .i64 ((i : Nat) : Int) ∧ σ 143 = .pointer (some (ad46.add ((((i : Nat) : Int)).toNat * 3))) ∧ σ 144 = .agg #[.int .i64 x46.Key, .int .i64 x46.Mask, .int .i64 x46.Outs] ∧ σ 145 = .slice A41 (((mergeP (l.map san) []).1).length) c42 ∧ σ 146 = .int .i64 ((i : Nat) : Int) ∧ σ 147 = .slice A41 i c42 ∧ σ 148 = .int .i64 ((i : Nat) : Int) ∧ σ 149 = .int .i64 ((j : Nat) : Int) ∧ σ 150 = .bool (decide (((j : Nat) : Int) < ((i : Nat) : Int))) ∧ σ 151 = .pointer (some (ad52.add ((((j : Nat) : Int)).toNat * 3))) ∧ σ 152 = .agg #[.int .i64 x52.Key, .int .i64 x52.Mask, .int .i64 x52.Outs] ∧ σ 153 = .pointer (some ⟨b47, 0, none⟩) ∧ σ 154 = .int .i64 x46.Key ∧ σ 155 = .pointer (some ⟨b53, 0, none⟩) ∧ σ 156 = .int .i64 x52.Key ∧ σ 157 = .int .i64 (bXor .i64 x46.Key x52.Key) ∧ σ 158 = .pointer (some ⟨b47, 1, none⟩) ∧ σ 159 = .int .i64 x46.Mask ∧ σ 160 = .pointer (some ⟨b53, 1, none⟩) ∧ σ 161 = .int .i64 x52.Mask ∧ σ 162 = .bool (decide (x46.Mask = x52.Mask)) ∧ σ 163 = .bool (decide (x46.Mask = x52.Mask)) ∧ σ 169 = .bool (decide ((x46.Mask = x52.Mask) ∧ (x46.Outs = x52.Outs))) ∧ σ 170 = .bool (decide ((x46.Mask = x52.Mask) ∧ (x46.Outs = x52.Outs))) ∧ σ 173 = .bool (decide (((x46.Mask = x52.Mask) ∧ (x46.Outs = x52.Outs)) ∧ ((bXor .i64 x46.Key x52.Key) ≠ 0))) ∧ σ 174 = .bool (decide (((x46.Mask = x52.Mask) ∧ (x46.Outs = x52.Outs)) ∧ ((bXor .i64 x46.Key x52.Key) ≠ 0))) ∧ σ 180 = .bool (decide ((((x46.Mask = x52.Mask) ∧ (x46.Outs = x52.Outs)) ∧ ((bXor .i64 x46.Key x52.Key) ≠ 0)) ∧ ((bAnd .i64 (bXor .i64 x46.Key x52.Key) ((bXor .i64 x46.Key x52.Key) - 1)) = 0))) ∧ σ 1000000 = undef ∧ Hp w0.heap.size w0 w [SA.cel b53 #[.int .i64 x52.Key, .int .i64 x52.Mask, .int .i64 x52.Outs] 113, SA.cel b47 #[.int .i64 x46.Key, .int .i64 x46.Mask, .int .i64 x46.Outs] 113, SA.own kEnt 113 A41 c42 ((mergeP (l.map san) []).1), SA.own kEnt 113 A30 c31 ((mergeP (l.map san) ks).1), SA.own kEnt 113 A26 c27 ((mergeP (l.map san) ks).1), SA.own kInt 3 A_keys c_keys ks, SA.own kEnt 113 A_tab c_tab (l.map san)]) ?_ (fun σ w hI => ?_)
                · skip
                  refine V_region rfl ?_
                  refine Rg_op rfl (o_val (v := .pointer (some ⟨b47, 1, none⟩)) (d := 158) rfl rfl (ex_fieldAddr fo113_1 s24 rfl) ?_)
                  refine Rg_op rfl (o_val (v := .int .i64 x46.Mask) (d := 159) rfl rfl (ex_load ca3 rfl (cell_of (H.rd 1 rfl))) ?_)
                  refine Rg_op rfl (o_val (v := .pointer (some ⟨b53, 1, none⟩)) (d := 160) rfl rfl (ex_fieldAddr fo113_1 rfl rfl) ?_)
                  refine Rg_op rfl (o_val (v := .int .i64 x52.Mask) (d := 161) rfl rfl (ex_load ca3 rfl (cell_of (H.rd 0 rfl))) ?_)
                  refine Rg_op rfl (o_val (v := .bool (decide (x46.Mask = x52.Mask))) (d := 162) rfl rfl (ex_eql rfl rfl) ?_)
                  refine Rg_op rfl (o_val (v := .bool (decide (x46.Mask = x52.Mask))) (d := 163) rfl rfl (ex_move rfl) ?_)
                  by_cases hg56 : x46.Mask = x52.Mask
                  · skip
                    refine Rg_op rfl (o_valg (v := .pointer (some ⟨b47, 2, none⟩)) (d := 164) rfl rfl (wanted_yes (b := (decide (x46.Mask = x52.Mask))) rfl rfl rfl (decide_eq_true hg56)) (ex_fieldAddr fo113_2 s24 rfl) ?_)
                    refine Rg_op rfl (o_valg (v := .int .i64 x46.Outs) (d := 165) rfl rfl (wanted_yes (b := (decide (x46.Mask = x52.Mask))) rfl rfl rfl (decide_eq_true hg56)) (ex_load ca3 rfl (cell_of (H.rd 1 rfl))) ?_)
                    refine Rg_op rfl (o_valg (v := .pointer (some ⟨b53, 2, none⟩)) (d := 166) rfl rfl (wanted_yes (b := (decide (x46.Mask = x52.Mask))) rfl rfl rfl (decide_eq_true hg56)) (ex_fieldAddr fo113_2 rfl rfl) ?_)
                    refine Rg_op rfl (o_valg (v := .int .i64 x52.Outs) (d := 167) rfl rfl (wanted_yes (b := (decide (x46.Mask = x52.Mask))) rfl rfl rfl (decide_eq_true hg56)) (ex_load ca3 rfl (cell_of (H.rd 0 rfl))) ?_)
                    refine Rg_op rfl (o_valg (v := .bool (decide (x46.Outs = x52.Outs))) (d := 168) rfl rfl (wanted_yes (b := (decide (x46.Mask = x52.Mask))) rfl rfl rfl (decide_eq_true hg56)) (ex_eql rfl rfl) ?_)
                    refine Rg_op rfl (o_val (v := .bool (decide (x46.Outs = x52.Outs))) (d := 169) rfl rfl (ex_pick (q := (decide (x46.Mask = x52.Mask))) rfl (fun h => rfl) (fun h => absurd hg56 (of_decide_eq_false h))) ?_)
                    refine Rg_op rfl (o_val (v := .bool (decide (x46.Outs = x52.Outs))) (d := 170) rfl rfl (ex_move rfl) ?_)
                    by_cases hg57 : x46.Outs = x52.Outs
                    · skip
                      refine Rg_op rfl (o_valg (v := .int .i64 (bXor .i64 x46.Key x52.Key)) (d := 171) rfl rfl (wanted_yes (b := (decide (x46.Outs = x52.Outs))) rfl rfl rfl (decide_eq_true hg57)) (ex_move rfl) ?_)
                      refine Rg_op rfl (o_valg (v := .bool (decide ((bXor .i64 x46.Key x52.Key) ≠ 0))) (d := 172) rfl rfl (wanted_yes (b := (decide (x46.Outs = x52.Outs))) rfl rfl rfl (decide_eq_true hg57)) (ex_neq rfl rfl) ?_)
                      refine Rg_op rfl (o_val (v := .bool (decide ((bXor .i64 x46.Key x52.Key) ≠ 0))) (d := 173) rfl rfl (ex_pick (q := (decide (x46.Outs = x52.Outs))) rfl (fun h => rfl) (fun h => absurd hg57 (of_decide_eq_false h))) ?_)
                      refine Rg_op rfl (o_val (v := .bool (decide ((bXor .i64 x46.Key x52.Key) ≠ 0))) (d := 174) rfl rfl (ex_move rfl) ?_)
                      by_cases hg58 : (bXor .i64 x46.Key x52.Key) ≠ 0
                      · skip
                        refine Rg_op rfl (o_valg (v := .int .i64 (bXor .i64 x46.Key x52.Key)) (d := 175) rfl rfl (wanted_yes (b := (decide ((bXor .i64 x46.Key x52.Key) ≠ 0))) rfl rfl rfl (decide_eq_true hg58)) (ex_move rfl) ?_)
                        refine Rg_op rfl (o_valg (v := .int .i64 (bXor .i64 x46.Key x52.Key)) (d := 176) rfl rfl (wanted_yes (b := (decide ((bXor .i64 x46.Key x52.Key) ≠ 0))) rfl rfl rfl (decide_eq_true hg58)) (ex_move rfl) ?_)
                        refine Rg_op rfl (o_valg (v := .int .i64 ((bXor .i64 x46.Key x52.Key) - 1)) (d := 177) rfl rfl (wanted_yes (b := (decide ((bXor .i64 x46.Key x52.Key) ≠ 0))) rfl rfl rfl (decide_eq_true hg58)) (ex_sub rfl rfl (by omega)) ?_)
                        refine Rg_op rfl (o_valg (v := .int .i64 (bAnd .i64 (bXor .i64 x46.Key x52.Key) ((bXor .i64 x46.Key x52.Key) - 1))) (d := 178) rfl rfl (wanted_yes (b := (decide ((bXor .i64 x46.Key x52.Key) ≠ 0))) rfl rfl rfl (decide_eq_true hg58)) (ex_and rfl rfl) ?_)
                        refine Rg_op rfl (o_valg (v := .bool (decide ((bAnd .i64 (bXor .i64 x46.Key x52.Key) ((bXor .i64 x46.Key x52.Key) - 1)) = 0))) (d := 179) rfl rfl (wanted_yes (b := (decide ((bXor .i64 x46.Key x52.Key) ≠ 0))) rfl rfl rfl (decide_eq_true hg58)) (ex_eql rfl rfl) ?_)
                        refine Rg_op rfl (o_val (v := .bool (decide ((bAnd .i64 (bXor .i64 x46.Key x52.Key) ((bXor .i64 x46.Key x52.Key) - 1)) = 0))) (d := 180) rfl rfl (ex_pick (q := (decide ((bXor .i64 x46.Key x52.Key) ≠ 0))) rfl (fun h => rfl) (fun h => absurd hg58 (of_decide_eq_false h))) ?_)
                        refine Rg_end ?_
                        exact ⟨s4, s22, s23, s24, rfl, rfl, s138, s139, s140, s141, s142, s143, s144, s145, s146, s147, s148, s149, rfl, rfl, rfl, rfl, rfl, rfl, rfl, rfl, rfl, rfl, rfl, rfl, rfl, rfl, (show (.bool (decide (x46.Outs = x52.Outs)) : Value) = .bool (decide ((x46.Mask = x52.Mask) ∧ (x46.Outs = x52.Outs))) from by first | (simp only [hg56, hg57, hg58, true_or, or_true, false_or, or_false, true_and, and_true, false_and, and_false, decide_true, decide_false, Bool.not_true, Bool.not_false]; done) | (simp [hg56, hg57, hg58]; done) | (simp [hg56, hg57, hg58]; rfl)), (show (.bool (decide (x46.Outs = x52.Outs)) : Value) = .bool (decide ((x46.Mask = x52.Mask) ∧ (x46.Outs = x52.Outs))) from by first | (simp only [hg56, hg57, hg58, true_or, or_true, false_or, or_false, true_and, and_true, false_and, and_false, decide_true, decide_false, Bool.not_true, Bool.not_false]; done) | (simp [hg56, hg57, hg58]; done) | (simp [hg56, hg57, hg58]; rfl)), (show (.bool (decide ((bXor .i64 x46.Key x52.Key) ≠ 0)) : Value) = .bool (decide (((x46.Mask = x52.Mask) ∧ (x46.Outs = x52.Outs)) ∧ ((bXor .i64 x46.Key x52.Key) ≠ 0))) from by first | (simp only [hg56, hg57, hg58, true_or, or_true, false_or, or_false, true_and, and_true, false_and, and_false, decide_true, decide_false, Bool.not_true, Bool.not_false]; done) | (simp [hg56, hg57, hg58]; done) | (simp [hg56, hg57, hg58]; rfl)), (show (.bool (decide ((bXor .i64 x46.Key x52.Key) ≠ 0)) : Value) = .bool (decide (((x46.Mask = x52.Mask) ∧ (x46.Outs = x52.Outs)) ∧ ((bXor .i64 x46.Key x52.Key) ≠ 0))) from by first | (simp only [hg56, hg57, hg58, true_or, or_true, false_or, or_false, true_and, and_true, false_and, and_false, decide_true, decide_false, Bool.not_true, Bool.not_false]; done) | (simp [hg56, hg57, hg58]; done) | (simp [hg56, hg57, hg58]; rfl)), (show (.bool (decide ((bAnd .i64 (bXor .i64 x46.Key x52.Key) ((bXor .i64 x46.Key x52.Key) - 1)) = 0)) : Value) = .bool (decide ((((x46.Mask = x52.Mask) ∧ (x46.Outs = x52.Outs)) ∧ ((bXor .i64 x46.Key x52.Key) ≠ 0)) ∧ ((bAnd .i64 (bXor .i64 x46.Key x52.Key) ((bXor .i64 x46.Key x52.Key) - 1)) = 0))) from by first | (simp only [hg56, hg57, hg58, true_or, or_true, false_or, or_false, true_and, and_true, false_and, and_false, decide_true, decide_false, Bool.not_true, Bool.not_false]; done) | (simp [hg56, hg57, hg58]; done) | (simp [hg56, hg57, hg58]; rfl)), s1000000, H⟩
                      · skip
                        refine Rg_op rfl (o_skip (d := 175) rfl rfl (wanted_no (b := (decide ((bXor .i64 x46.Key x52.Key) ≠ 0))) rfl rfl rfl (decide_eq_false hg58)) ?_)
                        refine Rg_op rfl (o_skip (d := 176) rfl rfl (wanted_no (b := (decide ((bXor .i64 x46.Key x52.Key) ≠ 0))) rfl rfl rfl (decide_eq_false hg58)) ?_)
                        refine Rg_op rfl (o_skip (d := 177) rfl rfl (wanted_no (b := (decide ((bXor .i64 x46.Key x52.Key) ≠ 0))) rfl rfl rfl (decide_eq_false hg58)) ?_)
                        refine Rg_op rfl (o_skip (d := 178) rfl rfl (wanted_no (b := (decide ((bXor .i64 x46.Key x52.Key) ≠ 0))) rfl rfl rfl (decide_eq_false hg58)) ?_)
                        refine Rg_op rfl (o_skip (d := 179) rfl rfl (wanted_no (b := (decide ((bXor .i64 x46.Key x52.Key) ≠ 0))) rfl rfl rfl (decide_eq_false hg58)) ?_)
                        refine Rg_op rfl (o_val (v := .bool false) (d := 180) rfl rfl (ex_pick (q := (decide ((bXor .i64 x46.Key x52.Key) ≠ 0))) rfl (fun h => absurd (of_decide_eq_true h) hg58) (fun h => rfl)) ?_)
                        refine Rg_end ?_
                        exact ⟨s4, s22, s23, s24, rfl, rfl, s138, s139, s140, s141, s142, s143, s144, s145, s146, s147, s148, s149, rfl, rfl, rfl, rfl, rfl, rfl, rfl, rfl, rfl, rfl, rfl, rfl, rfl, rfl, (show (.bool (decide (x46.Outs = x52.Outs)) : Value) = .bool (decide ((x46.Mask = x52.Mask) ∧ (x46.Outs = x52.Outs))) from by first | (simp only [hg56, hg57, hg58, true_or, or_true, false_or, or_false, true_and, and_true, false_and, and_false, decide_true, decide_false, Bool.not_true, Bool.not_false]; done) | (simp [hg56, hg57, hg58]; done) | (simp [hg56, hg57, hg58]; rfl)), (show (.bool (decide (x46.Outs = x52.Outs)) : Value) = .bool (decide ((x46.Mask = x52.Mask) ∧ (x46.Outs = x52.Outs))) from by first | (simp only [hg56, hg57, hg58, true_or, or_true, false_or, or_false, true_and, and_true, false_and, and_false, decide_true, decide_false, Bool.not_true, Bool.not_false]; done) | (simp [hg56, hg57, hg58]; done) | (simp [hg56, hg57, hg58]; rfl)), (show (.bool (decide ((bXor .i64 x46.Key x52.Key) ≠ 0)) : Value) = .bool (decide (((x46.Mask = x52.Mask) ∧ (x46.Outs = x52.Outs)) ∧ ((bXor .i64 x46.Key x52.Key) ≠ 0))) from by first | (simp only [hg56, hg57, hg58, true_or, or_true, false_or, or_false, true_and, and_true, false_and, and_false, decide_true, decide_false, Bool.not_true, Bool.not_false]; done) | (simp [hg56, hg57, hg58]; done) | (simp [hg56, hg57, hg58]; rfl)), (show (.bool (decide ((bXor .i64 x46.Key x52.Key) ≠ 0)) : Value) = .bool (decide (((x46.Mask = x52.Mask) ∧ (x46.Outs = x52.Outs)) ∧ ((bXor .i64 x46.Key x52.Key) ≠ 0))) from by first | (simp only [hg56, hg57, hg58, true_or, or_true, false_or, or_false, true_and, and_true, false_and, and_false, decide_true, decide_false, Bool.not_true, Bool.not_false]; done) | (simp [hg56, hg57, hg58]; done) | (simp [hg56, hg57, hg58]; rfl)), (show (.bool false : Value) = .bool (decide ((((x46.Mask = x52.Mask) ∧ (x46.Outs = x52.Outs)) ∧ ((bXor .i64 x46.Key x52.Key) ≠ 0)) ∧ ((bAnd .i64 (bXor .i64 x46.Key x52.Key) ((bXor .i64 x46.Key x52.Key) - 1)) = 0))) from by first | (simp only [hg56, hg57, hg58, true_or, or_true, false_or, or_false, true_and, and_true, false_and, and_false, decide_true, decide_false, Bool.not_true, Bool.not_false]; done) | (simp [hg56, hg57, hg58]; done) | (simp [hg56, hg57, hg58]; rfl)), s1000000, H⟩
                    · skip
                      refine Rg_op rfl (o_skip (d := 171) rfl rfl (wanted_no (b := (decide (x46.Outs = x52.Outs))) rfl rfl rfl (decide_eq_false hg57)) ?_)
                      refine Rg_op rfl (o_skip (d := 172) rfl rfl (wanted_no (b := (decide (x46.Outs = x52.Outs))) rfl rfl rfl (decide_eq_false hg57)) ?_)
                      refine Rg_op rfl (o_val (v := .bool false) (d := 173) rfl rfl (ex_pick (q := (decide (x46.Outs = x52.Outs))) rfl (fun h => absurd (of_decide_eq_true h) hg57) (fun h => rfl)) ?_)
                      refine Rg_op rfl (o_val (v := .bool false) (d := 174) rfl rfl (ex_move rfl) ?_)
                      refine Rg_op rfl (o_skip (d := 175) rfl rfl (wanted_no (b := false) rfl rfl rfl rfl) ?_)
                      refine Rg_op rfl (o_skip (d := 176) rfl rfl (wanted_no (b := false) rfl rfl rfl rfl) ?_)
                      refine Rg_op rfl (o_skip (d := 177) rfl rfl (wanted_no (b := false) rfl rfl rfl rfl) ?_)
                      refine Rg_op rfl (o_skip (d := 178) rfl rfl (wanted_no (b := false) rfl rfl rfl rfl) ?_)
                      refine Rg_op rfl (o_skip (d := 179) rfl rfl (wanted_no (b := false) rfl rfl rfl rfl) ?_)
                      refine Rg_op rfl (o_val (v := .bool false) (d := 180) rfl rfl (ex_pick (q := false) rfl (fun h => by cases h) (fun h => rfl)) ?_)
                      refine Rg_end ?_
                      exact ⟨s4, s22, s23, s24, rfl, rfl, s138, s139, s140, s141, s142, s143, s144, s145, s146, s147, s148, s149, rfl, rfl, rfl, rfl, rfl, rfl, rfl, rfl, rfl, rfl, rfl, rfl, rfl, rfl, (show (.bool (decide (x46.Outs = x52.Outs)) : Value) = .bool (decide ((x46.Mask = x52.Mask) ∧ (x46.Outs = x52.Outs))) from by first | (simp only [hg56, hg57, true_or, or_true, false_or, or_false, true_and, and_true, false_and, and_false, decide_true, decide_false, Bool.not_true, Bool.not_false]; done) | (simp [hg56, hg57]; done) | (simp [hg56, hg57]; rfl)), (show (.bool (decide (x46.Outs = x52.Outs)) : Value) = .bool (decide ((x46.Mask = x52.Mask) ∧ (x46.Outs = x52.Outs))) from by first | (simp only [hg56, hg57, true_or, or_true, false_or, or_false, true_and, and_true, false_and, and_false, decide_true, decide_false, Bool.not_true, Bool.not_false]; done) | (simp [hg56, hg57]; done) | (simp [hg56, hg57]; rfl)), (show (.bool false : Value) = .bool (decide (((x46.Mask = x52.Mask) ∧ (x46.Outs = x52.Outs)) ∧ ((bXor .i64 x46.Key x52.Key) ≠ 0))) from by first | (simp only [hg56, hg57, true_or, or_true, false_or, or_false, true_and, and_true, false_and, and_false, decide_true, decide_false, Bool.not_true, Bool.not_false]; done) | (simp [hg56, hg57]; done) | (simp [hg56, hg57]; rfl)), (show (.bool false : Value) = .bool (decide (((x46.Mask = x52.Mask) ∧ (x46.Outs = x52.Outs)) ∧ ((bXor .i64 x46.Key x52.Key) ≠ 0))) from by first | (simp only [hg56, hg57, true_or, or_true, false_or, or_false, true_and, and_true, false_and, and_false, decide_true, decide_false, Bool.not_true, Bool.not_false]; done) | (simp [hg56, hg57]; done) | (simp [hg56, hg57]; rfl)), (show (.bool false : Value) = .bool (decide ((((x46.Mask = x52.Mask) ∧ (x46.Outs = x52.Outs)) ∧ ((bXor .i64 x46.Key x52.Key) ≠ 0)) ∧ ((bAnd .i64 (bXor .i64 x46.Key x52.Key) ((bXor .i64 x46.Key x52.Key) - 1)) = 0))) from by first | (simp only [hg56, hg57, true_or, or_true, false_or, or_false, true_and, and_true, false_and, and_false, decide_true, decide_false, Bool.not_true, Bool.not_false]; done) | (simp [hg56, hg57]; done) | (simp [hg56, hg57]; rfl)), s1000000, H⟩
                  · skip
                    refine Rg_op rfl (o_skip (d := 164) rfl rfl (wanted_no (b := (decide (x46.Mask = x52.Mask))) rfl rfl rfl (decide_eq_false hg56)) ?_)
                    refine Rg_op rfl (o_skip (d := 165) rfl rfl (wanted_no (b := (decide (x46.Mask = x52.Mask))) rfl rfl rfl (decide_eq_false hg56)) ?_)
                    refine Rg_op rfl (o_skip (d := 166) rfl rfl (wanted_no (b := (decide (x46.Mask = x52.Mask))) rfl rfl rfl (decide_eq_false hg56)) ?_)
                    refine Rg_op rfl (o_skip (d := 167) rfl rfl (wanted_no (b := (decide (x46.Mask = x52.Mask))) rfl rfl rfl (decide_eq_false hg56)) ?_)
                    refine Rg_op rfl (o_skip (d := 168) rfl rfl (wanted_no (b := (decide (x46.Mask = x52.Mask))) rfl rfl rfl (decide_eq_false hg56)) ?_)
                    refine Rg_op rfl (o_val (v := .bool false) (d := 169) rfl rfl (ex_pick (q := (decide (x46.Mask = x52.Mask))) rfl (fun h => absurd (of_decide_eq_true h) hg56) (fun h => rfl)) ?_)
                    refine Rg_op rfl (o_val (v := .bool false) (d := 170) rfl rfl (ex_move rfl) ?_)
                    refine Rg_op rfl (o_skip (d := 171) rfl rfl (wanted_no (b := false) rfl rfl rfl rfl) ?_)
                    refine Rg_op rfl (o_skip (d := 172) rfl rfl (wanted_no (b := false) rfl rfl rfl rfl) ?_)
                    refine Rg_op rfl (o_val (v := .bool false) (d := 173) rfl rfl (ex_pick (q := false) rfl (fun h => by cases h) (fun h => rfl)) ?_)
                    refine Rg_op rfl (o_val (v := .bool false) (d := 174) rfl rfl (ex_move rfl) ?_)
                    refine Rg_op rfl (o_skip (d := 175) rfl rfl (wanted_no (b := false) rfl rfl rfl rfl) ?_)
                    refine Rg_op rfl (o_skip (d := 176) rfl rfl (wanted_no (b := false) rfl rfl rfl rfl) ?_)
                    refine Rg_op rfl (o_skip (d := 177) rfl rfl (wanted_no (b := false) rfl rfl rfl rfl) ?_)
                    refine Rg_op rfl (o_skip (d := 178) rfl rfl (wanted_no (b := false) rfl rfl rfl rfl) ?_)
                    refine Rg_op rfl (o_skip (d := 179) rfl rfl (wanted_no (b := false) rfl rfl rfl rfl) ?_)
                    refine Rg_op rfl (o_val (v := .bool false) (d := 180) rfl rfl (ex_pick (q := false) rfl (fun h => by cases h) (fun h => rfl)) ?_)
                    refine Rg_end ?_
                    exact ⟨s4, s22, s23, s24, rfl, rfl, s138, s139, s140, s141, s142, s143, s144, s145, s146, s147, s148, s149, rfl, rfl, rfl, rfl, rfl, rfl, rfl, rfl, rfl, rfl, rfl, rfl, rfl, rfl, (show (.bool false : Value) = .bool (decide ((x46.Mask = x52.Mask) ∧ (x46.Outs = x52.Outs))) from by first | (simp only [hg56, true_or, or_true, false_or, or_false, true_and, and_true, false_and, and_false, decide_true, decide_false, Bool.not_true, Bool.not_false]; done) | (simp [hg56]; done) | (simp [hg56]; rfl)), (show (.bool false : Value) = .bool (decide ((x46.Mask = x52.Mask) ∧ (x46.Outs = x52.Outs))) from by first | (simp only [hg56, true_or, or_true, false_or, or_false, true_and, and_true, false_and, and_false, decide_true, decide_false, Bool.not_true, Bool.not_false]; done) | (simp [hg56]; done) | (simp [hg56]; rfl)), (show (.bool false : Value) = .bool (decide (((x46.Mask = x52.Mask) ∧ (x46.Outs = x52.Outs)) ∧ ((bXor .i64 x46.Key x52.Key) ≠ 0))) from by first | (simp only [hg56, true_or, or_true, false_or, or_false, true_and, and_true, false_and, and_false, decide_true, decide_false, Bool.not_true, Bool.not_false]; done) | (simp [hg56]; done) | (simp [hg56]; rfl)), (show (.bool false : Value) = .bool (decide (((x46.Mask = x52.Mask) ∧ (x46.Outs = x52.Outs)) ∧ ((bXor .i64 x46.Key x52.Key) ≠ 0))) from by first | (simp only [hg56, true_or, or_true, false_or, or_false, true_and, and_true, false_and, and_false, decide_true, decide_false, Bool.not_true, Bool.not_false]; done) | (simp [hg56]; done) | (simp [hg56]; rfl)), (show (.bool false : Value) = .bool (decide ((((x46.Mask = x52.Mask) ∧ (x46.Outs = x52.Outs)) ∧ ((bXor .i64 x46.Key x52.Key) ≠ 0)) ∧ ((bAnd .i64 (bXor .i64 x46.Key x52.Key) ((bXor .i64 x46.Key x52.Key) - 1)) = 0))) from by first | (simp only [hg56, true_or, or_true, false_or, or_false, true_and, and_true, false_and, and_false, decide_true, decide_false, Bool.not_true, Bool.not_false]; done) | (simp [hg56]; done) | (simp [hg56]; rfl)), s1000000, H⟩
                obtain ⟨s4, s22, s23, s24, s26, s27, s138, s139, s140, s141, s142, s143, s144, s145, s146, s147, s148, s149, s150, s151, s152, s153, s154, s155, s156, s157, s158, s159, s160, s161, s162, s163, s169, s170, s173, s174, s180, s1000000, H⟩ := hI
                refine V_cond (b := (decide ((((x46.Mask = x52.Mask) ∧ (x46.Outs = x52.Outs)) ∧ ((bXor .i64 x46.Key x52.Key) ≠ 0)) ∧ ((bAnd .i64 (bXor .i64 x46.Key x52.Key) ((bXor .i64 x46.Key x52.Key) - 1)) = 0)))) rfl s180 (fun hb59 => ?_) (fun hb59 => ?_)
                · have hb59 : (((x46.Mask = x52.Mask) ∧ (x46.Outs = x52.Outs)) ∧ ((bXor .i64 x46.Key x52.Key) ≠ 0)) ∧ ((bAnd .i64 (bXor .i64 x46.Key x52.Key) ((bXor .i64 x46.Key x52.Key) - 1)) = 0) := of_decide_eq_true hb59
                  exact (no_pair gx9 gy9 (none_left hn1 hn4 (k := j) (j := i) (by omega) hx52 hx46) hb59).elim
                · have hb59 : ¬ ((((x46.Mask = x52.Mask) ∧ (x46.Outs = x52.Outs)) ∧ ((bXor .i64 x46.Key x52.Key) ≠ 0)) ∧ ((bAnd .i64 (bXor .i64 x46.Key x52.Key) ((bXor .i64 x46.Key x52.Key) - 1)) = 0)) := of_decide_eq_false hb59
                  refine V_skip rfl ?_
                  refine V_region rfl ?_
                  refine Rg_op rfl (o_val (v := .int .i64 (((j : Nat) : Int) + 1)) (d := 181) rfl rfl (ex_add s149 rfl (by omega)) ?_)
                  refine Rg_op rfl (o_val (v := .int .i64 (((j : Nat) : Int) + 1)) (d := 149) rfl rfl (ex_move rfl) ?_)
                  refine Rg_end ?_
                  exact ⟨j + 1, ⟨s4, s22, s23, s24, s138, s139, s140, s141, s142, s143, s144, s145, s146, s147, s148, rfl, s1000000, (Hp.pull 5 rfl rfl (Hp.pull 5 rfl rfl (Hp.pull 5 rfl rfl (Hp.pull 5 rfl rfl (Hp.pull 5 rfl rfl (Hp.pull 5 rfl rfl (Hp.drop (Hp.pull 0 rfl rfl H)))))))), by omega⟩, by omega⟩
              · have hb50 : ¬ (((j : Nat) : Int) < ((i : Nat) : Int)) := of_decide_eq_false hb50
                refine V_exit rfl ?_
                refine V_region rfl ?_
                refine Rg_op rfl (o_val (v := .int .i64 (((i : Nat) : Int) + 1)) (d := 182) rfl rfl (ex_add s140 rfl (by omega)) ?_)
                refine Rg_op rfl (o_val (v := .int .i64 (((i : Nat) : Int) + 1)) (d := 140) rfl rfl (ex_move rfl) ?_)
                refine Rg_end ?_
                exact ⟨i + 1, ⟨s4, s22, s138, s139, rfl, s1000000, (Hp.pull 4 rfl rfl (Hp.pull 4 rfl rfl (Hp.pull 4 rfl rfl (Hp.pull 4 rfl rfl (Hp.pull 4 rfl rfl (Hp.drop (Hp.pull 0 rfl rfl H))))))), by omega⟩, by omega⟩
            · have hb44 : ¬ (((i : Nat) : Int) < ((((mergeP (l.map san) []).1).length : Nat) : Int)) := of_decide_eq_false hb44
              refine V_exit rfl ?_
              refine V_seq rfl ?_
              refine V_region rfl ?_
              refine Rg_op rfl (o_call (fv := []) (cap := []) (vs := []) rfl rfl cl10 rfl (works_c _) fun v w60 hS => ?_)
              obtain ⟨rfl, hB⟩ := hS
              have H := H.keep hB
              refine Rg_op rfl (o_val (v := .bool true) (d := 4) rfl rfl (ex_assign rfl) ?_)
              refine Rg_end ?_
              refine V_ret rfl (end0 (v := .bool true) s1000000 (res_tmp Try.results9 rfl) ?_)
              exact ⟨rfl, H.below⟩

end Go.Proofs.Ytlnogaoihkinbaa
namespace Go.Proofs.Ytlnogaoihkinbaa
open Go.Gk Go.RowKit Go.ChangeShapes Go.WideShapes Go.ChangeAt
theorem ownT : ownKnob Try.prog.godebug = none := by kernel_rfl
theorem laidOutT : laidOutB Try.prog = true := by kernel_rfl
/-- What is read at a type is a datum of a kind, and a fitting one. -/
def Op {α : Type} (P : Program) (t : TypeId) (d : Kd α) (ok : α → Prop) : Prop :=
  ∀ {H : Type} {enc : TypeId × Value → H} {w : World} {base : Nat} {spare : Nat → Bool} {held : Bool} {fuel : Nat} {cs : List Value} {x : DataW H × List MemPlace}, DataW.trod enc P w base spare held fuel t cs = some x → ∃ z, d.R w.cell? z cs ∧ ok z
def In64 (x : Int) : Prop := -9223372036854775808 ≤ x ∧ x ≤ 9223372036854775807
theorem in64_of {n : Int} (h : (Lit.int .i64 n).wf = true) : In64 n := by
  simp [Lit.wf, IntKind.min, IntKind.max, IntKind.signed, IntKind.bits] at h
  unfold In64
  omega
theorem list_of {α : Type} {p : Nat → α → Prop} : ∀ {n : Nat}, (∀ i, i < n → ∃ z, p i z) → ∃ xs : List α, xs.length = n ∧ ∀ i z, xs[i]? = some z → p i z
  | 0, _ => ⟨[], rfl, fun i z h => by simp at h⟩
  | n + 1, h => by
    obtain ⟨xs, hl, hx⟩ := list_of (n := n) fun i hi => h i (by omega)
    obtain ⟨z, hz⟩ := h n (by omega)
    refine ⟨xs ++ [z], by simp [hl], fun i y hy => ?_⟩
    by_cases hi : i < n
    · rw [List.getElem?_append_left (by omega)] at hy; exact hx i y hy
    · have := (List.getElem?_eq_some_iff.1 hy).1
      simp only [List.length_append, List.length_cons, List.length_nil] at this
      have e : i = n := by omega
      subst e
      rw [List.getElem?_append_right (by omega)] at hy
      simp [hl] at hy
      rw [← hy]; exact hz
theorem op_slice {α : Type} {P : Program} {t e : TypeId} {d : Kd α} {ok : α → Prop} (ht : P.underlying t = some (.slice e)) (hc : P.cellsOf e = d.sz) (op : Op P e d ok) : Op P t (kSl d) (fun xs => ∀ x ∈ xs, ok x) := fun h => by
  rcases Go.Deep.open_slice ht h with ⟨rfl, _⟩ | ⟨a, len, cap, m, n, D, Pl, rfl, hb, hl, hm, hmm, _, hx⟩
  · exact ⟨[], ⟨none, 0, rfl, Nat.le_refl _, by decide, Row.nil _ _ _⟩, fun x hx => by simp at hx⟩
  · have hlm : len ≤ m := by rw [hmm]; split <;> omega
    obtain ⟨xs, hxl, hxs⟩ := list_of (n := len) (p := fun i z => ok z ∧ ∃ cs', d.R _ z cs' ∧ cs'.length = d.sz ∧ ∀ j, j < d.sz → World.cell? _ (a.add (i * d.sz + j)) = cs'[j]?) fun i hi => by
      obtain ⟨cs', h1, h2⟩ := hx i (by omega)
      obtain ⟨z, hz, hok⟩ := op h2
      obtain ⟨_, h3, h4⟩ := World.cells?_some h1
      rw [hc] at h3 h4
      exact ⟨z, hok, cs', hz, h3, fun j hj => by rw [← h4 j hj, Go.Deep.add_add]⟩
    refine ⟨xs, ⟨some a, cap, by rw [hxl], by omega, hm, fun i z hz => ?_⟩, fun z hz => ?_⟩
    · obtain ⟨_, cs', hR, hl', hcs⟩ := hxs i z hz
      exact ⟨a, cs', rfl, hR, fun j u hj => by rw [hcs j (by rw [← hl']; exact (List.getElem?_eq_some_iff.1 hj).1), hj]⟩
    · obtain ⟨i, hi⟩ := List.mem_iff_getElem?.1 hz
      exact (hxs i z hi).1
/-- A struct of integers. -/
theorem struct_ints {P : Program} {t : TypeId} {fs : Array Go.Field} (ht : P.underlying t = some (.struct fs)) (hc : P.cellsOf t = fs.size) (hf : ∀ (i : Nat) (f : Go.Field), fs[i]? = some f → f.offset = i ∧ P.cellsOf f.type = 1 ∧ P.underlying f.type = some (.int .i64))
    {H : Type} {enc : TypeId × Value → H} {w : World} {base : Nat} {spare : Nat → Bool} {held : Bool} {fuel : Nat} {cs : List Value} {x : DataW H × List MemPlace} (h : DataW.trod enc P w base spare held fuel t cs = some x) :
    ∃ zs : List Int, zs.length = fs.size ∧ cs = zs.map (.int .i64) ∧ ∀ z ∈ zs, In64 z := by
  obtain ⟨xs, n, rfl, _, hl, hxl, hx⟩ := DataW.trod_struct ht h
  obtain ⟨zs, hzl, hzs⟩ := list_of (n := fs.size) (p := fun i z => cs[i]? = some (.int .i64 z) ∧ In64 z) fun i hi => by
    obtain ⟨h1, h2, h3⟩ := hf i fs[i] (by simp [hi])
    have h4 := hx i fs[i] (by simp [hi])
    rw [List.getElem?_eq_getElem (by omega)] at h4
    obtain ⟨z, h5, _, h6⟩ := DataW.trod_int h3 h4
    rw [h1, h2] at h5
    have h7 := congrArg (·[0]?) h5
    simp only [List.getElem?_take, List.getElem?_drop, Nat.zero_lt_one, if_true, Nat.add_zero, List.getElem?_cons_zero] at h7
    exact ⟨z, h7, in64_of h6⟩
  refine ⟨zs, hzl, List.ext_getElem? fun i => ?_, fun z hz => ?_⟩
  · by_cases hi : i < fs.size
    · have := (hzs i zs[i] (by simp [hzl, hi])).1
      rw [this, List.getElem?_map, List.getElem?_eq_getElem (by omega)]
      rfl
    · rw [List.getElem?_eq_none (by omega), List.getElem?_eq_none (by rw [List.length_map]; omega)]
  · obtain ⟨i, hi⟩ := List.mem_iff_getElem?.1 hz
    exact (hzs i z hi).2
end Go.Proofs.Ytlnogaoihkinbaa
namespace Go.Proofs.Ytlnogaoihkinbaa
open Go.Gk Go.RowKit Go.ChangeShapes Go.WideShapes Go.ChangeAt
def Ent64 (x : Entry) : Prop := In64 x.Key ∧ In64 x.Mask ∧ In64 x.Outs
def isI64 (P : Program) (t : TypeId) : Bool := match P.underlying t with
  | some (.int .i64) => true
  | _ => false
theorem isI64_ok {P : Program} {t : TypeId} (h : isI64 P t = true) : P.underlying t = some (.int .i64) := by
  unfold isI64 at h
  split at h
  · assumption
  · cases h
def fieldsI (P : Program) (t : TypeId) : Option (Array Go.Field) := match P.underlying t with
  | some (.struct fs) => if P.cellsOf t = fs.size ∧ (List.range fs.size).all (fun i => match fs[i]? with | some f => decide (f.offset = i) && decide (P.cellsOf f.type = 1) && isI64 P f.type | none => false) = true then some fs else none
  | _ => none
theorem fieldsI_ok {P : Program} {t : TypeId} {fs : Array Go.Field} (h : fieldsI P t = some fs) : P.underlying t = some (.struct fs) ∧ P.cellsOf t = fs.size ∧ ∀ (i : Nat) (f : Go.Field), fs[i]? = some f → f.offset = i ∧ P.cellsOf f.type = 1 ∧ P.underlying f.type = some (.int .i64) := by
  unfold fieldsI at h
  split at h
  · rename_i gs hg
    split at h
    · rename_i h2
      injection h with h
      subst h
      refine ⟨hg, h2.1, fun i f hf => ?_⟩
      have hi : i < gs.size := (Array.getElem?_eq_some_iff.1 hf).1
      have := List.all_eq_true.1 h2.2 i (List.mem_range.2 hi)
      rw [hf] at this
      simp only [Bool.and_eq_true, decide_eq_true_eq] at this
      exact ⟨this.1.1, this.1.2, isI64_ok this.2⟩
    · cases h
  · cases h
theorem op_ints {P : Program} {t : TypeId} {n : Nat} (h : (fieldsI P t).map (·.size) = some n)
    {H : Type} {enc : TypeId × Value → H} {w : World} {base : Nat} {spare : Nat → Bool} {held : Bool} {fuel : Nat} {cs : List Value} {x : DataW H × List MemPlace} (hd : DataW.trod enc P w base spare held fuel t cs = some x) :
    ∃ zs : List Int, zs.length = n ∧ cs = zs.map (.int .i64) ∧ ∀ z ∈ zs, In64 z := by
  obtain ⟨fs, hf, he⟩ := Option.map_eq_some_iff.1 h
  obtain ⟨h1, h2, h3⟩ := fieldsI_ok hf
  rw [← he]
  exact struct_ints h1 h2 h3 hd
theorem op_ent {P : Program} {t : TypeId} (h : (fieldsI P t).map (·.size) = some 3) : Op P t kEnt Ent64 := fun hd => by
  obtain ⟨zs, hl, rfl, hz⟩ := op_ints h hd
  match zs, hl with
  | [a, b, c], _ => exact ⟨⟨a, b, c⟩, rfl, hz a (by simp), hz b (by simp), hz c (by simp)⟩
end Go.Proofs.Ytlnogaoihkinbaa
namespace Go.Proofs.Ytlnogaoihkinbaa
open Go.Gk Go.RowKit Go.ChangeShapes Go.WideShapes Go.ChangeAt
theorem op_ents41 : Op Try.prog 41 (kSl kEnt) (fun xs => ∀ x ∈ xs, Ent64 x) := op_slice Try.underlying41 (by kernel_rfl) (op_ent (by kernel_rfl))
theorem op_u16 {P : Program} {t : TypeId} (ht : P.underlying t = some (.int .u16)) : Op P t kU16 (fun x => 0 ≤ x ∧ x ≤ 65535) := fun h => by
  obtain ⟨n, hc, _, hw⟩ := DataW.trod_int ht h
  refine ⟨n, hc, ?_⟩
  simp [Lit.wf, IntKind.min, IntKind.max, IntKind.signed, IntKind.bits] at hw
  omega
theorem op_u16s : Op Try.prog 111 (kSl kU16) (fun xs => ∀ x ∈ xs, 0 ≤ x ∧ x ≤ 65535) := op_slice Try.underlying111 (by kernel_rfl) (op_u16 Try.underlying114)
set_option maxRecDepth 100000 in
theorem meshSame_lifted (os : Os) (started : os.Started) (H : Type) (enc : TypeId × Value → H) :
    ReturnsInHanded {} Try.checked os 9 .any (Rows.meshSameSpec.pre6 enc Try.prog Try.f9 Rows.meshSameRow.domain false) (Rows.meshSameSpec.post enc Try.prog Try.f9 false true false false) := by
  refine returnsInHanded_of_change (C := Try.checked) ownT started (by kernel_rfl) Try.func9
    (ChangeSpec.witness6 (enc := enc) (C := Try.checked) false ⟨#[], #[.slice none 0 0, .slice none 0 0], []⟩ 8 (by kernel_rfl) (by kernel_rfl) (by kernel_rfl) (by kernel_rfl)) ?_
  intro W base args ds gs before hval0 hW hcnd _
  have hval : ∀ (j : Nat) t v, Try.f9.params[j]? = some t → args[j]? = some v → Value.okWide Try.prog W .any base t v := hval0
  have hW' := hW
  obtain ⟨p, q, hA0, hV, rfl, hfz, hnd⟩ := hW
  have hA : DataW.TrodAll enc Try.prog W 0 (fun _ => true) true Try.f9.params.toList args.toList ds p := hA0
  rw [Try.params9] at hA hval
  obtain ⟨v0, vs0, d0, ds0, p0, q0, hargs, rfl, rfl, h0, r0⟩ := trodAll_cons hA
  obtain ⟨v1, vs1, d1, ds1, p1, q1, rfl, rfl, rfl, h1, r1⟩ := trodAll_cons r0
  obtain ⟨rfl, rfl, rfl⟩ := trodAll_nil r1
  obtain rfl : args = #[v0, v1] := by cases args; simp_all
  obtain ⟨rfl, rfl⟩ := trodVars_none hV
  have k0 := h0
  have lt0 : ∀ x ∈ p0, x.block < W.heap.size := by obtain ⟨m, hm⟩ := k0; exact DataW.trod_lt m _ _ _ hm
  have k1 := h1
  have lt1 : ∀ x ∈ p1, x.block < W.heap.size := by obtain ⟨m, hm⟩ := k1; exact DataW.trod_lt m _ _ _ hm
  obtain ⟨b0, len0, cp0, rfl⟩ := okWide_slice Try.underlying41 (hval 0 41 v0 rfl rfl)
  obtain ⟨z0, ⟨a0, cap0, e0, hlc0, hcm0, hX0⟩, hz0⟩ : ∃ z, (kSl kEnt).R W.cell? z [.slice b0 len0 cp0] ∧ ∀ x ∈ z, Ent64 x := by obtain ⟨f, hf⟩ := h0; exact op_ents41 hf
  simp only [List.cons.injEq, and_true, Value.slice.injEq] at e0
  obtain ⟨rfl, rfl, rfl⟩ := e0
  obtain ⟨b1, len1, cp1, rfl⟩ := okWide_slice Try.underlying111 (hval 1 111 v1 rfl rfl)
  obtain ⟨z1, ⟨a1, cap1, e1, hlc1, hcm1, hX1⟩, hz1⟩ : ∃ z, (kSl kU16).R W.cell? z [.slice b1 len1 cp1] ∧ ∀ x ∈ z, 0 ≤ x ∧ x ≤ 65535 := by obtain ⟨f, hf⟩ := h1; exact op_u16s hf
  simp only [List.cons.injEq, and_true, Value.slice.injEq] at e1
  obtain ⟨rfl, rfl, rfl⟩ := e1
  clear hA0 hval0
  refine (same9_c b0 cp0 z0 b1 cp1 z1 W hX0 (by omega) hX1 (by omega) hz1).mono fun e W' ⟨v, he, hv, bel⟩ => ?_
  subst he hv
  exact ⟨_, rfl, _, _, _, [], _, [], hW', trodAll_mk1 (shut_bool Try.underlying4 _), (trodAll_cons_mk (Below.trod laidOutT (by kernel_rfl) (of_decide_eq_true (by kernel_rfl)) k0 bel lt0) (trodAll_cons_mk (Below.trod laidOutT (by kernel_rfl) (of_decide_eq_true (by kernel_rfl)) k1 bel lt1) trodAll_mk0)), rfl, bel.frame _, fun h => by cases h⟩
theorem MeshSame_holds : Rows.MeshSameSaid :=
  OpenClaim.holds_of_wide 9 Try.f9 rfl rfl rfl rfl rfl rfl rfl ⟨rfl, rfl, rfl, rfl, rfl⟩ rfl rfl rfl rfl rfl (by kernel_rfl) Try.func9 (by kernel_rfl)
    (of_decide_eq_true (by kernel_rfl)) (by unfold Func.isWrapper; first | (rw [if_pos (by decide +kernel)]; kernel_rfl) | (rw [if_neg (by decide +kernel)]; exact ⟨rfl, rfl⟩))
    (fun os started H enc _ => meshSame_lifted os started H enc)
end Go.Proofs.Ytlnogaoihkinbaa
