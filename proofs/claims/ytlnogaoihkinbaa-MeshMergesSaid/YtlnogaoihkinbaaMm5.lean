/- Texts that the proof needs (part 5). -/
import Derived.Test.YtlnogaoihkinbaaMm4
set_option linter.unusedVariables false
set_option linter.unusedSimpArgs false
set_option linter.unusedSectionVars false
namespace Go.Proofs.Ytlnogaoihkinbaa
open Go.Gk Go.RowKit
section
variable {κ ν : Type} [DecidableEq κ]
theorem mdel_keys {k : κ} : ∀ {kv : List (κ × ν)}, (kv.map (·.1)).Nodup → ((mdel k kv).map (·.1)).Nodup ∧ (∀ p, p ∈ (mdel k kv).map (·.1) ↔ p ∈ kv.map (·.1) ∧ p ≠ k)
  | [], h => ⟨h, fun p => by simp [mdel]⟩
  | x :: l, h => by
    simp only [List.map_cons, List.nodup_cons] at h
    simp only [mdel]
    by_cases hk : k = x.1
    · rw [if_pos hk]
      refine ⟨h.2, fun p => ?_⟩
      simp only [List.map_cons, List.mem_cons]
      constructor
      · exact fun hp => ⟨.inr hp, fun e => h.1 (by rw [← hk, ← e]; exact hp)⟩
      · rintro ⟨hp | hp, hne⟩
        · exact absurd (hp.trans hk.symm) hne
        · exact hp
    · rw [if_neg hk]
      obtain ⟨h1, h2⟩ := mdel_keys (k := k) h.2
      simp only [List.map_cons, List.nodup_cons, List.mem_cons]
      refine ⟨⟨fun hc => h.1 ((h2 _).1 hc).1, h1⟩, fun p => ?_⟩
      rw [h2]
      constructor
      · rintro (hp | hp)
        · exact ⟨.inl hp, fun e => hk (e ▸ hp)⟩
        · exact ⟨.inr hp.1, hp.2⟩
      · rintro ⟨hp | hp, hne⟩
        · exact .inl hp
        · exact .inr ⟨hp, hne⟩
theorem mget_mdel {k : κ} : ∀ {kv : List (κ × ν)}, (kv.map (·.1)).Nodup → ∀ p, mget p (mdel k kv) = if p = k then none else mget p kv
  | [], h, p => by simp [mdel, mget]
  | x :: l, h, p => by
    simp only [List.map_cons, List.nodup_cons] at h
    simp only [mdel]
    by_cases hk : k = x.1
    · rw [if_pos hk]
      by_cases hp : p = k
      · rw [if_pos hp]
        cases hm : mget p l with
        | none => rfl
        | some v => exact absurd (mget_key.1 (by rw [hm]; rfl)) (by rw [hp, hk]; exact h.1)
      · rw [if_neg hp]
        simp only [mget]
        rw [if_neg (fun e => hp (e.trans hk.symm))]
    · rw [if_neg hk]
      simp only [mget]
      by_cases hx : p = x.1
      · rw [if_pos hx, if_pos hx, if_neg (fun e => hk (e.symm.trans hx))]
      · rw [if_neg hx, if_neg hx]
        exact mget_mdel h.2 p
theorem mget_mput {k : κ} {v : ν} : ∀ {kv : List (κ × ν)} (p : κ), mget p (mput k v kv) = if p = k then some v else mget p kv
  | [], p => by simp [mput, mget]
  | x :: l, p => by
    simp only [mput]
    by_cases hk : k = x.1
    · rw [if_pos hk]
      simp only [mget]
      by_cases hp : p = k
      · simp [hp]
      · rw [if_neg hp, if_neg hp, if_neg (fun e => hp (e.trans hk.symm))]
    · rw [if_neg hk]
      simp only [mget]
      by_cases hx : p = x.1
      · rw [if_pos hx, if_pos hx, if_neg (fun e => hk (e.symm.trans hx))]
      · rw [if_neg hx, if_neg hx]; exact mget_mput p
theorem mput_keys {k : κ} {v : ν} : ∀ {kv : List (κ × ν)}, (kv.map (·.1)).Nodup → ((mput k v kv).map (·.1)).Nodup ∧ (∀ p, p ∈ (mput k v kv).map (·.1) ↔ p ∈ kv.map (·.1) ∨ p = k)
  | [], h => ⟨by simp [mput], fun p => by simp [mput]⟩
  | x :: l, h => by
    simp only [List.map_cons, List.nodup_cons] at h
    simp only [mput]
    by_cases hk : k = x.1
    · rw [if_pos hk]
      simp only [List.map_cons, List.nodup_cons, List.mem_cons]
      exact ⟨⟨by rw [hk]; exact h.1, h.2⟩, fun p => ⟨fun hp => hp.elim .inr (fun hp => .inl (.inr hp)), fun hp => hp.elim (fun hp => hp.elim (fun hp => .inl (hp.trans hk.symm)) .inr) .inl⟩⟩
    · rw [if_neg hk]
      obtain ⟨h1, h2⟩ := mput_keys (k := k) (v := v) h.2
      simp only [List.map_cons, List.nodup_cons, List.mem_cons]
      refine ⟨⟨fun hc => ?_, h1⟩, fun p => ?_⟩
      · rcases (h2 _).1 hc with hc | hc
        · exact h.1 hc
        · exact hk hc.symm
      · rw [h2]
        constructor
        · rintro (hp | hp | hp)
          · exact .inl (.inl hp)
          · exact .inl (.inr hp)
          · exact .inr hp
        · rintro ((hp | hp) | hp)
          · exact .inl hp
          · exact .inr (.inl hp)
          · exact .inr (.inr hp)
end
def outs4 : List Int := [1, 2, 4, 8]
abbrev CF := Port → Option Int
def cf (kv : List (Port × Int)) : CF := fun k => mget k kv
def comN (C : CF) (r : Int) (j : Nat) : List Int := (outs4.take j).filterMap fun o => C ⟨r, o, 0⟩
def comL (C : CF) (r : Int) : List Int := comN C r 4
def delN (kv : List (Port × Int)) (r : Int) (j : Nat) : List (Port × Int) := (outs4.take j).foldl (fun kv o => mdel ⟨r, o, 0⟩ kv) kv
def srcIs (l : List Packet) (r p : Int) : Bool := decide ((l[p.toNat]?).map (·.Source) = some r)
def sndN (l : List Packet) (ps : List Int) (r : Int) (j : Nat) : List Int := (ps.take j).filter (srcIs l r)
def sndL (l : List Packet) (ps : List Int) (r : Int) : List Int := ps.filter (srcIs l r)
theorem outs_at {j : Nat} {x : Int} (hj : j < 4) (hx : ([1, 2, 4, 8, 16] : List Int)[j]? = some x) : outs4[j]? = some x := by
  match j, hj with
  | 0, _ => exact hx
  | 1, _ => exact hx
  | 2, _ => exact hx
  | 3, _ => exact hx
theorem comN_next {C : CF} {r : Int} {j : Nat} {x : Int} (hx : outs4[j]? = some x) : comN C r (j + 1) = comN C r j ++ (C ⟨r, x, 0⟩).toList := by
  simp only [comN, List.take_add_one, hx, Option.toList_some, List.filterMap_append, List.filterMap_cons, List.filterMap_nil]
  cases C ⟨r, x, 0⟩ <;> rfl
theorem comL_split {C : CF} {r : Int} {j : Nat} {x v : Int} (hx : outs4[j]? = some x) (hv : C ⟨r, x, 0⟩ = some v) : ∃ post, comL C r = comN C r j ++ v :: post := by
  have hj := (List.getElem?_eq_some_iff.1 hx).1
  have hg := (List.getElem?_eq_some_iff.1 hx).2
  refine ⟨(outs4.drop (j + 1)).filterMap fun o => C ⟨r, o, 0⟩, ?_⟩
  have h1 : outs4.take 4 = outs4.take j ++ x :: outs4.drop (j + 1) := by
    rw [show outs4.take 4 = outs4 from rfl, ← hg, List.getElem_cons_drop, List.take_append_drop]
  rw [comL, comN, h1, List.filterMap_append, List.filterMap_cons, hv]
  rfl
theorem delN_next {kv : List (Port × Int)} {r : Int} {j : Nat} {x : Int} (hx : outs4[j]? = some x) : mdel ⟨r, x, 0⟩ (delN kv r j) = delN kv r (j + 1) := by
  simp only [delN, List.take_add_one, hx, Option.toList_some, List.foldl_append, List.foldl_cons, List.foldl_nil]
theorem delN_get {kv : List (Port × Int)} {r : Int} (hn : (kv.map (·.1)).Nodup) : ∀ (j : Nat), ((delN kv r j).map (·.1)).Nodup ∧ (∀ p, p ∈ (delN kv r j).map (·.1) → p ∈ kv.map (·.1)) ∧ ∀ p, mget p (delN kv r j) = if p.r = r ∧ p.c = 0 ∧ p.o ∈ outs4.take j then none else mget p kv
  | 0 => ⟨hn, fun p h => h, fun p => by simp [delN]⟩
  | j + 1 => by
    obtain ⟨h1, h2, h3⟩ := delN_get hn j
    cases hx : outs4[j]? with
    | none =>
      have e : outs4.take (j + 1) = outs4.take j := by rw [List.take_add_one, hx]; simp
      have e2 : delN kv r (j + 1) = delN kv r j := by rw [delN, e]; rfl
      rw [e2, e]
      exact ⟨h1, h2, h3⟩
    | some x =>
      rw [← delN_next hx]
      obtain ⟨h4, h5⟩ := mdel_keys (k := (⟨r, x, 0⟩ : Port)) h1
      refine ⟨h4, fun p hp => h2 p ((h5 p).1 hp).1, fun p => ?_⟩
      rw [mget_mdel h1, h3, List.take_add_one, hx]
      by_cases hp : p = ⟨r, x, 0⟩
      · subst hp; simp
      · rw [if_neg hp]
        simp only [Option.toList_some, List.mem_append, List.mem_singleton]
        have : ¬ (p.r = r ∧ p.c = 0 ∧ p.o = x) := fun ⟨a, b, c⟩ => hp (by cases p; simp_all)
        by_cases h6 : p.r = r ∧ p.c = 0 ∧ p.o ∈ outs4.take j
        · rw [if_pos h6, if_pos ⟨h6.1, h6.2.1, .inl h6.2.2⟩]
        · rw [if_neg h6, if_neg]
          rintro ⟨a, b, c | c⟩
          · exact h6 ⟨a, b, c⟩
          · exact this ⟨a, b, c⟩
theorem out_new {j : Nat} {x : Int} (hx : outs4[j]? = some x) : x ∉ outs4.take j := by
  have hj := (List.getElem?_eq_some_iff.1 hx).1
  match j, hj with
  | 0, _ => simp
  | 1, _ => simp [outs4] at hx ⊢; omega
  | 2, _ => simp [outs4] at hx ⊢; omega
  | 3, _ => simp [outs4] at hx ⊢; omega
theorem delN_at {kv : List (Port × Int)} {r : Int} (hn : (kv.map (·.1)).Nodup) {j : Nat} {x : Int} (hx : outs4[j]? = some x) : mget ⟨r, x, 0⟩ (delN kv r j) = cf kv ⟨r, x, 0⟩ := by
  rw [(delN_get hn j).2.2, if_neg (fun h => out_new hx h.2.2)]
  rfl
theorem sndN_next {l : List Packet} {ps : List Int} {r : Int} {j : Nat} {p : Int} (hp : ps[j]? = some p) : sndN l ps r (j + 1) = sndN l ps r j ++ (if srcIs l r p = true then [p] else []) := by
  simp only [sndN, List.take_add_one, hp, Option.toList_some, List.filter_append, List.filter_cons, List.filter_nil]
theorem sndL_split {l : List Packet} {ps : List Int} {r : Int} {j : Nat} {p : Int} (hp : ps[j]? = some p) (hs : srcIs l r p = true) : ∃ post, sndL l ps r = sndN l ps r j ++ p :: post := by
  have hj := (List.getElem?_eq_some_iff.1 hp).1
  have hg := (List.getElem?_eq_some_iff.1 hp).2
  refine ⟨(ps.drop (j + 1)).filter (srcIs l r), ?_⟩
  have h1 : ps = ps.take j ++ p :: ps.drop (j + 1) := by rw [← hg, List.getElem_cons_drop, List.take_append_drop]
  conv => lhs; rw [sndL, h1]
  rw [List.filter_append, List.filter_cons, if_pos hs]
  rfl
end Go.Proofs.Ytlnogaoihkinbaa
namespace Go.Proofs.Ytlnogaoihkinbaa
open Go.Gk Go.RowKit
theorem ca119 : cellsAgg Try.prog 119 = some none := by kernel_rfl
theorem ca138 : cellsAgg Try.prog 138 = some none := by kernel_rfl
theorem ca140 : cellsAgg Try.prog 140 = some none := by kernel_rfl
theorem ca55 : cellsAgg Try.prog 55 = some none := by kernel_rfl
theorem cl63 : callable Try.prog 63 = true := by kernel_rfl
theorem fo142_2 : fieldOff Try.prog 142 2 = some 4 := by kernel_rfl
theorem fo142_3 : fieldOff Try.prog 142 3 = some 5 := by kernel_rfl
theorem fo142_5 : fieldOff Try.prog 142 5 = some 7 := by kernel_rfl
theorem mt140 : mapT Try.prog 140 = some ⟨150, 3, .int .i64 0⟩ := by kernel_rfl
theorem ts150 : tySize Try.prog 150 = some 3 := by kernel_rfl
theorem tz150 : tyZero Try.prog 150 = some (.agg #[.int .i64 0, .int .i64 0, .int .i64 0]) := by kernel_rfl
theorem enterIter_c (n0 : Nat) (wb : World) (bw mc ms b1 b2 b3 : Nat) (cs : Array Value) (kvC : List (Port × Int)) (kvS : List (Int × Sld Int)) (Al : Option Addr) (cl : Nat) (l : List Packet) (t r : Int) (hn0 : n0 = wb.heap.size) (hL : Row kPkt wb.cell? Al l) (hw7 : cs[7]? = some (.map (some mc))) (hw5 : cs[5]? = some (.map (some ms))) (hw4 : cs[4]? = some (.slice Al l.length cl)) (hn : (kvC.map (·.1)).Nodup) (hS : ∀ (t p : Int), p ∈ (lkS t kvS).xs → 0 ≤ p ∧ p < l.length) (hSl : (lkS t kvS).xs.length ≤ 100000) : IterN Try.prog 87 [] [.pointer (some ⟨b1, 0, none⟩), .pointer (some ⟨b2, 0, none⟩), .pointer (some ⟨b3, 0, none⟩)] (comL (cf kvC) r ++ sndL l (lkS t kvS).xs r) (fun x => .int .i64 x) (SA.star (SA.star (SA.star (SA.star (SA.star (SA.star (SA.cel b1 #[.int .i64 r] 3) (SA.cel b2 #[.pointer (some ⟨bw, 0, none⟩)] 138)) (SA.cel b3 #[.int .i64 t] 3)) (SA.cel bw cs 142)) (SA.map kPort.enc (fun x : Int => Value.int .i64 x) mc kvC)) (SA.map kI.enc (Sld.val (α := Int)) ms kvS)) (SA.rows kInt 3 (kvS.map (·.2)))) (SA.star (SA.star (SA.star (SA.cel bw cs 142) (SA.map kPort.enc (fun x : Int => Value.int .i64 x) mc (delN kvC r 4))) (SA.map kI.enc (Sld.val (α := Int)) ms kvS)) (SA.rows kInt 3 (kvS.map (·.2)))) n0 wb := by
  subst hn0
  intro C y w0 L hY H
  refine calls_of (n := 72) (l := [.func (.yield y) #[] #[], .pointer (some ⟨b1, 0, none⟩), .pointer (some ⟨b2, 0, none⟩), .pointer (some ⟨b3, 0, none⟩)]) Try.func87 rfl rfl rfl ?_
  have H := (H.pull 1 rfl rfl).split.split.split.split.split.split.pull 7 rfl rfl
  refine V_seq rfl ?_
  refine V_seq rfl ?_
  refine V_region rfl ?_
  refine Rg_op rfl (o_call (fv := []) (cap := []) (vs := []) rfl rfl cl63 rfl (outputs_c _) fun v w4 hS => ?_)
  obtain ⟨A2, c3, rfl, hB, hN⟩ := hS
  have H := H.new hB hN
  refine Rg_op rfl (o_val (v := .slice A2 4 c3) (d := 13) rfl rfl (ex_sliceH sl26 rfl rfl (by first | omega | (have := (own_row (H.pull 0 rfl rfl)).2.1; simp only [List.length_cons, List.length_nil] at this; omega)) (by first | omega | (have := (own_row (H.pull 0 rfl rfl)).2.1; simp only [List.length_cons, List.length_nil] at this; omega)) rfl) ?_)
  refine Rg_op rfl (o_val (v := .int .i64 ((4 : Nat) : Int)) (d := 14) rfl rfl (ex_len (ts := #[]) sl26 rfl) ?_)
  refine Rg_op rfl (o_val (v := .int .i64 0) (d := 15) rfl rfl (ex_move rfl) ?_)
  refine Rg_end ?_
  refine V_block rfl ?_
  refine V_loop rfl (γ := Nat) (fun j σ w => σ 0 = .func (.yield y) #[] #[] ∧ σ 1 = .pointer (some ⟨b1, 0, none⟩) ∧ σ 2 = .pointer (some ⟨b2, 0, none⟩) ∧ σ 3 = .pointer (some ⟨b3, 0, none⟩) ∧ σ 13 = .slice A2 4 c3 ∧ σ 14 = .int .i64 ((4 : Nat) : Int) ∧ σ 15 = .int .i64 ((j : Nat) : Int) ∧ σ 1000000 = undef ∧ Hp wb.heap.size wb w (SA.own kInt 3 A2 c3 ([1, 2, 4, 8, 16]) :: C (comN (cf kvC) r j) :: SA.cel b1 #[.int .i64 r] 3 :: SA.cel b2 #[.pointer (some ⟨bw, 0, none⟩)] 138 :: SA.cel b3 #[.int .i64 t] 3 :: SA.cel bw cs 142 :: SA.map kPort.enc (fun x : Int => Value.int .i64 x) mc (delN kvC r j) :: SA.map kI.enc (Sld.val (α := Int)) ms kvS :: SA.rows kInt 3 (kvS.map (·.2)) :: L) ∧ j ≤ 4) (fun j => 4 - j) (0) ⟨rfl, rfl, rfl, rfl, rfl, rfl, rfl, rfl, H, by omega⟩ (fun j σ w hI => ?_)
  obtain ⟨s0, s1, s2, s3, s13, s14, s15, s1000000, H, hj⟩ := hI
  refine V_seq rfl ?_
  refine V_region rfl ?_
  refine Rg_op rfl (o_val (v := .bool (decide (((j : Nat) : Int) < ((4 : Nat) : Int)))) (d := 16) rfl rfl (ex_lss s15 s14) ?_)
  refine Rg_end ?_
  refine V_seq rfl ?_
  refine V_cond (b := (decide (((j : Nat) : Int) < ((4 : Nat) : Int)))) rfl rfl (fun hb5 => ?_) (fun hb5 => ?_)
  · have hb5 : ((j : Nat) : Int) < ((4 : Nat) : Int) := of_decide_eq_true hb5
    refine V_skip rfl ?_
    refine V_seq rfl ?_
    refine V_block rfl ?_
    refine V_seq rfl ?_
    refine V_region rfl ?_
    have hr6 := (own_row (H.pull 0 rfl rfl)).1
    obtain ⟨ad7, x7, cs7, hA7, hx7, hR7, hc7⟩ := Row.get hr6 ((j : Nat) : Int) ((by first | omega | (simp only [List.length_cons, List.length_nil]; omega))) ((by first | omega | (simp only [List.length_cons, List.length_nil]; omega)))
    obtain rfl := hR7
    refine Rg_op rfl (o_val (v := .pointer (some (ad7.add ((((j : Nat) : Int)).toNat * 1)))) (d := 17) rfl rfl (ex_indexAddr sl26 s13 hA7 s15 ((by first | omega | (simp only [List.length_cons, List.length_nil]; omega))) ((by first | omega | (simp only [List.length_cons, List.length_nil]; omega))) rfl) ?_)
    refine Rg_op rfl (o_val (v := .int .i64 x7) (d := 18) rfl rfl (ex_load ca3 rfl (hc7 0 _ rfl)) ?_)
    refine Rg_op rfl (o_val (v := .int .i64 x7) (d := 6) rfl rfl (ex_assign rfl) ?_)
    refine Rg_end ?_
    refine V_seq rfl ?_
    refine V_region rfl ?_
    have hxo : outs4[j]? = some x7 := outs_at (by omega) hx7
    refine Rg_op rfl (o_val (v := .int .i64 r) (d := 19) rfl rfl (ex_load ca3 s1 (cell_of (H.rd 2 rfl))) ?_)
    refine Rg_op rfl (o_val (v := .int .i64 x7) (d := 20) rfl rfl (ex_move rfl) ?_)
    refine Rg_op rfl (o_val (v := .agg #[.int .i64 r, .int .i64 x7, .int .i64 0]) (d := 21) rfl rfl (ex_eq (by kernel_rfl)) ?_)
    refine Rg_op rfl (o_alloc rfl tz150 H fun b8 w9 hA H => ?_)
    refine Rg_op rfl (o_store (vs := [.int .i64 r, .int .i64 x7, .int .i64 0]) rfl ts150 rfl rfl rfl rfl 0 rfl rfl rfl rfl H fun w10 hA H => ?_)
    refine Rg_end ?_
    refine V_seq rfl ?_
    refine V_draw [1, 2, 6, 7, 8, 9, 10] (.q 0 (.p 1 (.p 2 (.q 3 (.q 4 (.q 5 (.p 6 (.p 7 (.p 8 (.p 9 (.p 10 .done))))))))))) (fun _ => False) rfl mixed (by kernel_rfl) fun w11 hD => ?_
    have H := H.drew hD
    refine c_q (v := .pointer (some ⟨bw, 0, none⟩)) (d := 23) rfl rfl rfl (fun w' hG => ex_load ca138 s2 (hG.cell (cell_of (H.rd 4 rfl)) id)) ?_
    refine c_p (v := .pointer (some ⟨bw, 0, none⟩)) (d := 24) rfl rfl rfl (fun w' => ex_nilCheck rfl) ?_
    refine c_p (v := .pointer (some ⟨bw, 7, none⟩)) (d := 25) rfl rfl rfl (fun w' => ex_fieldAddr fo142_5 rfl rfl) ?_
    refine c_q (v := .map (some mc)) (d := 26) rfl rfl rfl (fun w' hG => ex_load ca140 rfl (hG.cell ((cell_of (H.rd 6 rfl)).trans hw7) id)) ?_
    refine c_q (v := .agg #[.int .i64 r, .int .i64 x7, .int .i64 0]) (d := 27) rfl rfl rfl (fun w' hG => ex_loadN (vs := [.int .i64 r, .int .i64 x7, .int .i64 0]) ca150 rfl rfl (fun j u hj => hG.cell (blk_cells (vs := [.int .i64 r, .int .i64 x7, .int .i64 0]) (H.rd 0 rfl) rfl j u hj) id)) ?_
    refine c_q (v := .tuple #[.int .i64 ((mget (⟨r, x7, 0⟩ : Port) (delN kvC r j)).getD 0), .bool ((mget (⟨r, x7, 0⟩ : Port) (delN kvC r j)).isSome)]) (d := 28) rfl rfl rfl (fun w' hG => by rw [show (Value.int .i64 ((mget (⟨r, x7, 0⟩ : Port) (delN kvC r j)).getD 0) : Value) = ((mget (⟨r, x7, 0⟩ : Port) (delN kvC r j)).map (fun x : Int => Value.int .i64 x)).getD (.int .i64 0) from get_int.symm]; exact ex_lookupOk (k := (⟨r, x7, 0⟩ : Port)) mt140 kPort rfl rfl ((H.mapAt 7 rfl).agr hG id)) ?_
    refine c_p (v := .tuple #[.int .i64 ((mget (⟨r, x7, 0⟩ : Port) (delN kvC r j)).getD 0), .bool ((mget (⟨r, x7, 0⟩ : Port) (delN kvC r j)).isSome)]) (d := 22) rfl rfl rfl (fun w' => ex_move rfl) ?_
    refine c_p (v := .int .i64 ((mget (⟨r, x7, 0⟩ : Port) (delN kvC r j)).getD 0)) (d := 29) rfl rfl rfl (fun w' => ex_extract rfl rfl) ?_
    refine c_p (v := .bool ((mget (⟨r, x7, 0⟩ : Port) (delN kvC r j)).isSome)) (d := 30) rfl rfl rfl (fun w' => ex_extract rfl rfl) ?_
    refine c_p (v := .int .i64 ((mget (⟨r, x7, 0⟩ : Port) (delN kvC r j)).getD 0)) (d := 8) rfl rfl rfl (fun w' => ex_assign rfl) ?_
    refine c_p (v := .bool ((mget (⟨r, x7, 0⟩ : Port) (delN kvC r j)).isSome)) (d := 9) rfl rfl rfl (fun w' => ex_assign rfl) ?_
    refine c_done ?_
    refine V_seq rfl ?_
    refine V_draw [1, 2] (.q 0 (.p 1 (.p 2 (.q 3 (.q 4 (.l 5 .done)))))) (fun _ => False) rfl mixed (by kernel_rfl) fun w12 hD => ?_
    have H := H.drew hD
    refine c_q (v := .pointer (some ⟨bw, 0, none⟩)) (d := 31) rfl rfl rfl (fun w' hG => ex_load ca138 s2 (hG.cell (cell_of (H.rd 4 rfl)) id)) ?_
    refine c_p (v := .pointer (some ⟨bw, 0, none⟩)) (d := 32) rfl rfl rfl (fun w' => ex_nilCheck rfl) ?_
    refine c_p (v := .pointer (some ⟨bw, 7, none⟩)) (d := 33) rfl rfl rfl (fun w' => ex_fieldAddr fo142_5 rfl rfl) ?_
    refine c_q (v := .map (some mc)) (d := 34) rfl rfl rfl (fun w' hG => ex_load ca140 rfl (hG.cell ((cell_of (H.rd 6 rfl)).trans hw7) id)) ?_
    refine c_q (v := .agg #[.int .i64 r, .int .i64 x7, .int .i64 0]) (d := 35) rfl rfl rfl (fun w' hG => ex_loadN (vs := [.int .i64 r, .int .i64 x7, .int .i64 0]) ca150 rfl rfl (fun j u hj => hG.cell (blk_cells (vs := [.int .i64 r, .int .i64 x7, .int .i64 0]) (H.rd 0 rfl) rfl j u hj) id)) ?_
    have H := H.pull 7 rfl rfl
    refine c_l rfl (o_delete (k := (⟨r, x7, 0⟩ : Port)) rfl mt140 kPort rfl rfl H fun w13 hA H => ⟨.inl (by kernel_rfl), ?_⟩)
    refine c_done ?_
    refine V_seq rfl ?_
    refine V_region rfl ?_
    refine Rg_op rfl (o_val (v := .bool ((mget (⟨r, x7, 0⟩ : Port) (delN kvC r j)).isSome)) (d := 36) rfl rfl (ex_move rfl) ?_)
    refine Rg_op rfl (o_val (v := .bool ((mget (⟨r, x7, 0⟩ : Port) (delN kvC r j)).isSome)) (d := 37) rfl rfl (ex_move rfl) ?_)
    by_cases hg14 : ((mget (⟨r, x7, 0⟩ : Port) (delN kvC r j)).isSome) = true
    · skip
      refine Rg_op rfl (o_valg (v := .func (.yield y) #[] #[]) (d := 38) rfl rfl (wanted_yes (b := ((mget (⟨r, x7, 0⟩ : Port) (delN kvC r j)).isSome)) rfl rfl rfl hg14) (ex_move s0) ?_)
      refine Rg_op rfl (o_valg (v := .int .i64 ((mget (⟨r, x7, 0⟩ : Port) (delN kvC r j)).getD 0)) (d := 39) rfl rfl (wanted_yes (b := ((mget (⟨r, x7, 0⟩ : Port) (delN kvC r j)).isSome)) rfl rfl rfl hg14) (ex_move rfl) ?_)
      have hv9 : cf kvC ⟨r, x7, 0⟩ = some ((mget (⟨r, x7, 0⟩ : Port) (delN kvC r j)).getD 0) := by rw [← delN_at hn hxo]; cases hm9 : mget (⟨r, x7, 0⟩ : Port) (delN kvC r j) with | none => rw [hm9] at hg14; cases hg14 | some u => rfl
      obtain ⟨po9, hpo9⟩ := comL_split hxo hv9
      have H := H.pull 3 rfl rfl
      refine Rg_op rfl (o_g (wanted_yes (b := ((mget (⟨r, x7, 0⟩ : Port) (delN kvC r j)).isSome)) rfl rfl rfl hg14) (o_yield rfl rfl rfl (Yields.mono (hY (comN (cf kvC) r j) ((mget (⟨r, x7, 0⟩ : Port) (delN kvC r j)).getD 0) _ _ _ (by rw [hpo9, List.append_assoc, List.cons_append]) H) fun w15 H => ?_)))
      refine Rg_op rfl (o_valg (v := .bool false) (d := 41) rfl rfl (wanted_yes (b := ((mget (⟨r, x7, 0⟩ : Port) (delN kvC r j)).isSome)) rfl rfl rfl hg14) (ex_not (q := true) rfl) ?_)
      refine Rg_op rfl (o_val (v := .bool false) (d := 42) rfl rfl (ex_pick (q := ((mget (⟨r, x7, 0⟩ : Port) (delN kvC r j)).isSome)) rfl (fun h => rfl) (fun h => absurd hg14 (by rw [h]; decide))) ?_)
      refine Rg_end ?_
      refine V_false rfl rfl ?_
      refine V_skip rfl ?_
      refine V_region rfl ?_
      refine Rg_op rfl (o_val (v := .int .i64 (((j : Nat) : Int) + 1)) (d := 43) rfl rfl (ex_add s15 rfl (by omega)) ?_)
      refine Rg_op rfl (o_val (v := .int .i64 (((j : Nat) : Int) + 1)) (d := 15) rfl rfl (ex_move rfl) ?_)
      refine Rg_end ?_
      rw [delN_next hxo] at H
      rw [show comN (cf kvC) r j ++ [(mget (⟨r, x7, 0⟩ : Port) (delN kvC r j)).getD 0] = comN (cf kvC) r (j + 1) from by rw [comN_next hxo, hv9]; rfl] at H
      exact ⟨j + 1, ⟨s0, s1, s2, s3, s13, s14, rfl, s1000000, (Hp.pull 8 rfl rfl (Hp.pull 7 rfl rfl (Hp.pull 8 rfl rfl (Hp.pull 8 rfl rfl (Hp.pull 8 rfl rfl (Hp.pull 8 rfl rfl (Hp.pull 3 rfl rfl (Hp.pull 8 rfl rfl (Hp.pull 8 rfl rfl (Hp.drop (Hp.pull 2 rfl rfl H))))))))))), by omega⟩, by omega⟩
    · skip
      refine Rg_op rfl (o_skip (d := 38) rfl rfl (wanted_no (b := ((mget (⟨r, x7, 0⟩ : Port) (delN kvC r j)).isSome)) rfl rfl rfl (by simpa using hg14)) ?_)
      refine Rg_op rfl (o_skip (d := 39) rfl rfl (wanted_no (b := ((mget (⟨r, x7, 0⟩ : Port) (delN kvC r j)).isSome)) rfl rfl rfl (by simpa using hg14)) ?_)
      refine Rg_op rfl (o_skip (d := 40) rfl rfl (wanted_no (b := ((mget (⟨r, x7, 0⟩ : Port) (delN kvC r j)).isSome)) rfl rfl rfl (by simpa using hg14)) ?_)
      refine Rg_op rfl (o_skip (d := 41) rfl rfl (wanted_no (b := ((mget (⟨r, x7, 0⟩ : Port) (delN kvC r j)).isSome)) rfl rfl rfl (by simpa using hg14)) ?_)
      refine Rg_op rfl (o_val (v := .bool false) (d := 42) rfl rfl (ex_pick (q := ((mget (⟨r, x7, 0⟩ : Port) (delN kvC r j)).isSome)) rfl (fun h => absurd h hg14) (fun h => rfl)) ?_)
      refine Rg_end ?_
      refine V_false rfl rfl ?_
      refine V_skip rfl ?_
      refine V_region rfl ?_
      refine Rg_op rfl (o_val (v := .int .i64 (((j : Nat) : Int) + 1)) (d := 43) rfl rfl (ex_add s15 rfl (by omega)) ?_)
      refine Rg_op rfl (o_val (v := .int .i64 (((j : Nat) : Int) + 1)) (d := 15) rfl rfl (ex_move rfl) ?_)
      refine Rg_end ?_
      rw [delN_next hxo] at H
      rw [show comN (cf kvC) r j = comN (cf kvC) r (j + 1) from by rw [comN_next hxo, ← delN_at hn hxo]; cases hm9 : mget (⟨r, x7, 0⟩ : Port) (delN kvC r j) with | none => simp | some u => rw [hm9] at hg14; exact absurd rfl hg14] at H
      exact ⟨j + 1, ⟨s0, s1, s2, s3, s13, s14, rfl, s1000000, (Hp.pull 8 rfl rfl (Hp.pull 8 rfl rfl (Hp.pull 8 rfl rfl (Hp.pull 8 rfl rfl (Hp.pull 8 rfl rfl (Hp.pull 8 rfl rfl (Hp.pull 2 rfl rfl (Hp.pull 8 rfl rfl (Hp.pull 8 rfl rfl (Hp.drop (Hp.pull 1 rfl rfl H))))))))))), by omega⟩, by omega⟩
  · have hb5 : ¬ (((j : Nat) : Int) < ((4 : Nat) : Int)) := of_decide_eq_false hb5
    refine V_exit rfl ?_
    refine V_seq rfl ?_
    refine V_draw [1, 2, 6, 7] (.q 0 (.p 1 (.p 2 (.q 3 (.q 4 (.q 5 (.p 6 (.p 7 .done)))))))) (fun _ => False) rfl mixed (by kernel_rfl) fun w16 hD => ?_
    have H := H.drew hD
    refine c_q (v := .pointer (some ⟨bw, 0, none⟩)) (d := 44) rfl rfl rfl (fun w' hG => ex_load ca138 s2 (hG.cell (cell_of (H.rd 3 rfl)) id)) ?_
    refine c_p (v := .pointer (some ⟨bw, 0, none⟩)) (d := 45) rfl rfl rfl (fun w' => ex_nilCheck rfl) ?_
    refine c_p (v := .pointer (some ⟨bw, 5, none⟩)) (d := 46) rfl rfl rfl (fun w' => ex_fieldAddr fo142_3 rfl rfl) ?_
    refine c_q (v := .map (some ms)) (d := 47) rfl rfl rfl (fun w' hG => ex_load ca119 rfl (hG.cell ((cell_of (H.rd 5 rfl)).trans hw5) id)) ?_
    refine c_q (v := .int .i64 t) (d := 48) rfl rfl rfl (fun w' hG => ex_load ca3 s3 (hG.cell (cell_of (H.rd 4 rfl)) id)) ?_
    refine c_q (v := .slice ((lkS t kvS).A) ((lkS t kvS).xs.length) ((lkS t kvS).c)) (d := 49) rfl rfl rfl (fun w' hG => by rw [show (Value.slice ((lkS t kvS).A) ((lkS t kvS).xs.length) ((lkS t kvS).c) : Value) = ((mget t kvS).map (Sld.val (α := Int))).getD (.slice none 0 0) from get_sld.symm]; exact ex_lookup (k := t) mt119 kI rfl rfl ((H.mapAt 7 rfl).agr hG id)) ?_
    refine c_p (v := .int .i64 (((lkS t kvS).xs.length : Nat) : Int)) (d := 50) rfl rfl rfl (fun w' => ex_len (ts := #[]) sl26 rfl) ?_
    refine c_p (v := .int .i64 0) (d := 51) rfl rfl rfl (fun w' => ex_move rfl) ?_
    refine c_done ?_
    refine V_block rfl ?_
    have H := H.pull 1 rfl rfl
    have hj4 : j = 4 := by omega
    subst hj4
    rw [show comN (cf kvC) r 4 = comL (cf kvC) r ++ sndN l (lkS t kvS).xs r 0 from (List.append_nil _).symm] at H
    refine V_loop rfl (γ := Nat) (fun j σ w => σ 0 = .func (.yield y) #[] #[] ∧ σ 1 = .pointer (some ⟨b1, 0, none⟩) ∧ σ 2 = .pointer (some ⟨b2, 0, none⟩) ∧ σ 49 = .slice ((lkS t kvS).A) ((lkS t kvS).xs.length) ((lkS t kvS).c) ∧ σ 50 = .int .i64 (((lkS t kvS).xs.length : Nat) : Int) ∧ σ 51 = .int .i64 ((j : Nat) : Int) ∧ σ 1000000 = undef ∧ Hp wb.heap.size wb w (C (comL (cf kvC) r ++ sndN l (lkS t kvS).xs r j) :: SA.own kInt 3 A2 c3 ([1, 2, 4, 8, 16]) :: SA.cel b1 #[.int .i64 r] 3 :: SA.cel b2 #[.pointer (some ⟨bw, 0, none⟩)] 138 :: SA.cel b3 #[.int .i64 t] 3 :: SA.cel bw cs 142 :: SA.map kPort.enc (fun x : Int => Value.int .i64 x) mc (delN kvC r 4) :: SA.map kI.enc (Sld.val (α := Int)) ms kvS :: SA.rows kInt 3 (kvS.map (·.2)) :: L) ∧ j ≤ (lkS t kvS).xs.length) (fun j => (lkS t kvS).xs.length - j) (0) ⟨s0, s1, s2, rfl, rfl, rfl, s1000000, H, by omega⟩ (fun j σ w hI => ?_)
    obtain ⟨s0, s1, s2, s49, s50, s51, s1000000, H, hj⟩ := hI
    refine V_seq rfl ?_
    refine V_region rfl ?_
    refine Rg_op rfl (o_val (v := .bool (decide (((j : Nat) : Int) < (((lkS t kvS).xs.length : Nat) : Int)))) (d := 52) rfl rfl (ex_lss s51 s50) ?_)
    refine Rg_end ?_
    refine V_seq rfl ?_
    refine V_cond (b := (decide (((j : Nat) : Int) < (((lkS t kvS).xs.length : Nat) : Int)))) rfl rfl (fun hb17 => ?_) (fun hb17 => ?_)
    · have hb17 : ((j : Nat) : Int) < (((lkS t kvS).xs.length : Nat) : Int) := of_decide_eq_true hb17
      refine V_skip rfl ?_
      refine V_seq rfl ?_
      refine V_block rfl ?_
      refine V_seq rfl ?_
      refine V_region rfl ?_
      have hr18 := (lk_row (k := t) (H.pull 8 rfl rfl)).1
      obtain ⟨ad19, x19, cs19, hA19, hx19, hR19, hc19⟩ := Row.get hr18 ((j : Nat) : Int) ((by first | omega | (simp only [List.length_cons, List.length_nil]; omega))) ((by first | omega | (simp only [List.length_cons, List.length_nil]; omega)))
      obtain rfl := hR19
      refine Rg_op rfl (o_val (v := .pointer (some (ad19.add ((((j : Nat) : Int)).toNat * 1)))) (d := 53) rfl rfl (ex_indexAddr sl26 s49 hA19 s51 ((by first | omega | (simp only [List.length_cons, List.length_nil]; omega))) ((by first | omega | (simp only [List.length_cons, List.length_nil]; omega))) rfl) ?_)
      refine Rg_op rfl (o_val (v := .int .i64 x19) (d := 54) rfl rfl (ex_load ca3 rfl (hc19 0 _ rfl)) ?_)
      refine Rg_op rfl (o_val (v := .int .i64 x19) (d := 11) rfl rfl (ex_assign rfl) ?_)
      refine Rg_end ?_
      refine V_seq rfl ?_
      refine V_draw [1, 2, 4, 5, 6, 9, 10, 11, 12, 14, 15] (.q 0 (.p 1 (.p 2 (.q 3 (.p 4 (.p 5 (.p 6 (.q 7 (.q 8 (.p 9 (.p 10 (.p 11 (.p 12 (.l 13 (.p 14 (.p 15 .done)))))))))))))))) (fun _ => False) rfl mixed (by kernel_rfl) fun w20 hD => ?_
      have H := H.drew hD
      have hp9 : (lkS t kvS).xs[j]? = some x19 := hx19
      obtain ⟨h0p, h1p⟩ := hS t x19 (List.mem_of_getElem? hp9)
      refine c_q (v := .pointer (some ⟨bw, 0, none⟩)) (d := 55) rfl rfl rfl (fun w' hG => ex_load ca138 s2 (hG.cell (cell_of (H.rd 3 rfl)) id)) ?_
      refine c_p (v := .pointer (some ⟨bw, 0, none⟩)) (d := 56) rfl rfl rfl (fun w' => ex_nilCheck rfl) ?_
      refine c_p (v := .pointer (some ⟨bw, 4, none⟩)) (d := 57) rfl rfl rfl (fun w' => ex_fieldAddr fo142_2 rfl rfl) ?_
      refine c_q (v := .slice Al l.length cl) (d := 58) rfl rfl rfl (fun w' hG => ex_load ca55 rfl (hG.cell ((cell_of (H.rd 5 rfl)).trans hw4) id)) ?_
      refine c_p (v := .int .i64 x19) (d := 59) rfl rfl rfl (fun w' => ex_move rfl) ?_
      obtain ⟨ad21, x21, cs21, hA21, hx21, hR21, hc21⟩ := Row.get hL x19 ((by first | omega | (simp only [List.length_cons, List.length_nil]; omega))) ((by first | omega | (simp only [List.length_cons, List.length_nil]; omega)))
      obtain rfl := hR21
      refine c_p (v := .pointer (some (ad21.add ((x19).toNat * 4)))) (d := 60) rfl rfl rfl (fun w' => ex_indexAddr sl55 rfl hA21 rfl ((by first | omega | (simp only [List.length_cons, List.length_nil]; omega))) ((by first | omega | (simp only [List.length_cons, List.length_nil]; omega))) rfl) ?_
      refine c_p (v := .pointer (some (ad21.add ((x19).toNat * 4 + 1)))) (d := 61) rfl rfl rfl (fun w' => ex_fieldAddr fo58_1 rfl (add_add _ _ _)) ?_
      refine c_q (v := .int .i64 x21.Source) (d := 62) rfl rfl rfl (fun w' hG => ex_load ca3 rfl (hG.cell (H.cell0 (hc21 1 _ rfl)) id)) ?_
      refine c_q (v := .int .i64 r) (d := 63) rfl rfl rfl (fun w' hG => ex_load ca3 s1 (hG.cell (cell_of (H.rd 2 rfl)) id)) ?_
      have hsr9 : (l[x19.toNat]?).map (·.Source) = some x21.Source := by rw [hx21]; rfl
      refine c_p (v := .bool (decide (x21.Source = r))) (d := 64) rfl rfl rfl (fun w' => ex_eql rfl rfl) ?_
      refine c_p (v := .bool (decide (x21.Source = r))) (d := 65) rfl rfl rfl (fun w' => ex_move rfl) ?_
      by_cases hg22 : x21.Source = r
      · skip
        refine c_pg (v := .func (.yield y) #[] #[]) (d := 66) rfl rfl rfl (wanted_yes (b := (decide (x21.Source = r))) rfl rfl rfl (decide_eq_true hg22)) (fun w' => ex_move s0) ?_
        refine c_pg (v := .int .i64 x19) (d := 67) rfl rfl rfl (wanted_yes (b := (decide (x21.Source = r))) rfl rfl rfl (decide_eq_true hg22)) (fun w' => ex_move rfl) ?_
        have hs9 : srcIs l r x19 = true := by unfold srcIs; rw [hsr9]; exact decide_eq_true (congrArg some hg22)
        obtain ⟨po9, hpo9⟩ := sndL_split (l := l) (r := r) hp9 hs9
        refine c_l rfl (o_g (wanted_yes (b := (decide (x21.Source = r))) rfl rfl rfl (decide_eq_true hg22)) (o_yield rfl rfl rfl (Yields.mono (hY (comL (cf kvC) r ++ sndN l (lkS t kvS).xs r j) x19 _ _ _ (by rw [hpo9, ← List.append_assoc]) H) fun w23 H => ⟨.inl (by kernel_rfl), ?_⟩)))
        refine c_pg (v := .bool false) (d := 69) rfl rfl rfl (wanted_yes (b := (decide (x21.Source = r))) rfl rfl rfl (decide_eq_true hg22)) (fun w' => ex_not (q := true) rfl) ?_
        refine c_p (v := .bool false) (d := 70) rfl rfl rfl (fun w' => ex_pick (q := (decide (x21.Source = r))) rfl (fun h => rfl) (fun h => absurd hg22 (of_decide_eq_false h))) ?_
        refine c_done ?_
        refine V_false rfl rfl ?_
        refine V_skip rfl ?_
        refine V_region rfl ?_
        refine Rg_op rfl (o_val (v := .int .i64 (((j : Nat) : Int) + 1)) (d := 71) rfl rfl (ex_add s51 rfl (by omega)) ?_)
        refine Rg_op rfl (o_val (v := .int .i64 (((j : Nat) : Int) + 1)) (d := 51) rfl rfl (ex_move rfl) ?_)
        refine Rg_end ?_
        rw [show ((comL (cf kvC) r ++ sndN l (lkS t kvS).xs r j) ++ [x19]) = comL (cf kvC) r ++ sndN l (lkS t kvS).xs r (j + 1) from by rw [sndN_next hp9, if_pos hs9, List.append_assoc] ] at H
        exact ⟨j + 1, ⟨s0, s1, s2, s49, s50, rfl, s1000000, H, by omega⟩, by omega⟩
      · skip
        refine c_ps (d := 66) rfl rfl rfl (wanted_no (b := (decide (x21.Source = r))) rfl rfl rfl (decide_eq_false hg22)) ?_
        refine c_ps (d := 67) rfl rfl rfl (wanted_no (b := (decide (x21.Source = r))) rfl rfl rfl (decide_eq_false hg22)) ?_
        refine c_l rfl (o_skip (d := 68) rfl rfl (wanted_no (b := (decide (x21.Source = r))) rfl rfl rfl (decide_eq_false hg22)) ⟨.inr (Agr.refl _ _), ?_⟩)
        refine c_ps (d := 69) rfl rfl rfl (wanted_no (b := (decide (x21.Source = r))) rfl rfl rfl (decide_eq_false hg22)) ?_
        refine c_p (v := .bool false) (d := 70) rfl rfl rfl (fun w' => ex_pick (q := (decide (x21.Source = r))) rfl (fun h => absurd (of_decide_eq_true h) hg22) (fun h => rfl)) ?_
        refine c_done ?_
        refine V_false rfl rfl ?_
        refine V_skip rfl ?_
        refine V_region rfl ?_
        refine Rg_op rfl (o_val (v := .int .i64 (((j : Nat) : Int) + 1)) (d := 71) rfl rfl (ex_add s51 rfl (by omega)) ?_)
        refine Rg_op rfl (o_val (v := .int .i64 (((j : Nat) : Int) + 1)) (d := 51) rfl rfl (ex_move rfl) ?_)
        refine Rg_end ?_
        have hs9 : srcIs l r x19 = false := by unfold srcIs; rw [hsr9]; exact decide_eq_false (fun e => hg22 (Option.some.inj e))
        rw [show (comL (cf kvC) r ++ sndN l (lkS t kvS).xs r j) = comL (cf kvC) r ++ sndN l (lkS t kvS).xs r (j + 1) from by rw [sndN_next hp9, if_neg (by rw [hs9]; decide)] ; simp] at H
        exact ⟨j + 1, ⟨s0, s1, s2, s49, s50, rfl, s1000000, H, by omega⟩, by omega⟩
    · have hb17 : ¬ (((j : Nat) : Int) < (((lkS t kvS).xs.length : Nat) : Int)) := of_decide_eq_false hb17
      refine V_exit rfl ?_
      have H := H.pull 1 rfl rfl
      have H := H.drop
      have H := H.pull 1 rfl rfl
      have H := H.drop
      have H := H.pull 1 rfl rfl
      have H := H.drop
      have H := H.pull 1 rfl rfl
      have H := H.drop
      have H := H.pull 4 rfl rfl
      have H := H.pull 4 rfl rfl
      have H := H.pull 4 rfl rfl
      have H := H.pull 4 rfl rfl
      have e9 : sndN l (lkS t kvS).xs r j = sndL l (lkS t kvS).xs r := by rw [sndN, sndL, List.take_of_length_le (by omega)]
      rw [e9] at H
      refine end0 (v := .tuple #[]) s1000000 (res_none Try.results87) ?_
      exact Hp.pull 1 rfl rfl H.join.join.join

end Go.Proofs.Ytlnogaoihkinbaa
namespace Go.Proofs.Ytlnogaoihkinbaa
open Go.Gk Go.RowKit
structure ES where
  Q : Port → List Int
  dr : List Drp
  mo : List V2
def setMost (mo : List V2) (r : Nat) (cls n : Int) : List V2 := match mo[r]? with
  | some x => mo.set r (if cls = 0 then ⟨max x.a n, x.b⟩ else ⟨x.a, max x.b n⟩)
  | none => mo
def outStep (s : Spec) (t r p cls outs : Int) (e : ES) (o : Int) : ES :=
  if bAnd .i64 outs o = 0 then e
  else if nextB s r o = false ∨ (((e.Q ⟨r, o, cls⟩).length : Nat) : Int) = s.Room then ⟨e.Q, e.dr ++ [⟨p, r, o, t⟩], e.mo⟩
  else ⟨updP e.Q ⟨r, o, cls⟩ (e.Q ⟨r, o, cls⟩ ++ [p]), e.dr, setMost e.mo r.toNat cls (((e.Q ⟨r, o, cls⟩).length : Nat) + 1)⟩
def outs5 : List Int := [1, 2, 4, 8, 16]
def enterP (s : Spec) (tab : List Entry) (key t r p cls : Int) (e : ES) : ES :=
  if (find tab key).2 = false then ⟨e.Q, e.dr ++ [⟨p, r, 0, t⟩], e.mo⟩ else outs5.foldl (outStep s t r p cls (find tab key).1) e
theorem updP_self {β : Type} (f : Port → β) (k : Port) : updP f k (f k) = f := by
  funext p
  unfold updP
  split
  · rename_i h; rw [h]
  · rfl
theorem setMost_len (mo : List V2) (r : Nat) (cls n : Int) : (setMost mo r cls n).length = mo.length := by
  unfold setMost
  split <;> simp
theorem outStep_dr (s : Spec) (t r p cls outs : Int) (e : ES) (o : Int) : (outStep s t r p cls outs e o).dr.length ≤ e.dr.length + 1 ∧ (outStep s t r p cls outs e o).mo.length = e.mo.length := by
  unfold outStep
  split
  · exact ⟨by omega, rfl⟩
  · split
    · exact ⟨by simp, rfl⟩
    · exact ⟨by simp, setMost_len _ _ _ _⟩
/-- The queues are short. -/
def shortQ (s : Spec) (Q : Port → List Int) : Prop := ∀ k, (((Q k).length : Nat) : Int) ≤ s.Room
theorem outStep_short {s : Spec} {t r p cls outs : Int} {e : ES} {o : Int} (h : shortQ s e.Q) : shortQ s (outStep s t r p cls outs e o).Q := by
  unfold outStep
  split
  · exact h
  · split
    · exact h
    · rename_i h1 h2
      intro k
      simp only [updP]
      split
      · have := h ⟨r, o, cls⟩
        simp only [not_or] at h2
        simp only [List.length_append, List.length_cons, List.length_nil]
        omega
      · exact h k
/-- The keys of the queues are ports of the mesh. -/
def portOk (s : Spec) (k : Port) : Prop := 0 ≤ k.r ∧ k.r < s.Wide * s.High ∧ k.o ∈ outs5 ∧ (k.c = 0 ∨ k.c = 1)
def cell0 (cls : Int) (x : V2) : Int := if cls = 0 then x.a else x.b
theorem cell_cls {cls : Int} (h : cls = 0 ∨ cls = 1) (x : V2) : [Value.int .i64 x.a, .int .i64 x.b][cls.toNat]? = some (.int .i64 (cell0 cls x)) := by
  rcases h with rfl | rfl <;> rfl
theorem set_cls {cls : Int} (h : cls = 0 ∨ cls = 1) (x : V2) (v : Int) : setL [Value.int .i64 x.a, .int .i64 x.b] cls.toNat [.int .i64 v] = [.int .i64 (if cls = 0 then (⟨v, x.b⟩ : V2) else ⟨x.a, v⟩).a, .int .i64 (if cls = 0 then (⟨v, x.b⟩ : V2) else ⟨x.a, v⟩).b] := by
  rcases h with rfl | rfl <;> rfl
theorem fit_cls {cls : Int} (h : cls = 0 ∨ cls = 1) : Nat.ble (cls.toNat + 1) 2 = true := by
  rcases h with rfl | rfl <;> rfl
theorem most_at {mo : List V2} {r : Nat} {cls n : Int} {x : V2} (hx : mo[r]? = some x) : mo.set r (if cls = 0 then (⟨max (cell0 cls x) n, x.b⟩ : V2) else ⟨x.a, max (cell0 cls x) n⟩) = setMost mo r cls n := by
  unfold setMost cell0
  rw [hx]
  by_cases h : cls = 0 <;> simp [h]
section
variable {P : Program} {σ : Env} {w : World} {d : Option Nat} {t xT : TypeId} {p : String} {af : Array Edge} {g : Option (Nat × Bool)} {x y : Operand}
def arrT (P : Program) (t : TypeId) : Option (Nat × TypeId × Nat) := match P.underlying t with
  | some (.array n e) => (P.info? e).map fun i => (n, e, i.size)
  | _ => none
theorem ex_indexArr {n sz : Nat} {e : TypeId} {ad ad' : Addr} {k : IntKind} {a : Int} (ht : arrT P xT = some (n, e, sz)) (hx : ev σ x = .pointer (some ad)) (hy : ev σ y = .int k a) (h0 : 0 ≤ a) (h1 : a < n) (ha : ad.add (a.toNat * sz) = ad') : Ex P σ ⟨d, .indexAddr xT x y, t, p, af, g⟩ w (.pointer (some ad')) := by
  subst ha
  unfold arrT at ht
  split at ht <;> try (cases ht)
  rename_i n' e' hu
  obtain ⟨i, hi, hq⟩ := Option.map_eq_some_iff.1 ht
  injection hq with q1 q2
  injection q2 with q2 q3
  subst q1 q2 q3
  simp [Ex, execOp, hx, hy, Instr.indexAt, asIntOf, run_underlying hu, Instr.sureAddr, h0, h1, sizeOf, typeInfo, hi]
end
theorem arr101 : arrT Try.prog 101 = some (2, 3, 1) := by kernel_rfl
structure SS where
  Q : Port → List Int
  C : CF
  ar : List Arr
def sendK (Q : Port → List Int) (r o : Int) : Port := if (Q ⟨r, o, 1⟩).length = 0 then ⟨r, o, 0⟩ else ⟨r, o, 1⟩
def sendP (s : Spec) (t r o : Int) (e : SS) : SS := match e.Q (sendK e.Q r o) with
  | [] => e
  | p :: rest => if o = 16 then ⟨updP e.Q (sendK e.Q r o) rest, e.C, e.ar ++ [⟨p, r, t⟩]⟩ else ⟨updP e.Q (sendK e.Q r o) rest, updP e.C ⟨nextR s r o, back o, 0⟩ (some p), e.ar⟩
def comOk (s : Spec) (k : Port) : Prop := 0 ≤ k.r ∧ k.r < s.Wide * s.High ∧ k.o ∈ outs4 ∧ k.c = 0
def leadQ (s : Spec) (Q : Port → List Int) : Prop := ∀ k, Q k ≠ [] → nextB s k.r k.o = true
theorem next_in {s : Spec} {r o : Int} (h : nextB s r o = true) : 0 ≤ nextR s r o ∧ nextR s r o < s.Wide * s.High := by
  simp only [nextB, decide_eq_true_eq] at h
  obtain ⟨⟨⟨h1, h2⟩, h3⟩, h4⟩ := h
  unfold nextR
  have h5 : 0 ≤ (moved s r o).2 * s.Wide := Int.mul_nonneg h3 (by omega)
  have h6 : ((moved s r o).2 + 1) * s.Wide ≤ s.High * s.Wide := Int.mul_le_mul_of_nonneg_right (by omega) (by omega)
  rw [Int.add_mul, Int.one_mul, Int.mul_comm s.High] at h6
  omega
theorem back_in {o : Int} (h : o ∈ outs5) (h16 : o ≠ 16) : back o ∈ outs4 := by
  simp only [outs5, List.mem_cons, List.not_mem_nil, or_false] at h
  rcases h with rfl | rfl | rfl | rfl | rfl
  · decide
  · decide
  · decide
  · decide
  · exact absurd rfl h16
theorem cf_put {kv : List (Port × Int)} (k : Port) (v : Int) : cf (mput k v kv) = updP (cf kv) k (some v) := by
  funext p
  simp only [cf, updP, mget_mput]
theorem send_none {s : Spec} {t r o : Int} {e : SS} (h1 : (e.Q ⟨r, o, 1⟩).length = 0) (h0 : (e.Q ⟨r, o, 0⟩).length = 0) : sendP s t r o e = e := by
  have hk : sendK e.Q r o = ⟨r, o, 0⟩ := if_pos h1
  unfold sendP
  rw [hk, List.eq_nil_of_length_eq_zero h0]
theorem send_at {s : Spec} {t r o : Int} {e : SS} {k : Port} {x : Int} {rest : List Int} (hk : sendK e.Q r o = k) (hx : e.Q k = x :: rest) : sendP s t r o e = if o = 16 then ⟨updP e.Q k rest, e.C, e.ar ++ [⟨x, r, t⟩]⟩ else ⟨updP e.Q k rest, updP e.C ⟨nextR s r o, back o, 0⟩ (some x), e.ar⟩ := by
  unfold sendP
  rw [hk, hx]
end Go.Proofs.Ytlnogaoihkinbaa
namespace Go.Proofs.Ytlnogaoihkinbaa
open Go.Gk Go.RowKit
theorem ca29 : cellsAgg Try.prog 29 = some none := by kernel_rfl
theorem ca60 : cellsAgg Try.prog 60 = some none := by kernel_rfl
theorem ca61 : cellsAgg Try.prog 61 = some none := by kernel_rfl
theorem cl88 : callable Try.prog 88 = true := by kernel_rfl
theorem cl90 : callable Try.prog 90 = true := by kernel_rfl
theorem fo142_0 : fieldOff Try.prog 142 0 = some 0 := by kernel_rfl
theorem fo142_1 : fieldOff Try.prog 142 1 = some 3 := by kernel_rfl
theorem fo142_6 : fieldOff Try.prog 142 6 = some 8 := by kernel_rfl
theorem fo63_1 : fieldOff Try.prog 63 1 = some 1 := by kernel_rfl
theorem fo63_2 : fieldOff Try.prog 63 2 = some 2 := by kernel_rfl
theorem sl60 : sliceT Try.prog 60 = some ⟨110, 4, 32, .agg #[.int .i64 0, .int .i64 0, .int .i64 0, .int .i64 0]⟩ := by kernel_rfl
theorem sl61 : sliceT Try.prog 61 = some ⟨101, 2, 16, .agg #[.int .i64 0, .int .i64 0]⟩ := by kernel_rfl
theorem ts60 : tySize Try.prog 60 = some 1 := by kernel_rfl
theorem enter_c (wb w0 : World) (L : List SA) (s : Spec) (bw ms mq mc : Nat) (At : Option Addr) (ct : Nat) (ts : List (List Entry)) (Al : Option Addr) (cl : Nat) (l : List Packet) (kvQ : List (Port × Qd)) (Aa Ad Am : Option Addr) (ca cd cm : Nat) (arr : List Arr) (dr : List Drp) (mo : List V2) (rest t r p : Int) (tab : List Entry) (pk : Packet) (H : Hp wb.heap.size wb w0 (SA.cel bw #[.int .i64 s.Wide, .int .i64 s.High, .int .i64 s.Room, .slice At ts.length ct, .slice Al l.length cl, .map (some ms), .map (some mq), .map (some mc), .slice Aa arr.length ca, .slice Ad dr.length cd, .slice Am mo.length cm, .int .i64 rest] 142 :: SA.map kPort.enc Qd.val mq kvQ :: SA.queues kvQ :: SA.own kDrp 110 Ad cd dr :: SA.own kV2 101 Am cm mo :: L)) (hT : Row (kSl kEnt) wb.cell? At ts) (hL : Row kPkt wb.cell? Al l) (hs : chk s = 0) (h0r : 0 ≤ r) (h1r : r < s.Wide * s.High) (htl : ((ts.length : Nat) : Int) = s.Wide * s.High) (htb : ts[r.toNat]? = some tab) (h0p : 0 ≤ p) (hpk : l[p.toNat]? = some pk) (hcls : pk.Class = 0 ∨ pk.Class = 1) (htab : tab.length ≤ 100000) (hn : (kvQ.map (·.1)).Nodup) (hpo : ∀ k ∈ kvQ.map (·.1), portOk s k) (hsq : shortQ s (qf kvQ)) (hdr : dr.length ≤ 1000000000000) (hmo : ((mo.length : Nat) : Int) = s.Wide * s.High) (hll : l.length ≤ 100000) :
    Calls Try.prog 62 #[.pointer (some ⟨bw, 0, none⟩), .int .i64 t, .int .i64 r, .int .i64 p] w0 fun e w' => ∃ v, e = .returned v ∧ (∃ kv' e' Ad' cd', enterP s tab pk.Key t r p pk.Class ⟨qf kvQ, dr, mo⟩ = e' ∧ e'.Q = qf kv' ∧ (kv'.map (·.1)).Nodup ∧ (∀ k ∈ kv'.map (·.1), portOk s k) ∧ Hp wb.heap.size wb w' (SA.cel bw #[.int .i64 s.Wide, .int .i64 s.High, .int .i64 s.Room, .slice At ts.length ct, .slice Al l.length cl, .map (some ms), .map (some mq), .map (some mc), .slice Aa arr.length ca, .slice Ad' e'.dr.length cd', .slice Am e'.mo.length cm, .int .i64 rest] 142 :: SA.map kPort.enc Qd.val mq kv' :: SA.queues kv' :: SA.own kDrp 110 Ad' cd' e'.dr :: SA.own kV2 101 Am cm e'.mo :: L)) := by
  obtain ⟨hs1, hs2, hs3, hs4, hs5, hs6⟩ := chk_ok hs
  obtain ⟨hm1, hm2⟩ := mul64 hs
  have h1p := (List.getElem?_eq_some_iff.1 hpk).1
  refine calls_of (n := 147) (l := [.pointer (some ⟨bw, 0, none⟩), .int .i64 t, .int .i64 r, .int .i64 p]) Try.func62 rfl rfl rfl ?_
  refine V_seq rfl ?_
  refine V_draw [0, 1, 2, 4, 5, 7, 8, 9, 11, 12, 13, 16, 17, 18, 19, 20] (.p 0 (.p 1 (.p 2 (.q 3 (.p 4 (.p 5 (.q 6 (.p 7 (.p 8 (.p 9 (.q 10 (.p 11 (.p 12 (.p 13 (.q 14 (.l 15 (.p 16 (.p 17 (.p 18 (.p 19 (.p 20 .done))))))))))))))))))))) (fun _ => False) rfl mixed (by kernel_rfl) fun w1 hD => ?_
  have H := H.drew hD
  refine c_p (v := .pointer (some ⟨bw, 0, none⟩)) (d := 17) rfl rfl rfl (fun w' => ex_move rfl) ?_
  refine c_p (v := .pointer (some ⟨bw, 0, none⟩)) (d := 18) rfl rfl rfl (fun w' => ex_nilCheck rfl) ?_
  refine c_p (v := .pointer (some ⟨bw, 3, none⟩)) (d := 19) rfl rfl rfl (fun w' => ex_fieldAddr fo142_1 rfl rfl) ?_
  refine c_q (v := .slice At ts.length ct) (d := 20) rfl rfl rfl (fun w' hG => ex_load ca29 rfl (hG.cell (cell_of (H.rd 0 rfl)) id)) ?_
  refine c_p (v := .int .i64 r) (d := 21) rfl rfl rfl (fun w' => ex_move rfl) ?_
  obtain ⟨ad2, x2, cs2, hA2, hx2, hR2, hc2⟩ := Row.get hT r ((by first | omega | (simp only [List.length_cons, List.length_nil]; omega))) ((by first | omega | (simp only [List.length_cons, List.length_nil]; omega)))
  obtain ⟨Ae3, ce3, rfl, hle3, hme3, hWe3⟩ := hR2
  refine c_p (v := .pointer (some (ad2.add ((r).toNat * 1)))) (d := 22) rfl rfl rfl (fun w' => ex_indexAddr sl29 rfl hA2 rfl ((by first | omega | (simp only [List.length_cons, List.length_nil]; omega))) ((by first | omega | (simp only [List.length_cons, List.length_nil]; omega))) rfl) ?_
  obtain rfl : tab = x2 := by have h1 := hx2; rw [htb] at h1; injection h1
  refine c_q (v := .slice Ae3 tab.length ce3) (d := 23) rfl rfl rfl (fun w' hG => ex_load ca41 rfl (hG.cell (H.cell0 (hc2 0 _ rfl)) id)) ?_
  refine c_p (v := .pointer (some ⟨bw, 0, none⟩)) (d := 24) rfl rfl rfl (fun w' => ex_move rfl) ?_
  refine c_p (v := .pointer (some ⟨bw, 0, none⟩)) (d := 25) rfl rfl rfl (fun w' => ex_nilCheck rfl) ?_
  refine c_p (v := .pointer (some ⟨bw, 4, none⟩)) (d := 26) rfl rfl rfl (fun w' => ex_fieldAddr fo142_2 rfl rfl) ?_
  refine c_q (v := .slice Al l.length cl) (d := 27) rfl rfl rfl (fun w' hG => ex_load ca55 rfl (hG.cell (cell_of (H.rd 0 rfl)) id)) ?_
  refine c_p (v := .int .i64 p) (d := 28) rfl rfl rfl (fun w' => ex_move rfl) ?_
  obtain ⟨ad4, x4, cs4, hA4, hx4, hR4, hc4⟩ := Row.get hL p ((by first | omega | (simp only [List.length_cons, List.length_nil]; omega))) ((by first | omega | (simp only [List.length_cons, List.length_nil]; omega)))
  obtain rfl := hR4
  refine c_p (v := .pointer (some (ad4.add ((p).toNat * 4)))) (d := 29) rfl rfl rfl (fun w' => ex_indexAddr sl55 rfl hA4 rfl ((by first | omega | (simp only [List.length_cons, List.length_nil]; omega))) ((by first | omega | (simp only [List.length_cons, List.length_nil]; omega))) rfl) ?_
  obtain rfl : pk = x4 := by have h1 := hx4; rw [hpk] at h1; injection h1
  refine c_p (v := .pointer (some (ad4.add ((p).toNat * 4 + 2)))) (d := 30) rfl rfl rfl (fun w' => ex_fieldAddr fo58_2 rfl (add_add _ _ _)) ?_
  refine c_q (v := .int .i64 pk.Key) (d := 31) rfl rfl rfl (fun w' hG => ex_load ca3 rfl (hG.cell (H.cell0 (hc4 2 _ rfl)) id)) ?_
  refine c_l rfl (o_call (fv := []) (cap := []) (vs := [.slice Ae3 tab.length ce3, .int .i64 pk.Key]) rfl rfl cl19 rfl (find_c _ _ tab pk.Key _ (hWe3.mono (fun _ _ h => H.cell0 h)) (by omega)) fun v w5 hS => ?_)
  obtain ⟨rfl, hB⟩ := hS
  refine ⟨.inr (Below.agr hB), ?_⟩
  have H := H.keep hB
  refine c_p (v := .tuple #[.int .i64 ((find tab pk.Key).1), .bool ((find tab pk.Key).2)]) (d := 16) rfl rfl rfl (fun w' => ex_move rfl) ?_
  refine c_p (v := .int .i64 ((find tab pk.Key).1)) (d := 33) rfl rfl rfl (fun w' => ex_extract rfl rfl) ?_
  refine c_p (v := .bool ((find tab pk.Key).2)) (d := 34) rfl rfl rfl (fun w' => ex_extract rfl rfl) ?_
  refine c_p (v := .int .i64 ((find tab pk.Key).1)) (d := 8) rfl rfl rfl (fun w' => ex_assign rfl) ?_
  refine c_p (v := .bool ((find tab pk.Key).2)) (d := 9) rfl rfl rfl (fun w' => ex_assign rfl) ?_
  refine c_done ?_
  refine V_seq rfl ?_
  refine V_seq rfl ?_
  refine V_region rfl ?_
  refine Rg_op rfl (o_val (v := .bool ((find tab pk.Key).2)) (d := 35) rfl rfl (ex_move rfl) ?_)
  refine Rg_op rfl (o_val (v := .bool (!((find tab pk.Key).2))) (d := 36) rfl rfl (ex_not rfl) ?_)
  refine Rg_end ?_
  refine V_cond (b := (!((find tab pk.Key).2))) rfl rfl (fun hb6 => ?_) (fun hb6 => ?_)
  · skip
    have hf9 : (find tab pk.Key).2 = false := by simpa using hb6
    refine V_seq rfl ?_
    refine V_region rfl ?_
    refine Rg_op rfl (o_val (v := .pointer (some ⟨bw, 0, none⟩)) (d := 37) rfl rfl (ex_move rfl) ?_)
    refine Rg_op rfl (o_val (v := .pointer (some ⟨bw, 0, none⟩)) (d := 38) rfl rfl (ex_move rfl) ?_)
    refine Rg_op rfl (o_val (v := .pointer (some ⟨bw, 0, none⟩)) (d := 39) rfl rfl (ex_nilCheck rfl) ?_)
    refine Rg_op rfl (o_val (v := .pointer (some ⟨bw, 8, none⟩)) (d := 40) rfl rfl (ex_fieldAddr fo142_6 rfl rfl) ?_)
    refine Rg_op rfl (o_val (v := .pointer (some ⟨bw, 9, none⟩)) (d := 41) rfl rfl (ex_fieldAddr fo63_1 rfl rfl) ?_)
    refine Rg_op rfl (o_val (v := .slice Ad dr.length cd) (d := 42) rfl rfl (ex_load ca60 rfl (cell_of (H.rd 0 rfl))) ?_)
    refine Rg_op rfl (o_val (v := .int .i64 p) (d := 43) rfl rfl (ex_move rfl) ?_)
    refine Rg_op rfl (o_val (v := .int .i64 r) (d := 44) rfl rfl (ex_move rfl) ?_)
    refine Rg_op rfl (o_val (v := .int .i64 t) (d := 45) rfl rfl (ex_move rfl) ?_)
    refine Rg_op rfl (o_val (v := .agg #[.int .i64 p, .int .i64 r, .int .i64 0, .int .i64 t]) (d := 46) rfl rfl (ex_eq (by kernel_rfl)) ?_)
    refine Rg_op rfl (o_lit (cs := [.int .i64 p, .int .i64 r, .int .i64 0, .int .i64 t]) (e := 110) rfl (fun W => by kernel_rfl) H fun b7 w8 hA H => ?_)
    have H := H.pull 4 rfl rfl
    refine Rg_op rfl (o_append (ys := [(⟨p, r, 0, t⟩ : Drp)]) (ts := #[]) rfl sl60 rfl rfl rfl H (row_lit1 (z := (⟨p, r, 0, t⟩ : Drp)) (H.rd 1 rfl) rfl) (by first | omega | (simp only [List.length_append, List.length_cons, List.length_nil, List.length_map, List.length_take]; omega)) (by first | omega | (simp only [List.length_append, List.length_cons, List.length_nil, List.length_map, List.length_take]; omega)) fun A9 c10 w11 hA H => ?_)
    have H := (H.pull 1 rfl rfl).drop
    refine Rg_op rfl (o_val (v := .pointer (some ⟨bw, 0, none⟩)) (d := 49) rfl rfl (ex_nilCheck rfl) ?_)
    refine Rg_op rfl (o_val (v := .pointer (some ⟨bw, 8, none⟩)) (d := 50) rfl rfl (ex_fieldAddr fo142_6 rfl rfl) ?_)
    refine Rg_op rfl (o_val (v := .pointer (some ⟨bw, 9, none⟩)) (d := 51) rfl rfl (ex_fieldAddr fo63_1 rfl rfl) ?_)
    refine Rg_op rfl (o_store (vs := [.slice A9 ((dr ++ [(⟨p, r, 0, t⟩ : Drp)]).length) c10]) rfl ts60 rfl rfl rfl rfl 1 rfl rfl rfl rfl H fun w13 hA H => ?_)
    refine Rg_end ?_
    have H := H.pull 4 rfl rfl
    have H := H.pull 2 rfl rfl
    have H := H.pull 4 rfl rfl
    have H := H.pull 4 rfl rfl
    have H := H.pull 4 rfl rfl
    have hen : enterP s tab pk.Key t r p pk.Class ⟨qf kvQ, dr, mo⟩ = ⟨qf kvQ, dr ++ [⟨p, r, 0, t⟩], mo⟩ := if_pos hf9
    refine V_ret rfl (end0 (v := .tuple #[]) rfl (res_none Try.results62) ?_)
    exact ⟨kvQ, _, A9, c10, hen, rfl, hn, hpo, H⟩
  · skip
    have hf9 : ¬ (find tab pk.Key).2 = false := by simpa using hb6
    refine V_skip rfl ?_
    refine V_seq rfl ?_
    refine V_region rfl ?_
    refine Rg_op rfl (o_call (fv := []) (cap := []) (vs := []) rfl rfl cl63 rfl (outputs_c _) fun v w17 hS => ?_)
    obtain ⟨A15, c16, rfl, hB, hN⟩ := hS
    have H := H.new hB hN
    refine Rg_op rfl (o_val (v := .int .i64 ((([1, 2, 4, 8, 16]).length : Nat) : Int)) (d := 53) rfl rfl (ex_len (ts := #[]) sl26 rfl) ?_)
    refine Rg_op rfl (o_val (v := .int .i64 0) (d := 54) rfl rfl (ex_move rfl) ?_)
    refine Rg_end ?_
    refine V_block rfl ?_
    refine V_loop rfl (γ := Nat) (fun j σ w => ∃ (kv : List (Port × Qd)) (e : ES) (Ad2 : Option Addr) (cd2 : Nat), σ 0 = .pointer (some ⟨bw, 0, none⟩) ∧ σ 1 = .int .i64 t ∧ σ 2 = .int .i64 r ∧ σ 3 = .int .i64 p ∧ σ 8 = .int .i64 ((find tab pk.Key).1) ∧ σ 52 = .slice A15 (([1, 2, 4, 8, 16]).length) c16 ∧ σ 53 = .int .i64 ((([1, 2, 4, 8, 16]).length : Nat) : Int) ∧ σ 54 = .int .i64 ((j : Nat) : Int) ∧ σ 1000000 = undef ∧ Hp wb.heap.size wb w (SA.own kInt 3 A15 c16 ([1, 2, 4, 8, 16]) :: SA.cel bw #[.int .i64 s.Wide, .int .i64 s.High, .int .i64 s.Room, .slice At ts.length ct, .slice Al l.length cl, .map (some ms), .map (some mq), .map (some mc), .slice Aa arr.length ca, .slice Ad2 e.dr.length cd2, .slice Am mo.length cm, .int .i64 rest] 142 :: SA.map kPort.enc Qd.val mq kv :: SA.queues kv :: SA.own kDrp 110 Ad2 cd2 e.dr :: SA.own kV2 101 Am cm e.mo :: L) ∧ j ≤ 5 ∧ e = (outs5.take j).foldl (outStep s t r p pk.Class (find tab pk.Key).1) ⟨qf kvQ, dr, mo⟩ ∧ e.Q = qf kv ∧ (kv.map (·.1)).Nodup ∧ (∀ k ∈ kv.map (·.1), portOk s k) ∧ shortQ s e.Q ∧ e.dr.length ≤ dr.length + j ∧ e.mo.length = mo.length) (fun j => 5 - j) (0) ⟨kvQ, ⟨qf kvQ, dr, mo⟩, Ad, cd, rfl, rfl, rfl, rfl, rfl, rfl, rfl, rfl, rfl, H, by omega, rfl, rfl, hn, hpo, hsq, Nat.le_refl _, rfl⟩ (fun j σ w hI => ?_)
    obtain ⟨kv, e, Ad2, cd2, hI⟩ := hI
    obtain ⟨s0, s1, s2, s3, s8, s52, s53, s54, s1000000, H, hj, he, heq, hnk, hpk2, hsh, hdl, hml⟩ := hI
    refine V_seq rfl ?_
    refine V_region rfl ?_
    refine Rg_op rfl (o_val (v := .bool (decide (((j : Nat) : Int) < ((([1, 2, 4, 8, 16]).length : Nat) : Int)))) (d := 55) rfl rfl (ex_lss s54 s53) ?_)
    refine Rg_end ?_
    refine V_seq rfl ?_
    refine V_cond (b := (decide (((j : Nat) : Int) < ((([1, 2, 4, 8, 16]).length : Nat) : Int)))) rfl rfl (fun hb18 => ?_) (fun hb18 => ?_)
    · have hb18 : ((j : Nat) : Int) < ((([1, 2, 4, 8, 16]).length : Nat) : Int) := of_decide_eq_true hb18
      have hj5 : j < 5 := by have h9 := hb18; simp only [List.length_cons, List.length_nil] at h9; omega
      refine V_skip rfl ?_
      refine V_seq rfl ?_
      refine V_block rfl ?_
      refine V_seq rfl ?_
      refine V_region rfl ?_
      have hr19 := (own_row (H.pull 0 rfl rfl)).1
      obtain ⟨ad20, x20, cs20, hA20, hx20, hR20, hc20⟩ := Row.get hr19 ((j : Nat) : Int) ((by first | omega | (simp only [List.length_cons, List.length_nil]; omega))) ((by first | omega | (simp only [List.length_cons, List.length_nil]; omega)))
      obtain rfl := hR20
      refine Rg_op rfl (o_val (v := .pointer (some (ad20.add ((((j : Nat) : Int)).toNat * 1)))) (d := 56) rfl rfl (ex_indexAddr sl26 s52 hA20 s54 ((by first | omega | (simp only [List.length_cons, List.length_nil]; omega))) ((by first | omega | (simp only [List.length_cons, List.length_nil]; omega))) rfl) ?_)
      refine Rg_op rfl (o_val (v := .int .i64 x20) (d := 57) rfl rfl (ex_load ca3 rfl (hc20 0 _ rfl)) ?_)
      refine Rg_op rfl (o_val (v := .int .i64 x20) (d := 11) rfl rfl (ex_assign rfl) ?_)
      refine Rg_end ?_
      refine V_seq rfl ?_
      refine V_seq rfl ?_
      refine V_region rfl ?_
      have hxo : outs5[j]? = some x20 := hx20
      refine Rg_op rfl (o_val (v := .int .i64 ((find tab pk.Key).1)) (d := 58) rfl rfl (ex_move s8) ?_)
      refine Rg_op rfl (o_val (v := .int .i64 x20) (d := 59) rfl rfl (ex_move rfl) ?_)
      refine Rg_op rfl (o_val (v := .int .i64 (bAnd .i64 ((find tab pk.Key).1) x20)) (d := 60) rfl rfl (ex_and rfl rfl) ?_)
      refine Rg_op rfl (o_val (v := .bool (decide ((bAnd .i64 ((find tab pk.Key).1) x20) = 0))) (d := 61) rfl rfl (ex_eql rfl rfl) ?_)
      refine Rg_end ?_
      refine V_cond (b := (decide ((bAnd .i64 ((find tab pk.Key).1) x20) = 0))) rfl rfl (fun hb21 => ?_) (fun hb21 => ?_)
      · have hb21 : (bAnd .i64 ((find tab pk.Key).1) x20) = 0 := of_decide_eq_true hb21
        refine V_exit rfl ?_
        refine V_region rfl ?_
        refine Rg_op rfl (o_val (v := .int .i64 (((j : Nat) : Int) + 1)) (d := 146) rfl rfl (ex_add s54 rfl (by omega)) ?_)
        refine Rg_op rfl (o_val (v := .int .i64 (((j : Nat) : Int) + 1)) (d := 54) rfl rfl (ex_move rfl) ?_)
        refine Rg_end ?_
        have hst9 : outStep s t r p pk.Class (find tab pk.Key).1 e x20 = e := if_pos (by assumption)
        have hQ9 : (outStep s t r p pk.Class (find tab pk.Key).1 e x20).Q = qf kv := by rw [hst9]; exact heq
        have hK9 := hnk
        have hP9 := hpk2
        rw [← hst9] at H
        exact ⟨j + 1, ⟨kv, outStep s t r p pk.Class (find tab pk.Key).1 e x20, Ad2, cd2, s0, s1, s2, s3, s8, s52, s53, rfl, s1000000, H, by omega, by rw [List.take_add_one, hxo, Option.toList_some, List.foldl_append, ← he]; rfl, hQ9, hK9, hP9, outStep_short hsh, by have := (outStep_dr s t r p pk.Class (find tab pk.Key).1 e x20).1; omega, by rw [(outStep_dr s t r p pk.Class (find tab pk.Key).1 e x20).2]; exact hml⟩, by omega⟩
      · have hb21 : ¬ ((bAnd .i64 ((find tab pk.Key).1) x20) = 0) := of_decide_eq_false hb21
        refine V_skip rfl ?_
        refine V_seq rfl ?_
        refine V_region rfl ?_
        refine Rg_op rfl (o_val (v := .pointer (some ⟨bw, 0, none⟩)) (d := 62) rfl rfl (ex_move s0) ?_)
        refine Rg_op rfl (o_val (v := .int .i64 r) (d := 63) rfl rfl (ex_move s2) ?_)
        refine Rg_op rfl (o_val (v := .int .i64 x20) (d := 64) rfl rfl (ex_move rfl) ?_)
        refine Rg_op rfl (o_val (v := .pointer (some ⟨bw, 0, none⟩)) (d := 65) rfl rfl (ex_move s0) ?_)
        refine Rg_op rfl (o_val (v := .pointer (some ⟨bw, 0, none⟩)) (d := 66) rfl rfl (ex_nilCheck rfl) ?_)
        refine Rg_op rfl (o_val (v := .pointer (some ⟨bw, 4, none⟩)) (d := 67) rfl rfl (ex_fieldAddr fo142_2 rfl rfl) ?_)
        refine Rg_op rfl (o_val (v := .slice Al l.length cl) (d := 68) rfl rfl (ex_load ca55 rfl (cell_of (H.rd 1 rfl))) ?_)
        refine Rg_op rfl (o_val (v := .int .i64 p) (d := 69) rfl rfl (ex_move s3) ?_)
        refine Rg_op rfl (o_val (v := .pointer (some (ad4.add ((p).toNat * 4)))) (d := 70) rfl rfl (ex_indexAddr sl55 rfl hA4 rfl ((by first | omega | (simp only [List.length_cons, List.length_nil]; omega))) ((by first | omega | (simp only [List.length_cons, List.length_nil]; omega))) rfl) ?_)
        refine Rg_op rfl (o_val (v := .pointer (some (ad4.add ((p).toNat * 4 + 3)))) (d := 71) rfl rfl (ex_fieldAddr fo58_3 rfl (add_add _ _ _)) ?_)
        refine Rg_op rfl (o_val (v := .int .i64 pk.Class) (d := 72) rfl rfl (ex_load ca3 rfl (H.cell0 (hc4 3 _ rfl))) ?_)
        have hsh9 := hsh ⟨r, x20, pk.Class⟩
        refine Rg_op rfl (o_val (v := .agg #[.int .i64 r, .int .i64 x20, .int .i64 pk.Class]) (d := 73) rfl rfl (ex_eq (by kernel_rfl)) ?_)
        have H := H.pull 3 rfl rfl
        have H := H.pull 3 rfl rfl
        have H := H.pull 3 rfl rfl
        refine Rg_op rfl (o_call (fv := []) (cap := []) (vs := [.pointer (some ⟨bw, 0, none⟩), .agg #[.int .i64 r, .int .i64 x20, .int .i64 pk.Class]]) rfl rfl cl88 rfl (queue_c _ _ _ _ bw mq #[.int .i64 s.Wide, .int .i64 s.High, .int .i64 s.Room, .slice At ts.length ct, .slice Al l.length cl, .map (some ms), .map (some mq), .map (some mc), .slice Aa arr.length ca, .slice Ad2 e.dr.length cd2, .slice Am mo.length cm, .int .i64 rest] kv (⟨r, x20, pk.Class⟩ : Port) H rfl hnk) fun v w23 hS => ?_)
        obtain ⟨kv22, iq22, q22, rfl, hqi22, hqr22, H⟩ := hS
        refine Rg_op rfl (o_val (v := .pointer (some ⟨q22.b, 0, none⟩)) (d := 12) rfl rfl (ex_assign rfl) ?_)
        refine Rg_end ?_
        refine V_seq rfl ?_
        refine V_seq rfl ?_
        refine V_region rfl ?_
        have hq9 : q22.xs.length ≤ 64 := by have h1 := hqr22.2.1; rw [h1, ← heq]; omega
        refine Rg_op rfl (o_val (v := .pointer (some ⟨bw, 0, none⟩)) (d := 76) rfl rfl (ex_move s0) ?_)
        refine Rg_op rfl (o_val (v := .pointer (some ⟨bw, 0, none⟩)) (d := 77) rfl rfl (ex_nilCheck rfl) ?_)
        refine Rg_op rfl (o_val (v := .pointer (some ⟨bw, 0, none⟩)) (d := 78) rfl rfl (ex_fieldAddr fo142_0 rfl rfl) ?_)
        refine Rg_op rfl (o_val (v := .agg #[.int .i64 s.Wide, .int .i64 s.High, .int .i64 s.Room]) (d := 79) rfl rfl (ex_loadN (vs := [.int .i64 s.Wide, .int .i64 s.High, .int .i64 s.Room]) ca33 rfl rfl (blk_cells (H.rd 0 rfl) rfl)) ?_)
        refine Rg_op rfl (o_val (v := .int .i64 r) (d := 80) rfl rfl (ex_move s2) ?_)
        refine Rg_op rfl (o_val (v := .int .i64 x20) (d := 81) rfl rfl (ex_move rfl) ?_)
        refine Rg_op rfl (o_call (fv := []) (cap := []) (vs := [.agg #[.int .i64 s.Wide, .int .i64 s.High, .int .i64 s.Room], .int .i64 r, .int .i64 x20]) rfl rfl cl89 rfl (next_c s r x20 _ (by assumption) (by omega) (by omega)) fun v w24 hS => ?_)
        obtain ⟨rfl, hB⟩ := hS
        have H := H.keep hB
        refine Rg_op rfl (o_val (v := .tuple #[.int .i64 (nextR s r x20), .bool (nextB s r x20)]) (d := 75) rfl rfl (ex_move rfl) ?_)
        refine Rg_op rfl (o_val (v := .int .i64 (nextR s r x20)) (d := 83) rfl rfl (ex_extract rfl rfl) ?_)
        refine Rg_op rfl (o_val (v := .bool (nextB s r x20)) (d := 84) rfl rfl (ex_extract rfl rfl) ?_)
        refine Rg_op rfl (o_val (v := .int .i64 (nextR s r x20)) (d := 13) rfl rfl (ex_assign rfl) ?_)
        refine Rg_op rfl (o_val (v := .bool (nextB s r x20)) (d := 14) rfl rfl (ex_assign rfl) ?_)
        refine Rg_end ?_
        refine V_seq rfl ?_
        refine V_join (fun σ w => σ 0 = .pointer (some ⟨bw, 0, none⟩) ∧ σ 1 = .int .i64 t ∧ σ 2 = .int .i64 r ∧ σ 3 = .int .i64 p ∧ σ 8 = .int .i64 ((find tab pk.Key).1) ∧ σ 11 = .int .i64 x20 ∧ σ 12 = .pointer (some ⟨q22.b, 0, none⟩) ∧ σ 14 = .bool (nextB s r x20) ∧ σ 52 = .slice A15 (([1, 2, 4, 8, 16]).length) c16 ∧ σ 53 = .int .i64 ((([1, 2, 4, 8, 16]).length : Nat) : Int) ∧ σ 54 = .int .i64 ((j : Nat) : Int) ∧ σ 55 = .bool (decide (((j : Nat) : Int) < ((([1, 2, 4, 8, 16]).length : Nat) : Int))) ∧ σ 56 = .pointer (some (ad20.add ((((j : Nat) : Int)).toNat * 1))) ∧ σ 57 = .int .i64 x20 ∧ σ 58 = .int .i64 ((find tab pk.Key).1) ∧ σ 59 = .int .i64 x20 ∧ σ 60 = .int .i64 (bAnd .i64 ((find tab pk.Key).1) x20) ∧ σ 61 = .bool (decide ((bAnd .i64 ((find tab pk.Key).1) x20) = 0)) ∧ σ 62 = .pointer (some ⟨bw, 0, none⟩) ∧ σ 63 = .int .i64 r ∧ σ 64 = .int .i64 x20 ∧ σ 65 = .pointer (some ⟨bw, 0, none⟩) ∧ σ 66 = .pointer (some ⟨bw, 0, none⟩) ∧ σ 67 = .pointer (some ⟨bw, 4, none⟩) ∧ σ 68 = .slice Al l.length cl ∧ σ 69 = .int .i64 p ∧ σ 70 = .pointer (some (ad4.add ((p).toNat * 4))) ∧ σ 71 = .pointer (some (ad4.add ((p).toNat * 4 + 3))) ∧ σ 72 = .int .i64 pk.Class ∧ σ 73 = .agg #[.int .i64 r, .int .i64 x20, .int .i64 pk.Class] ∧ σ 74 = .pointer (some ⟨q22.b, 0, none⟩) ∧ σ 75 = .tuple #[.int .i64 (nextR s r x20), .bool (nextB s r x20)] ∧ σ 76 = .pointer (some ⟨bw, 0, none⟩) ∧ σ 77 = .pointer (some ⟨bw, 0, none⟩) ∧ σ 78 = .pointer (some ⟨bw, 0, none⟩) ∧ σ 79 = .agg #[.int .i64 s.Wide, .int .i64 s.High, .int .i64 s.Room] ∧ σ 80 = .int .i64 r ∧ σ 81 = .int .i64 x20 ∧ σ 82 = .tuple #[.int .i64 (nextR s r x20), .bool (nextB s r x20)] ∧ σ 83 = .int .i64 (nextR s r x20) ∧ σ 84 = .bool (nextB s r x20) ∧ σ 85 = .bool (nextB s r x20) ∧ σ 86 = .bool (!(nextB s r x20)) ∧ σ 87 = .bool (!(nextB s r x20)) ∧ σ 99 = .bool (decide (((!(nextB s r x20)) = true) ∨ (((q22.xs.length : Nat) : Int) = s.Room))) ∧ σ 1000000 = undef ∧ Hp wb.heap.size wb w (SA.cel bw #[.int .i64 s.Wide, .int .i64 s.High, .int .i64 s.Room, .slice At ts.length ct, .slice Al l.length cl, .map (some ms), .map (some mq), .map (some mc), .slice Aa arr.length ca, .slice Ad2 e.dr.length cd2, .slice Am mo.length cm, .int .i64 rest] 142 :: SA.map kPort.enc Qd.val mq kv22 :: SA.cel q22.b #[.slice q22.A q22.xs.length q22.c] 153 :: SA.ints q22.A q22.c q22.xs :: SA.queues (kv22.eraseIdx iq22) :: SA.own kInt 3 A15 c16 ([1, 2, 4, 8, 16]) :: SA.own kDrp 110 Ad2 cd2 e.dr :: SA.own kV2 101 Am cm e.mo :: L)) ?_ (fun σ w hI => ?_)
        · skip
          refine V_draw [0, 1, 2, 3, 4, 5, 7, 8, 9, 10, 11, 13, 14] (.p 0 (.p 1 (.p 2 (.p 3 (.p 4 (.p 5 (.q 6 (.p 7 (.p 8 (.p 9 (.p 10 (.p 11 (.q 12 (.p 13 (.p 14 .done))))))))))))))) (fun _ => False) rfl mixed (by kernel_rfl) fun w25 hD => ?_
          have H := H.drew hD
          refine c_p (v := .bool (nextB s r x20)) (d := 85) rfl rfl rfl (fun w' => ex_move rfl) ?_
          refine c_p (v := .bool (!(nextB s r x20))) (d := 86) rfl rfl rfl (fun w' => ex_not rfl) ?_
          refine c_p (v := .bool (!(nextB s r x20))) (d := 87) rfl rfl rfl (fun w' => ex_move rfl) ?_
          by_cases hg26 : (!(nextB s r x20)) = true
          · skip
            refine c_ps (d := 88) rfl rfl rfl (wanted_no (b := (!(nextB s r x20))) rfl rfl rfl hg26) ?_
            refine c_ps (d := 89) rfl rfl rfl (wanted_no (b := (!(nextB s r x20))) rfl rfl rfl hg26) ?_
            refine c_ps (d := 90) rfl rfl rfl (wanted_no (b := (!(nextB s r x20))) rfl rfl rfl hg26) ?_
            refine c_qs (d := 91) rfl rfl rfl (wanted_no (b := (!(nextB s r x20))) rfl rfl rfl hg26) ?_
            refine c_ps (d := 92) rfl rfl rfl (wanted_no (b := (!(nextB s r x20))) rfl rfl rfl hg26) ?_
            refine c_ps (d := 93) rfl rfl rfl (wanted_no (b := (!(nextB s r x20))) rfl rfl rfl hg26) ?_
            refine c_ps (d := 94) rfl rfl rfl (wanted_no (b := (!(nextB s r x20))) rfl rfl rfl hg26) ?_
            refine c_ps (d := 95) rfl rfl rfl (wanted_no (b := (!(nextB s r x20))) rfl rfl rfl hg26) ?_
            refine c_ps (d := 96) rfl rfl rfl (wanted_no (b := (!(nextB s r x20))) rfl rfl rfl hg26) ?_
            refine c_qs (d := 97) rfl rfl rfl (wanted_no (b := (!(nextB s r x20))) rfl rfl rfl hg26) ?_
            refine c_ps (d := 98) rfl rfl rfl (wanted_no (b := (!(nextB s r x20))) rfl rfl rfl hg26) ?_
            refine c_p (v := .bool true) (d := 99) rfl rfl rfl (fun w' => ex_pick (q := (!(nextB s r x20))) rfl (fun h => rfl) (fun h => absurd hg26 (by rw [h]; decide))) ?_
            refine c_done ?_
            exact ⟨s0, s1, s2, s3, s8, rfl, rfl, rfl, s52, s53, s54, rfl, rfl, rfl, rfl, rfl, rfl, rfl, rfl, rfl, rfl, rfl, rfl, rfl, rfl, rfl, rfl, rfl, rfl, rfl, rfl, rfl, rfl, rfl, rfl, rfl, rfl, rfl, rfl, rfl, rfl, rfl, rfl, rfl, (show (.bool true : Value) = .bool (decide (((!(nextB s r x20)) = true) ∨ (((q22.xs.length : Nat) : Int) = s.Room))) from by first | (simp only [hg26, true_or, or_true, false_or, or_false, true_and, and_true, false_and, and_false, decide_true, decide_false, Bool.not_true, Bool.not_false]; done) | (simp [hg26]; done) | (simp [hg26]; rfl)), s1000000, H⟩
          · skip
            refine c_pg (v := .pointer (some ⟨q22.b, 0, none⟩)) (d := 88) rfl rfl rfl (wanted_yes (b := (!(nextB s r x20))) rfl rfl rfl (by simpa using hg26)) (fun w' => ex_move rfl) ?_
            refine c_pg (v := .pointer (some ⟨q22.b, 0, none⟩)) (d := 89) rfl rfl rfl (wanted_yes (b := (!(nextB s r x20))) rfl rfl rfl (by simpa using hg26)) (fun w' => ex_nilCheck rfl) ?_
            refine c_pg (v := .pointer (some ⟨q22.b, 0, none⟩)) (d := 90) rfl rfl rfl (wanted_yes (b := (!(nextB s r x20))) rfl rfl rfl (by simpa using hg26)) (fun w' => ex_fieldAddr fo153_0 rfl rfl) ?_
            refine c_qg (v := .slice q22.A q22.xs.length q22.c) (d := 91) rfl rfl rfl (wanted_yes (b := (!(nextB s r x20))) rfl rfl rfl (by simpa using hg26)) (fun w' hG => ex_load ca26 rfl (hG.cell (cell_of (H.rd 2 rfl)) id)) ?_
            refine c_pg (v := .int .i64 ((q22.xs.length : Nat) : Int)) (d := 92) rfl rfl rfl (wanted_yes (b := (!(nextB s r x20))) rfl rfl rfl (by simpa using hg26)) (fun w' => ex_len (ts := #[]) sl26 rfl) ?_
            refine c_pg (v := .pointer (some ⟨bw, 0, none⟩)) (d := 93) rfl rfl rfl (wanted_yes (b := (!(nextB s r x20))) rfl rfl rfl (by simpa using hg26)) (fun w' => ex_move s0) ?_
            refine c_pg (v := .pointer (some ⟨bw, 0, none⟩)) (d := 94) rfl rfl rfl (wanted_yes (b := (!(nextB s r x20))) rfl rfl rfl (by simpa using hg26)) (fun w' => ex_nilCheck rfl) ?_
            refine c_pg (v := .pointer (some ⟨bw, 0, none⟩)) (d := 95) rfl rfl rfl (wanted_yes (b := (!(nextB s r x20))) rfl rfl rfl (by simpa using hg26)) (fun w' => ex_fieldAddr fo142_0 rfl rfl) ?_
            refine c_pg (v := .pointer (some ⟨bw, 2, none⟩)) (d := 96) rfl rfl rfl (wanted_yes (b := (!(nextB s r x20))) rfl rfl rfl (by simpa using hg26)) (fun w' => ex_fieldAddr fo33_2 rfl rfl) ?_
            refine c_qg (v := .int .i64 s.Room) (d := 97) rfl rfl rfl (wanted_yes (b := (!(nextB s r x20))) rfl rfl rfl (by simpa using hg26)) (fun w' hG => ex_load ca3 rfl (hG.cell (cell_of (H.rd 0 rfl)) id)) ?_
            refine c_pg (v := .bool (decide (((q22.xs.length : Nat) : Int) = s.Room))) (d := 98) rfl rfl rfl (wanted_yes (b := (!(nextB s r x20))) rfl rfl rfl (by simpa using hg26)) (fun w' => ex_eql rfl rfl) ?_
            refine c_p (v := .bool (decide (((q22.xs.length : Nat) : Int) = s.Room))) (d := 99) rfl rfl rfl (fun w' => ex_pick (q := (!(nextB s r x20))) rfl (fun h => absurd h hg26) (fun h => rfl)) ?_
            refine c_done ?_
            exact ⟨s0, s1, s2, s3, s8, rfl, rfl, rfl, s52, s53, s54, rfl, rfl, rfl, rfl, rfl, rfl, rfl, rfl, rfl, rfl, rfl, rfl, rfl, rfl, rfl, rfl, rfl, rfl, rfl, rfl, rfl, rfl, rfl, rfl, rfl, rfl, rfl, rfl, rfl, rfl, rfl, rfl, rfl, (show (.bool (decide (((q22.xs.length : Nat) : Int) = s.Room)) : Value) = .bool (decide (((!(nextB s r x20)) = true) ∨ (((q22.xs.length : Nat) : Int) = s.Room))) from by first | (simp only [hg26, true_or, or_true, false_or, or_false, true_and, and_true, false_and, and_false, decide_true, decide_false, Bool.not_true, Bool.not_false]; done) | (simp [hg26]; done) | (simp [hg26]; rfl)), s1000000, H⟩
        obtain ⟨s0, s1, s2, s3, s8, s11, s12, s14, s52, s53, s54, s55, s56, s57, s58, s59, s60, s61, s62, s63, s64, s65, s66, s67, s68, s69, s70, s71, s72, s73, s74, s75, s76, s77, s78, s79, s80, s81, s82, s83, s84, s85, s86, s87, s99, s1000000, H⟩ := hI
        refine V_cond (b := (decide (((!(nextB s r x20)) = true) ∨ (((q22.xs.length : Nat) : Int) = s.Room)))) rfl s99 (fun hb27 => ?_) (fun hb27 => ?_)
        · have hb27 : ((!(nextB s r x20)) = true) ∨ (((q22.xs.length : Nat) : Int) = s.Room) := of_decide_eq_true hb27
          have hway := hb27
          refine V_seq rfl ?_
          refine V_region rfl ?_
          refine Rg_op rfl (o_val (v := .pointer (some ⟨bw, 0, none⟩)) (d := 100) rfl rfl (ex_move s0) ?_)
          refine Rg_op rfl (o_val (v := .pointer (some ⟨bw, 0, none⟩)) (d := 101) rfl rfl (ex_move s0) ?_)
          refine Rg_op rfl (o_val (v := .pointer (some ⟨bw, 0, none⟩)) (d := 102) rfl rfl (ex_nilCheck rfl) ?_)
          refine Rg_op rfl (o_val (v := .pointer (some ⟨bw, 8, none⟩)) (d := 103) rfl rfl (ex_fieldAddr fo142_6 rfl rfl) ?_)
          refine Rg_op rfl (o_val (v := .pointer (some ⟨bw, 9, none⟩)) (d := 104) rfl rfl (ex_fieldAddr fo63_1 rfl rfl) ?_)
          refine Rg_op rfl (o_val (v := .slice Ad2 e.dr.length cd2) (d := 105) rfl rfl (ex_load ca60 rfl (cell_of (H.rd 0 rfl))) ?_)
          refine Rg_op rfl (o_val (v := .int .i64 p) (d := 106) rfl rfl (ex_move s3) ?_)
          refine Rg_op rfl (o_val (v := .int .i64 r) (d := 107) rfl rfl (ex_move s2) ?_)
          refine Rg_op rfl (o_val (v := .int .i64 x20) (d := 108) rfl rfl (ex_move s11) ?_)
          refine Rg_op rfl (o_val (v := .int .i64 t) (d := 109) rfl rfl (ex_move s1) ?_)
          refine Rg_op rfl (o_val (v := .agg #[.int .i64 p, .int .i64 r, .int .i64 x20, .int .i64 t]) (d := 110) rfl rfl (ex_eq (by kernel_rfl)) ?_)
          refine Rg_op rfl (o_lit (cs := [.int .i64 p, .int .i64 r, .int .i64 x20, .int .i64 t]) (e := 110) rfl (fun W => by kernel_rfl) H fun b28 w29 hA H => ?_)
          have H := H.pull 7 rfl rfl
          refine Rg_op rfl (o_append (ys := [(⟨p, r, x20, t⟩ : Drp)]) (ts := #[]) rfl sl60 rfl rfl rfl H (row_lit1 (z := (⟨p, r, x20, t⟩ : Drp)) (H.rd 1 rfl) rfl) (by first | omega | (simp only [List.length_append, List.length_cons, List.length_nil, List.length_map, List.length_take]; omega)) (by first | omega | (simp only [List.length_append, List.length_cons, List.length_nil, List.length_map, List.length_take]; omega)) fun A30 c31 w32 hA H => ?_)
          have H := (H.pull 1 rfl rfl).drop
          refine Rg_op rfl (o_val (v := .pointer (some ⟨bw, 0, none⟩)) (d := 113) rfl rfl (ex_nilCheck rfl) ?_)
          refine Rg_op rfl (o_val (v := .pointer (some ⟨bw, 8, none⟩)) (d := 114) rfl rfl (ex_fieldAddr fo142_6 rfl rfl) ?_)
          refine Rg_op rfl (o_val (v := .pointer (some ⟨bw, 9, none⟩)) (d := 115) rfl rfl (ex_fieldAddr fo63_1 rfl rfl) ?_)
          refine Rg_op rfl (o_store (vs := [.slice A30 ((e.dr ++ [(⟨p, r, x20, t⟩ : Drp)]).length) c31]) rfl ts60 rfl rfl rfl rfl 1 rfl rfl rfl rfl H fun w34 hA H => ?_)
          refine Rg_end ?_
          refine V_exit rfl ?_
          refine V_region rfl ?_
          refine Rg_op rfl (o_val (v := .int .i64 (((j : Nat) : Int) + 1)) (d := 146) rfl rfl (ex_add s54 rfl (by omega)) ?_)
          refine Rg_op rfl (o_val (v := .int .i64 (((j : Nat) : Int) + 1)) (d := 54) rfl rfl (ex_move rfl) ?_)
          refine Rg_end ?_
          have H := H.pull 5 rfl rfl
          have H := H.pull 5 rfl rfl
          have H := H.pull 5 rfl rfl
          have H := H.pull 5 rfl rfl
          have H := q_back hqi22 H
          obtain ⟨hr1, hr2, hr3, hr4⟩ := hqr22
          have hK9 : (((kv22.set iq22 ((⟨r, x20, pk.Class⟩ : Port), (⟨q22.b, q22.A, q22.c, q22.xs⟩ : Qd)))).map (·.1)).Nodup := by rw [List.map_set]; rw [set_self (by simp [hqi22])]; exact hr3
          have hP9 : ∀ k ∈ ((kv22.set iq22 ((⟨r, x20, pk.Class⟩ : Port), (⟨q22.b, q22.A, q22.c, q22.xs⟩ : Qd)))).map (·.1), portOk s k := fun k hk => by rw [List.map_set, set_self (by simp [hqi22])] at hk; rcases hr4 k hk with hk | rfl; exact hpk2 k hk; exact ⟨h0r, h1r, List.mem_of_getElem? hxo, hcls⟩
          have hst9 : outStep s t r p pk.Class (find tab pk.Key).1 e x20 = ⟨e.Q, e.dr ++ [⟨p, r, x20, t⟩], e.mo⟩ := by rw [outStep, if_neg (by assumption), if_pos (by rw [heq, ← hr2]; simpa using hway)]
          have hQ9 : (outStep s t r p pk.Class (find tab pk.Key).1 e x20).Q = qf ((kv22.set iq22 ((⟨r, x20, pk.Class⟩ : Port), (⟨q22.b, q22.A, q22.c, q22.xs⟩ : Qd)))) := by rw [hst9, qf_set hr3 hqi22, hr2, hr1, updP_self]; exact heq
          have hH9 := hst9
          rw [show e.dr ++ [(⟨p, r, x20, t⟩ : Drp)] = (outStep s t r p pk.Class (find tab pk.Key).1 e x20).dr from by rw [hst9]] at H
          rw [show e.mo = (outStep s t r p pk.Class (find tab pk.Key).1 e x20).mo from by rw [hst9]] at H
          exact ⟨j + 1, ⟨(kv22.set iq22 ((⟨r, x20, pk.Class⟩ : Port), (⟨q22.b, q22.A, q22.c, q22.xs⟩ : Qd))), outStep s t r p pk.Class (find tab pk.Key).1 e x20, A30, c31, s0, s1, s2, s3, s8, s52, s53, rfl, s1000000, (Hp.pull 5 rfl rfl (Hp.pull 4 rfl rfl (Hp.pull 3 rfl rfl (Hp.pull 3 rfl rfl (Hp.pull 4 rfl rfl (Hp.pull 5 rfl rfl H)))))), by omega, by rw [List.take_add_one, hxo, Option.toList_some, List.foldl_append, ← he]; rfl, hQ9, hK9, hP9, outStep_short hsh, by have := (outStep_dr s t r p pk.Class (find tab pk.Key).1 e x20).1; omega, by rw [(outStep_dr s t r p pk.Class (find tab pk.Key).1 e x20).2]; exact hml⟩, by omega⟩
        · have hb27 : ¬ (((!(nextB s r x20)) = true) ∨ (((q22.xs.length : Nat) : Int) = s.Room)) := of_decide_eq_false hb27
          have hway := hb27
          refine V_skip rfl ?_
          refine V_seq rfl ?_
          refine V_region rfl ?_
          refine Rg_op rfl (o_val (v := .pointer (some ⟨q22.b, 0, none⟩)) (d := 116) rfl rfl (ex_move s12) ?_)
          refine Rg_op rfl (o_val (v := .int .i64 p) (d := 117) rfl rfl (ex_move s3) ?_)
          have H := H.pull 3 rfl rfl
          have H := H.pull 3 rfl rfl
          refine Rg_op rfl (o_call (fv := []) (cap := []) (vs := [.pointer (some ⟨q22.b, 0, none⟩), .int .i64 p]) rfl rfl cl90 rfl (put_c _ _ _ _ _ _ _ q22.xs p H (by omega)) fun v w37 hS => ?_)
          obtain ⟨A35, c36, H⟩ := hS
          refine Rg_end ?_
          refine V_seq rfl ?_
          refine V_draw [0, 1, 2, 3, 5, 6, 7, 8, 10, 11, 12, 14, 15, 16] (.p 0 (.p 1 (.p 2 (.p 3 (.q 4 (.p 5 (.p 6 (.p 7 (.p 8 (.q 9 (.p 10 (.p 11 (.p 12 (.q 13 (.p 14 (.p 15 (.p 16 .done))))))))))))))))) (fun _ => False) rfl mixed (by kernel_rfl) fun w38 hD => ?_
          have H := H.drew hD
          refine c_p (v := .pointer (some ⟨bw, 0, none⟩)) (d := 119) rfl rfl rfl (fun w' => ex_move s0) ?_
          refine c_p (v := .pointer (some ⟨bw, 0, none⟩)) (d := 120) rfl rfl rfl (fun w' => ex_nilCheck rfl) ?_
          refine c_p (v := .pointer (some ⟨bw, 8, none⟩)) (d := 121) rfl rfl rfl (fun w' => ex_fieldAddr fo142_6 rfl rfl) ?_
          refine c_p (v := .pointer (some ⟨bw, 10, none⟩)) (d := 122) rfl rfl rfl (fun w' => ex_fieldAddr fo63_2 rfl rfl) ?_
          refine c_q (v := .slice Am mo.length cm) (d := 123) rfl rfl rfl (fun w' hG => ex_load ca61 rfl (hG.cell (cell_of (H.rd 2 rfl)) id)) ?_
          refine c_p (v := .int .i64 r) (d := 124) rfl rfl rfl (fun w' => ex_move s2) ?_
          refine c_p (v := .pointer (some ⟨bw, 0, none⟩)) (d := 125) rfl rfl rfl (fun w' => ex_move s0) ?_
          refine c_p (v := .pointer (some ⟨bw, 0, none⟩)) (d := 126) rfl rfl rfl (fun w' => ex_nilCheck rfl) ?_
          refine c_p (v := .pointer (some ⟨bw, 4, none⟩)) (d := 127) rfl rfl rfl (fun w' => ex_fieldAddr fo142_2 rfl rfl) ?_
          refine c_q (v := .slice Al l.length cl) (d := 128) rfl rfl rfl (fun w' hG => ex_load ca55 rfl (hG.cell (cell_of (H.rd 2 rfl)) id)) ?_
          refine c_p (v := .int .i64 p) (d := 129) rfl rfl rfl (fun w' => ex_move s3) ?_
          refine c_p (v := .pointer (some (ad4.add ((p).toNat * 4)))) (d := 130) rfl rfl rfl (fun w' => ex_indexAddr sl55 rfl hA4 rfl ((by first | omega | (simp only [List.length_cons, List.length_nil]; omega))) ((by first | omega | (simp only [List.length_cons, List.length_nil]; omega))) rfl) ?_
          refine c_p (v := .pointer (some (ad4.add ((p).toNat * 4 + 3)))) (d := 131) rfl rfl rfl (fun w' => ex_fieldAddr fo58_3 rfl (add_add _ _ _)) ?_
          refine c_q (v := .int .i64 pk.Class) (d := 132) rfl rfl rfl (fun w' hG => ex_load ca3 rfl (hG.cell (H.cell0 (hc4 3 _ rfl)) id)) ?_
          have hr39 := (own_row (H.pull 7 rfl rfl)).1
          obtain ⟨ad40, x40, cs40, hA40, hx40, hR40, hc40⟩ := Row.get hr39 r ((by first | omega | (simp only [List.length_cons, List.length_nil]; omega))) ((by first | omega | (simp only [List.length_cons, List.length_nil]; omega)))
          obtain rfl := hR40
          refine c_p (v := .pointer (some (ad40.add ((r).toNat * 2)))) (d := 133) rfl rfl rfl (fun w' => ex_indexAddr sl61 rfl hA40 rfl ((by first | omega | (simp only [List.length_cons, List.length_nil]; omega))) ((by first | omega | (simp only [List.length_cons, List.length_nil]; omega))) rfl) ?_
          refine c_p (v := .pointer (some (ad40.add ((r).toNat * 2 + pk.Class.toNat)))) (d := 134) rfl rfl rfl (fun w' => ex_indexArr (a := pk.Class) arr101 rfl rfl (by omega) (by omega) (by rw [add_add, Nat.mul_one])) ?_
          refine c_p (v := .pointer (some (ad40.add ((r).toNat * 2 + pk.Class.toNat)))) (d := 15) rfl rfl rfl (fun w' => ex_assign rfl) ?_
          refine c_done ?_
          refine V_draw [0, 1, 2, 4, 5, 6, 8, 9, 10] (.p 0 (.p 1 (.p 2 (.q 3 (.p 4 (.p 5 (.p 6 (.q 7 (.p 8 (.p 9 (.p 10 (.l 11 .done)))))))))))) (fun _ => False) rfl mixed (by kernel_rfl) fun w41 hD => ?_
          have H := H.drew hD
          refine c_p (v := .pointer (some (ad40.add ((r).toNat * 2 + pk.Class.toNat)))) (d := 135) rfl rfl rfl (fun w' => ex_move rfl) ?_
          refine c_p (v := .pointer (some (ad40.add ((r).toNat * 2 + pk.Class.toNat)))) (d := 136) rfl rfl rfl (fun w' => ex_move rfl) ?_
          refine c_p (v := .pointer (some (ad40.add ((r).toNat * 2 + pk.Class.toNat)))) (d := 137) rfl rfl rfl (fun w' => ex_nilCheck rfl) ?_
          have hr9 := (own_row (H.pull 7 rfl rfl)).1
          obtain ⟨ad8, x8, cs8, hA8, hx8, hR8, hc8⟩ := Row.get hr9 r (by omega) (by omega)
          obtain rfl := hR8
          obtain rfl : ad40 = ad8 := by have h9 := hA40.symm.trans hA8; injection h9
          refine c_q (v := .int .i64 (cell0 pk.Class x8)) (d := 138) rfl rfl rfl (fun w' hG => ex_load ca3 rfl (hG.cell (hc8 pk.Class.toNat _ (cell_cls hcls x8)) id)) ?_
          refine c_p (v := .pointer (some ⟨q22.b, 0, none⟩)) (d := 139) rfl rfl rfl (fun w' => ex_move s12) ?_
          refine c_p (v := .pointer (some ⟨q22.b, 0, none⟩)) (d := 140) rfl rfl rfl (fun w' => ex_nilCheck rfl) ?_
          refine c_p (v := .pointer (some ⟨q22.b, 0, none⟩)) (d := 141) rfl rfl rfl (fun w' => ex_fieldAddr fo153_0 rfl rfl) ?_
          refine c_q (v := .slice A35 ((q22.xs ++ [p]).length) c36) (d := 142) rfl rfl rfl (fun w' hG => ex_load ca26 rfl (hG.cell (cell_of (H.rd 0 rfl)) id)) ?_
          refine c_p (v := .int .i64 (((q22.xs ++ [p]).length : Nat) : Int)) (d := 143) rfl rfl rfl (fun w' => ex_len (ts := #[]) sl26 rfl) ?_
          refine c_p (v := .int .i64 (max (cell0 pk.Class x8) (((q22.xs ++ [p]).length : Nat) : Int))) (d := 144) rfl rfl rfl (fun w' => ex_max2 rfl rfl) ?_
          refine c_p (v := .pointer (some (ad40.add ((r).toNat * 2 + pk.Class.toNat)))) (d := 145) rfl rfl rfl (fun w' => ex_nilCheck rfl) ?_
          have H := H.pull 7 rfl rfl
          refine c_l rfl (o_set (vs := [.int .i64 (max (cell0 pk.Class x8) (((q22.xs ++ [p]).length : Nat) : Int))]) (x1 := (if pk.Class = 0 then (⟨max (cell0 pk.Class x8) (((q22.xs ++ [p]).length : Nat) : Int), x8.b⟩ : V2) else ⟨x8.a, max (cell0 pk.Class x8) (((q22.xs ++ [p]).length : Nat) : Int)⟩)) (i := r.toNat) (off := pk.Class.toNat) rfl ts3 hA8 rfl rfl rfl rfl hx8 (set_cls hcls x8 _) (fit_cls hcls) H fun w42 hA H => ⟨.inl (by kernel_rfl), ?_⟩)
          refine c_done ?_
          refine V_region rfl ?_
          refine Rg_op rfl (o_val (v := .int .i64 (((j : Nat) : Int) + 1)) (d := 146) rfl rfl (ex_add s54 rfl (by omega)) ?_)
          refine Rg_op rfl (o_val (v := .int .i64 (((j : Nat) : Int) + 1)) (d := 54) rfl rfl (ex_move rfl) ?_)
          refine Rg_end ?_
          have H := H.pull 5 rfl rfl
          have H := H.pull 3 rfl rfl
          have H := H.pull 3 rfl rfl
          have H := H.pull 5 rfl rfl
          have H := q_back hqi22 H
          obtain ⟨hr1, hr2, hr3, hr4⟩ := hqr22
          have hK9 : (((kv22.set iq22 ((⟨r, x20, pk.Class⟩ : Port), (⟨q22.b, A35, c36, (q22.xs ++ [p])⟩ : Qd)))).map (·.1)).Nodup := by rw [List.map_set]; rw [set_self (by simp [hqi22])]; exact hr3
          have hP9 : ∀ k ∈ ((kv22.set iq22 ((⟨r, x20, pk.Class⟩ : Port), (⟨q22.b, A35, c36, (q22.xs ++ [p])⟩ : Qd)))).map (·.1), portOk s k := fun k hk => by rw [List.map_set, set_self (by simp [hqi22])] at hk; rcases hr4 k hk with hk | rfl; exact hpk2 k hk; exact ⟨h0r, h1r, List.mem_of_getElem? hxo, hcls⟩
          have hst9 : outStep s t r p pk.Class (find tab pk.Key).1 e x20 = ⟨updP e.Q ⟨r, x20, pk.Class⟩ (e.Q ⟨r, x20, pk.Class⟩ ++ [p]), e.dr, setMost e.mo r.toNat pk.Class (((e.Q ⟨r, x20, pk.Class⟩).length : Nat) + 1)⟩ := by rw [outStep, if_neg (by assumption), if_neg (by rw [heq, ← hr2]; simpa using hway)]
          have hQ9 : (outStep s t r p pk.Class (find tab pk.Key).1 e x20).Q = qf ((kv22.set iq22 ((⟨r, x20, pk.Class⟩ : Port), (⟨q22.b, A35, c36, (q22.xs ++ [p])⟩ : Qd)))) := by rw [hst9, qf_set hr3 hqi22, hr1, ← heq, hr2, ← heq]
          rw [show (e.mo.set r.toNat (if pk.Class = 0 then (⟨max (cell0 pk.Class x8) (((q22.xs ++ [p]).length : Nat) : Int), x8.b⟩ : V2) else ⟨x8.a, max (cell0 pk.Class x8) (((q22.xs ++ [p]).length : Nat) : Int)⟩)) = (outStep s t r p pk.Class (find tab pk.Key).1 e x20).mo from by rw [hst9, most_at hx8, heq, ← hr2]; congr 1; simp only [List.length_append, List.length_cons, List.length_nil]; omega] at H
          rw [show e.dr = (outStep s t r p pk.Class (find tab pk.Key).1 e x20).dr from by rw [hst9]] at H
          exact ⟨j + 1, ⟨(kv22.set iq22 ((⟨r, x20, pk.Class⟩ : Port), (⟨q22.b, A35, c36, (q22.xs ++ [p])⟩ : Qd))), outStep s t r p pk.Class (find tab pk.Key).1 e x20, Ad2, cd2, s0, s1, s2, s3, s8, s52, s53, rfl, s1000000, (Hp.pull 5 rfl rfl (Hp.pull 4 rfl rfl (Hp.pull 3 rfl rfl (Hp.pull 3 rfl rfl (Hp.pull 5 rfl rfl (Hp.pull 2 rfl rfl H)))))), by omega, by rw [List.take_add_one, hxo, Option.toList_some, List.foldl_append, ← he]; rfl, hQ9, hK9, hP9, outStep_short hsh, by have := (outStep_dr s t r p pk.Class (find tab pk.Key).1 e x20).1; omega, by rw [(outStep_dr s t r p pk.Class (find tab pk.Key).1 e x20).2]; exact hml⟩, by omega⟩
    · have hb18 : ¬ (((j : Nat) : Int) < ((([1, 2, 4, 8, 16]).length : Nat) : Int)) := of_decide_eq_false hb18
      have hj5 : ¬ j < 5 := by have h9 := hb18; simp only [List.length_cons, List.length_nil] at h9; omega
      refine V_exit rfl ?_
      have H := H.drop
      have H := H.pull 4 rfl rfl
      have H := H.pull 4 rfl rfl
      have H := H.pull 4 rfl rfl
      have H := H.pull 4 rfl rfl
      have H := H.pull 4 rfl rfl
      have hen : enterP s tab pk.Key t r p pk.Class ⟨qf kvQ, dr, mo⟩ = e := by rw [he, List.take_of_length_le (by simp only [outs5, List.length_cons, List.length_nil]; omega)]; exact if_neg hf9
      refine end0 (v := .tuple #[]) s1000000 (res_none Try.results62) ?_
      exact ⟨kv, e, Ad2, cd2, hen, heq, hnk, hpk2, by rw [hml]; exact H⟩

end Go.Proofs.Ytlnogaoihkinbaa
namespace Go.Proofs.Ytlnogaoihkinbaa
open Go.Gk Go.RowKit
theorem ca59 : cellsAgg Try.prog 59 = some none := by kernel_rfl
theorem cl91 : callable Try.prog 91 = true := by kernel_rfl
theorem cl92 : callable Try.prog 92 = true := by kernel_rfl
theorem fo63_0 : fieldOff Try.prog 63 0 = some 0 := by kernel_rfl
theorem sl59 : sliceT Try.prog 59 = some ⟨97, 3, 24, .agg #[.int .i64 0, .int .i64 0, .int .i64 0]⟩ := by kernel_rfl
theorem ts59 : tySize Try.prog 59 = some 1 := by kernel_rfl
theorem send_c (wb w0 : World) (L : List SA) (s : Spec) (bw ms mq mc : Nat) (At : Option Addr) (ct : Nat) (ts : List (List Entry)) (Al : Option Addr) (cl : Nat) (l : List Packet) (kvQ : List (Port × Qd)) (kvC : List (Port × Int)) (Aa Ad Am : Option Addr) (ca cd cm : Nat) (arr : List Arr) (dr : List Drp) (mo : List V2) (rest t r o : Int) (H : Hp wb.heap.size wb w0 (SA.cel bw #[.int .i64 s.Wide, .int .i64 s.High, .int .i64 s.Room, .slice At ts.length ct, .slice Al l.length cl, .map (some ms), .map (some mq), .map (some mc), .slice Aa arr.length ca, .slice Ad dr.length cd, .slice Am mo.length cm, .int .i64 rest] 142 :: SA.map kPort.enc Qd.val mq kvQ :: SA.queues kvQ :: SA.map kPort.enc (fun x : Int => Value.int .i64 x) mc kvC :: SA.own kArr 97 Aa ca arr :: L)) (hs : chk s = 0) (h0r : 0 ≤ r) (h1r : r < s.Wide * s.High) (ho5 : o ∈ outs5) (hn : (kvQ.map (·.1)).Nodup) (hnC : (kvC.map (·.1)).Nodup) (hpo : ∀ k ∈ kvQ.map (·.1), portOk s k) (hcO : ∀ k ∈ kvC.map (·.1), comOk s k) (hld : leadQ s (qf kvQ)) (har : arr.length ≤ 10000000) :
    Calls Try.prog 64 #[.pointer (some ⟨bw, 0, none⟩), .int .i64 t, .int .i64 r, .int .i64 o] w0 fun e w' => ∃ v, e = .returned v ∧ (∃ kv' kvC' e' Aa' ca', sendP s t r o ⟨qf kvQ, cf kvC, arr⟩ = e' ∧ e'.Q = qf kv' ∧ e'.C = cf kvC' ∧ (kv'.map (·.1)).Nodup ∧ (kvC'.map (·.1)).Nodup ∧ (∀ k ∈ kv'.map (·.1), portOk s k) ∧ (∀ k ∈ kvC'.map (·.1), comOk s k) ∧ Hp wb.heap.size wb w' (SA.cel bw #[.int .i64 s.Wide, .int .i64 s.High, .int .i64 s.Room, .slice At ts.length ct, .slice Al l.length cl, .map (some ms), .map (some mq), .map (some mc), .slice Aa' e'.ar.length ca', .slice Ad dr.length cd, .slice Am mo.length cm, .int .i64 rest] 142 :: SA.map kPort.enc Qd.val mq kv' :: SA.queues kv' :: SA.map kPort.enc (fun x : Int => Value.int .i64 x) mc kvC' :: SA.own kArr 97 Aa' ca' e'.ar :: L)) := by
  obtain ⟨hs1, hs2, hs3, hs4, hs5, hs6⟩ := chk_ok hs
  obtain ⟨hm1, hm2⟩ := mul64 hs
  refine calls_of (n := 72) (l := [.pointer (some ⟨bw, 0, none⟩), .int .i64 t, .int .i64 r, .int .i64 o]) Try.func64 rfl rfl rfl ?_
  refine V_seq rfl ?_
  refine V_region rfl ?_
  refine Rg_op rfl (o_val (v := .pointer (some ⟨bw, 0, none⟩)) (d := 12) rfl rfl (ex_move rfl) ?_)
  refine Rg_op rfl (o_val (v := .int .i64 r) (d := 13) rfl rfl (ex_move rfl) ?_)
  refine Rg_op rfl (o_val (v := .int .i64 o) (d := 14) rfl rfl (ex_move rfl) ?_)
  refine Rg_op rfl (o_val (v := .agg #[.int .i64 r, .int .i64 o, .int .i64 1]) (d := 15) rfl rfl (ex_eq (by kernel_rfl)) ?_)
  have H := H.pull 2 rfl rfl
  have H := H.pull 2 rfl rfl
  have H := H.pull 2 rfl rfl
  refine Rg_op rfl (o_call (fv := []) (cap := []) (vs := [.pointer (some ⟨bw, 0, none⟩), .agg #[.int .i64 r, .int .i64 o, .int .i64 1]]) rfl rfl cl88 rfl (queue_c _ _ _ _ bw mq #[.int .i64 s.Wide, .int .i64 s.High, .int .i64 s.Room, .slice At ts.length ct, .slice Al l.length cl, .map (some ms), .map (some mq), .map (some mc), .slice Aa arr.length ca, .slice Ad dr.length cd, .slice Am mo.length cm, .int .i64 rest] kvQ (⟨r, o, 1⟩ : Port) H rfl hn) fun v w2 hS => ?_)
  obtain ⟨kv1, iq1, q1, rfl, hqi1, hqr1, H⟩ := hS
  refine Rg_op rfl (o_val (v := .pointer (some ⟨q1.b, 0, none⟩)) (d := 8) rfl rfl (ex_assign rfl) ?_)
  refine Rg_end ?_
  refine V_seq rfl ?_
  refine V_seq rfl ?_
  refine V_region rfl ?_
  refine Rg_op rfl (o_val (v := .pointer (some ⟨q1.b, 0, none⟩)) (d := 17) rfl rfl (ex_move rfl) ?_)
  refine Rg_op rfl (o_val (v := .pointer (some ⟨q1.b, 0, none⟩)) (d := 18) rfl rfl (ex_nilCheck rfl) ?_)
  refine Rg_op rfl (o_val (v := .pointer (some ⟨q1.b, 0, none⟩)) (d := 19) rfl rfl (ex_fieldAddr fo153_0 rfl rfl) ?_)
  refine Rg_op rfl (o_val (v := .slice q1.A q1.xs.length q1.c) (d := 20) rfl rfl (ex_load ca26 rfl (cell_of (H.rd 2 rfl))) ?_)
  refine Rg_op rfl (o_val (v := .int .i64 ((q1.xs.length : Nat) : Int)) (d := 21) rfl rfl (ex_len (ts := #[]) sl26 rfl) ?_)
  refine Rg_op rfl (o_val (v := .bool (decide (((q1.xs.length : Nat) : Int) = 0))) (d := 22) rfl rfl (ex_eql rfl rfl) ?_)
  refine Rg_end ?_
  refine V_cond (b := (decide (((q1.xs.length : Nat) : Int) = 0))) rfl rfl (fun hb3 => ?_) (fun hb3 => ?_)
  · have hb3 : ((q1.xs.length : Nat) : Int) = 0 := of_decide_eq_true hb3
    refine V_region rfl ?_
    have H := H.pull 4 rfl rfl
    have H := H.pull 4 rfl rfl
    have H := H.pull 4 rfl rfl
    have H := H.pull 4 rfl rfl
    have H := q_back hqi1 H
    obtain ⟨hr1, hr2, hr3, hr4⟩ := hqr1
    have hQ1 : qf ((kv1.set iq1 ((⟨r, o, 1⟩ : Port), (⟨q1.b, q1.A, q1.c, q1.xs⟩ : Qd)))) = qf kvQ := by rw [qf_set hr3 hqi1, hr2, hr1, updP_self]
    have hK1 : (((kv1.set iq1 ((⟨r, o, 1⟩ : Port), (⟨q1.b, q1.A, q1.c, q1.xs⟩ : Qd)))).map (·.1)).Nodup := by rw [List.map_set, set_self (by simp [hqi1])]; exact hr3
    have hP1 : ∀ k ∈ ((kv1.set iq1 ((⟨r, o, 1⟩ : Port), (⟨q1.b, q1.A, q1.c, q1.xs⟩ : Qd)))).map (·.1), portOk s k := fun k hk => by rw [List.map_set, set_self (by simp [hqi1])] at hk; rcases hr4 k hk with hk | rfl; exact hpo k hk; exact ⟨h0r, h1r, ho5, .inr rfl⟩
    refine Rg_op rfl (o_val (v := .pointer (some ⟨bw, 0, none⟩)) (d := 23) rfl rfl (ex_move rfl) ?_)
    refine Rg_op rfl (o_val (v := .int .i64 r) (d := 24) rfl rfl (ex_move rfl) ?_)
    refine Rg_op rfl (o_val (v := .int .i64 o) (d := 25) rfl rfl (ex_move rfl) ?_)
    refine Rg_op rfl (o_val (v := .agg #[.int .i64 r, .int .i64 o, .int .i64 0]) (d := 26) rfl rfl (ex_eq (by kernel_rfl)) ?_)
    have H := H.pull 1 rfl rfl
    have H := H.pull 1 rfl rfl
    have H := H.pull 2 rfl rfl
    refine Rg_op rfl (o_call (fv := []) (cap := []) (vs := [.pointer (some ⟨bw, 0, none⟩), .agg #[.int .i64 r, .int .i64 o, .int .i64 0]]) rfl rfl cl88 rfl (queue_c _ _ _ _ bw mq #[.int .i64 s.Wide, .int .i64 s.High, .int .i64 s.Room, .slice At ts.length ct, .slice Al l.length cl, .map (some ms), .map (some mq), .map (some mc), .slice Aa arr.length ca, .slice Ad dr.length cd, .slice Am mo.length cm, .int .i64 rest] (kv1.set iq1 ((⟨r, o, 1⟩ : Port), (⟨q1.b, q1.A, q1.c, q1.xs⟩ : Qd))) (⟨r, o, 0⟩ : Port) H rfl hK1) fun v w5 hS => ?_)
    obtain ⟨kv4, iq4, q4, rfl, hqi4, hqr4, H⟩ := hS
    refine Rg_op rfl (o_val (v := .pointer (some ⟨q4.b, 0, none⟩)) (d := 8) rfl rfl (ex_assign rfl) ?_)
    refine Rg_end ?_
    refine V_seq rfl ?_
    refine V_seq rfl ?_
    refine V_region rfl ?_
    refine Rg_op rfl (o_val (v := .pointer (some ⟨q4.b, 0, none⟩)) (d := 28) rfl rfl (ex_move rfl) ?_)
    refine Rg_op rfl (o_val (v := .pointer (some ⟨q4.b, 0, none⟩)) (d := 29) rfl rfl (ex_nilCheck rfl) ?_)
    refine Rg_op rfl (o_val (v := .pointer (some ⟨q4.b, 0, none⟩)) (d := 30) rfl rfl (ex_fieldAddr fo153_0 rfl rfl) ?_)
    refine Rg_op rfl (o_val (v := .slice q4.A q4.xs.length q4.c) (d := 31) rfl rfl (ex_load ca26 rfl (cell_of (H.rd 2 rfl))) ?_)
    refine Rg_op rfl (o_val (v := .int .i64 ((q4.xs.length : Nat) : Int)) (d := 32) rfl rfl (ex_len (ts := #[]) sl26 rfl) ?_)
    refine Rg_op rfl (o_val (v := .bool (decide (((q4.xs.length : Nat) : Int) = 0))) (d := 33) rfl rfl (ex_eql rfl rfl) ?_)
    refine Rg_end ?_
    refine V_cond (b := (decide (((q4.xs.length : Nat) : Int) = 0))) rfl rfl (fun hb6 => ?_) (fun hb6 => ?_)
    · have hb6 : ((q4.xs.length : Nat) : Int) = 0 := of_decide_eq_true hb6
      have H := H.pull 4 rfl rfl
      have H := H.pull 4 rfl rfl
      have H := H.pull 4 rfl rfl
      have H := H.pull 4 rfl rfl
      have H := q_back hqi4 H
      have H := H.pull 4 rfl rfl
      have H := H.pull 4 rfl rfl
      have H := H.pull 3 rfl rfl
      have H := H.pull 3 rfl rfl
      have H := H.pull 4 rfl rfl
      obtain ⟨hs1_, hs2_, hs3_, hs4_⟩ := hqr4
      have hQ9 : qf ((kv4.set iq4 ((⟨r, o, 0⟩ : Port), (⟨q4.b, q4.A, q4.c, q4.xs⟩ : Qd)))) = updP (qf kvQ) (⟨r, o, 0⟩ : Port) q4.xs := by rw [qf_set hs3_ hqi4, hs1_, hQ1]
      have hK9 : (((kv4.set iq4 ((⟨r, o, 0⟩ : Port), (⟨q4.b, q4.A, q4.c, q4.xs⟩ : Qd)))).map (·.1)).Nodup := by rw [List.map_set, set_self (by simp [hqi4])]; exact hs3_
      have hP9 : ∀ k ∈ ((kv4.set iq4 ((⟨r, o, 0⟩ : Port), (⟨q4.b, q4.A, q4.c, q4.xs⟩ : Qd)))).map (·.1), portOk s k := fun k hk => by rw [List.map_set, set_self (by simp [hqi4])] at hk; rcases hs4_ k hk with hk | rfl; exact hP1 k hk; exact ⟨h0r, h1r, ho5, by simp⟩
      have hqx9 : q4.xs = qf kvQ (⟨r, o, 0⟩ : Port) := by rw [hs2_, hQ1]
      have hs9 : sendP s t r o ⟨qf kvQ, cf kvC, arr⟩ = ⟨qf kvQ, cf kvC, arr⟩ := send_none (by show (qf kvQ ⟨r, o, 1⟩).length = 0; rw [← hr2]; omega) (by show (qf kvQ ⟨r, o, 0⟩).length = 0; rw [← hqx9]; omega)
      have hQ8 : qf kvQ = qf ((kv4.set iq4 ((⟨r, o, 0⟩ : Port), (⟨q4.b, q4.A, q4.c, q4.xs⟩ : Qd)))) := by rw [hQ9, hqx9, updP_self]
      refine V_ret rfl (end0 (v := .tuple #[]) rfl (res_none Try.results64) ?_)
      exact ⟨(kv4.set iq4 ((⟨r, o, 0⟩ : Port), (⟨q4.b, q4.A, q4.c, q4.xs⟩ : Qd))), kvC, _, Aa, ca, hs9, hQ8, rfl, hK9, hnC, hP9, hcO, H⟩
    · have hb6 : ¬ (((q4.xs.length : Nat) : Int) = 0) := of_decide_eq_false hb6
      have hne9 : q4.xs.length ≠ 0 := by omega
      refine V_skip rfl ?_
      refine V_seq rfl ?_
      refine V_region rfl ?_
      refine Rg_op rfl (o_val (v := .pointer (some ⟨q4.b, 0, none⟩)) (d := 34) rfl rfl (ex_move rfl) ?_)
      have H := H.pull 3 rfl rfl
      have H := H.pull 3 rfl rfl
      obtain ⟨x9, rs9, hx9⟩ : ∃ x rs, q4.xs = x :: rs := by cases h9 : q4.xs with | nil => rw [h9] at hne9; exact absurd rfl hne9 | cons a l => exact ⟨a, l, rfl⟩
      rw [hx9] at H
      refine Rg_op rfl (o_call (fv := []) (cap := []) (vs := [.pointer (some ⟨q4.b, 0, none⟩)]) rfl rfl cl91 rfl (take_c _ _ _ _ _ _ _ x9 rs9 H) fun v w7 hS => ?_)
      obtain ⟨rfl, H⟩ := hS
      refine Rg_op rfl (o_val (v := .int .i64 x9) (d := 9) rfl rfl (ex_assign rfl) ?_)
      refine Rg_end ?_
      refine V_seq rfl ?_
      refine V_seq rfl ?_
      refine V_region rfl ?_
      refine Rg_op rfl (o_val (v := .int .i64 o) (d := 36) rfl rfl (ex_move rfl) ?_)
      refine Rg_op rfl (o_val (v := .bool (decide (o = 16))) (d := 37) rfl rfl (ex_eql rfl rfl) ?_)
      refine Rg_end ?_
      refine V_cond (b := (decide (o = 16))) rfl rfl (fun hb8 => ?_) (fun hb8 => ?_)
      · have hb8 : o = 16 := of_decide_eq_true hb8
        have h16 : o = 16 := hb8
        refine V_seq rfl ?_
        refine V_region rfl ?_
        refine Rg_op rfl (o_val (v := .pointer (some ⟨bw, 0, none⟩)) (d := 38) rfl rfl (ex_move rfl) ?_)
        refine Rg_op rfl (o_val (v := .pointer (some ⟨bw, 0, none⟩)) (d := 39) rfl rfl (ex_move rfl) ?_)
        refine Rg_op rfl (o_val (v := .pointer (some ⟨bw, 0, none⟩)) (d := 40) rfl rfl (ex_nilCheck rfl) ?_)
        refine Rg_op rfl (o_val (v := .pointer (some ⟨bw, 8, none⟩)) (d := 41) rfl rfl (ex_fieldAddr fo142_6 rfl rfl) ?_)
        refine Rg_op rfl (o_val (v := .pointer (some ⟨bw, 8, none⟩)) (d := 42) rfl rfl (ex_fieldAddr fo63_0 rfl rfl) ?_)
        refine Rg_op rfl (o_val (v := .slice Aa arr.length ca) (d := 43) rfl rfl (ex_load ca59 rfl (cell_of (H.rd 2 rfl))) ?_)
        refine Rg_op rfl (o_val (v := .int .i64 x9) (d := 44) rfl rfl (ex_move rfl) ?_)
        refine Rg_op rfl (o_val (v := .int .i64 r) (d := 45) rfl rfl (ex_move rfl) ?_)
        refine Rg_op rfl (o_val (v := .int .i64 t) (d := 46) rfl rfl (ex_move rfl) ?_)
        refine Rg_op rfl (o_val (v := .agg #[.int .i64 x9, .int .i64 r, .int .i64 t]) (d := 47) rfl rfl (ex_eq (by kernel_rfl)) ?_)
        refine Rg_op rfl (o_lit (cs := [.int .i64 x9, .int .i64 r, .int .i64 t]) (e := 97) rfl (fun W => by kernel_rfl) H fun b9 w10 hA H => ?_)
        have H := H.pull 7 rfl rfl
        refine Rg_op rfl (o_append (ys := [(⟨x9, r, t⟩ : Arr)]) (ts := #[]) rfl sl59 rfl rfl rfl H (row_lit1 (z := (⟨x9, r, t⟩ : Arr)) (H.rd 1 rfl) rfl) (by first | omega | (simp only [List.length_append, List.length_cons, List.length_nil, List.length_map, List.length_take]; omega)) (by first | omega | (simp only [List.length_append, List.length_cons, List.length_nil, List.length_map, List.length_take]; omega)) fun A11 c12 w13 hA H => ?_)
        have H := (H.pull 1 rfl rfl).drop
        refine Rg_op rfl (o_val (v := .pointer (some ⟨bw, 0, none⟩)) (d := 50) rfl rfl (ex_nilCheck rfl) ?_)
        refine Rg_op rfl (o_val (v := .pointer (some ⟨bw, 8, none⟩)) (d := 51) rfl rfl (ex_fieldAddr fo142_6 rfl rfl) ?_)
        refine Rg_op rfl (o_val (v := .pointer (some ⟨bw, 8, none⟩)) (d := 52) rfl rfl (ex_fieldAddr fo63_0 rfl rfl) ?_)
        refine Rg_op rfl (o_store (vs := [.slice A11 ((arr ++ [(⟨x9, r, t⟩ : Arr)]).length) c12]) rfl ts59 rfl rfl rfl rfl 3 rfl rfl rfl rfl H fun w15 hA H => ?_)
        refine Rg_end ?_
        have H := H.pull 5 rfl rfl
        have H := H.pull 4 rfl rfl
        have H := H.pull 4 rfl rfl
        have H := H.pull 5 rfl rfl
        have H := q_back hqi4 H
        have H := H.pull 3 rfl rfl
        have H := H.pull 4 rfl rfl
        have H := H.pull 3 rfl rfl
        have H := H.pull 3 rfl rfl
        have H := H.pull 4 rfl rfl
        obtain ⟨hs1_, hs2_, hs3_, hs4_⟩ := hqr4
        have hQ9 : qf ((kv4.set iq4 ((⟨r, o, 0⟩ : Port), (⟨q4.b, (cutA q4.A q4.c 1 1), (q4.c - 1), rs9⟩ : Qd)))) = updP (qf kvQ) (⟨r, o, 0⟩ : Port) rs9 := by rw [qf_set hs3_ hqi4, hs1_, hQ1]
        have hK9 : (((kv4.set iq4 ((⟨r, o, 0⟩ : Port), (⟨q4.b, (cutA q4.A q4.c 1 1), (q4.c - 1), rs9⟩ : Qd)))).map (·.1)).Nodup := by rw [List.map_set, set_self (by simp [hqi4])]; exact hs3_
        have hP9 : ∀ k ∈ ((kv4.set iq4 ((⟨r, o, 0⟩ : Port), (⟨q4.b, (cutA q4.A q4.c 1 1), (q4.c - 1), rs9⟩ : Qd)))).map (·.1), portOk s k := fun k hk => by rw [List.map_set, set_self (by simp [hqi4])] at hk; rcases hs4_ k hk with hk | rfl; exact hP1 k hk; exact ⟨h0r, h1r, ho5, by simp⟩
        have hqx9 : q4.xs = qf kvQ (⟨r, o, 0⟩ : Port) := by rw [hs2_, hQ1]
        have hk9 : sendK (qf kvQ) r o = (⟨r, o, 0⟩ : Port) := if_pos (show (qf kvQ ⟨r, o, 1⟩).length = 0 by rw [← hr2]; omega)
        have hs9 := send_at (s := s) (t := t) (r := r) (o := o) (e := ⟨qf kvQ, cf kvC, arr⟩) hk9 (by show qf kvQ (⟨r, o, 0⟩ : Port) = _; rw [← hqx9, hx9])
        rw [if_pos h16] at hs9
        refine V_ret rfl (end0 (v := .tuple #[]) rfl (res_none Try.results64) ?_)
        exact ⟨(kv4.set iq4 ((⟨r, o, 0⟩ : Port), (⟨q4.b, (cutA q4.A q4.c 1 1), (q4.c - 1), rs9⟩ : Qd))), kvC, _, A11, c12, hs9, hQ9.symm, rfl, hK9, hnC, hP9, hcO, H⟩
      · have hb8 : ¬ (o = 16) := of_decide_eq_false hb8
        have h16 : o ≠ 16 := hb8
        refine V_skip rfl ?_
        refine V_seq rfl ?_
        refine V_region rfl ?_
        refine Rg_op rfl (o_val (v := .pointer (some ⟨bw, 0, none⟩)) (d := 54) rfl rfl (ex_move rfl) ?_)
        refine Rg_op rfl (o_val (v := .pointer (some ⟨bw, 0, none⟩)) (d := 55) rfl rfl (ex_nilCheck rfl) ?_)
        refine Rg_op rfl (o_val (v := .pointer (some ⟨bw, 0, none⟩)) (d := 56) rfl rfl (ex_fieldAddr fo142_0 rfl rfl) ?_)
        refine Rg_op rfl (o_val (v := .agg #[.int .i64 s.Wide, .int .i64 s.High, .int .i64 s.Room]) (d := 57) rfl rfl (ex_loadN (vs := [.int .i64 s.Wide, .int .i64 s.High, .int .i64 s.Room]) ca33 rfl rfl (blk_cells (H.rd 2 rfl) rfl)) ?_)
        refine Rg_op rfl (o_val (v := .int .i64 r) (d := 58) rfl rfl (ex_move rfl) ?_)
        refine Rg_op rfl (o_val (v := .int .i64 o) (d := 59) rfl rfl (ex_move rfl) ?_)
        refine Rg_op rfl (o_call (fv := []) (cap := []) (vs := [.agg #[.int .i64 s.Wide, .int .i64 s.High, .int .i64 s.Room], .int .i64 r, .int .i64 o]) rfl rfl cl89 rfl (next_c s r o _ (by assumption) (by omega) (by omega)) fun v w16 hS => ?_)
        obtain ⟨rfl, hB⟩ := hS
        have H := H.keep hB
        refine Rg_op rfl (o_val (v := .tuple #[.int .i64 (nextR s r o), .bool (nextB s r o)]) (d := 53) rfl rfl (ex_move rfl) ?_)
        refine Rg_op rfl (o_val (v := .int .i64 (nextR s r o)) (d := 61) rfl rfl (ex_extract rfl rfl) ?_)
        refine Rg_op rfl (o_val (v := .bool (nextB s r o)) (d := 62) rfl rfl (ex_extract rfl rfl) ?_)
        refine Rg_op rfl (o_val (v := .int .i64 (nextR s r o)) (d := 10) rfl rfl (ex_assign rfl) ?_)
        refine Rg_op rfl (o_val (v := .bool (nextB s r o)) (d := 11) rfl rfl (ex_assign rfl) ?_)
        refine Rg_end ?_
        refine V_draw [0, 1, 2, 4, 5, 7, 8] (.p 0 (.p 1 (.p 2 (.q 3 (.p 4 (.p 5 (.p 8 (.l 6 (.p 7 (.l 9 .done)))))))))) (fun _ => False) rfl mixed (by kernel_rfl) fun w17 hD => ?_
        have H := H.drew hD
        refine c_p (v := .pointer (some ⟨bw, 0, none⟩)) (d := 63) rfl rfl rfl (fun w' => ex_move rfl) ?_
        refine c_p (v := .pointer (some ⟨bw, 0, none⟩)) (d := 64) rfl rfl rfl (fun w' => ex_nilCheck rfl) ?_
        refine c_p (v := .pointer (some ⟨bw, 7, none⟩)) (d := 65) rfl rfl rfl (fun w' => ex_fieldAddr fo142_5 rfl rfl) ?_
        refine c_q (v := .map (some mc)) (d := 66) rfl rfl rfl (fun w' hG => ex_load ca140 rfl (hG.cell (cell_of (H.rd 2 rfl)) id)) ?_
        refine c_p (v := .int .i64 (nextR s r o)) (d := 67) rfl rfl rfl (fun w' => ex_move rfl) ?_
        refine c_p (v := .int .i64 o) (d := 68) rfl rfl rfl (fun w' => ex_move rfl) ?_
        refine c_p (v := .int .i64 x9) (d := 71) rfl rfl rfl (fun w' => ex_move rfl) ?_
        refine c_l rfl (o_call (fv := []) (cap := []) (vs := [.int .i64 o]) rfl rfl cl92 rfl (back_c o _) fun v w18 hS => ?_)
        obtain ⟨rfl, hB⟩ := hS
        refine ⟨.inr (Below.agr hB), ?_⟩
        have H := H.keep hB
        refine c_p (v := .agg #[.int .i64 (nextR s r o), .int .i64 (back o), .int .i64 0]) (d := 70) rfl rfl rfl (fun w' => ex_eq (by kernel_rfl)) ?_
        have H := H.pull 5 rfl rfl
        refine c_l rfl (o_mapUpdate (k := (⟨nextR s r o, back o, 0⟩ : Port)) (v := x9) rfl mt140 kPort rfl rfl rfl H fun w19 hA H => ⟨.inl (by kernel_rfl), ?_⟩)
        refine c_done ?_
        have H := H.pull 5 rfl rfl
        have H := H.pull 3 rfl rfl
        have H := H.pull 3 rfl rfl
        have H := H.pull 5 rfl rfl
        have H := q_back hqi4 H
        have H := H.pull 4 rfl rfl
        have H := H.pull 3 rfl rfl
        have H := H.pull 3 rfl rfl
        have H := H.pull 3 rfl rfl
        have H := H.pull 4 rfl rfl
        obtain ⟨hs1_, hs2_, hs3_, hs4_⟩ := hqr4
        have hQ9 : qf ((kv4.set iq4 ((⟨r, o, 0⟩ : Port), (⟨q4.b, (cutA q4.A q4.c 1 1), (q4.c - 1), rs9⟩ : Qd)))) = updP (qf kvQ) (⟨r, o, 0⟩ : Port) rs9 := by rw [qf_set hs3_ hqi4, hs1_, hQ1]
        have hK9 : (((kv4.set iq4 ((⟨r, o, 0⟩ : Port), (⟨q4.b, (cutA q4.A q4.c 1 1), (q4.c - 1), rs9⟩ : Qd)))).map (·.1)).Nodup := by rw [List.map_set, set_self (by simp [hqi4])]; exact hs3_
        have hP9 : ∀ k ∈ ((kv4.set iq4 ((⟨r, o, 0⟩ : Port), (⟨q4.b, (cutA q4.A q4.c 1 1), (q4.c - 1), rs9⟩ : Qd)))).map (·.1), portOk s k := fun k hk => by rw [List.map_set, set_self (by simp [hqi4])] at hk; rcases hs4_ k hk with hk | rfl; exact hP1 k hk; exact ⟨h0r, h1r, ho5, by simp⟩
        have hqx9 : q4.xs = qf kvQ (⟨r, o, 0⟩ : Port) := by rw [hs2_, hQ1]
        have hk9 : sendK (qf kvQ) r o = (⟨r, o, 0⟩ : Port) := if_pos (show (qf kvQ ⟨r, o, 1⟩).length = 0 by rw [← hr2]; omega)
        have hs9 := send_at (s := s) (t := t) (r := r) (o := o) (e := ⟨qf kvQ, cf kvC, arr⟩) hk9 (by show qf kvQ (⟨r, o, 0⟩ : Port) = _; rw [← hqx9, hx9])
        rw [if_neg h16] at hs9
        have hlead := next_in (hld (⟨r, o, 0⟩ : Port) (by rw [← hqx9, hx9]; simp))
        refine end0 (v := .tuple #[]) rfl (res_none Try.results64) ?_
        exact ⟨(kv4.set iq4 ((⟨r, o, 0⟩ : Port), (⟨q4.b, (cutA q4.A q4.c 1 1), (q4.c - 1), rs9⟩ : Qd))), mput ⟨nextR s r o, back o, 0⟩ x9 kvC, _, Aa, ca, hs9, hQ9.symm, (cf_put _ _).symm, hK9, (mput_keys hnC).1, hP9, fun k hk => ((mput_keys hnC).2 k).1 hk |>.elim (hcO k) (fun e => e ▸ ⟨hlead.1, hlead.2, back_in ho5 h16, rfl⟩), H⟩
  · have hb3 : ¬ (((q1.xs.length : Nat) : Int) = 0) := of_decide_eq_false hb3
    refine V_skip rfl ?_
    refine V_seq rfl ?_
    refine V_seq rfl ?_
    refine V_region rfl ?_
    refine Rg_op rfl (o_val (v := .pointer (some ⟨q1.b, 0, none⟩)) (d := 28) rfl rfl (ex_move rfl) ?_)
    refine Rg_op rfl (o_val (v := .pointer (some ⟨q1.b, 0, none⟩)) (d := 29) rfl rfl (ex_nilCheck rfl) ?_)
    refine Rg_op rfl (o_val (v := .pointer (some ⟨q1.b, 0, none⟩)) (d := 30) rfl rfl (ex_fieldAddr fo153_0 rfl rfl) ?_)
    refine Rg_op rfl (o_val (v := .slice q1.A q1.xs.length q1.c) (d := 31) rfl rfl (ex_load ca26 rfl (cell_of (H.rd 2 rfl))) ?_)
    refine Rg_op rfl (o_val (v := .int .i64 ((q1.xs.length : Nat) : Int)) (d := 32) rfl rfl (ex_len (ts := #[]) sl26 rfl) ?_)
    refine Rg_op rfl (o_val (v := .bool (decide (((q1.xs.length : Nat) : Int) = 0))) (d := 33) rfl rfl (ex_eql rfl rfl) ?_)
    refine Rg_end ?_
    refine V_cond (b := (decide (((q1.xs.length : Nat) : Int) = 0))) rfl rfl (fun hb20 => ?_) (fun hb20 => ?_)
    · have hb20 : ((q1.xs.length : Nat) : Int) = 0 := of_decide_eq_true hb20
      exact (show False by omega).elim
    · have hb20 : ¬ (((q1.xs.length : Nat) : Int) = 0) := of_decide_eq_false hb20
      have hne9 : q1.xs.length ≠ 0 := by omega
      refine V_skip rfl ?_
      refine V_seq rfl ?_
      refine V_region rfl ?_
      refine Rg_op rfl (o_val (v := .pointer (some ⟨q1.b, 0, none⟩)) (d := 34) rfl rfl (ex_move rfl) ?_)
      have H := H.pull 3 rfl rfl
      have H := H.pull 3 rfl rfl
      obtain ⟨x9, rs9, hx9⟩ : ∃ x rs, q1.xs = x :: rs := by cases h9 : q1.xs with | nil => rw [h9] at hne9; exact absurd rfl hne9 | cons a l => exact ⟨a, l, rfl⟩
      rw [hx9] at H
      refine Rg_op rfl (o_call (fv := []) (cap := []) (vs := [.pointer (some ⟨q1.b, 0, none⟩)]) rfl rfl cl91 rfl (take_c _ _ _ _ _ _ _ x9 rs9 H) fun v w21 hS => ?_)
      obtain ⟨rfl, H⟩ := hS
      refine Rg_op rfl (o_val (v := .int .i64 x9) (d := 9) rfl rfl (ex_assign rfl) ?_)
      refine Rg_end ?_
      refine V_seq rfl ?_
      refine V_seq rfl ?_
      refine V_region rfl ?_
      refine Rg_op rfl (o_val (v := .int .i64 o) (d := 36) rfl rfl (ex_move rfl) ?_)
      refine Rg_op rfl (o_val (v := .bool (decide (o = 16))) (d := 37) rfl rfl (ex_eql rfl rfl) ?_)
      refine Rg_end ?_
      refine V_cond (b := (decide (o = 16))) rfl rfl (fun hb22 => ?_) (fun hb22 => ?_)
      · have hb22 : o = 16 := of_decide_eq_true hb22
        have h16 : o = 16 := hb22
        refine V_seq rfl ?_
        refine V_region rfl ?_
        refine Rg_op rfl (o_val (v := .pointer (some ⟨bw, 0, none⟩)) (d := 38) rfl rfl (ex_move rfl) ?_)
        refine Rg_op rfl (o_val (v := .pointer (some ⟨bw, 0, none⟩)) (d := 39) rfl rfl (ex_move rfl) ?_)
        refine Rg_op rfl (o_val (v := .pointer (some ⟨bw, 0, none⟩)) (d := 40) rfl rfl (ex_nilCheck rfl) ?_)
        refine Rg_op rfl (o_val (v := .pointer (some ⟨bw, 8, none⟩)) (d := 41) rfl rfl (ex_fieldAddr fo142_6 rfl rfl) ?_)
        refine Rg_op rfl (o_val (v := .pointer (some ⟨bw, 8, none⟩)) (d := 42) rfl rfl (ex_fieldAddr fo63_0 rfl rfl) ?_)
        refine Rg_op rfl (o_val (v := .slice Aa arr.length ca) (d := 43) rfl rfl (ex_load ca59 rfl (cell_of (H.rd 2 rfl))) ?_)
        refine Rg_op rfl (o_val (v := .int .i64 x9) (d := 44) rfl rfl (ex_move rfl) ?_)
        refine Rg_op rfl (o_val (v := .int .i64 r) (d := 45) rfl rfl (ex_move rfl) ?_)
        refine Rg_op rfl (o_val (v := .int .i64 t) (d := 46) rfl rfl (ex_move rfl) ?_)
        refine Rg_op rfl (o_val (v := .agg #[.int .i64 x9, .int .i64 r, .int .i64 t]) (d := 47) rfl rfl (ex_eq (by kernel_rfl)) ?_)
        refine Rg_op rfl (o_lit (cs := [.int .i64 x9, .int .i64 r, .int .i64 t]) (e := 97) rfl (fun W => by kernel_rfl) H fun b23 w24 hA H => ?_)
        have H := H.pull 7 rfl rfl
        refine Rg_op rfl (o_append (ys := [(⟨x9, r, t⟩ : Arr)]) (ts := #[]) rfl sl59 rfl rfl rfl H (row_lit1 (z := (⟨x9, r, t⟩ : Arr)) (H.rd 1 rfl) rfl) (by first | omega | (simp only [List.length_append, List.length_cons, List.length_nil, List.length_map, List.length_take]; omega)) (by first | omega | (simp only [List.length_append, List.length_cons, List.length_nil, List.length_map, List.length_take]; omega)) fun A25 c26 w27 hA H => ?_)
        have H := (H.pull 1 rfl rfl).drop
        refine Rg_op rfl (o_val (v := .pointer (some ⟨bw, 0, none⟩)) (d := 50) rfl rfl (ex_nilCheck rfl) ?_)
        refine Rg_op rfl (o_val (v := .pointer (some ⟨bw, 8, none⟩)) (d := 51) rfl rfl (ex_fieldAddr fo142_6 rfl rfl) ?_)
        refine Rg_op rfl (o_val (v := .pointer (some ⟨bw, 8, none⟩)) (d := 52) rfl rfl (ex_fieldAddr fo63_0 rfl rfl) ?_)
        refine Rg_op rfl (o_store (vs := [.slice A25 ((arr ++ [(⟨x9, r, t⟩ : Arr)]).length) c26]) rfl ts59 rfl rfl rfl rfl 3 rfl rfl rfl rfl H fun w29 hA H => ?_)
        refine Rg_end ?_
        have H := H.pull 5 rfl rfl
        have H := H.pull 4 rfl rfl
        have H := H.pull 4 rfl rfl
        have H := H.pull 5 rfl rfl
        have H := q_back hqi1 H
        have H := H.pull 3 rfl rfl
        have H := H.pull 4 rfl rfl
        have H := H.pull 3 rfl rfl
        have H := H.pull 3 rfl rfl
        have H := H.pull 4 rfl rfl
        obtain ⟨hs1_, hs2_, hs3_, hs4_⟩ := hqr1
        have hQ9 : qf ((kv1.set iq1 ((⟨r, o, 1⟩ : Port), (⟨q1.b, (cutA q1.A q1.c 1 1), (q1.c - 1), rs9⟩ : Qd)))) = updP (qf kvQ) (⟨r, o, 1⟩ : Port) rs9 := by rw [qf_set hs3_ hqi1, hs1_]
        have hK9 : (((kv1.set iq1 ((⟨r, o, 1⟩ : Port), (⟨q1.b, (cutA q1.A q1.c 1 1), (q1.c - 1), rs9⟩ : Qd)))).map (·.1)).Nodup := by rw [List.map_set, set_self (by simp [hqi1])]; exact hs3_
        have hP9 : ∀ k ∈ ((kv1.set iq1 ((⟨r, o, 1⟩ : Port), (⟨q1.b, (cutA q1.A q1.c 1 1), (q1.c - 1), rs9⟩ : Qd)))).map (·.1), portOk s k := fun k hk => by rw [List.map_set, set_self (by simp [hqi1])] at hk; rcases hs4_ k hk with hk | rfl; exact hpo k hk; exact ⟨h0r, h1r, ho5, by simp⟩
        have hqx9 : q1.xs = qf kvQ (⟨r, o, 1⟩ : Port) := by rw [hs2_]
        have hk9 : sendK (qf kvQ) r o = (⟨r, o, 1⟩ : Port) := if_neg (show ¬ (qf kvQ ⟨r, o, 1⟩).length = 0 by rw [← hqx9]; omega)
        have hs9 := send_at (s := s) (t := t) (r := r) (o := o) (e := ⟨qf kvQ, cf kvC, arr⟩) hk9 (by show qf kvQ (⟨r, o, 1⟩ : Port) = _; rw [← hqx9, hx9])
        rw [if_pos h16] at hs9
        refine V_ret rfl (end0 (v := .tuple #[]) rfl (res_none Try.results64) ?_)
        exact ⟨(kv1.set iq1 ((⟨r, o, 1⟩ : Port), (⟨q1.b, (cutA q1.A q1.c 1 1), (q1.c - 1), rs9⟩ : Qd))), kvC, _, A25, c26, hs9, hQ9.symm, rfl, hK9, hnC, hP9, hcO, H⟩
      · have hb22 : ¬ (o = 16) := of_decide_eq_false hb22
        have h16 : o ≠ 16 := hb22
        refine V_skip rfl ?_
        refine V_seq rfl ?_
        refine V_region rfl ?_
        refine Rg_op rfl (o_val (v := .pointer (some ⟨bw, 0, none⟩)) (d := 54) rfl rfl (ex_move rfl) ?_)
        refine Rg_op rfl (o_val (v := .pointer (some ⟨bw, 0, none⟩)) (d := 55) rfl rfl (ex_nilCheck rfl) ?_)
        refine Rg_op rfl (o_val (v := .pointer (some ⟨bw, 0, none⟩)) (d := 56) rfl rfl (ex_fieldAddr fo142_0 rfl rfl) ?_)
        refine Rg_op rfl (o_val (v := .agg #[.int .i64 s.Wide, .int .i64 s.High, .int .i64 s.Room]) (d := 57) rfl rfl (ex_loadN (vs := [.int .i64 s.Wide, .int .i64 s.High, .int .i64 s.Room]) ca33 rfl rfl (blk_cells (H.rd 2 rfl) rfl)) ?_)
        refine Rg_op rfl (o_val (v := .int .i64 r) (d := 58) rfl rfl (ex_move rfl) ?_)
        refine Rg_op rfl (o_val (v := .int .i64 o) (d := 59) rfl rfl (ex_move rfl) ?_)
        refine Rg_op rfl (o_call (fv := []) (cap := []) (vs := [.agg #[.int .i64 s.Wide, .int .i64 s.High, .int .i64 s.Room], .int .i64 r, .int .i64 o]) rfl rfl cl89 rfl (next_c s r o _ (by assumption) (by omega) (by omega)) fun v w30 hS => ?_)
        obtain ⟨rfl, hB⟩ := hS
        have H := H.keep hB
        refine Rg_op rfl (o_val (v := .tuple #[.int .i64 (nextR s r o), .bool (nextB s r o)]) (d := 53) rfl rfl (ex_move rfl) ?_)
        refine Rg_op rfl (o_val (v := .int .i64 (nextR s r o)) (d := 61) rfl rfl (ex_extract rfl rfl) ?_)
        refine Rg_op rfl (o_val (v := .bool (nextB s r o)) (d := 62) rfl rfl (ex_extract rfl rfl) ?_)
        refine Rg_op rfl (o_val (v := .int .i64 (nextR s r o)) (d := 10) rfl rfl (ex_assign rfl) ?_)
        refine Rg_op rfl (o_val (v := .bool (nextB s r o)) (d := 11) rfl rfl (ex_assign rfl) ?_)
        refine Rg_end ?_
        refine V_draw [0, 1, 2, 4, 5, 7, 8] (.p 0 (.p 1 (.p 2 (.q 3 (.p 4 (.p 5 (.p 8 (.l 6 (.p 7 (.l 9 .done)))))))))) (fun _ => False) rfl mixed (by kernel_rfl) fun w31 hD => ?_
        have H := H.drew hD
        refine c_p (v := .pointer (some ⟨bw, 0, none⟩)) (d := 63) rfl rfl rfl (fun w' => ex_move rfl) ?_
        refine c_p (v := .pointer (some ⟨bw, 0, none⟩)) (d := 64) rfl rfl rfl (fun w' => ex_nilCheck rfl) ?_
        refine c_p (v := .pointer (some ⟨bw, 7, none⟩)) (d := 65) rfl rfl rfl (fun w' => ex_fieldAddr fo142_5 rfl rfl) ?_
        refine c_q (v := .map (some mc)) (d := 66) rfl rfl rfl (fun w' hG => ex_load ca140 rfl (hG.cell (cell_of (H.rd 2 rfl)) id)) ?_
        refine c_p (v := .int .i64 (nextR s r o)) (d := 67) rfl rfl rfl (fun w' => ex_move rfl) ?_
        refine c_p (v := .int .i64 o) (d := 68) rfl rfl rfl (fun w' => ex_move rfl) ?_
        refine c_p (v := .int .i64 x9) (d := 71) rfl rfl rfl (fun w' => ex_move rfl) ?_
        refine c_l rfl (o_call (fv := []) (cap := []) (vs := [.int .i64 o]) rfl rfl cl92 rfl (back_c o _) fun v w32 hS => ?_)
        obtain ⟨rfl, hB⟩ := hS
        refine ⟨.inr (Below.agr hB), ?_⟩
        have H := H.keep hB
        refine c_p (v := .agg #[.int .i64 (nextR s r o), .int .i64 (back o), .int .i64 0]) (d := 70) rfl rfl rfl (fun w' => ex_eq (by kernel_rfl)) ?_
        have H := H.pull 5 rfl rfl
        refine c_l rfl (o_mapUpdate (k := (⟨nextR s r o, back o, 0⟩ : Port)) (v := x9) rfl mt140 kPort rfl rfl rfl H fun w33 hA H => ⟨.inl (by kernel_rfl), ?_⟩)
        refine c_done ?_
        have H := H.pull 5 rfl rfl
        have H := H.pull 3 rfl rfl
        have H := H.pull 3 rfl rfl
        have H := H.pull 5 rfl rfl
        have H := q_back hqi1 H
        have H := H.pull 4 rfl rfl
        have H := H.pull 3 rfl rfl
        have H := H.pull 3 rfl rfl
        have H := H.pull 3 rfl rfl
        have H := H.pull 4 rfl rfl
        obtain ⟨hs1_, hs2_, hs3_, hs4_⟩ := hqr1
        have hQ9 : qf ((kv1.set iq1 ((⟨r, o, 1⟩ : Port), (⟨q1.b, (cutA q1.A q1.c 1 1), (q1.c - 1), rs9⟩ : Qd)))) = updP (qf kvQ) (⟨r, o, 1⟩ : Port) rs9 := by rw [qf_set hs3_ hqi1, hs1_]
        have hK9 : (((kv1.set iq1 ((⟨r, o, 1⟩ : Port), (⟨q1.b, (cutA q1.A q1.c 1 1), (q1.c - 1), rs9⟩ : Qd)))).map (·.1)).Nodup := by rw [List.map_set, set_self (by simp [hqi1])]; exact hs3_
        have hP9 : ∀ k ∈ ((kv1.set iq1 ((⟨r, o, 1⟩ : Port), (⟨q1.b, (cutA q1.A q1.c 1 1), (q1.c - 1), rs9⟩ : Qd)))).map (·.1), portOk s k := fun k hk => by rw [List.map_set, set_self (by simp [hqi1])] at hk; rcases hs4_ k hk with hk | rfl; exact hpo k hk; exact ⟨h0r, h1r, ho5, by simp⟩
        have hqx9 : q1.xs = qf kvQ (⟨r, o, 1⟩ : Port) := by rw [hs2_]
        have hk9 : sendK (qf kvQ) r o = (⟨r, o, 1⟩ : Port) := if_neg (show ¬ (qf kvQ ⟨r, o, 1⟩).length = 0 by rw [← hqx9]; omega)
        have hs9 := send_at (s := s) (t := t) (r := r) (o := o) (e := ⟨qf kvQ, cf kvC, arr⟩) hk9 (by show qf kvQ (⟨r, o, 1⟩ : Port) = _; rw [← hqx9, hx9])
        rw [if_neg h16] at hs9
        have hlead := next_in (hld (⟨r, o, 1⟩ : Port) (by rw [← hqx9, hx9]; simp))
        refine end0 (v := .tuple #[]) rfl (res_none Try.results64) ?_
        exact ⟨(kv1.set iq1 ((⟨r, o, 1⟩ : Port), (⟨q1.b, (cutA q1.A q1.c 1 1), (q1.c - 1), rs9⟩ : Qd))), mput ⟨nextR s r o, back o, 0⟩ x9 kvC, _, Aa, ca, hs9, hQ9.symm, (cf_put _ _).symm, hK9, (mput_keys hnC).1, hP9, fun k hk => ((mput_keys hnC).2 k).1 hk |>.elim (hcO k) (fun e => e ▸ ⟨hlead.1, hlead.2, back_in ho5 h16, rfl⟩), H⟩

end Go.Proofs.Ytlnogaoihkinbaa
namespace Go.Proofs.Ytlnogaoihkinbaa
open Go.Gk Go.RowKit
structure RS where
  Q : Port → List Int
  C : CF
  ar : List Arr
  dr : List Drp
  mo : List V2
def pkAt (l : List Packet) (p : Int) : Packet := (l[p.toNat]?).getD ⟨0, 0, 0, 0⟩
def delC (C : CF) (r : Int) : CF := fun k => if k.r = r ∧ k.c = 0 ∧ k.o ∈ outs4 then none else C k
def sendsN (l : List Packet) (k : Nat) (t : Int) : List Int := ((List.range k).filter fun i => decide ((l[i]?).map (·.Tick) = some t)).map Int.ofNat
def sendsOf (l : List Packet) (t : Int) : List Int := sendsN l l.length t
def entsOf (l : List Packet) (C : CF) (t r : Int) : List Int := comL C r ++ sndL l (sendsOf l t) r
def enterN (s : Spec) (tab : List Entry) (l : List Packet) (t r : Int) (e : ES) (ps : List Int) : ES := ps.foldl (fun x p => enterP s tab (pkAt l p).Key t r p (pkAt l p).Class x) e
def enterR (s : Spec) (ts : List (List Entry)) (l : List Packet) (t : Int) (e : RS) (r : Nat) : RS :=
  let x := enterN s ((ts[r]?).getD []) l t r ⟨e.Q, e.dr, e.mo⟩ (entsOf l e.C t r)
  ⟨x.Q, delC e.C r, e.ar, x.dr, x.mo⟩
def sendR (s : Spec) (t : Int) (e : RS) (r : Nat) : RS :=
  let x := outs5.foldl (fun x o => sendP s t r o x) (⟨e.Q, e.C, e.ar⟩ : SS)
  ⟨x.Q, x.C, x.ar, e.dr, e.mo⟩
def nR (s : Spec) : Nat := (s.Wide * s.High).toNat
def entersR (s : Spec) (ts : List (List Entry)) (l : List Packet) (t : Int) (e : RS) (k : Nat) : RS := (List.range k).foldl (enterR s ts l t) e
def sendsR (s : Spec) (t : Int) (e : RS) (k : Nat) : RS := (List.range k).foldl (sendR s t) e
def tickR (s : Spec) (ts : List (List Entry)) (l : List Packet) (e : RS) (t : Nat) : RS := sendsR s t (entersR s ts l t e (nR s)) (nR s)
def startR (s : Spec) : RS := ⟨fun _ => [], fun _ => none, [], [], List.replicate (nR s) ⟨0, 0⟩⟩
def runN (s : Spec) (ts : List (List Entry)) (l : List Packet) (k : Nat) : RS := (List.range k).foldl (tickR s ts l) (startR s)
theorem runN_succ (s : Spec) (ts : List (List Entry)) (l : List Packet) (k : Nat) : runN s ts l (k + 1) = tickR s ts l (runN s ts l k) k := by
  simp [runN, List.range_succ]
theorem entersR_succ (s : Spec) (ts : List (List Entry)) (l : List Packet) (t : Int) (e : RS) (k : Nat) : entersR s ts l t e (k + 1) = enterR s ts l t (entersR s ts l t e k) k := by
  simp [entersR, List.range_succ]
theorem sendsR_succ (s : Spec) (t : Int) (e : RS) (k : Nat) : sendsR s t e (k + 1) = sendR s t (sendsR s t e k) k := by
  simp [sendsR, List.range_succ]
theorem enterN_snoc (s : Spec) (tab : List Entry) (l : List Packet) (t r : Int) (e : ES) (ps : List Int) (p : Int) : enterN s tab l t r e (ps ++ [p]) = enterP s tab (pkAt l p).Key t r p (pkAt l p).Class (enterN s tab l t r e ps) := by
  simp [enterN]
theorem outStep_lead {s : Spec} {t r p cls outs : Int} {e : ES} {o : Int} (h : leadQ s e.Q) : leadQ s (outStep s t r p cls outs e o).Q := by
  unfold outStep
  split
  · exact h
  · split
    · exact h
    · rename_i h1 h2
      intro k
      simp only [updP]
      split
      · rename_i hk
        intro _
        subst hk
        simp only [not_or] at h2
        simpa using h2.1
      · exact h k
theorem foldl_inv {α β : Type} {P : β → Prop} {f : β → α → β} (hf : ∀ b a, P b → P (f b a)) : ∀ (l : List α) (b : β), P b → P (l.foldl f b)
  | [], b, h => h
  | a :: l, b, h => foldl_inv hf l (f b a) (hf b a h)
/-- Queues are short, lead somewhere; the lists have their lengths. -/
structure OkE (s : Spec) (n : Nat) (e : ES) : Prop where
  short : shortQ s e.Q
  lead : leadQ s e.Q
  most : e.mo.length = n
theorem enterP_ok {s : Spec} {n : Nat} {tab : List Entry} {key t r p cls : Int} {e : ES} (h : OkE s n e) : OkE s n (enterP s tab key t r p cls e) := by
  unfold enterP
  split
  · exact ⟨h.short, h.lead, h.most⟩
  · exact foldl_inv (P := OkE s n) (fun b a hb => ⟨outStep_short hb.short, outStep_lead hb.lead, (outStep_dr s t r p cls _ b a).2.trans hb.most⟩) _ _ h
theorem enterN_ok {s : Spec} {n : Nat} {tab : List Entry} {l : List Packet} {t r : Int} {e : ES} {ps : List Int} (h : OkE s n e) : OkE s n (enterN s tab l t r e ps) :=
  foldl_inv (P := OkE s n) (fun b a hb => enterP_ok hb) _ _ h
theorem foldl_len {α : Type} {f : ES → α → ES} {c : Nat} (hf : ∀ b a, (f b a).dr.length ≤ b.dr.length + c) : ∀ (l : List α) (b : ES), (l.foldl f b).dr.length ≤ b.dr.length + c * l.length
  | [], b => by simp
  | a :: l, b => by
    have h1 := foldl_len hf l (f b a)
    have h2 := hf b a
    rw [List.foldl_cons, List.length_cons, Nat.mul_add]
    omega
theorem enterP_dr {s : Spec} {tab : List Entry} {key t r p cls : Int} {e : ES} : (enterP s tab key t r p cls e).dr.length ≤ e.dr.length + 5 := by
  unfold enterP
  split
  · simp
  · have := foldl_len (c := 1) (fun b a => (outStep_dr s t r p cls (find tab key).1 b a).1) outs5 e
    simpa [outs5] using this
theorem sendP_ok {s : Spec} {t r o : Int} {e : SS} (h1 : shortQ s e.Q) (h2 : leadQ s e.Q) : shortQ s (sendP s t r o e).Q ∧ leadQ s (sendP s t r o e).Q ∧ (sendP s t r o e).ar.length ≤ e.ar.length + 1 := by
  unfold sendP
  split
  · exact ⟨h1, h2, by omega⟩
  · rename_i p rest hx
    have hq : shortQ s (updP e.Q (sendK e.Q r o) rest) := fun k => by
      simp only [updP]
      split
      · have := h1 (sendK e.Q r o)
        rw [hx, List.length_cons] at this
        omega
      · exact h1 k
    have hl : leadQ s (updP e.Q (sendK e.Q r o) rest) := fun k => by
      simp only [updP]
      split
      · rename_i hk
        subst hk
        exact fun _ => h2 _ (by rw [hx]; simp)
      · exact h2 k
    split
    · exact ⟨hq, hl, by simp⟩
    · exact ⟨hq, hl, by simp⟩
theorem comL_len (C : CF) (r : Int) : (comL C r).length ≤ 4 := Nat.le_trans (List.length_filterMap_le _ _) (by simp [outs4])
theorem sendsN_len (l : List Packet) (k : Nat) (t : Int) : (sendsN l k t).length ≤ k := by
  simp only [sendsN, List.length_map]
  exact Nat.le_trans (List.length_filter_le _ _) (by simp)
theorem entsOf_len (l : List Packet) (C : CF) (t r : Int) : (entsOf l C t r).length ≤ 4 + l.length := by
  have h1 := comL_len C r
  have h2 : (sndL l (sendsOf l t) r).length ≤ l.length := Nat.le_trans (List.length_filter_le _ _) (sendsN_len _ _ _)
  simp only [entsOf, List.length_append]
  omega
theorem sends_mem {l : List Packet} {k : Nat} {t p : Int} (h : p ∈ sendsN l k t) : 0 ≤ p ∧ p < k := by
  simp only [sendsN, List.mem_map, List.mem_filter, List.mem_range] at h
  obtain ⟨i, ⟨hi, _⟩, rfl⟩ := h
  exact ⟨Int.natCast_nonneg _, Int.ofNat_lt.2 hi⟩
theorem sends_next {l : List Packet} {k : Nat} {x : Packet} (hx : l[k]? = some x) (t : Int) : sendsN l (k + 1) t = if t = x.Tick then sendsN l k t ++ [(k : Int)] else sendsN l k t := by
  simp only [sendsN, List.range_succ, List.filter_append, List.map_append, List.filter_cons, List.filter_nil, hx, Option.map_some, Option.some.injEq]
  by_cases h : x.Tick = t
  · rw [if_pos (decide_eq_true h), if_pos h.symm]; rfl
  · rw [if_neg (by simpa using h), if_neg (fun e => h e.symm)]; simp
section
variable {kv : List (Int × Sld Int)} {k : Int} {y : Sld Int}
theorem lk_mput (t : Int) : lkS t (mput k y kv) = if t = k then y else lkS t kv := by
  unfold lkS
  rw [mget_mput]
  by_cases h : t = k <;> simp [h]
theorem mput_perm {κ ν : Type} [DecidableEq κ] {k : κ} {v : ν} : ∀ (kv : List (κ × ν)), (mput k v kv).Perm ((k, v) :: mdel k kv)
  | [] => List.Perm.refl _
  | x :: l => by
    simp only [mput, mdel]
    by_cases h : k = x.1
    · rw [if_pos h, if_pos h]
    · rw [if_neg h, if_neg h]
      exact ((mput_perm l).cons x).trans (List.Perm.swap _ _ _)
theorem mdel_perm {κ ν : Type} [DecidableEq κ] {k : κ} {v : ν} : ∀ {kv : List (κ × ν)}, mget k kv = some v → kv.Perm ((k, v) :: mdel k kv)
  | x :: l, h => by
    simp only [mget] at h
    simp only [mdel]
    by_cases hk : k = x.1
    · rw [if_pos hk] at h ⊢
      injection h with h
      subst hk h
      exact List.Perm.refl _
    · rw [if_neg hk] at h ⊢
      exact ((mdel_perm h).cons x).trans (List.Perm.swap _ _ _)
theorem mdel_none {κ ν : Type} [DecidableEq κ] {k : κ} : ∀ {kv : List (κ × ν)}, mget k kv = none → mdel k kv = kv
  | [], _ => rfl
  | x :: l, h => by
    simp only [mget] at h
    simp only [mdel]
    by_cases hk : k = x.1
    · rw [if_pos hk] at h; cases h
    · rw [if_neg hk] at h ⊢
      rw [mdel_none h]
variable {n0 : Nat} {w0 w : World} {L : List SA}
/-- A row of the map is taken out. -/
theorem lk_out (k : Int) (H : Hp n0 w0 w (SA.rows kInt 3 (kv.map (·.2)) :: L)) : Hp n0 w0 w (SA.own kInt 3 (lkS k kv).A (lkS k kv).c (lkS k kv).xs :: SA.rows kInt 3 ((mdel k kv).map (·.2)) :: L) := by
  unfold lkS
  cases hm : mget k kv with
  | none =>
    rw [mdel_none hm]
    exact own_nil H kInt 3
  | some v =>
    exact big_out (f := fun s : Sld Int => SA.own kInt 3 s.A s.c s.xs) (x := v) (by simpa using (mdel_perm hm).map (·.2)) H
theorem lk_in' (y : Sld Int) (H : Hp n0 w0 w (SA.own kInt 3 y.A y.c y.xs :: SA.rows kInt 3 ((mdel k kv).map (·.2)) :: L)) : Hp n0 w0 w (SA.rows kInt 3 ((mput k y kv).map (·.2)) :: L) :=
  big_in (f := fun s : Sld Int => SA.own kInt 3 s.A s.c s.xs) (x := y) (by simpa using (mput_perm (k := k) (v := y) kv).map (·.2)) H
theorem own_nem {α : Type} {d : Kd α} {e : TypeId} {A : Option Addr} {c : Nat} {xs : List α} {κ ν : Type} {enc : κ → Value} {ev : ν → Value} {b : Nat} {kv : List (κ × ν)} (H : Hp n0 w0 w (SA.own d e A c xs :: SA.map enc ev b kv :: L)) : ∀ a, A = some a → a.block ≠ b := by
  obtain ⟨x, H1⟩ := (H.pull 1 rfl rfl).opn
  exact own_ne ((H1.out.2).pull 1 rfl rfl)
end
theorem delC_cf {kv : List (Port × Int)} {r : Int} (hn : (kv.map (·.1)).Nodup) : cf (delN kv r 4) = delC (cf kv) r := by
  funext p
  simp only [cf, delC, (delN_get hn 4).2.2]
  rfl
def allPorts (s : Spec) : List Port := (List.range (nR s)).flatMap fun (r : Nat) => outs5.flatMap fun o => [⟨(r : Int), o, 0⟩, ⟨(r : Int), o, 1⟩]
def allCom (s : Spec) : List Port := (List.range (nR s)).flatMap fun (r : Nat) => outs4.map fun o => ⟨(r : Int), o, 0⟩
def sumN {α : Type} (f : α → Nat) (l : List α) : Nat := (l.map f).sum
def restP (s : Spec) (Q : Port → List Int) (C : CF) : Nat := sumN (fun p => (Q p).length) (allPorts s) + sumN (fun p => if (C p).isSome then 1 else 0) (allCom s)
theorem sum_split {α : Type} [DecidableEq α] {f g : α → Nat} {x : α} {c : Nat} (hx : f x = g x + c) (h : ∀ y, y ≠ x → f y = g y) : ∀ {l : List α}, l.Nodup → sumN f l = sumN g l + if x ∈ l then c else 0
  | [], _ => by simp [sumN]
  | y :: l, hn => by
    obtain ⟨h1, h2⟩ := List.nodup_cons.1 hn
    have ih := sum_split hx h h2
    simp only [sumN, List.map_cons, List.sum_cons] at ih ⊢
    by_cases e : y = x
    · subst e
      rw [hx, ih, if_neg h1, if_pos List.mem_cons_self]
      omega
    · rw [h y e, ih]
      by_cases hm : x ∈ l
      · rw [if_pos hm, if_pos (List.mem_cons_of_mem _ hm)]; omega
      · rw [if_neg hm, if_neg (by simp [hm, Ne.symm e])]; omega
theorem sum_map {κ ν : Type} [DecidableEq κ] (f : ν → Nat) {all : List κ} (ha : all.Nodup) : ∀ {kv : List (κ × ν)}, (kv.map (·.1)).Nodup → (∀ k ∈ kv.map (·.1), k ∈ all) → sumN (fun x => f x.2) kv = sumN (fun p => ((mget p kv).map f).getD 0) all
  | [], _, _ => by
    simp only [sumN, mget]
    induction all with
    | nil => rfl
    | cons a l ih => simp at ih ⊢; exact ih (List.nodup_cons.1 ha).2
  | x :: l, hn, hall => by
    simp only [List.map_cons, List.nodup_cons] at hn
    have ih := sum_map f ha hn.2 (fun k hk => hall k (by simp [hk]))
    have hxm : x.1 ∈ all := hall x.1 (by simp)
    have hnone : mget x.1 l = none := by
      cases hm : mget x.1 l with
      | none => rfl
      | some v => exact absurd (mget_key.1 (by rw [hm]; rfl)) hn.1
    have h1 := sum_split (f := fun p => ((mget p (x :: l)).map f).getD 0) (g := fun p => ((mget p l).map f).getD 0) (x := x.1) (c := f x.2) (by simp [mget, hnone]) (fun y hy => by simp [mget, hy]) ha
    rw [h1, if_pos hxm, ← ih]
    simp only [sumN, List.map_cons, List.sum_cons]
    omega
theorem allPorts_mem {s : Spec} {k : Port} (h : portOk s k) : k ∈ allPorts s := by
  obtain ⟨h1, h2, h3, h4⟩ := h
  refine List.mem_flatMap.2 ⟨k.r.toNat, List.mem_range.2 (by unfold nR; omega), List.mem_flatMap.2 ⟨k.o, h3, ?_⟩⟩
  have : ((k.r.toNat : Nat) : Int) = k.r := by omega
  rw [this]
  cases k
  rcases h4 with h4 | h4 <;> (simp only at h4; subst h4; simp)
theorem allCom_mem {s : Spec} {k : Port} (h : comOk s k) : k ∈ allCom s := by
  obtain ⟨h1, h2, h3, h4⟩ := h
  refine List.mem_flatMap.2 ⟨k.r.toNat, List.mem_range.2 (by unfold nR; omega), List.mem_map.2 ⟨k.o, h3, ?_⟩⟩
  have : ((k.r.toNat : Nat) : Int) = k.r := by omega
  rw [this]
  cases k
  simp only at h4
  subst h4
  rfl
theorem nodup_blocks {β : Type} {f : Nat → List Port} (hf : ∀ r, (f r).Nodup) (hr : ∀ (r : Nat), ∀ k ∈ f r, k.r = (r : Int)) : ∀ n, ((List.range n).flatMap f).Nodup
  | 0 => by simp
  | n + 1 => by
    rw [List.range_succ, List.flatMap_append, List.nodup_append]
    refine ⟨nodup_blocks (β := β) hf hr n, by simpa using hf n, fun a ha b hb e => ?_⟩
    subst e
    obtain ⟨m, hm, hk⟩ := List.mem_flatMap.1 ha
    have h1 := hr m a hk
    have h2 := hr n a (by simpa using hb)
    have := List.mem_range.1 hm
    omega
theorem allPorts_nodup (s : Spec) : (allPorts s).Nodup := nodup_blocks (β := Nat) (fun r => by
  simp only [outs5, List.flatMap_cons, List.flatMap_nil, List.append_nil, List.cons_append, List.nil_append]
  simp [List.nodup_cons]) (fun r k hk => by
  obtain ⟨o, _, ho⟩ := List.mem_flatMap.1 hk
  simp only [List.mem_cons, List.not_mem_nil, or_false] at ho
  rcases ho with rfl | rfl <;> rfl) _
theorem allCom_nodup (s : Spec) : (allCom s).Nodup := nodup_blocks (β := Nat) (fun r => by
  simp only [outs4, List.map_cons, List.map_nil]
  simp [List.nodup_cons]) (fun r k hk => by
  obtain ⟨o, _, rfl⟩ := List.mem_map.1 hk
  rfl) _
theorem rest_of {s : Spec} {kvQ : List (Port × Qd)} {kvC : List (Port × Int)} (hn : (kvQ.map (·.1)).Nodup) (hp : ∀ k ∈ kvQ.map (·.1), portOk s k) (hnC : (kvC.map (·.1)).Nodup) (hc : ∀ k ∈ kvC.map (·.1), comOk s k) :
    kvC.length + sumN (fun x => x.2.xs.length) kvQ = restP s (qf kvQ) (cf kvC) := by
  have h1 := sum_map (fun q : Qd => q.xs.length) (allPorts_nodup s) hn (fun k hk => allPorts_mem (hp k hk))
  have h2 := sum_map (fun _ : Int => 1) (allCom_nodup s) hnC (fun k hk => allCom_mem (hc k hk))
  have h3 : sumN (fun x : Port × Int => 1) kvC = kvC.length := by
    simp only [sumN]
    generalize kvC = l
    induction l with
    | nil => rfl
    | cons a l ih => rw [List.map_cons, List.sum_cons, ih, List.length_cons]; omega
  rw [h3] at h2
  rw [h1, h2, restP, Nat.add_comm]
  congr 1
  · congr 1
    funext p
    simp only [qf]
    cases mget p kvQ <;> rfl
  · congr 1
    funext p
    show ((mget p kvC).map fun _ => 1).getD 0 = if (cf kvC p).isSome = true then 1 else 0
    unfold cf
    cases hm : mget p kvC with
    | none => simp
    | some v => simp
theorem q_cell {n0 : Nat} {w0 w : World} {L : List SA} {kv : List (Port × Qd)} {i : Nat} {k : Port} {q : Qd} (hi : kv[i]? = some (k, q)) (H : Hp n0 w0 w (SA.queues kv :: L)) : w.cell? ⟨q.b, 0, none⟩ = some (.slice q.A q.xs.length q.c) :=
  cell_of ((Hp.split (big_out (f := fun x : Port × Qd => qpart x.2) (perm_at hi) H)).rd 0 rfl)
def visLen (kv : List (Port × Qd)) (vis : List Nat) : Nat := sumN (fun i => ((kv[i]?).map fun x => x.2.xs.length).getD 0) vis
theorem visLen_snoc {kv : List (Port × Qd)} {vis : List Nat} {i : Nat} {k : Port} {q : Qd} (hi : kv[i]? = some (k, q)) : visLen kv (vis ++ [i]) = visLen kv vis + q.xs.length := by
  simp [visLen, sumN, hi]
theorem visLen_all {kv : List (Port × Qd)} {vis : List Nat} (hn : vis.Nodup) (hlt : ∀ i ∈ vis, i < kv.length) (hall : ∀ i, i < kv.length → i ∈ vis) : visLen kv vis = sumN (fun x => x.2.xs.length) kv := by
  have h1 : visLen kv vis = visLen kv (List.range kv.length) := ((perm_range hn hlt hall).map _).sum_nat
  rw [h1]
  simp only [visLen, sumN]
  congr 1
  apply List.ext_getElem?
  intro i
  by_cases h : i < kv.length
  · simp [h]
  · simp [h]
theorem visLen_le {kv : List (Port × Qd)} (h : ∀ x ∈ kv, x.2.xs.length ≤ 64) : ∀ (vis : List Nat), visLen kv vis ≤ 64 * vis.length
  | [] => by simp [visLen, sumN]
  | i :: vis => by
    have ih := visLen_le h vis
    simp only [visLen, sumN, List.map_cons, List.sum_cons, List.length_cons] at ih ⊢
    have : ((kv[i]?).map fun x => x.2.xs.length).getD 0 ≤ 64 := by
      cases hx : kv[i]? with
      | none => simp
      | some x => simpa using h x (List.mem_of_getElem? hx)
    omega
theorem nodup_sub {α : Type} [DecidableEq α] : ∀ {l all : List α}, l.Nodup → (∀ x ∈ l, x ∈ all) → l.length ≤ all.length
  | [], all, _, _ => by simp
  | a :: l, all, hn, h => by
    obtain ⟨h1, h2⟩ := List.nodup_cons.1 hn
    have ha := h a List.mem_cons_self
    have ih := nodup_sub (all := all.erase a) h2 fun x hx => (List.mem_erase_of_ne (fun e : x = a => h1 (by rw [← e]; exact hx))).2 (h x (List.mem_cons_of_mem _ hx))
    rw [List.length_erase_of_mem ha] at ih
    have := List.length_pos_of_mem ha
    simp only [List.length_cons]
    omega
theorem sum_const (c n : Nat) : ((List.range n).map fun _ => c).sum = n * c := by
  induction n with
  | zero => simp
  | succ n ih => rw [List.range_succ, List.map_append, List.sum_append, ih, Nat.succ_mul]; simp
theorem ports_len {s : Spec} {kv : List (Port × Qd)} (hs : chk s = 0) (hn : (kv.map (·.1)).Nodup) (hp : ∀ k ∈ kv.map (·.1), portOk s k) : kv.length ≤ 640 := by
  have h1 := nodup_sub hn fun k hk => allPorts_mem (hp k hk)
  have h2 : (allPorts s).length = nR s * 10 := by
    simp only [allPorts, List.length_flatMap, outs5]
    simp [sum_const]
  obtain ⟨hm1, hm2⟩ := mul64 hs
  rw [List.length_map, h2] at h1
  unfold nR at h1
  omega
theorem com_len {s : Spec} {kv : List (Port × Int)} (hs : chk s = 0) (hn : (kv.map (·.1)).Nodup) (hp : ∀ k ∈ kv.map (·.1), comOk s k) : kv.length ≤ 256 := by
  have h1 := nodup_sub hn fun k hk => allCom_mem (hp k hk)
  have h2 : (allCom s).length = nR s * 4 := by
    simp only [allCom, List.length_flatMap, outs4]
    simp [sum_const]
  obtain ⟨hm1, hm2⟩ := mul64 hs
  rw [List.length_map, h2] at h1
  unfold nR at h1
  omega
theorem qf_len {s : Spec} {kv : List (Port × Qd)} (hs : chk s = 0) (hn : (kv.map (·.1)).Nodup) (h : shortQ s (qf kv)) : ∀ x ∈ kv, x.2.xs.length ≤ 64 := fun x hx => by
  obtain ⟨i, hi, rfl⟩ := List.mem_iff_getElem.1 hx
  have h1 := mget_nodup (k := kv[i].1) (v := kv[i].2) (i := i) hn (by simp [hi])
  have h2 := h kv[i].1
  obtain ⟨_, _, _, _, _, h3⟩ := chk_ok hs
  simp only [qf, h1, Option.map_some, Option.getD_some] at h2
  omega
/-- What a run reports. -/
structure Rep where
  ar : List Arr
  dr : List Drp
  mo : List V2
  rest : Int
def runE (s : Spec) (ts : List (List Entry)) (l : List Packet) (ticks : Int) : Int := if chkT s ts ≠ 0 then chkT s ts else if chkP s l ≠ 0 then chkP s l else if ticks < 0 ∨ 10000 < ticks then 3 else 0
def repOf (s : Spec) (e : RS) : Rep := ⟨e.ar, e.dr, e.mo, restP s e.Q e.C⟩
def runP (s : Spec) (ts : List (List Entry)) (l : List Packet) (ticks : Int) : Rep := if runE s ts l ticks ≠ 0 then ⟨[], [], [], 0⟩ else repOf s (runN s ts l ticks.toNat)
theorem chkT_ok {s : Spec} {ts : List (List Entry)} (h : chkT s ts = 0) : chk s = 0 ∧ ((ts.length : Nat) : Int) = s.Wide * s.High ∧ ∀ t ∈ ts, t.length ≤ 1024 := by
  unfold chkT at h
  split at h
  · contradiction
  · split at h
    · cases h
    · refine ⟨by omega, by omega, fun t ht => ?_⟩
      have := first_zero h t ht
      unfold tabE at this
      split at this
      · cases this
      · omega
theorem chkP_ok {s : Spec} {l : List Packet} (h : chkP s l = 0) : l.length ≤ 1024 ∧ ∀ x ∈ l, x.Class = 0 ∨ x.Class = 1 := by
  unfold chkP at h
  split at h
  · cases h
  · refine ⟨by omega, fun x hx => ?_⟩
    have := first_zero h x hx
    unfold pktE at this
    (repeat' split at this) <;> first | contradiction | omega
theorem pkAt_eq {l : List Packet} {p : Int} {pk : Packet} (h : l[p.toNat]? = some pk) : pkAt l p = pk := by rw [pkAt, h]; rfl
end Go.Proofs.Ytlnogaoihkinbaa
namespace Go.Proofs.Ytlnogaoihkinbaa
open Go.Gk Go.RowKit
def inQ (n : Int) (Q : Port → List Int) : Prop := ∀ k, ∀ p ∈ Q k, 0 ≤ p ∧ p < n
def inC (n : Int) (C : CF) : Prop := ∀ k p, C k = some p → 0 ≤ p ∧ p < n
theorem updP_in {n : Int} {Q : Port → List Int} (h : inQ n Q) {k : Port} {l : List Int} (hl : ∀ p ∈ l, 0 ≤ p ∧ p < n) : inQ n (updP Q k l) := fun k' p hp => by
  simp only [updP] at hp
  split at hp
  · exact hl p hp
  · exact h k' p hp
theorem outStep_in {n : Int} {s : Spec} {t r p cls outs : Int} {e : ES} {o : Int} (hp : 0 ≤ p ∧ p < n) (h : inQ n e.Q) : inQ n (outStep s t r p cls outs e o).Q := by
  unfold outStep
  split
  · exact h
  · split
    · exact h
    · exact updP_in h fun x hx => (List.mem_append.1 hx).elim (h _ x) fun hx => by rw [List.mem_singleton.1 hx]; exact hp
theorem enterP_in {n : Int} {s : Spec} {tab : List Entry} {key t r p cls : Int} {e : ES} (hp : 0 ≤ p ∧ p < n) (h : inQ n e.Q) : inQ n (enterP s tab key t r p cls e).Q := by
  unfold enterP
  split
  · exact h
  · exact foldl_inv (P := fun e : ES => inQ n e.Q) (fun b a hb => outStep_in hp hb) _ _ h
theorem enterN_in {n : Int} {s : Spec} {tab : List Entry} {l : List Packet} {t r : Int} : ∀ {ps : List Int} {e : ES}, (∀ p ∈ ps, 0 ≤ p ∧ p < n) → inQ n e.Q → inQ n (enterN s tab l t r e ps).Q
  | [], e, _, h => h
  | p :: ps, e, hp, h => enterN_in (ps := ps) (fun x hx => hp x (List.mem_cons_of_mem _ hx)) (enterP_in (hp p List.mem_cons_self) h)
theorem sendP_in {n : Int} {s : Spec} {t r o : Int} {e : SS} (h : inQ n e.Q) (hc : inC n e.C) : inQ n (sendP s t r o e).Q ∧ inC n (sendP s t r o e).C := by
  unfold sendP
  split
  · exact ⟨h, hc⟩
  · rename_i p rest hx
    have h1 : inQ n (updP e.Q (sendK e.Q r o) rest) := updP_in h fun x hm => h (sendK e.Q r o) x (by rw [hx]; exact List.mem_cons_of_mem _ hm)
    have hp := h (sendK e.Q r o) p (by rw [hx]; exact List.mem_cons_self)
    split
    · exact ⟨h1, hc⟩
    · refine ⟨h1, fun k q hq => ?_⟩
      simp only [updP] at hq
      split at hq
      · injection hq with hq; rw [← hq]; exact hp
      · exact hc k q hq
theorem comL_in {n : Int} {C : CF} {r : Int} (h : inC n C) : ∀ p ∈ comL C r, 0 ≤ p ∧ p < n := fun p hp => by
  obtain ⟨o, _, ho⟩ := List.mem_filterMap.1 hp
  exact h _ _ ho
theorem ents_in {l : List Packet} {C : CF} {t r : Int} (h : inC l.length C) : ∀ p ∈ entsOf l C t r, 0 ≤ p ∧ p < l.length := fun p hp => by
  rcases List.mem_append.1 hp with hp | hp
  · exact comL_in h p hp
  · exact sends_mem (List.mem_filter.1 hp).1
def InR (n : Int) (e : RS) : Prop := inQ n e.Q ∧ inC n e.C
theorem enterR_in {s : Spec} {ts : List (List Entry)} {l : List Packet} {t : Int} {e : RS} {r : Nat} (h : InR l.length e) : InR l.length (enterR s ts l t e r) :=
  ⟨enterN_in (ents_in h.2) h.1, fun k p hp => by simp only [enterR, delC] at hp; split at hp; cases hp; exact h.2 k p hp⟩
theorem sendR_in {s : Spec} {n t : Int} {e : RS} {r : Nat} (h : InR n e) : InR n (sendR s t e r) :=
  foldl_inv (P := fun x : SS => inQ n x.Q ∧ inC n x.C) (fun b a hb => sendP_in hb.1 hb.2) _ _ h
theorem entersR_in {s : Spec} {ts : List (List Entry)} {l : List Packet} {t : Int} {e : RS} (h : InR l.length e) (k : Nat) : InR l.length (entersR s ts l t e k) :=
  foldl_inv (P := InR l.length) (fun b a hb => enterR_in hb) _ _ h
theorem sendsR_in {s : Spec} {n t : Int} {e : RS} (h : InR n e) (k : Nat) : InR n (sendsR s t e k) :=
  foldl_inv (P := InR n) (fun b a hb => sendR_in hb) _ _ h
theorem runN_in (s : Spec) (ts : List (List Entry)) (l : List Packet) (k : Nat) : InR l.length (runN s ts l k) :=
  foldl_inv (P := InR l.length) (fun b a hb => sendsR_in (entersR_in hb _) _) _ _ ⟨fun _ p hp => absurd hp (by simp [startR]), fun _ p hp => by simp [startR] at hp⟩
end Go.Proofs.Ytlnogaoihkinbaa
namespace Go.Proofs.Ytlnogaoihkinbaa
open Go.Gk Go.RowKit
theorem ca63 : cellsAgg Try.prog 63 = some (some 4) := by kernel_rfl
theorem cl25 : callable Try.prog 25 = true := by kernel_rfl
theorem cl59 : callable Try.prog 59 = true := by kernel_rfl
theorem cl61 : callable Try.prog 61 = true := by kernel_rfl
theorem cl62 : callable Try.prog 62 = true := by kernel_rfl
theorem cl64 : callable Try.prog 64 = true := by kernel_rfl
theorem cl87 : callable Try.prog 87 = true := by kernel_rfl
theorem fo63_3 : fieldOff Try.prog 63 3 = some 3 := by kernel_rfl
theorem ts61 : tySize Try.prog 61 = some 1 := by kernel_rfl
theorem ts63 : tySize Try.prog 63 = some 4 := by kernel_rfl
theorem tz63 : tyZero Try.prog 63 = some (.agg #[.slice none 0 0, .slice none 0 0, .slice none 0 0, .int .i64 0]) := by kernel_rfl
theorem entering_c (bw : Nat) (t r : Int) (w0 : World) :
    Calls Try.prog 61 #[.pointer (some ⟨bw, 0, none⟩), .int .i64 t, .int .i64 r] w0 fun e w' => ∃ v, e = .returned v ∧ (∃ b1 b2 b3, v = .func (.func 87) #[] #[.pointer (some ⟨b1, 0, none⟩), .pointer (some ⟨b2, 0, none⟩), .pointer (some ⟨b3, 0, none⟩)] ∧ Below w0.heap.size w0 w' ∧ New (SA.star (SA.star (SA.cel b1 #[.int .i64 r] 3) (SA.cel b2 #[.pointer (some ⟨bw, 0, none⟩)] 138)) (SA.cel b3 #[.int .i64 t] 3)) w0 w') := by
  refine calls_of (n := 8) (l := [.pointer (some ⟨bw, 0, none⟩), .int .i64 t, .int .i64 r]) Try.func61 rfl rfl rfl ?_
  have H := Hp.start w0
  refine V_seq rfl ?_
  refine V_region rfl ?_
  refine Rg_op rfl (o_box (v := .pointer (some ⟨bw, 0, none⟩)) rfl rfl H fun b1 w2 hA H => ?_)
  refine Rg_op rfl (o_box (v := .int .i64 t) rfl rfl H fun b3 w4 hA H => ?_)
  refine Rg_op rfl (o_box (v := .int .i64 r) rfl rfl H fun b5 w6 hA H => ?_)
  refine Rg_op rfl (o_val (v := .nilFunc) (d := 6) rfl rfl (ex_assign rfl) ?_)
  refine Rg_end ?_
  refine V_seq rfl ?_
  refine V_region rfl ?_
  refine Rg_op rfl (o_val (v := .func (.func 87) #[] #[.pointer (some ⟨b5, 0, none⟩), .pointer (some ⟨b1, 0, none⟩), .pointer (some ⟨b3, 0, none⟩)]) (d := 7) rfl rfl (ex_makeFunc (fv := []) (cv := [.pointer (some ⟨b5, 0, none⟩), .pointer (some ⟨b1, 0, none⟩), .pointer (some ⟨b3, 0, none⟩)]) rfl rfl) ?_)
  refine Rg_op rfl (o_val (v := .func (.func 87) #[] #[.pointer (some ⟨b5, 0, none⟩), .pointer (some ⟨b1, 0, none⟩), .pointer (some ⟨b3, 0, none⟩)]) (d := 6) rfl rfl (ex_assign rfl) ?_)
  refine Rg_end ?_
  refine V_ret rfl (end0 (v := .func (.func 87) #[] #[.pointer (some ⟨b5, 0, none⟩), .pointer (some ⟨b1, 0, none⟩), .pointer (some ⟨b3, 0, none⟩)]) rfl (res_tmp Try.results61 rfl) ?_)
  exact ⟨_, _, _, rfl, H.below, Hp.give (Hp.join (Hp.join ((H.pull 2 rfl rfl).pull 1 rfl rfl)))⟩

theorem run_c (s : Spec) (A : Option Addr) (c : Nat) (ts : List (List Entry)) (A1 : Option Addr) (c1 : Nat) (l : List Packet) (ticks : Int) (w0 : World) (hX : Row (kSl kEnt) w0.cell? A ts) (hl : ts.length ≤ 9223372036854775807) (hY : Row kPkt w0.cell? A1 l) (hll : l.length ≤ 9223372036854775807) :
    Calls Try.prog 22 #[.agg #[.int .i64 s.Wide, .int .i64 s.High, .int .i64 s.Room], .slice A ts.length c, .slice A1 l.length c1, .int .i64 ticks] w0 fun e w' => ∃ v, e = .returned v ∧ (∃ Aa' ca' Ad' cd' Am' cm', v = .tuple #[.agg #[.slice Aa' (runP s ts l ticks).ar.length ca', .slice Ad' (runP s ts l ticks).dr.length cd', .slice Am' (runP s ts l ticks).mo.length cm', .int .i64 (runP s ts l ticks).rest], .int .i64 (runE s ts l ticks)] ∧ Below w0.heap.size w0 w' ∧ New (SA.star (SA.star (SA.own kArr 97 Aa' ca' (runP s ts l ticks).ar) (SA.own kDrp 110 Ad' cd' (runP s ts l ticks).dr)) (SA.own kV2 101 Am' cm' (runP s ts l ticks).mo)) w0 w') := by
  refine calls_of (n := 168) (l := [.agg #[.int .i64 s.Wide, .int .i64 s.High, .int .i64 s.Room], .slice A ts.length c, .slice A1 l.length c1, .int .i64 ticks]) Try.func22 rfl rfl rfl ?_
  have H := Hp.start w0
  refine V_seq rfl ?_
  refine V_region rfl ?_
  refine Rg_op rfl (o_box (v := .agg #[.int .i64 s.Wide, .int .i64 s.High, .int .i64 s.Room]) rfl rfl H fun b1 w2 hA H => ?_)
  refine Rg_op rfl (o_alloc rfl tz63 H fun b3 w4 hA H => ?_)
  refine Rg_op rfl (o_val (v := .int .i64 0) (d := 9) rfl rfl (ex_assign rfl) ?_)
  refine Rg_end ?_
  refine V_seq rfl ?_
  refine V_seq rfl ?_
  refine V_region rfl ?_
  refine Rg_op rfl (o_val (v := .agg #[.int .i64 s.Wide, .int .i64 s.High, .int .i64 s.Room]) (d := 24) rfl rfl (ex_loadN (vs := [.int .i64 s.Wide, .int .i64 s.High, .int .i64 s.Room]) ca33 rfl rfl (blk_cells (H.rd 1 rfl) rfl)) ?_)
  refine Rg_op rfl (o_val (v := .slice A ts.length c) (d := 25) rfl rfl (ex_move rfl) ?_)
  refine Rg_op rfl (o_call (fv := []) (cap := []) (vs := [.agg #[.int .i64 s.Wide, .int .i64 s.High, .int .i64 s.Room], .slice A ts.length c]) rfl rfl cl25 rfl (checkT_c s _ _ ts _ (hX.mono (fun _ _ h => H.cell0 h)) (by omega)) fun v w5 hS => ?_)
  obtain ⟨rfl, hB⟩ := hS
  have H := H.keep hB
  refine Rg_op rfl (o_val (v := .int .i64 (chkT s ts)) (d := 10) rfl rfl (ex_assign rfl) ?_)
  refine Rg_end ?_
  refine V_seq rfl ?_
  refine V_region rfl ?_
  refine Rg_op rfl (o_val (v := .int .i64 (chkT s ts)) (d := 27) rfl rfl (ex_move rfl) ?_)
  refine Rg_op rfl (o_val (v := .bool (decide ((chkT s ts) ≠ 0))) (d := 28) rfl rfl (ex_neq rfl rfl) ?_)
  refine Rg_end ?_
  refine V_cond (b := (decide ((chkT s ts) ≠ 0))) rfl rfl (fun hb6 => ?_) (fun hb6 => ?_)
  · have hb6 : (chkT s ts) ≠ 0 := of_decide_eq_true hb6
    refine V_seq rfl ?_
    refine V_region rfl ?_
    refine Rg_op rfl (o_val (v := .agg #[.slice none 0 0, .slice none 0 0, .slice none 0 0, .int .i64 0]) (d := 29) rfl rfl (ex_eq (by kernel_rfl)) ?_)
    refine Rg_op rfl (o_val (v := .int .i64 (chkT s ts)) (d := 30) rfl rfl (ex_move rfl) ?_)
    refine Rg_op rfl (o_store (vs := [.slice none 0 0, .slice none 0 0, .slice none 0 0, .int .i64 0]) rfl ts63 rfl rfl rfl rfl 0 rfl rfl rfl rfl H fun w7 hA H => ?_)
    refine Rg_op rfl (o_val (v := .int .i64 (chkT s ts)) (d := 9) rfl rfl (ex_assign rfl) ?_)
    refine Rg_end ?_
    have hre : runE s ts l ticks = chkT s ts := by simp only [runE]; (repeat' split) <;> first | contradiction | rfl | (simp_all; done) | skip
    have hrp : runP s ts l ticks = ⟨[], [], [], 0⟩ := if_pos (by rw [hre]; first | assumption | decide)
    refine V_ret rfl (end0 (v := .tuple #[.agg #[.slice none 0 0, .slice none 0 0, .slice none 0 0, .int .i64 0], .int .i64 (chkT s ts)]) rfl (res_ct Try.results22 rfl (load_blk (vs := [.slice none 0 0, .slice none 0 0, .slice none 0 0, .int .i64 0]) ca63 (H.rd 0 rfl) rfl rfl) rfl) ?_)
    have H := own_nil H kV2 101
    have H := own_nil H kDrp 110
    have H := own_nil H kArr 97
    have H := Hp.join (Hp.join H)
    exact ⟨none, 0, none, 0, none, 0, by rw [hrp, hre]; rfl, H.below, by rw [hrp]; exact H.give⟩
  · have hb6 : ¬ ((chkT s ts) ≠ 0) := of_decide_eq_false hb6
    obtain ⟨hs, htl, hT2⟩ := chkT_ok (by omega : chkT s ts = 0)
    obtain ⟨hs1, hs2, hs3, hs4, hs5, hs6⟩ := chk_ok hs
    obtain ⟨hm1, hm2⟩ := mul64 hs
    refine V_skip rfl ?_
    refine V_seq rfl ?_
    refine V_seq rfl ?_
    refine V_region rfl ?_
    refine Rg_op rfl (o_val (v := .agg #[.int .i64 s.Wide, .int .i64 s.High, .int .i64 s.Room]) (d := 31) rfl rfl (ex_loadN (vs := [.int .i64 s.Wide, .int .i64 s.High, .int .i64 s.Room]) ca33 rfl rfl (blk_cells (H.rd 1 rfl) rfl)) ?_)
    refine Rg_op rfl (o_val (v := .slice A1 l.length c1) (d := 32) rfl rfl (ex_move rfl) ?_)
    refine Rg_op rfl (o_call (fv := []) (cap := []) (vs := [.agg #[.int .i64 s.Wide, .int .i64 s.High, .int .i64 s.Room], .slice A1 l.length c1]) rfl rfl cl59 rfl (checkP_c s _ _ l _ (by assumption) (hY.mono (fun _ _ h => H.cell0 h)) (by omega)) fun v w8 hS => ?_)
    obtain ⟨rfl, hB⟩ := hS
    have H := H.keep hB
    refine Rg_op rfl (o_val (v := .int .i64 (chkP s l)) (d := 11) rfl rfl (ex_assign rfl) ?_)
    refine Rg_end ?_
    refine V_seq rfl ?_
    refine V_region rfl ?_
    refine Rg_op rfl (o_val (v := .int .i64 (chkP s l)) (d := 34) rfl rfl (ex_move rfl) ?_)
    refine Rg_op rfl (o_val (v := .bool (decide ((chkP s l) ≠ 0))) (d := 35) rfl rfl (ex_neq rfl rfl) ?_)
    refine Rg_end ?_
    refine V_cond (b := (decide ((chkP s l) ≠ 0))) rfl rfl (fun hb9 => ?_) (fun hb9 => ?_)
    · have hb9 : (chkP s l) ≠ 0 := of_decide_eq_true hb9
      refine V_seq rfl ?_
      refine V_region rfl ?_
      refine Rg_op rfl (o_val (v := .agg #[.slice none 0 0, .slice none 0 0, .slice none 0 0, .int .i64 0]) (d := 36) rfl rfl (ex_eq (by kernel_rfl)) ?_)
      refine Rg_op rfl (o_val (v := .int .i64 (chkP s l)) (d := 37) rfl rfl (ex_move rfl) ?_)
      refine Rg_op rfl (o_store (vs := [.slice none 0 0, .slice none 0 0, .slice none 0 0, .int .i64 0]) rfl ts63 rfl rfl rfl rfl 0 rfl rfl rfl rfl H fun w10 hA H => ?_)
      refine Rg_op rfl (o_val (v := .int .i64 (chkP s l)) (d := 9) rfl rfl (ex_assign rfl) ?_)
      refine Rg_end ?_
      have hre : runE s ts l ticks = chkP s l := by simp only [runE]; (repeat' split) <;> first | contradiction | rfl | (simp_all; done) | skip
      have hrp : runP s ts l ticks = ⟨[], [], [], 0⟩ := if_pos (by rw [hre]; first | assumption | decide)
      refine V_ret rfl (end0 (v := .tuple #[.agg #[.slice none 0 0, .slice none 0 0, .slice none 0 0, .int .i64 0], .int .i64 (chkP s l)]) rfl (res_ct Try.results22 rfl (load_blk (vs := [.slice none 0 0, .slice none 0 0, .slice none 0 0, .int .i64 0]) ca63 (H.rd 0 rfl) rfl rfl) rfl) ?_)
      have H := own_nil H kV2 101
      have H := own_nil H kDrp 110
      have H := own_nil H kArr 97
      have H := Hp.join (Hp.join H)
      exact ⟨none, 0, none, 0, none, 0, by rw [hrp, hre]; rfl, H.below, by rw [hrp]; exact H.give⟩
    · have hb9 : ¬ ((chkP s l) ≠ 0) := of_decide_eq_false hb9
      obtain ⟨hl1024, hcl⟩ := chkP_ok (by omega : chkP s l = 0)
      refine V_skip rfl ?_
      refine V_seq rfl ?_
      refine V_seq rfl ?_
      refine V_join (fun σ w => σ 1 = .slice A ts.length c ∧ σ 2 = .slice A1 l.length c1 ∧ σ 3 = .int .i64 ticks ∧ σ 4 = .pointer (some ⟨b1, 0, none⟩) ∧ σ 8 = .pointer (some ⟨b3, 0, none⟩) ∧ σ 9 = .int .i64 0 ∧ σ 43 = .bool (decide ((ticks < 0) ∨ (10000 < ticks))) ∧ σ 1000000 = undef ∧ Hp w0.heap.size w0 w [SA.cel b3 #[.slice none 0 0, .slice none 0 0, .slice none 0 0, .int .i64 0] 63, SA.cel b1 #[.int .i64 s.Wide, .int .i64 s.High, .int .i64 s.Room] 33]) ?_ (fun σ w hI => ?_)
      · skip
        refine V_region rfl ?_
        refine Rg_op rfl (o_val (v := .int .i64 ticks) (d := 38) rfl rfl (ex_move rfl) ?_)
        refine Rg_op rfl (o_val (v := .bool (decide (ticks < 0))) (d := 39) rfl rfl (ex_lss rfl rfl) ?_)
        refine Rg_op rfl (o_val (v := .bool (decide (ticks < 0))) (d := 40) rfl rfl (ex_move rfl) ?_)
        by_cases hg11 : ticks < 0
        · skip
          refine Rg_op rfl (o_skip (d := 41) rfl rfl (wanted_no (b := (decide (ticks < 0))) rfl rfl rfl (decide_eq_true hg11)) ?_)
          refine Rg_op rfl (o_skip (d := 42) rfl rfl (wanted_no (b := (decide (ticks < 0))) rfl rfl rfl (decide_eq_true hg11)) ?_)
          refine Rg_op rfl (o_val (v := .bool true) (d := 43) rfl rfl (ex_pick (q := (decide (ticks < 0))) rfl (fun h => rfl) (fun h => absurd hg11 (of_decide_eq_false h))) ?_)
          refine Rg_end ?_
          exact ⟨rfl, rfl, rfl, rfl, rfl, rfl, (show (.bool true : Value) = .bool (decide ((ticks < 0) ∨ (10000 < ticks))) from by first | (simp only [hg11, true_or, or_true, false_or, or_false, true_and, and_true, false_and, and_false, decide_true, decide_false, Bool.not_true, Bool.not_false]; done) | (simp [hg11]; done) | (simp [hg11]; rfl)), rfl, H⟩
        · skip
          refine Rg_op rfl (o_valg (v := .int .i64 ticks) (d := 41) rfl rfl (wanted_yes (b := (decide (ticks < 0))) rfl rfl rfl (decide_eq_false hg11)) (ex_move rfl) ?_)
          refine Rg_op rfl (o_valg (v := .bool (decide (10000 < ticks))) (d := 42) rfl rfl (wanted_yes (b := (decide (ticks < 0))) rfl rfl rfl (decide_eq_false hg11)) (ex_gtr rfl rfl) ?_)
          refine Rg_op rfl (o_val (v := .bool (decide (10000 < ticks))) (d := 43) rfl rfl (ex_pick (q := (decide (ticks < 0))) rfl (fun h => absurd (of_decide_eq_true h) hg11) (fun h => rfl)) ?_)
          refine Rg_end ?_
          exact ⟨rfl, rfl, rfl, rfl, rfl, rfl, (show (.bool (decide (10000 < ticks)) : Value) = .bool (decide ((ticks < 0) ∨ (10000 < ticks))) from by first | (simp only [hg11, true_or, or_true, false_or, or_false, true_and, and_true, false_and, and_false, decide_true, decide_false, Bool.not_true, Bool.not_false]; done) | (simp [hg11]; done) | (simp [hg11]; rfl)), rfl, H⟩
      obtain ⟨s1, s2, s3, s4, s8, s9, s43, s1000000, H⟩ := hI
      refine V_cond (b := (decide ((ticks < 0) ∨ (10000 < ticks)))) rfl s43 (fun hb12 => ?_) (fun hb12 => ?_)
      · have hb12 : (ticks < 0) ∨ (10000 < ticks) := of_decide_eq_true hb12
        refine V_seq rfl ?_
        refine V_region rfl ?_
        refine Rg_op rfl (o_val (v := .agg #[.slice none 0 0, .slice none 0 0, .slice none 0 0, .int .i64 0]) (d := 44) rfl rfl (ex_eq (by kernel_rfl)) ?_)
        refine Rg_op rfl (o_store (vs := [.slice none 0 0, .slice none 0 0, .slice none 0 0, .int .i64 0]) rfl ts63 s8 rfl rfl rfl 0 rfl rfl rfl rfl H fun w13 hA H => ?_)
        refine Rg_op rfl (o_val (v := .int .i64 3) (d := 9) rfl rfl (ex_assign rfl) ?_)
        refine Rg_end ?_
        have hre : runE s ts l ticks = 3 := by simp only [runE]; (repeat' split) <;> first | contradiction | rfl | (simp_all; done) | skip
        have hrp : runP s ts l ticks = ⟨[], [], [], 0⟩ := if_pos (by rw [hre]; first | assumption | decide)
        refine V_ret rfl (end0 (v := .tuple #[.agg #[.slice none 0 0, .slice none 0 0, .slice none 0 0, .int .i64 0], .int .i64 3]) s1000000 (res_ct Try.results22 s8 (load_blk (vs := [.slice none 0 0, .slice none 0 0, .slice none 0 0, .int .i64 0]) ca63 (H.rd 0 rfl) rfl rfl) rfl) ?_)
        have H := own_nil H kV2 101
        have H := own_nil H kDrp 110
        have H := own_nil H kArr 97
        have H := Hp.join (Hp.join H)
        exact ⟨none, 0, none, 0, none, 0, by rw [hrp, hre]; rfl, H.below, by rw [hrp]; exact H.give⟩
      · have hb12 : ¬ ((ticks < 0) ∨ (10000 < ticks)) := of_decide_eq_false hb12
        refine V_skip rfl ?_
        refine V_seq rfl ?_
        refine V_region rfl ?_
        refine Rg_op rfl (o_val (v := .agg #[.int .i64 s.Wide, .int .i64 s.High, .int .i64 s.Room]) (d := 45) rfl rfl (ex_loadN (vs := [.int .i64 s.Wide, .int .i64 s.High, .int .i64 s.Room]) ca33 s4 rfl (blk_cells (H.rd 1 rfl) rfl)) ?_)
        refine Rg_op rfl (o_val (v := .slice A ts.length c) (d := 46) rfl rfl (ex_move s1) ?_)
        refine Rg_op rfl (o_val (v := .slice A1 l.length c1) (d := 47) rfl rfl (ex_move s2) ?_)
        refine Rg_op rfl (o_makeMap kI.enc (Sld.val (α := Int)) rfl H fun b14 w15 hA H => ?_)
        refine Rg_op rfl (o_makeMap kPort.enc Qd.val rfl H fun b16 w17 hA H => ?_)
        refine Rg_op rfl (o_makeMap kPort.enc (fun x : Int => Value.int .i64 x) rfl H fun b18 w19 hA H => ?_)
        refine Rg_op rfl (o_val (v := .agg #[.int .i64 s.Wide, .int .i64 s.High, .int .i64 s.Room, .slice A ts.length c, .slice A1 l.length c1, .map (some b14), .map (some b16), .map (some b18), .slice none 0 0, .slice none 0 0, .slice none 0 0, .int .i64 0]) (d := 51) rfl rfl (ex_eq (by kernel_rfl)) ?_)
        refine Rg_op rfl (o_box (v := .agg #[.int .i64 s.Wide, .int .i64 s.High, .int .i64 s.Room, .slice A ts.length c, .slice A1 l.length c1, .map (some b14), .map (some b16), .map (some b18), .slice none 0 0, .slice none 0 0, .slice none 0 0, .int .i64 0]) rfl rfl H fun b20 w21 hA H => ?_)
        refine Rg_op rfl (o_val (v := .pointer (some ⟨b20, 0, none⟩)) (d := 12) rfl rfl (ex_assign rfl) ?_)
        refine Rg_end ?_
        refine V_seq rfl ?_
        refine V_region rfl ?_
        refine Rg_op rfl (o_val (v := .pointer (some ⟨b20, 0, none⟩)) (d := 53) rfl rfl (ex_move rfl) ?_)
        refine Rg_op rfl (o_val (v := .pointer (some ⟨b1, 0, none⟩)) (d := 54) rfl rfl (ex_fieldAddr fo33_0 s4 rfl) ?_)
        refine Rg_op rfl (o_val (v := .int .i64 s.Wide) (d := 55) rfl rfl (ex_load ca3 rfl (cell_of (H.rd 5 rfl))) ?_)
        refine Rg_op rfl (o_val (v := .pointer (some ⟨b1, 1, none⟩)) (d := 56) rfl rfl (ex_fieldAddr fo33_1 s4 rfl) ?_)
        refine Rg_op rfl (o_val (v := .int .i64 s.High) (d := 57) rfl rfl (ex_load ca3 rfl (cell_of (H.rd 5 rfl))) ?_)
        refine Rg_op rfl (o_val (v := .int .i64 (s.Wide * s.High)) (d := 58) rfl rfl (ex_mul rfl rfl (by omega)) ?_)
        refine Rg_op rfl (o_make (D := kV2) (z := (⟨0, 0⟩ : V2)) rfl sl61 rfl (fun _ => rfl) rfl (by omega) (by simp only []; omega) (by omega) H fun A22 c23 w24 hA H => ?_)
        refine Rg_op rfl (o_val (v := .pointer (some ⟨b20, 0, none⟩)) (d := 60) rfl rfl (ex_nilCheck rfl) ?_)
        refine Rg_op rfl (o_val (v := .pointer (some ⟨b20, 8, none⟩)) (d := 61) rfl rfl (ex_fieldAddr fo142_6 rfl rfl) ?_)
        refine Rg_op rfl (o_val (v := .pointer (some ⟨b20, 10, none⟩)) (d := 62) rfl rfl (ex_fieldAddr fo63_2 rfl rfl) ?_)
        refine Rg_op rfl (o_store (vs := [.slice A22 ((s.Wide * s.High).toNat) c23]) rfl ts61 rfl rfl rfl rfl 1 rfl rfl rfl rfl H fun w26 hA H => ?_)
        refine Rg_end ?_
        refine V_seq rfl ?_
        refine V_seq rfl ?_
        refine V_region rfl ?_
        refine Rg_op rfl (o_val (v := .slice A1 l.length c1) (d := 63) rfl rfl (ex_move s2) ?_)
        refine Rg_op rfl (o_val (v := .int .i64 ((l.length : Nat) : Int)) (d := 64) rfl rfl (ex_len (ts := #[]) sl55 rfl) ?_)
        refine Rg_op rfl (o_val (v := .int .i64 0) (d := 65) rfl rfl (ex_move rfl) ?_)
        refine Rg_end ?_
        refine V_block rfl ?_
        have H := rows_emp H kInt 3
        have H : Hp w0.heap.size w0 w26 [SA.rows kInt 3 (([] : List (Int × Sld Int)).map (·.2)), SA.cel b20 #[.int .i64 s.Wide, .int .i64 s.High, .int .i64 s.Room, .slice A ts.length c, .slice A1 l.length c1, .map (some b14), .map (some b16), .map (some b18), .slice none 0 0, .slice none 0 0, .slice A22 (((List.replicate (s.Wide * s.High).toNat (⟨0, 0⟩ : V2))).length) c23, .int .i64 0] 142, SA.own kV2 101 A22 c23 (List.replicate (s.Wide * s.High).toNat (⟨0, 0⟩ : V2)), SA.map kPort.enc (fun x : Int => Value.int .i64 x) b18 ([]), SA.map kPort.enc Qd.val b16 ([]), SA.map kI.enc (Sld.val (α := Int)) b14 ([]), SA.cel b3 #[.slice none 0 0, .slice none 0 0, .slice none 0 0, .int .i64 0] 63, SA.cel b1 #[.int .i64 s.Wide, .int .i64 s.High, .int .i64 s.Room] 33] := by rw [List.length_replicate]; exact H
        refine V_loop rfl (γ := Nat) (fun i σ w => ∃ (kvS : List (Int × Sld Int)), σ 1 = .slice A ts.length c ∧ σ 3 = .int .i64 ticks ∧ σ 8 = .pointer (some ⟨b3, 0, none⟩) ∧ σ 9 = .int .i64 0 ∧ σ 12 = .pointer (some ⟨b20, 0, none⟩) ∧ σ 63 = .slice A1 l.length c1 ∧ σ 64 = .int .i64 ((l.length : Nat) : Int) ∧ σ 65 = .int .i64 ((i : Nat) : Int) ∧ σ 1000000 = undef ∧ Hp w0.heap.size w0 w [SA.rows kInt 3 (kvS.map (·.2)), SA.cel b20 #[.int .i64 s.Wide, .int .i64 s.High, .int .i64 s.Room, .slice A ts.length c, .slice A1 l.length c1, .map (some b14), .map (some b16), .map (some b18), .slice none 0 0, .slice none 0 0, .slice A22 (((List.replicate (s.Wide * s.High).toNat (⟨0, 0⟩ : V2))).length) c23, .int .i64 0] 142, SA.own kV2 101 A22 c23 (List.replicate (s.Wide * s.High).toNat (⟨0, 0⟩ : V2)), SA.map kPort.enc (fun x : Int => Value.int .i64 x) b18 ([]), SA.map kPort.enc Qd.val b16 ([]), SA.map kI.enc (Sld.val (α := Int)) b14 kvS, SA.cel b3 #[.slice none 0 0, .slice none 0 0, .slice none 0 0, .int .i64 0] 63, SA.cel b1 #[.int .i64 s.Wide, .int .i64 s.High, .int .i64 s.Room] 33] ∧ i ≤ l.length ∧ (∀ t, (lkS t kvS).xs = sendsN l i t)) (fun i => l.length - i) (0) ⟨[], s1, s3, s8, s9, rfl, rfl, rfl, rfl, s1000000, H, by omega, fun t => rfl⟩ (fun i σ w hI => ?_)
        obtain ⟨kvS, hI⟩ := hI
        obtain ⟨s1, s3, s8, s9, s12, s63, s64, s65, s1000000, H, hi, hkS⟩ := hI
        refine V_seq rfl ?_
        refine V_region rfl ?_
        refine Rg_op rfl (o_val (v := .bool (decide (((i : Nat) : Int) < ((l.length : Nat) : Int)))) (d := 66) rfl rfl (ex_lss s65 s64) ?_)
        refine Rg_end ?_
        refine V_seq rfl ?_
        refine V_cond (b := (decide (((i : Nat) : Int) < ((l.length : Nat) : Int)))) rfl rfl (fun hb27 => ?_) (fun hb27 => ?_)
        · have hb27 : ((i : Nat) : Int) < ((l.length : Nat) : Int) := of_decide_eq_true hb27
          refine V_skip rfl ?_
          refine V_seq rfl ?_
          refine V_block rfl ?_
          refine V_seq rfl ?_
          refine V_region rfl ?_
          refine Rg_op rfl (o_val (v := .int .i64 ((i : Nat) : Int)) (d := 67) rfl rfl (ex_move s65) ?_)
          obtain ⟨ad28, x28, cs28, hA28, hx28, hR28, hc28⟩ := Row.get hY ((i : Nat) : Int) ((by first | omega | (simp only [List.length_cons, List.length_nil]; omega))) ((by first | omega | (simp only [List.length_cons, List.length_nil]; omega)))
          obtain rfl := hR28
          refine Rg_op rfl (o_val (v := .pointer (some (ad28.add ((((i : Nat) : Int)).toNat * 4)))) (d := 68) rfl rfl (ex_indexAddr sl55 s63 hA28 s65 ((by first | omega | (simp only [List.length_cons, List.length_nil]; omega))) ((by first | omega | (simp only [List.length_cons, List.length_nil]; omega))) rfl) ?_)
          refine Rg_op rfl (o_val (v := .agg #[.int .i64 x28.Tick, .int .i64 x28.Source, .int .i64 x28.Key, .int .i64 x28.Class]) (d := 69) rfl rfl (ex_loadN (vs := [.int .i64 x28.Tick, .int .i64 x28.Source, .int .i64 x28.Key, .int .i64 x28.Class]) ca58 rfl rfl (fun j u hj => by rw [add_add]; exact H.cell0 (hc28 j u hj))) ?_)
          refine Rg_op rfl (o_alloc rfl tz58 H fun b29 w30 hA H => ?_)
          have H := H.pull 1 rfl rfl
          have H := lk_out x28.Tick H
          have hln9 : (lkS x28.Tick kvS).xs.length ≤ 1024 := by rw [hkS]; have := sendsN_len l i x28.Tick; omega
          refine Rg_op rfl (o_val (v := .int .i64 ((i : Nat) : Int)) (d := 13) rfl rfl (ex_assign rfl) ?_)
          refine Rg_op rfl (o_store (vs := [.int .i64 x28.Tick, .int .i64 x28.Source, .int .i64 x28.Key, .int .i64 x28.Class]) rfl ts58 rfl rfl rfl rfl 2 rfl rfl rfl rfl H fun w31 hA H => ?_)
          refine Rg_end ?_
          have hloD := own_lo (H.pull 1 rfl rfl)
          have hne_b29 := own_ne ((H.pull 0 rfl rfl).pull 1 rfl rfl)
          have hne_b20 := own_ne ((H.pull 3 rfl rfl).pull 2 rfl rfl)
          have hnm_mc := own_nem ((H.pull 5 rfl rfl).pull 2 rfl rfl)
          have hnm_mq := own_nem ((H.pull 6 rfl rfl).pull 2 rfl rfl)
          have hnm_ms := own_nem ((H.pull 7 rfl rfl).pull 2 rfl rfl)
          have hne_b3 := own_ne ((H.pull 8 rfl rfl).pull 2 rfl rfl)
          have hne_b1 := own_ne ((H.pull 9 rfl rfl).pull 2 rfl rfl)
          refine V_draw [0, 1, 2, 4, 6, 7, 8, 10, 13] (.p 0 (.p 1 (.p 2 (.q 3 (.p 4 (.q 5 (.p 6 (.p 7 (.p 8 (.q 9 (.p 10 (.q 11 (.q 12 (.p 13 (.l 14 (.l 15 (.l 16 .done))))))))))))))))) (fun b => ∃ a, (lkS x28.Tick kvS).A = some a ∧ a.block = b) rfl mixed (by kernel_rfl) fun w32 hD => ?_
          have H := H.drew hD
          refine c_p (v := .pointer (some ⟨b20, 0, none⟩)) (d := 70) rfl rfl rfl (fun w' => ex_move s12) ?_
          refine c_p (v := .pointer (some ⟨b20, 0, none⟩)) (d := 71) rfl rfl rfl (fun w' => ex_nilCheck rfl) ?_
          refine c_p (v := .pointer (some ⟨b20, 5, none⟩)) (d := 72) rfl rfl rfl (fun w' => ex_fieldAddr fo142_3 rfl rfl) ?_
          refine c_q (v := .map (some b14)) (d := 73) rfl rfl rfl (fun w' hG => ex_load ca119 rfl (hG.cell (cell_of (H.rd 3 rfl)) (fun ⟨a, h1, h2⟩ => hne_b20 a h1 h2))) ?_
          refine c_p (v := .pointer (some ⟨b29, 0, none⟩)) (d := 74) rfl rfl rfl (fun w' => ex_fieldAddr fo58_0 rfl rfl) ?_
          refine c_q (v := .int .i64 x28.Tick) (d := 75) rfl rfl rfl (fun w' hG => ex_load ca3 rfl (hG.cell (cell_of (H.rd 0 rfl)) (fun ⟨a, h1, h2⟩ => hne_b29 a h1 h2))) ?_
          refine c_p (v := .pointer (some ⟨b20, 0, none⟩)) (d := 76) rfl rfl rfl (fun w' => ex_move s12) ?_
          refine c_p (v := .pointer (some ⟨b20, 0, none⟩)) (d := 77) rfl rfl rfl (fun w' => ex_nilCheck rfl) ?_
          refine c_p (v := .pointer (some ⟨b20, 5, none⟩)) (d := 78) rfl rfl rfl (fun w' => ex_fieldAddr fo142_3 rfl rfl) ?_
          refine c_q (v := .map (some b14)) (d := 79) rfl rfl rfl (fun w' hG => ex_load ca119 rfl (hG.cell (cell_of (H.rd 3 rfl)) (fun ⟨a, h1, h2⟩ => hne_b20 a h1 h2))) ?_
          refine c_p (v := .pointer (some ⟨b29, 0, none⟩)) (d := 80) rfl rfl rfl (fun w' => ex_fieldAddr fo58_0 rfl rfl) ?_
          refine c_q (v := .int .i64 x28.Tick) (d := 81) rfl rfl rfl (fun w' hG => ex_load ca3 rfl (hG.cell (cell_of (H.rd 0 rfl)) (fun ⟨a, h1, h2⟩ => hne_b29 a h1 h2))) ?_
          refine c_q (v := .slice ((lkS x28.Tick kvS).A) ((lkS x28.Tick kvS).xs.length) ((lkS x28.Tick kvS).c)) (d := 82) rfl rfl rfl (fun w' hG => by rw [show (Value.slice ((lkS x28.Tick kvS).A) ((lkS x28.Tick kvS).xs.length) ((lkS x28.Tick kvS).c) : Value) = ((mget x28.Tick kvS).map (Sld.val (α := Int))).getD (.slice none 0 0) from get_sld.symm]; exact ex_lookup (k := x28.Tick) mt119 kI rfl rfl ((H.mapAt 7 rfl).agr hG (fun ⟨a, h1, h2⟩ => hnm_ms a h1 h2))) ?_
          refine c_p (v := .int .i64 ((i : Nat) : Int)) (d := 83) rfl rfl rfl (fun w' => ex_move rfl) ?_
          refine c_l rfl (o_lit (cs := [.int .i64 ((i : Nat) : Int)]) (e := 3) rfl (fun W => by kernel_rfl) H fun b33 w34 hA H => ⟨.inr (Below.agr hA), ?_⟩)
          have H := H.pull 2 rfl rfl
          refine c_l rfl (o_append (ys := [((i : Nat) : Int)]) (ts := #[]) rfl sl26 rfl rfl rfl H (row_lit1 (z := ((i : Nat) : Int)) (H.rd 1 rfl) rfl) (by first | omega | (simp only [List.length_append, List.length_cons, List.length_nil, List.length_map, List.length_take]; omega)) (by first | omega | (simp only [List.length_append, List.length_cons, List.length_nil, List.length_map, List.length_take]; omega)) fun A35 c36 w37 hA H => ⟨.inr hA, ?_⟩)
          have H := (H.pull 1 rfl rfl).drop
          have H := H.pull 7 rfl rfl
          refine c_l rfl (o_mapUpdate (k := x28.Tick) (v := (⟨A35, c36, ((lkS x28.Tick kvS).xs ++ [((i : Nat) : Int)])⟩ : Sld Int)) rfl mt119 kI rfl rfl rfl H fun w39 hA H => ⟨.inl (by kernel_rfl), ?_⟩)
          refine c_done ?_
          refine V_region rfl ?_
          refine Rg_op rfl (o_val (v := .int .i64 (((i : Nat) : Int) + 1)) (d := 86) rfl rfl (ex_add s65 rfl (by omega)) ?_)
          refine Rg_op rfl (o_val (v := .int .i64 (((i : Nat) : Int) + 1)) (d := 65) rfl rfl (ex_move rfl) ?_)
          refine Rg_end ?_
          have H := H.pull 3 rfl rfl
          have H := H.pull 2 rfl rfl
          have H := lk_in' (k := x28.Tick) (kv := kvS) (⟨A35, c36, (lkS x28.Tick kvS).xs ++ [((i : Nat) : Int)]⟩ : Sld Int) H
          have hkS9 : ∀ t, (lkS t (mput x28.Tick (⟨A35, c36, (lkS x28.Tick kvS).xs ++ [((i : Nat) : Int)]⟩ : Sld Int) kvS)).xs = sendsN l (i + 1) t := fun t => by rw [lk_mput, sends_next (x := x28) (show l[i]? = some _ from hx28)]; exact if h9 : t = x28.Tick then (by rw [if_pos h9, if_pos h9, h9]; show (lkS x28.Tick kvS).xs ++ [((i : Nat) : Int)] = _; rw [hkS]) else (by rw [if_neg h9, if_neg h9]; exact hkS t)
          exact ⟨i + 1, ⟨(mput x28.Tick (⟨A35, c36, (lkS x28.Tick kvS).xs ++ [((i : Nat) : Int)]⟩ : Sld Int) kvS), s1, s3, s8, s9, s12, s63, s64, rfl, s1000000, (Hp.pull 7 rfl rfl (Hp.pull 7 rfl rfl (Hp.pull 7 rfl rfl (Hp.pull 7 rfl rfl (Hp.pull 7 rfl rfl (Hp.pull 3 rfl rfl (Hp.pull 7 rfl rfl (Hp.pull 7 rfl rfl (Hp.drop (Hp.pull 2 rfl rfl H)))))))))), by omega, hkS9⟩, by omega⟩
        · have hb27 : ¬ (((i : Nat) : Int) < ((l.length : Nat) : Int)) := of_decide_eq_false hb27
          refine V_exit rfl ?_
          refine V_seq rfl ?_
          refine V_seq rfl ?_
          refine V_region rfl ?_
          refine Rg_op rfl (o_val (v := .int .i64 ticks) (d := 87) rfl rfl (ex_move s3) ?_)
          refine Rg_op rfl (o_val (v := .int .i64 0) (d := 88) rfl rfl (ex_move rfl) ?_)
          refine Rg_end ?_
          refine V_block rfl ?_
          have H := own_nil H kArr 97
          have H := own_nil H kDrp 110
          have H : Hp w0.heap.size w0 w (SA.queues [] :: [SA.own kDrp 110 none 0 ([]), SA.own kArr 97 none 0 ([]), SA.rows kInt 3 (kvS.map (·.2)), SA.cel b20 #[.int .i64 s.Wide, .int .i64 s.High, .int .i64 s.Room, .slice A ts.length c, .slice A1 l.length c1, .map (some b14), .map (some b16), .map (some b18), .slice none 0 0, .slice none 0 0, .slice A22 (((List.replicate (s.Wide * s.High).toNat (⟨0, 0⟩ : V2))).length) c23, .int .i64 0] 142, SA.own kV2 101 A22 c23 (List.replicate (s.Wide * s.High).toNat (⟨0, 0⟩ : V2)), SA.map kPort.enc (fun x : Int => Value.int .i64 x) b18 ([]), SA.map kPort.enc Qd.val b16 ([]), SA.map kI.enc (Sld.val (α := Int)) b14 kvS, SA.cel b3 #[.slice none 0 0, .slice none 0 0, .slice none 0 0, .int .i64 0] 63, SA.cel b1 #[.int .i64 s.Wide, .int .i64 s.High, .int .i64 s.Room] 33]) := emp_in H
          have hSb : ∀ (t p : Int), p ∈ (lkS t kvS).xs → 0 ≤ p ∧ p < l.length := fun t p hp => by rw [hkS] at hp; have := sends_mem hp; omega
          rw [show i = l.length from by omega] at hkS
          refine V_loop rfl (γ := Nat) (fun k σ w => ∃ (e : RS) (kvQ : List (Port × Qd)) (kvC : List (Port × Int)) (Aa Ad : Option Addr) (ca cd : Nat), σ 1 = .slice A ts.length c ∧ σ 8 = .pointer (some ⟨b3, 0, none⟩) ∧ σ 9 = .int .i64 0 ∧ σ 12 = .pointer (some ⟨b20, 0, none⟩) ∧ σ 87 = .int .i64 ticks ∧ σ 88 = .int .i64 ((k : Nat) : Int) ∧ σ 1000000 = undef ∧ Hp w0.heap.size w0 w [SA.queues kvQ, SA.own kDrp 110 Ad cd e.dr, SA.own kArr 97 Aa ca e.ar, SA.rows kInt 3 (kvS.map (·.2)), SA.cel b20 #[.int .i64 s.Wide, .int .i64 s.High, .int .i64 s.Room, .slice A ts.length c, .slice A1 l.length c1, .map (some b14), .map (some b16), .map (some b18), .slice Aa e.ar.length ca, .slice Ad e.dr.length cd, .slice A22 e.mo.length c23, .int .i64 0] 142, SA.own kV2 101 A22 c23 e.mo, SA.map kPort.enc (fun x : Int => Value.int .i64 x) b18 kvC, SA.map kPort.enc Qd.val b16 kvQ, SA.map kI.enc (Sld.val (α := Int)) b14 kvS, SA.cel b3 #[.slice none 0 0, .slice none 0 0, .slice none 0 0, .int .i64 0] 63, SA.cel b1 #[.int .i64 s.Wide, .int .i64 s.High, .int .i64 s.Room] 33] ∧ ((k : Nat) : Int) ≤ ticks ∧ e = runN s ts l k ∧ e.Q = qf kvQ ∧ e.C = cf kvC ∧ (kvQ.map (·.1)).Nodup ∧ (kvC.map (·.1)).Nodup ∧ (∀ k ∈ kvQ.map (·.1), portOk s k) ∧ (∀ k ∈ kvC.map (·.1), comOk s k) ∧ shortQ s e.Q ∧ leadQ s e.Q ∧ e.mo.length = nR s ∧ e.dr.length ≤ 328960 * k ∧ e.ar.length ≤ 320 * k) (fun k => ticks.toNat - k) (0) ⟨startR s, [], [], none, none, 0, 0, s1, s8, s9, s12, rfl, rfl, s1000000, H, by omega, rfl, rfl, rfl, List.nodup_nil, List.nodup_nil, by simp, by simp, fun k => by simp only [startR, List.length_nil]; omega, fun k h => absurd rfl h, by simp [startR], by simp [startR], by simp [startR]⟩ (fun k σ w hI => ?_)
          obtain ⟨e, kvQ, kvC, Aa, Ad, ca, cd, hI⟩ := hI
          obtain ⟨s1, s8, s9, s12, s87, s88, s1000000, H, hk, he, hQ, hC, hnQ, hnC, hpQ, hpC, hsh, hld, hml, hdl, hal⟩ := hI
          refine V_seq rfl ?_
          refine V_region rfl ?_
          refine Rg_op rfl (o_val (v := .bool (decide (((k : Nat) : Int) < ticks))) (d := 89) rfl rfl (ex_lss s88 s87) ?_)
          refine Rg_end ?_
          refine V_seq rfl ?_
          refine V_cond (b := (decide (((k : Nat) : Int) < ticks))) rfl rfl (fun hb40 => ?_) (fun hb40 => ?_)
          · have hb40 : ((k : Nat) : Int) < ticks := of_decide_eq_true hb40
            refine V_skip rfl ?_
            refine V_seq rfl ?_
            refine V_block rfl ?_
            refine V_seq rfl ?_
            refine V_region rfl ?_
            refine Rg_op rfl (o_val (v := .int .i64 ((k : Nat) : Int)) (d := 90) rfl rfl (ex_move s88) ?_)
            refine Rg_op rfl (o_val (v := .int .i64 ((k : Nat) : Int)) (d := 15) rfl rfl (ex_assign rfl) ?_)
            refine Rg_end ?_
            refine V_seq rfl ?_
            refine V_seq rfl ?_
            refine V_region rfl ?_
            refine Rg_op rfl (o_val (v := .slice A ts.length c) (d := 91) rfl rfl (ex_move s1) ?_)
            refine Rg_op rfl (o_val (v := .int .i64 ((ts.length : Nat) : Int)) (d := 92) rfl rfl (ex_len (ts := #[]) sl29 rfl) ?_)
            refine Rg_op rfl (o_val (v := .int .i64 0) (d := 93) rfl rfl (ex_move rfl) ?_)
            refine Rg_end ?_
            refine V_block rfl ?_
            refine V_loop rfl (γ := Nat) (fun r σ w => ∃ (e : RS) (kvQ : List (Port × Qd)) (kvC : List (Port × Int)) (Aa Ad : Option Addr) (ca cd : Nat), σ 1 = .slice A ts.length c ∧ σ 8 = .pointer (some ⟨b3, 0, none⟩) ∧ σ 9 = .int .i64 0 ∧ σ 12 = .pointer (some ⟨b20, 0, none⟩) ∧ σ 15 = .int .i64 ((k : Nat) : Int) ∧ σ 87 = .int .i64 ticks ∧ σ 88 = .int .i64 ((k : Nat) : Int) ∧ σ 89 = .bool (decide (((k : Nat) : Int) < ticks)) ∧ σ 90 = .int .i64 ((k : Nat) : Int) ∧ σ 91 = .slice A ts.length c ∧ σ 92 = .int .i64 ((ts.length : Nat) : Int) ∧ σ 93 = .int .i64 ((r : Nat) : Int) ∧ σ 1000000 = undef ∧ Hp w0.heap.size w0 w [SA.queues kvQ, SA.own kDrp 110 Ad cd e.dr, SA.own kArr 97 Aa ca e.ar, SA.rows kInt 3 (kvS.map (·.2)), SA.cel b20 #[.int .i64 s.Wide, .int .i64 s.High, .int .i64 s.Room, .slice A ts.length c, .slice A1 l.length c1, .map (some b14), .map (some b16), .map (some b18), .slice Aa e.ar.length ca, .slice Ad e.dr.length cd, .slice A22 e.mo.length c23, .int .i64 0] 142, SA.own kV2 101 A22 c23 e.mo, SA.map kPort.enc (fun x : Int => Value.int .i64 x) b18 kvC, SA.map kPort.enc Qd.val b16 kvQ, SA.map kI.enc (Sld.val (α := Int)) b14 kvS, SA.cel b3 #[.slice none 0 0, .slice none 0 0, .slice none 0 0, .int .i64 0] 63, SA.cel b1 #[.int .i64 s.Wide, .int .i64 s.High, .int .i64 s.Room] 33] ∧ r ≤ ts.length ∧ e = entersR s ts l k (runN s ts l k) r ∧ e.Q = qf kvQ ∧ e.C = cf kvC ∧ (kvQ.map (·.1)).Nodup ∧ (kvC.map (·.1)).Nodup ∧ (∀ k ∈ kvQ.map (·.1), portOk s k) ∧ (∀ k ∈ kvC.map (·.1), comOk s k) ∧ shortQ s e.Q ∧ leadQ s e.Q ∧ e.mo.length = nR s ∧ e.dr.length ≤ 328960 * k + 5140 * r ∧ e.ar.length ≤ 320 * k) (fun r => ts.length - r) (0) ⟨e, kvQ, kvC, Aa, Ad, ca, cd, s1, s8, s9, s12, rfl, s87, s88, rfl, rfl, rfl, rfl, rfl, s1000000, H, by omega, he, hQ, hC, hnQ, hnC, hpQ, hpC, hsh, hld, hml, by omega, by omega⟩ (fun r σ w hI => ?_)
            obtain ⟨e, kvQ, kvC, Aa, Ad, ca, cd, hI⟩ := hI
            obtain ⟨s1, s8, s9, s12, s15, s87, s88, s89, s90, s91, s92, s93, s1000000, H, hr, he, hQ, hC, hnQ, hnC, hpQ, hpC, hsh, hld, hml, hdl, hal⟩ := hI
            refine V_seq rfl ?_
            refine V_region rfl ?_
            refine Rg_op rfl (o_val (v := .bool (decide (((r : Nat) : Int) < ((ts.length : Nat) : Int)))) (d := 94) rfl rfl (ex_lss s93 s92) ?_)
            refine Rg_end ?_
            refine V_seq rfl ?_
            refine V_cond (b := (decide (((r : Nat) : Int) < ((ts.length : Nat) : Int)))) rfl rfl (fun hb41 => ?_) (fun hb41 => ?_)
            · have hb41 : ((r : Nat) : Int) < ((ts.length : Nat) : Int) := of_decide_eq_true hb41
              refine V_skip rfl ?_
              refine V_seq rfl ?_
              refine V_block rfl ?_
              refine V_seq rfl ?_
              refine V_region rfl ?_
              refine Rg_op rfl (o_val (v := .int .i64 ((r : Nat) : Int)) (d := 95) rfl rfl (ex_move s93) ?_)
              refine Rg_op rfl (o_val (v := .int .i64 ((r : Nat) : Int)) (d := 16) rfl rfl (ex_assign rfl) ?_)
              refine Rg_end ?_
              refine V_seq rfl ?_
              refine V_region rfl ?_
              refine Rg_op rfl (o_val (v := .pointer (some ⟨b20, 0, none⟩)) (d := 96) rfl rfl (ex_move s12) ?_)
              refine Rg_op rfl (o_val (v := .int .i64 ((k : Nat) : Int)) (d := 97) rfl rfl (ex_move s15) ?_)
              refine Rg_op rfl (o_val (v := .int .i64 ((r : Nat) : Int)) (d := 98) rfl rfl (ex_move rfl) ?_)
              refine Rg_op rfl (o_call (fv := []) (cap := []) (vs := [.pointer (some ⟨b20, 0, none⟩), .int .i64 ((k : Nat) : Int), .int .i64 ((r : Nat) : Int)]) rfl rfl cl61 rfl (entering_c b20 ((k : Nat) : Int) ((r : Nat) : Int) _) fun v w46 hS => ?_)
              obtain ⟨b42, b43, b44, rfl, hB, hN⟩ := hS
              have H := ((H.new hB hN).split).split
              have H := H.pull 6 rfl rfl
              have H := H.pull 11 rfl rfl
              have H := H.pull 10 rfl rfl
              have H := H.pull 9 rfl rfl
              have H := H.pull 6 rfl rfl
              have H := H.pull 6 rfl rfl
              have H := H.pull 6 rfl rfl
              have H := H.join
              have H := H.join
              have H := H.join
              have H := H.join
              have H := H.join
              have H := H.join
              refine Rg_op rfl (o_call (fv := []) (cap := []) (vs := [.func (.func 87) #[] #[.pointer (some ⟨b42, 0, none⟩), .pointer (some ⟨b43, 0, none⟩), .pointer (some ⟨b44, 0, none⟩)]]) rfl rfl cl60 rfl (collect_c _ _ _ _  87 [] [.pointer (some ⟨b42, 0, none⟩), .pointer (some ⟨b43, 0, none⟩), .pointer (some ⟨b44, 0, none⟩)] (comL (cf kvC) ((r : Nat) : Int) ++ sndL l (lkS ((k : Nat) : Int) kvS).xs ((r : Nat) : Int)) _ _ H (enterIter_c w0.heap.size w0 b20 b18 b14 b42 b43 b44 #[.int .i64 s.Wide, .int .i64 s.High, .int .i64 s.Room, .slice A ts.length c, .slice A1 l.length c1, .map (some b14), .map (some b16), .map (some b18), .slice Aa e.ar.length ca, .slice Ad e.dr.length cd, .slice A22 e.mo.length c23, .int .i64 0] kvC kvS A1 c1 l ((k : Nat) : Int) ((r : Nat) : Int) rfl hY rfl rfl rfl hnC hSb (by rw [hkS]; have := sendsN_len l l.length ((k : Nat) : Int); omega)) cl87 (by have h1 := entsOf_len l (cf kvC) k r; rw [entsOf, sendsOf, ← hkS] at h1; omega)) fun v w50 hS => ?_)
              obtain ⟨A47, c48, rfl, H⟩ := hS
              have H := H.pull 1 rfl rfl
              have H := H.split
              have H := H.split
              have H := H.split
              refine Rg_op rfl (o_val (v := .int .i64 (((comL (cf kvC) ((r : Nat) : Int) ++ sndL l (lkS ((k : Nat) : Int) kvS).xs ((r : Nat) : Int)).length : Nat) : Int)) (d := 101) rfl rfl (ex_len (ts := #[]) sl26 rfl) ?_)
              refine Rg_op rfl (o_val (v := .int .i64 0) (d := 102) rfl rfl (ex_move rfl) ?_)
              refine Rg_end ?_
              refine V_block rfl ?_
              obtain ⟨tab, htb⟩ : ∃ tab, ts[r]? = some tab := ⟨_, List.getElem?_eq_getElem (by omega)⟩
              have htab9 := hT2 tab (List.mem_of_getElem? htb)
              have hin9 : InR l.length e := by rw [he]; exact entersR_in (runN_in s ts l k) r
              have hPb : ∀ p ∈ (comL (cf kvC) ((r : Nat) : Int) ++ sndL l (lkS ((k : Nat) : Int) kvS).xs ((r : Nat) : Int)), 0 ≤ p ∧ p < l.length := by have h9 := ents_in (t := k) (r := r) hin9.2; rw [entsOf, sendsOf, ← hkS, hC] at h9; exact h9
              have hpl9 : ((comL (cf kvC) ((r : Nat) : Int) ++ sndL l (lkS ((k : Nat) : Int) kvS).xs ((r : Nat) : Int))).length ≤ 1028 := by have h1 := entsOf_len l (cf kvC) k r; rw [entsOf, sendsOf, ← hkS] at h1; omega
              refine V_loop rfl (γ := Nat) (fun i σ w => ∃ (x : ES) (kvQ : List (Port × Qd)) (Ad : Option Addr) (cd : Nat), σ 1 = .slice A ts.length c ∧ σ 8 = .pointer (some ⟨b3, 0, none⟩) ∧ σ 9 = .int .i64 0 ∧ σ 12 = .pointer (some ⟨b20, 0, none⟩) ∧ σ 15 = .int .i64 ((k : Nat) : Int) ∧ σ 16 = .int .i64 ((r : Nat) : Int) ∧ σ 87 = .int .i64 ticks ∧ σ 88 = .int .i64 ((k : Nat) : Int) ∧ σ 89 = .bool (decide (((k : Nat) : Int) < ticks)) ∧ σ 90 = .int .i64 ((k : Nat) : Int) ∧ σ 91 = .slice A ts.length c ∧ σ 92 = .int .i64 ((ts.length : Nat) : Int) ∧ σ 93 = .int .i64 ((r : Nat) : Int) ∧ σ 94 = .bool (decide (((r : Nat) : Int) < ((ts.length : Nat) : Int))) ∧ σ 95 = .int .i64 ((r : Nat) : Int) ∧ σ 96 = .pointer (some ⟨b20, 0, none⟩) ∧ σ 97 = .int .i64 ((k : Nat) : Int) ∧ σ 98 = .int .i64 ((r : Nat) : Int) ∧ σ 99 = .func (.func 87) #[] #[.pointer (some ⟨b42, 0, none⟩), .pointer (some ⟨b43, 0, none⟩), .pointer (some ⟨b44, 0, none⟩)] ∧ σ 100 = .slice A47 ((comL (cf kvC) ((r : Nat) : Int) ++ sndL l (lkS ((k : Nat) : Int) kvS).xs ((r : Nat) : Int)).length) c48 ∧ σ 101 = .int .i64 (((comL (cf kvC) ((r : Nat) : Int) ++ sndL l (lkS ((k : Nat) : Int) kvS).xs ((r : Nat) : Int)).length : Nat) : Int) ∧ σ 102 = .int .i64 ((i : Nat) : Int) ∧ σ 1000000 = undef ∧ Hp w0.heap.size w0 w [SA.cel b20 #[.int .i64 s.Wide, .int .i64 s.High, .int .i64 s.Room, .slice A ts.length c, .slice A1 l.length c1, .map (some b14), .map (some b16), .map (some b18), .slice Aa e.ar.length ca, .slice Ad x.dr.length cd, .slice A22 x.mo.length c23, .int .i64 0] 142, SA.map kPort.enc (fun x : Int => Value.int .i64 x) b18 (delN kvC ((r : Nat) : Int) 4), SA.map kI.enc (Sld.val (α := Int)) b14 kvS, SA.rows kInt 3 (kvS.map (·.2)), SA.own kInt 3 A47 c48 (comL (cf kvC) ((r : Nat) : Int) ++ sndL l (lkS ((k : Nat) : Int) kvS).xs ((r : Nat) : Int)), SA.queues kvQ, SA.own kDrp 110 Ad cd x.dr, SA.own kArr 97 Aa ca e.ar, SA.own kV2 101 A22 c23 x.mo, SA.map kPort.enc Qd.val b16 kvQ, SA.cel b3 #[.slice none 0 0, .slice none 0 0, .slice none 0 0, .int .i64 0] 63, SA.cel b1 #[.int .i64 s.Wide, .int .i64 s.High, .int .i64 s.Room] 33] ∧ i ≤ ((comL (cf kvC) ((r : Nat) : Int) ++ sndL l (lkS ((k : Nat) : Int) kvS).xs ((r : Nat) : Int))).length ∧ x = enterN s tab l k r ⟨e.Q, e.dr, e.mo⟩ (List.take i (comL (cf kvC) ((r : Nat) : Int) ++ sndL l (lkS ((k : Nat) : Int) kvS).xs ((r : Nat) : Int))) ∧ x.Q = qf kvQ ∧ OkE s (nR s) x ∧ (kvQ.map (·.1)).Nodup ∧ (∀ k ∈ kvQ.map (·.1), portOk s k) ∧ x.dr.length ≤ 328960 * k + 5140 * r + 5 * i) (fun i => ((comL (cf kvC) ((r : Nat) : Int) ++ sndL l (lkS ((k : Nat) : Int) kvS).xs ((r : Nat) : Int))).length - i) (0) ⟨⟨e.Q, e.dr, e.mo⟩, kvQ, Ad, cd, s1, s8, s9, s12, s15, rfl, s87, s88, s89, s90, s91, s92, s93, rfl, rfl, rfl, rfl, rfl, rfl, rfl, rfl, rfl, s1000000, H, by omega, rfl, hQ, ⟨hsh, hld, hml⟩, hnQ, hpQ, by simp only []; omega⟩ (fun i σ w hI => ?_)
              obtain ⟨x, kvQ, Ad, cd, hI⟩ := hI
              obtain ⟨s1, s8, s9, s12, s15, s16, s87, s88, s89, s90, s91, s92, s93, s94, s95, s96, s97, s98, s99, s100, s101, s102, s1000000, H, hi, hx, hxQ, hxo, hnQ, hpQ, hxl⟩ := hI
              refine V_seq rfl ?_
              refine V_region rfl ?_
              refine Rg_op rfl (o_val (v := .bool (decide (((i : Nat) : Int) < (((comL (cf kvC) ((r : Nat) : Int) ++ sndL l (lkS ((k : Nat) : Int) kvS).xs ((r : Nat) : Int)).length : Nat) : Int)))) (d := 103) rfl rfl (ex_lss s102 s101) ?_)
              refine Rg_end ?_
              refine V_seq rfl ?_
              refine V_cond (b := (decide (((i : Nat) : Int) < (((comL (cf kvC) ((r : Nat) : Int) ++ sndL l (lkS ((k : Nat) : Int) kvS).xs ((r : Nat) : Int)).length : Nat) : Int)))) rfl rfl (fun hb51 => ?_) (fun hb51 => ?_)
              · have hb51 : ((i : Nat) : Int) < (((comL (cf kvC) ((r : Nat) : Int) ++ sndL l (lkS ((k : Nat) : Int) kvS).xs ((r : Nat) : Int)).length : Nat) : Int) := of_decide_eq_true hb51
                refine V_skip rfl ?_
                refine V_seq rfl ?_
                refine V_block rfl ?_
                refine V_seq rfl ?_
                refine V_region rfl ?_
                have hr52 := (own_row (H.pull 4 rfl rfl)).1
                obtain ⟨ad53, x53, cs53, hA53, hx53, hR53, hc53⟩ := Row.get hr52 ((i : Nat) : Int) ((by first | omega | (simp only [List.length_cons, List.length_nil]; omega))) ((by first | omega | (simp only [List.length_cons, List.length_nil]; omega)))
                obtain rfl := hR53
                refine Rg_op rfl (o_val (v := .pointer (some (ad53.add ((((i : Nat) : Int)).toNat * 1)))) (d := 104) rfl rfl (ex_indexAddr sl26 s100 hA53 s102 ((by first | omega | (simp only [List.length_cons, List.length_nil]; omega))) ((by first | omega | (simp only [List.length_cons, List.length_nil]; omega))) rfl) ?_)
                refine Rg_op rfl (o_val (v := .int .i64 x53) (d := 105) rfl rfl (ex_load ca3 rfl (hc53 0 _ rfl)) ?_)
                refine Rg_op rfl (o_val (v := .int .i64 x53) (d := 18) rfl rfl (ex_assign rfl) ?_)
                refine Rg_end ?_
                refine V_region rfl ?_
                refine Rg_op rfl (o_val (v := .pointer (some ⟨b20, 0, none⟩)) (d := 106) rfl rfl (ex_move s12) ?_)
                refine Rg_op rfl (o_val (v := .int .i64 ((k : Nat) : Int)) (d := 107) rfl rfl (ex_move s15) ?_)
                refine Rg_op rfl (o_val (v := .int .i64 ((r : Nat) : Int)) (d := 108) rfl rfl (ex_move s16) ?_)
                refine Rg_op rfl (o_val (v := .int .i64 x53) (d := 109) rfl rfl (ex_move rfl) ?_)
                have H := H.pull 8 rfl rfl
                have H := H.pull 7 rfl rfl
                have H := H.pull 7 rfl rfl
                have H := H.pull 9 rfl rfl
                have H := H.pull 4 rfl rfl
                obtain ⟨h0p, h1p⟩ := hPb x53 (List.mem_of_getElem? hx53)
                obtain ⟨pk, hpk⟩ : ∃ pk, l[x53.toNat]? = some pk := ⟨_, List.getElem?_eq_getElem (by omega)⟩
                refine Rg_op rfl (o_call (fv := []) (cap := []) (vs := [.pointer (some ⟨b20, 0, none⟩), .int .i64 ((k : Nat) : Int), .int .i64 ((r : Nat) : Int), .int .i64 x53]) rfl rfl cl62 rfl (enter_c w0 _ _ s b20 b14 b16 b18 A c ts A1 c1 l kvQ Aa Ad A22 ca cd c23 e.ar x.dr x.mo 0 ((k : Nat) : Int) ((r : Nat) : Int) x53 tab pk H hX hY hs (by omega) (by omega) htl htb (by omega) hpk (hcl _ (List.mem_of_getElem? hpk)) (by omega) hnQ hpQ (by rw [← hxQ]; exact hxo.short) (by omega) (by rw [hxo.most]; unfold nR; omega) (by omega)) fun v w55 hS => ?_)
                obtain ⟨kv54, x54, A54, c54, hxe9, hxq54, hxn54, hxp54, H⟩ := hS
                rw [show (⟨qf kvQ, x.dr, x.mo⟩ : ES) = x from by rw [← hxQ]] at hxe9
                refine Rg_end ?_
                refine V_region rfl ?_
                refine Rg_op rfl (o_val (v := .int .i64 (((i : Nat) : Int) + 1)) (d := 111) rfl rfl (ex_add s102 rfl (by omega)) ?_)
                refine Rg_op rfl (o_val (v := .int .i64 (((i : Nat) : Int) + 1)) (d := 102) rfl rfl (ex_move rfl) ?_)
                refine Rg_end ?_
                have hx9 : x54 = enterN s tab l k r ⟨e.Q, e.dr, e.mo⟩ (List.take (i + 1) (comL (cf kvC) ((r : Nat) : Int) ++ sndL l (lkS ((k : Nat) : Int) kvS).xs ((r : Nat) : Int))) := by rw [List.take_add_one, (show ((comL (cf kvC) ((r : Nat) : Int) ++ sndL l (lkS ((k : Nat) : Int) kvS).xs ((r : Nat) : Int)))[i]? = some x53 from hx53), Option.toList_some, enterN_snoc, ← hx, pkAt_eq hpk, ← hxe9]
                exact ⟨i + 1, ⟨x54, kv54, A54, c54, s1, s8, s9, s12, s15, s16, s87, s88, s89, s90, s91, s92, s93, s94, s95, s96, s97, s98, s99, s100, s101, rfl, s1000000, (Hp.pull 11 rfl rfl (Hp.pull 11 rfl rfl (Hp.pull 11 rfl rfl (Hp.pull 11 rfl rfl (Hp.pull 11 rfl rfl (Hp.pull 7 rfl rfl (Hp.pull 7 rfl rfl (Hp.pull 11 rfl rfl (Hp.pull 6 rfl rfl (Hp.pull 3 rfl rfl (Hp.pull 11 rfl rfl (Hp.pull 11 rfl rfl H)))))))))))), by omega, hx9, hxq54, by rw [hx9]; exact enterN_ok ⟨hsh, hld, hml⟩, hxn54, hxp54, by have := enterP_dr (s := s) (tab := tab) (key := pk.Key) (t := k) (r := r) (p := x53) (cls := pk.Class) (e := x); rw [hxe9] at this; omega⟩, by omega⟩
              · have hb51 : ¬ (((i : Nat) : Int) < (((comL (cf kvC) ((r : Nat) : Int) ++ sndL l (lkS ((k : Nat) : Int) kvS).xs ((r : Nat) : Int)).length : Nat) : Int)) := of_decide_eq_false hb51
                refine V_exit rfl ?_
                refine V_region rfl ?_
                refine Rg_op rfl (o_val (v := .int .i64 (((r : Nat) : Int) + 1)) (d := 112) rfl rfl (ex_add s93 rfl (by omega)) ?_)
                refine Rg_op rfl (o_val (v := .int .i64 (((r : Nat) : Int) + 1)) (d := 93) rfl rfl (ex_move rfl) ?_)
                refine Rg_end ?_
                have hps9 : List.take i (comL (cf kvC) r ++ sndL l (lkS (k : Int) kvS).xs r) = entsOf l e.C k r := by rw [List.take_of_length_le (by omega), entsOf, hC, hkS]; rfl
                have he9 : (⟨x.Q, delC e.C r, e.ar, x.dr, x.mo⟩ : RS) = entersR s ts l k (runN s ts l k) (r + 1) := by rw [entersR_succ, ← he, enterR, htb, Option.getD_some, ← hps9, ← hx]
                exact ⟨r + 1, ⟨⟨x.Q, delC e.C r, e.ar, x.dr, x.mo⟩, kvQ, delN kvC r 4, Aa, Ad, ca, cd, s1, s8, s9, s12, s15, s87, s88, s89, s90, s91, s92, rfl, s1000000, (Hp.pull 10 rfl rfl (Hp.pull 10 rfl rfl (Hp.pull 10 rfl rfl (Hp.pull 7 rfl rfl (Hp.pull 6 rfl rfl (Hp.pull 10 rfl rfl (Hp.pull 5 rfl rfl (Hp.pull 10 rfl rfl (Hp.pull 4 rfl rfl (Hp.pull 10 rfl rfl (Hp.pull 10 rfl rfl (Hp.drop (Hp.pull 4 rfl rfl H))))))))))))), by omega, he9, hxQ, by rw [delC_cf hnC, hC], hnQ, (delN_get hnC 4).1, hpQ, fun p hp => hpC p ((delN_get hnC 4).2.1 p hp), hxo.short, hxo.lead, hxo.most, by show x.dr.length ≤ _; omega, hal⟩, by omega⟩
            · have hb41 : ¬ (((r : Nat) : Int) < ((ts.length : Nat) : Int)) := of_decide_eq_false hb41
              refine V_exit rfl ?_
              refine V_seq rfl ?_
              refine V_region rfl ?_
              refine Rg_op rfl (o_val (v := .slice A ts.length c) (d := 113) rfl rfl (ex_move s1) ?_)
              refine Rg_op rfl (o_val (v := .int .i64 ((ts.length : Nat) : Int)) (d := 114) rfl rfl (ex_len (ts := #[]) sl29 rfl) ?_)
              refine Rg_op rfl (o_val (v := .int .i64 0) (d := 115) rfl rfl (ex_move rfl) ?_)
              refine Rg_end ?_
              refine V_block rfl ?_
              have hr9 : r = nR s := by unfold nR; omega
              refine V_loop rfl (γ := Nat) (fun r2 σ w => ∃ (e : RS) (kvQ : List (Port × Qd)) (kvC : List (Port × Int)) (Aa Ad : Option Addr) (ca cd : Nat), σ 1 = .slice A ts.length c ∧ σ 8 = .pointer (some ⟨b3, 0, none⟩) ∧ σ 9 = .int .i64 0 ∧ σ 12 = .pointer (some ⟨b20, 0, none⟩) ∧ σ 15 = .int .i64 ((k : Nat) : Int) ∧ σ 87 = .int .i64 ticks ∧ σ 88 = .int .i64 ((k : Nat) : Int) ∧ σ 89 = .bool (decide (((k : Nat) : Int) < ticks)) ∧ σ 90 = .int .i64 ((k : Nat) : Int) ∧ σ 91 = .slice A ts.length c ∧ σ 92 = .int .i64 ((ts.length : Nat) : Int) ∧ σ 93 = .int .i64 ((r : Nat) : Int) ∧ σ 94 = .bool (decide (((r : Nat) : Int) < ((ts.length : Nat) : Int))) ∧ σ 113 = .slice A ts.length c ∧ σ 114 = .int .i64 ((ts.length : Nat) : Int) ∧ σ 115 = .int .i64 ((r2 : Nat) : Int) ∧ σ 1000000 = undef ∧ Hp w0.heap.size w0 w [SA.queues kvQ, SA.own kDrp 110 Ad cd e.dr, SA.own kArr 97 Aa ca e.ar, SA.rows kInt 3 (kvS.map (·.2)), SA.cel b20 #[.int .i64 s.Wide, .int .i64 s.High, .int .i64 s.Room, .slice A ts.length c, .slice A1 l.length c1, .map (some b14), .map (some b16), .map (some b18), .slice Aa e.ar.length ca, .slice Ad e.dr.length cd, .slice A22 e.mo.length c23, .int .i64 0] 142, SA.own kV2 101 A22 c23 e.mo, SA.map kPort.enc (fun x : Int => Value.int .i64 x) b18 kvC, SA.map kPort.enc Qd.val b16 kvQ, SA.map kI.enc (Sld.val (α := Int)) b14 kvS, SA.cel b3 #[.slice none 0 0, .slice none 0 0, .slice none 0 0, .int .i64 0] 63, SA.cel b1 #[.int .i64 s.Wide, .int .i64 s.High, .int .i64 s.Room] 33] ∧ r2 ≤ ts.length ∧ e = sendsR s k (entersR s ts l k (runN s ts l k) (nR s)) r2 ∧ e.Q = qf kvQ ∧ e.C = cf kvC ∧ (kvQ.map (·.1)).Nodup ∧ (kvC.map (·.1)).Nodup ∧ (∀ k ∈ kvQ.map (·.1), portOk s k) ∧ (∀ k ∈ kvC.map (·.1), comOk s k) ∧ shortQ s e.Q ∧ leadQ s e.Q ∧ e.mo.length = nR s ∧ e.dr.length ≤ 328960 * k + 328960 ∧ e.ar.length ≤ 320 * k + 5 * r2) (fun r2 => ts.length - r2) (0) ⟨e, kvQ, kvC, Aa, Ad, ca, cd, s1, s8, s9, s12, s15, s87, s88, s89, s90, s91, s92, s93, rfl, rfl, rfl, rfl, s1000000, H, by omega, by rw [← hr9]; exact he, hQ, hC, hnQ, hnC, hpQ, hpC, hsh, hld, hml, by omega, by omega⟩ (fun r2 σ w hI => ?_)
              obtain ⟨e, kvQ, kvC, Aa, Ad, ca, cd, hI⟩ := hI
              obtain ⟨s1, s8, s9, s12, s15, s87, s88, s89, s90, s91, s92, s93, s94, s113, s114, s115, s1000000, H, hr2, he, hQ, hC, hnQ, hnC, hpQ, hpC, hsh, hld, hml, hdl, hal⟩ := hI
              refine V_seq rfl ?_
              refine V_region rfl ?_
              refine Rg_op rfl (o_val (v := .bool (decide (((r2 : Nat) : Int) < ((ts.length : Nat) : Int)))) (d := 116) rfl rfl (ex_lss s115 s114) ?_)
              refine Rg_end ?_
              refine V_seq rfl ?_
              refine V_cond (b := (decide (((r2 : Nat) : Int) < ((ts.length : Nat) : Int)))) rfl rfl (fun hb56 => ?_) (fun hb56 => ?_)
              · have hb56 : ((r2 : Nat) : Int) < ((ts.length : Nat) : Int) := of_decide_eq_true hb56
                refine V_skip rfl ?_
                refine V_seq rfl ?_
                refine V_block rfl ?_
                refine V_seq rfl ?_
                refine V_region rfl ?_
                refine Rg_op rfl (o_val (v := .int .i64 ((r2 : Nat) : Int)) (d := 117) rfl rfl (ex_move s115) ?_)
                refine Rg_op rfl (o_val (v := .int .i64 ((r2 : Nat) : Int)) (d := 19) rfl rfl (ex_assign rfl) ?_)
                refine Rg_end ?_
                refine V_seq rfl ?_
                refine V_region rfl ?_
                refine Rg_op rfl (o_call (fv := []) (cap := []) (vs := []) rfl rfl cl63 rfl (outputs_c _) fun v w60 hS => ?_)
                obtain ⟨A58, c59, rfl, hB, hN⟩ := hS
                have H := H.new hB hN
                refine Rg_op rfl (o_val (v := .int .i64 ((([1, 2, 4, 8, 16]).length : Nat) : Int)) (d := 119) rfl rfl (ex_len (ts := #[]) sl26 rfl) ?_)
                refine Rg_op rfl (o_val (v := .int .i64 0) (d := 120) rfl rfl (ex_move rfl) ?_)
                refine Rg_end ?_
                refine V_block rfl ?_
                refine V_loop rfl (γ := Nat) (fun j σ w => ∃ (y : SS) (kvQ : List (Port × Qd)) (kvC : List (Port × Int)) (Aa : Option Addr) (ca : Nat), σ 1 = .slice A ts.length c ∧ σ 8 = .pointer (some ⟨b3, 0, none⟩) ∧ σ 9 = .int .i64 0 ∧ σ 12 = .pointer (some ⟨b20, 0, none⟩) ∧ σ 15 = .int .i64 ((k : Nat) : Int) ∧ σ 19 = .int .i64 ((r2 : Nat) : Int) ∧ σ 87 = .int .i64 ticks ∧ σ 88 = .int .i64 ((k : Nat) : Int) ∧ σ 89 = .bool (decide (((k : Nat) : Int) < ticks)) ∧ σ 90 = .int .i64 ((k : Nat) : Int) ∧ σ 91 = .slice A ts.length c ∧ σ 92 = .int .i64 ((ts.length : Nat) : Int) ∧ σ 93 = .int .i64 ((r : Nat) : Int) ∧ σ 94 = .bool (decide (((r : Nat) : Int) < ((ts.length : Nat) : Int))) ∧ σ 113 = .slice A ts.length c ∧ σ 114 = .int .i64 ((ts.length : Nat) : Int) ∧ σ 115 = .int .i64 ((r2 : Nat) : Int) ∧ σ 116 = .bool (decide (((r2 : Nat) : Int) < ((ts.length : Nat) : Int))) ∧ σ 117 = .int .i64 ((r2 : Nat) : Int) ∧ σ 118 = .slice A58 (([1, 2, 4, 8, 16]).length) c59 ∧ σ 119 = .int .i64 ((([1, 2, 4, 8, 16]).length : Nat) : Int) ∧ σ 120 = .int .i64 ((j : Nat) : Int) ∧ σ 1000000 = undef ∧ Hp w0.heap.size w0 w [SA.own kInt 3 A58 c59 ([1, 2, 4, 8, 16]), SA.queues kvQ, SA.own kDrp 110 Ad cd e.dr, SA.own kArr 97 Aa ca y.ar, SA.rows kInt 3 (kvS.map (·.2)), SA.cel b20 #[.int .i64 s.Wide, .int .i64 s.High, .int .i64 s.Room, .slice A ts.length c, .slice A1 l.length c1, .map (some b14), .map (some b16), .map (some b18), .slice Aa y.ar.length ca, .slice Ad e.dr.length cd, .slice A22 e.mo.length c23, .int .i64 0] 142, SA.own kV2 101 A22 c23 e.mo, SA.map kPort.enc (fun x : Int => Value.int .i64 x) b18 kvC, SA.map kPort.enc Qd.val b16 kvQ, SA.map kI.enc (Sld.val (α := Int)) b14 kvS, SA.cel b3 #[.slice none 0 0, .slice none 0 0, .slice none 0 0, .int .i64 0] 63, SA.cel b1 #[.int .i64 s.Wide, .int .i64 s.High, .int .i64 s.Room] 33] ∧ j ≤ 5 ∧ y = (outs5.take j).foldl (fun x o => sendP s k r2 o x) ⟨e.Q, e.C, e.ar⟩ ∧ y.Q = qf kvQ ∧ y.C = cf kvC ∧ (kvQ.map (·.1)).Nodup ∧ (kvC.map (·.1)).Nodup ∧ (∀ k ∈ kvQ.map (·.1), portOk s k) ∧ (∀ k ∈ kvC.map (·.1), comOk s k) ∧ shortQ s y.Q ∧ leadQ s y.Q ∧ y.ar.length ≤ 320 * k + 5 * r2 + j) (fun j => 5 - j) (0) ⟨⟨e.Q, e.C, e.ar⟩, kvQ, kvC, Aa, ca, s1, s8, s9, s12, s15, rfl, s87, s88, s89, s90, s91, s92, s93, s94, s113, s114, s115, rfl, rfl, rfl, rfl, rfl, s1000000, H, by omega, rfl, hQ, hC, hnQ, hnC, hpQ, hpC, hsh, hld, by simp only []; omega⟩ (fun j σ w hI => ?_)
                obtain ⟨y, kvQ, kvC, Aa, ca, hI⟩ := hI
                obtain ⟨s1, s8, s9, s12, s15, s19, s87, s88, s89, s90, s91, s92, s93, s94, s113, s114, s115, s116, s117, s118, s119, s120, s1000000, H, hj, hy, hyQ, hyC, hnQ, hnC, hpQ, hpC, hys, hyl, hya⟩ := hI
                refine V_seq rfl ?_
                refine V_region rfl ?_
                refine Rg_op rfl (o_val (v := .bool (decide (((j : Nat) : Int) < ((([1, 2, 4, 8, 16]).length : Nat) : Int)))) (d := 121) rfl rfl (ex_lss s120 s119) ?_)
                refine Rg_end ?_
                refine V_seq rfl ?_
                refine V_cond (b := (decide (((j : Nat) : Int) < ((([1, 2, 4, 8, 16]).length : Nat) : Int)))) rfl rfl (fun hb61 => ?_) (fun hb61 => ?_)
                · have hb61 : ((j : Nat) : Int) < ((([1, 2, 4, 8, 16]).length : Nat) : Int) := of_decide_eq_true hb61
                  have hj5 : j < 5 := by have h9 := hb61; simp only [List.length_cons, List.length_nil] at h9; omega
                  refine V_skip rfl ?_
                  refine V_seq rfl ?_
                  refine V_block rfl ?_
                  refine V_seq rfl ?_
                  refine V_region rfl ?_
                  have hr62 := (own_row (H.pull 0 rfl rfl)).1
                  obtain ⟨ad63, x63, cs63, hA63, hx63, hR63, hc63⟩ := Row.get hr62 ((j : Nat) : Int) ((by first | omega | (simp only [List.length_cons, List.length_nil]; omega))) ((by first | omega | (simp only [List.length_cons, List.length_nil]; omega)))
                  obtain rfl := hR63
                  refine Rg_op rfl (o_val (v := .pointer (some (ad63.add ((((j : Nat) : Int)).toNat * 1)))) (d := 122) rfl rfl (ex_indexAddr sl26 s118 hA63 s120 ((by first | omega | (simp only [List.length_cons, List.length_nil]; omega))) ((by first | omega | (simp only [List.length_cons, List.length_nil]; omega))) rfl) ?_)
                  refine Rg_op rfl (o_val (v := .int .i64 x63) (d := 123) rfl rfl (ex_load ca3 rfl (hc63 0 _ rfl)) ?_)
                  have hxo : outs5[j]? = some x63 := hx63
                  refine Rg_op rfl (o_val (v := .int .i64 x63) (d := 21) rfl rfl (ex_assign rfl) ?_)
                  refine Rg_end ?_
                  refine V_region rfl ?_
                  refine Rg_op rfl (o_val (v := .pointer (some ⟨b20, 0, none⟩)) (d := 124) rfl rfl (ex_move s12) ?_)
                  refine Rg_op rfl (o_val (v := .int .i64 ((k : Nat) : Int)) (d := 125) rfl rfl (ex_move s15) ?_)
                  refine Rg_op rfl (o_val (v := .int .i64 ((r2 : Nat) : Int)) (d := 126) rfl rfl (ex_move s19) ?_)
                  refine Rg_op rfl (o_val (v := .int .i64 x63) (d := 127) rfl rfl (ex_move rfl) ?_)
                  have H := H.pull 3 rfl rfl
                  have H := H.pull 7 rfl rfl
                  have H := H.pull 3 rfl rfl
                  have H := H.pull 8 rfl rfl
                  have H := H.pull 7 rfl rfl
                  refine Rg_op rfl (o_call (fv := []) (cap := []) (vs := [.pointer (some ⟨b20, 0, none⟩), .int .i64 ((k : Nat) : Int), .int .i64 ((r2 : Nat) : Int), .int .i64 x63]) rfl rfl cl64 rfl (send_c w0 _ _ s b20 b14 b16 b18 A c ts A1 c1 l kvQ kvC Aa Ad A22 ca cd c23 y.ar e.dr e.mo 0 ((k : Nat) : Int) ((r2 : Nat) : Int) x63 H hs (by omega) (by omega) (List.mem_of_getElem? hxo) hnQ hnC hpQ hpC (by rw [← hyQ]; exact hyl) (by omega)) fun v w65 hS => ?_)
                  obtain ⟨kv64, kc64, y64, A64, c64, hye9, hyq64, hyc64, hyn64, hym64, hyp64, hyo64, H⟩ := hS
                  rw [show (⟨qf kvQ, cf kvC, y.ar⟩ : SS) = y from by rw [← hyQ, ← hyC]] at hye9
                  refine Rg_end ?_
                  refine V_region rfl ?_
                  refine Rg_op rfl (o_val (v := .int .i64 (((j : Nat) : Int) + 1)) (d := 129) rfl rfl (ex_add s120 rfl (by omega)) ?_)
                  refine Rg_op rfl (o_val (v := .int .i64 (((j : Nat) : Int) + 1)) (d := 120) rfl rfl (ex_move rfl) ?_)
                  refine Rg_end ?_
                  have hso9 := sendP_ok (s := s) (t := k) (r := r2) (o := x63) hys hyl
                  rw [hye9] at hso9
                  have hy9 : y64 = (outs5.take (j + 1)).foldl (fun x o => sendP s k r2 o x) ⟨e.Q, e.C, e.ar⟩ := by rw [List.take_add_one, hxo, Option.toList_some, List.foldl_append, ← hy, ← hye9]; rfl
                  exact ⟨j + 1, ⟨y64, kv64, kc64, A64, c64, s1, s8, s9, s12, s15, s19, s87, s88, s89, s90, s91, s92, s93, s94, s113, s114, s115, s116, s117, s118, s119, rfl, s1000000, (Hp.pull 11 rfl rfl (Hp.pull 10 rfl rfl (Hp.pull 11 rfl rfl (Hp.pull 9 rfl rfl (Hp.pull 11 rfl rfl (Hp.pull 6 rfl rfl (Hp.pull 11 rfl rfl (Hp.pull 6 rfl rfl (Hp.pull 4 rfl rfl (Hp.pull 11 rfl rfl (Hp.pull 11 rfl rfl (Hp.pull 11 rfl rfl H)))))))))))), by omega, hy9, hyq64, hyc64, hyn64, hym64, hyp64, hyo64, hso9.1, hso9.2.1, by have := hso9.2.2; omega⟩, by omega⟩
                · have hb61 : ¬ (((j : Nat) : Int) < ((([1, 2, 4, 8, 16]).length : Nat) : Int)) := of_decide_eq_false hb61
                  have hj5 : ¬ j < 5 := by have h9 := hb61; simp only [List.length_cons, List.length_nil] at h9; omega
                  refine V_exit rfl ?_
                  refine V_region rfl ?_
                  refine Rg_op rfl (o_val (v := .int .i64 (((r2 : Nat) : Int) + 1)) (d := 130) rfl rfl (ex_add s115 rfl (by omega)) ?_)
                  refine Rg_op rfl (o_val (v := .int .i64 (((r2 : Nat) : Int) + 1)) (d := 115) rfl rfl (ex_move rfl) ?_)
                  refine Rg_end ?_
                  have he9 : (⟨y.Q, y.C, y.ar, e.dr, e.mo⟩ : RS) = sendsR s k (entersR s ts l k (runN s ts l k) (nR s)) (r2 + 1) := by rw [sendsR_succ, ← he, sendR, hy, List.take_of_length_le (show outs5.length ≤ j by simp only [outs5, List.length_cons, List.length_nil]; omega)]
                  exact ⟨r2 + 1, ⟨⟨y.Q, y.C, y.ar, e.dr, e.mo⟩, kvQ, kvC, Aa, Ad, ca, cd, s1, s8, s9, s12, s15, s87, s88, s89, s90, s91, s92, s93, s94, s113, s114, rfl, s1000000, (Hp.pull 10 rfl rfl (Hp.pull 10 rfl rfl (Hp.pull 10 rfl rfl (Hp.pull 10 rfl rfl (Hp.pull 10 rfl rfl (Hp.pull 10 rfl rfl (Hp.pull 10 rfl rfl (Hp.pull 10 rfl rfl (Hp.pull 10 rfl rfl (Hp.pull 10 rfl rfl (Hp.pull 10 rfl rfl (Hp.drop (Hp.pull 0 rfl rfl H))))))))))))), by omega, he9, hyQ, hyC, hnQ, hnC, hpQ, hpC, hys, hyl, hml, hdl, by show y.ar.length ≤ _; omega⟩, by omega⟩
              · have hb56 : ¬ (((r2 : Nat) : Int) < ((ts.length : Nat) : Int)) := of_decide_eq_false hb56
                refine V_exit rfl ?_
                refine V_region rfl ?_
                refine Rg_op rfl (o_val (v := .int .i64 (((k : Nat) : Int) + 1)) (d := 131) rfl rfl (ex_add s88 rfl (by omega)) ?_)
                refine Rg_op rfl (o_val (v := .int .i64 (((k : Nat) : Int) + 1)) (d := 88) rfl rfl (ex_move rfl) ?_)
                refine Rg_end ?_
                have hr9 : r2 = nR s := by unfold nR; omega
                have he9 : e = runN s ts l (k + 1) := by rw [runN_succ, tickR, he, hr9]
                exact ⟨k + 1, ⟨e, kvQ, kvC, Aa, Ad, ca, cd, s1, s8, s9, s12, s87, rfl, s1000000, H, by omega, he9, hQ, hC, hnQ, hnC, hpQ, hpC, hsh, hld, hml, by omega, by omega⟩, by omega⟩
          · have hb40 : ¬ (((k : Nat) : Int) < ticks) := of_decide_eq_false hb40
            refine V_exit rfl ?_
            refine V_seq rfl ?_
            refine V_region rfl ?_
            refine Rg_op rfl (o_val (v := .pointer (some ⟨b20, 0, none⟩)) (d := 132) rfl rfl (ex_move s12) ?_)
            refine Rg_op rfl (o_val (v := .pointer (some ⟨b20, 0, none⟩)) (d := 133) rfl rfl (ex_move s12) ?_)
            refine Rg_op rfl (o_val (v := .pointer (some ⟨b20, 0, none⟩)) (d := 134) rfl rfl (ex_nilCheck rfl) ?_)
            refine Rg_op rfl (o_val (v := .pointer (some ⟨b20, 7, none⟩)) (d := 135) rfl rfl (ex_fieldAddr fo142_5 rfl rfl) ?_)
            refine Rg_op rfl (o_val (v := .map (some b18)) (d := 136) rfl rfl (ex_load ca140 rfl (cell_of (H.rd 4 rfl))) ?_)
            refine Rg_op rfl (o_val (v := .int .i64 ((kvC.length : Nat) : Int)) (d := 137) rfl rfl (ex_lenMap mt140 kPort.enc rfl (H.mapAt 6 rfl)) ?_)
            refine Rg_op rfl (o_val (v := .pointer (some ⟨b20, 0, none⟩)) (d := 138) rfl rfl (ex_nilCheck rfl) ?_)
            refine Rg_op rfl (o_val (v := .pointer (some ⟨b20, 8, none⟩)) (d := 139) rfl rfl (ex_fieldAddr fo142_6 rfl rfl) ?_)
            refine Rg_op rfl (o_val (v := .pointer (some ⟨b20, 11, none⟩)) (d := 140) rfl rfl (ex_fieldAddr fo63_3 rfl rfl) ?_)
            refine Rg_op rfl (o_store (vs := [.int .i64 ((kvC.length : Nat) : Int)]) rfl ts3 rfl rfl rfl rfl 4 rfl rfl rfl rfl H fun w66 hA H => ?_)
            refine Rg_end ?_
            refine V_seq rfl ?_
            refine V_seq rfl ?_
            refine V_region rfl ?_
            refine Rg_op rfl (o_val (v := .pointer (some ⟨b20, 0, none⟩)) (d := 141) rfl rfl (ex_move s12) ?_)
            refine Rg_op rfl (o_val (v := .pointer (some ⟨b20, 0, none⟩)) (d := 142) rfl rfl (ex_nilCheck rfl) ?_)
            refine Rg_op rfl (o_val (v := .pointer (some ⟨b20, 6, none⟩)) (d := 143) rfl rfl (ex_fieldAddr fo142_4 rfl rfl) ?_)
            refine Rg_op rfl (o_val (v := .map (some b16)) (d := 144) rfl rfl (ex_load ca139 rfl (cell_of (H.rd 0 rfl))) ?_)
            have H := H.pull 7 rfl rfl
            refine Rg_op rfl (o_range rfl mt139 rfl H fun it67 w68 H => ?_)
            refine Rg_end ?_
            refine V_block rfl ?_
            have hkt9 : k = ticks.toNat := by omega
            have hq64 := qf_len hs hnQ (hQ ▸ hsh)
            have hkl9 := ports_len hs hnQ hpQ
            have hcl9 := com_len hs hnC hpC
            refine V_loop rfl (γ := List Nat) (fun vis σ w => σ 8 = .pointer (some ⟨b3, 0, none⟩) ∧ σ 9 = .int .i64 0 ∧ σ 12 = .pointer (some ⟨b20, 0, none⟩) ∧ σ 145 = .pointer (some ⟨it67, 0, none⟩) ∧ σ 1000000 = undef ∧ Hp w0.heap.size w0 w [SA.ranged kPort.enc Qd.val b16 it67 kvQ vis, SA.cel b20 #[.int .i64 s.Wide, .int .i64 s.High, .int .i64 s.Room, .slice A ts.length c, .slice A1 l.length c1, .map (some b14), .map (some b16), .map (some b18), .slice Aa e.ar.length ca, .slice Ad e.dr.length cd, .slice A22 e.mo.length c23, .int .i64 ((kvC.length + visLen kvQ vis : Nat) : Int)] 142, SA.queues kvQ, SA.own kDrp 110 Ad cd e.dr, SA.own kArr 97 Aa ca e.ar, SA.rows kInt 3 (kvS.map (·.2)), SA.own kV2 101 A22 c23 e.mo, SA.map kPort.enc (fun x : Int => Value.int .i64 x) b18 kvC, SA.map kI.enc (Sld.val (α := Int)) b14 kvS, SA.cel b3 #[.slice none 0 0, .slice none 0 0, .slice none 0 0, .int .i64 0] 63, SA.cel b1 #[.int .i64 s.Wide, .int .i64 s.High, .int .i64 s.Room] 33] ∧ vis.Nodup ∧ (∀ i ∈ vis, i < kvQ.length)) (fun vis => kvQ.length - vis.length) ([]) ⟨s8, s9, s12, rfl, s1000000, H, List.nodup_nil, by simp⟩ (fun vis σ w hI => ?_)
            obtain ⟨s8, s9, s12, s145, s1000000, H, hvn, hvl⟩ := hI
            have hvk := nodup_len hvn hvl
            have hvq := visLen_le hq64 vis
            refine V_seq rfl ?_
            refine V_region rfl ?_
            refine Rg_op rfl (o_next rfl s145 H (fun i69 k69 v69 w hi69 hnv69 H => ?_) (fun w hall69 H => ?_))
            · skip
              refine Rg_op rfl (o_val (v := .bool true) (d := 147) rfl rfl (ex_extract rfl rfl) ?_)
              refine Rg_end ?_
              refine V_seq rfl ?_
              refine V_true rfl rfl ?_
              refine V_skip rfl ?_
              refine V_block rfl ?_
              refine V_seq rfl ?_
              refine V_region rfl ?_
              refine Rg_op rfl (o_val (v := .tuple #[.agg #[.int .i64 k69.r, .int .i64 k69.o, .int .i64 k69.c], .pointer (some ⟨v69.b, 0, none⟩)]) (d := 148) rfl rfl (ex_entry (enc := kPort.enc) (evv := Qd.val) (k := k69) (v := v69) s145 hi69 H) ?_)
              refine Rg_op rfl (o_val (v := .pointer (some ⟨v69.b, 0, none⟩)) (d := 149) rfl rfl (ex_extract rfl rfl) ?_)
              refine Rg_op rfl (o_val (v := .pointer (some ⟨v69.b, 0, none⟩)) (d := 23) rfl rfl (ex_assign rfl) ?_)
              refine Rg_end ?_
              refine V_draw [0, 1, 2, 3, 5, 6, 7, 9, 10, 11, 12, 13] (.p 0 (.p 1 (.p 2 (.p 3 (.q 4 (.p 5 (.p 6 (.p 7 (.q 8 (.p 9 (.p 10 (.p 11 (.p 12 (.p 13 (.l 14 .done))))))))))))))) (fun _ => False) rfl mixed (by kernel_rfl) fun w70 hD => ?_
              have H := H.drew hD
              have hq9 := hq64 _ (List.mem_of_getElem? hi69)
              simp only [] at hq9
              refine c_p (v := .pointer (some ⟨b20, 0, none⟩)) (d := 150) rfl rfl rfl (fun w' => ex_move s12) ?_
              refine c_p (v := .pointer (some ⟨b20, 0, none⟩)) (d := 151) rfl rfl rfl (fun w' => ex_nilCheck rfl) ?_
              refine c_p (v := .pointer (some ⟨b20, 8, none⟩)) (d := 152) rfl rfl rfl (fun w' => ex_fieldAddr fo142_6 rfl rfl) ?_
              refine c_p (v := .pointer (some ⟨b20, 11, none⟩)) (d := 153) rfl rfl rfl (fun w' => ex_fieldAddr fo63_3 rfl rfl) ?_
              refine c_q (v := .int .i64 ((kvC.length + visLen kvQ vis : Nat) : Int)) (d := 154) rfl rfl rfl (fun w' hG => ex_load ca3 rfl (hG.cell (cell_of (H.rd 1 rfl)) id)) ?_
              refine c_p (v := .pointer (some ⟨v69.b, 0, none⟩)) (d := 155) rfl rfl rfl (fun w' => ex_move rfl) ?_
              refine c_p (v := .pointer (some ⟨v69.b, 0, none⟩)) (d := 156) rfl rfl rfl (fun w' => ex_nilCheck rfl) ?_
              refine c_p (v := .pointer (some ⟨v69.b, 0, none⟩)) (d := 157) rfl rfl rfl (fun w' => ex_fieldAddr fo153_0 rfl rfl) ?_
              refine c_q (v := .slice v69.A v69.xs.length v69.c) (d := 158) rfl rfl rfl (fun w' hG => ex_load ca26 rfl (hG.cell (q_cell hi69 (H.pull 2 rfl rfl)) id)) ?_
              refine c_p (v := .int .i64 ((v69.xs.length : Nat) : Int)) (d := 159) rfl rfl rfl (fun w' => ex_len (ts := #[]) sl26 rfl) ?_
              refine c_p (v := .int .i64 (((kvC.length + visLen kvQ vis : Nat) : Int) + ((v69.xs.length : Nat) : Int))) (d := 160) rfl rfl rfl (fun w' => ex_add rfl rfl (by omega)) ?_
              refine c_p (v := .pointer (some ⟨b20, 0, none⟩)) (d := 161) rfl rfl rfl (fun w' => ex_nilCheck rfl) ?_
              refine c_p (v := .pointer (some ⟨b20, 8, none⟩)) (d := 162) rfl rfl rfl (fun w' => ex_fieldAddr fo142_6 rfl rfl) ?_
              refine c_p (v := .pointer (some ⟨b20, 11, none⟩)) (d := 163) rfl rfl rfl (fun w' => ex_fieldAddr fo63_3 rfl rfl) ?_
              refine c_l rfl (o_store (vs := [.int .i64 (((kvC.length + visLen kvQ vis : Nat) : Int) + ((v69.xs.length : Nat) : Int))]) rfl ts3 rfl rfl rfl rfl 1 rfl rfl rfl rfl H fun w71 hA H => ⟨.inl (by kernel_rfl), ?_⟩)
              refine c_done ?_
              have hi9 := (List.getElem?_eq_some_iff.1 hi69).1
              have hvn2 : (vis ++ [i69]).Nodup := by rw [List.nodup_append]; exact ⟨hvn, by simp, fun a ha c hc => by simp at hc; subst hc; rintro rfl; exact hnv69 ha⟩
              have hvl2 : ∀ j ∈ vis ++ [i69], j < kvQ.length := fun j hj => (List.mem_append.1 hj).elim (hvl j) (fun hj => by simp at hj; subst hj; exact hi9)
              have hrs9 : ((kvC.length + visLen kvQ vis : Nat) : Int) + ((v69.xs.length : Nat) : Int) = ((kvC.length + visLen kvQ (vis ++ [i69]) : Nat) : Int) := by rw [visLen_snoc hi69]; omega
              have H : Hp w0.heap.size w0 w71 [SA.cel b20 #[.int .i64 s.Wide, .int .i64 s.High, .int .i64 s.Room, .slice A ts.length c, .slice A1 l.length c1, .map (some b14), .map (some b16), .map (some b18), .slice Aa e.ar.length ca, .slice Ad e.dr.length cd, .slice A22 e.mo.length c23, .int .i64 ((kvC.length + visLen kvQ (vis ++ [i69]) : Nat) : Int)] 142, SA.ranged kPort.enc Qd.val b16 it67 kvQ (vis ++ [i69]), SA.queues kvQ, SA.own kDrp 110 Ad cd e.dr, SA.own kArr 97 Aa ca e.ar, SA.rows kInt 3 (kvS.map (·.2)), SA.own kV2 101 A22 c23 e.mo, SA.map kPort.enc (fun x : Int => Value.int .i64 x) b18 kvC, SA.map kI.enc (Sld.val (α := Int)) b14 kvS, SA.cel b3 #[.slice none 0 0, .slice none 0 0, .slice none 0 0, .int .i64 0] 63, SA.cel b1 #[.int .i64 s.Wide, .int .i64 s.High, .int .i64 s.Room] 33] := by rw [← hrs9]; exact H
              exact ⟨vis ++ [i69], ⟨s8, s9, s12, s145, s1000000, (Hp.pull 10 rfl rfl (Hp.pull 9 rfl rfl (Hp.pull 10 rfl rfl (Hp.pull 10 rfl rfl (Hp.pull 10 rfl rfl (Hp.pull 10 rfl rfl (Hp.pull 10 rfl rfl (Hp.pull 10 rfl rfl (Hp.pull 10 rfl rfl (Hp.pull 10 rfl rfl (Hp.pull 10 rfl rfl H))))))))))), hvn2, hvl2⟩, by have := nodup_len hvn2 hvl2; simp only [List.length_append, List.length_cons, List.length_nil] at *; omega⟩
            · skip
              refine Rg_op rfl (o_val (v := .bool false) (d := 147) rfl rfl (ex_extract rfl rfl) ?_)
              refine Rg_end ?_
              refine V_seq rfl ?_
              refine V_false rfl rfl ?_
              refine V_exit rfl ?_
              refine V_seq rfl ?_
              refine V_region rfl ?_
              refine Rg_op rfl (o_val (v := .pointer (some ⟨b20, 0, none⟩)) (d := 164) rfl rfl (ex_move s12) ?_)
              refine Rg_op rfl (o_val (v := .pointer (some ⟨b20, 0, none⟩)) (d := 165) rfl rfl (ex_nilCheck rfl) ?_)
              refine Rg_op rfl (o_val (v := .pointer (some ⟨b20, 8, none⟩)) (d := 166) rfl rfl (ex_fieldAddr fo142_6 rfl rfl) ?_)
              refine Rg_op rfl (o_val (v := .agg #[.slice Aa e.ar.length ca, .slice Ad e.dr.length cd, .slice A22 e.mo.length c23, .int .i64 ((kvC.length + visLen kvQ vis : Nat) : Int)]) (d := 167) rfl rfl (ex_loadN (vs := [.slice Aa e.ar.length ca, .slice Ad e.dr.length cd, .slice A22 e.mo.length c23, .int .i64 ((kvC.length + visLen kvQ vis : Nat) : Int)]) ca63 rfl rfl (blk_cells (H.rd 1 rfl) rfl)) ?_)
              refine Rg_op rfl (o_store (vs := [.slice Aa e.ar.length ca, .slice Ad e.dr.length cd, .slice A22 e.mo.length c23, .int .i64 ((kvC.length + visLen kvQ vis : Nat) : Int)]) rfl ts63 s8 rfl rfl rfl 9 rfl rfl rfl rfl H fun w72 hA H => ?_)
              refine Rg_op rfl (o_val (v := .int .i64 0) (d := 9) rfl rfl (ex_assign rfl) ?_)
              refine Rg_end ?_
              have hre : runE s ts l ticks = 0 := by simp only [runE]; rw [if_neg (by omega), if_neg (by omega), if_neg (by omega)]
              have hrp : runP s ts l ticks = ⟨e.ar, e.dr, e.mo, ((kvC.length + visLen kvQ vis : Nat) : Int)⟩ := by rw [runP, if_neg (by omega), ← hkt9, ← he, repOf, hQ, hC, ← rest_of hnQ hpQ hnC hpC, visLen_all hvn hvl hall69]
              refine V_ret rfl (end0 (v := .tuple #[.agg #[.slice Aa e.ar.length ca, .slice Ad e.dr.length cd, .slice A22 e.mo.length c23, .int .i64 ((kvC.length + visLen kvQ vis : Nat) : Int)], .int .i64 0]) s1000000 (res_ct Try.results22 s8 (load_blk (vs := [.slice Aa e.ar.length ca, .slice Ad e.dr.length cd, .slice A22 e.mo.length c23, .int .i64 ((kvC.length + visLen kvQ vis : Nat) : Int)]) ca63 (H.rd 0 rfl) rfl rfl) rfl) ?_)
              have H := H.pull 7 rfl rfl
              have H := H.pull 5 rfl rfl
              have H := H.pull 6 rfl rfl
              have H := Hp.join (Hp.join H)
              exact ⟨Aa, ca, Ad, cd, A22, c23, by rw [hrp, hre], H.below, by rw [hrp]; exact H.give⟩

end Go.Proofs.Ytlnogaoihkinbaa
namespace Go.Proofs.Ytlnogaoihkinbaa
open Go.Gk Go.RowKit
theorem row_lit2 {α : Type} {D : Kd α} {w : World} {b e : Nat} {cs : Array Value} {c1 c2 : List Value} {z1 z2 : α} (hb : w.heap[b]? = some (.cells cs e (0, 0))) (hcs : cs.toList = c1 ++ c2) (h1 : D.R w.cell? z1 c1) (h2 : D.R w.cell? z2 c2) : Row D w.cell? (some ⟨b, 0, none⟩) [z1, z2] := by
  intro i x hx
  have hl1 := D.len h1
  have key : ∀ (i : Nat) (c : List Value), c.length = D.sz → (∀ (j : Nat) (u : Value), c[j]? = some u → cs.toList[i * D.sz + j]? = some u) → ∀ (j : Nat) (u : Value), c[j]? = some u → w.cell? ((⟨b, 0, none⟩ : Addr).add (i * D.sz + j)) = some u := by
    intro i c hc h j u hj
    have ha : (⟨b, 0, none⟩ : Addr).add (i * D.sz + j) = ⟨b, i * D.sz + j, none⟩ := by unfold Addr.add; split <;> simp_all
    rw [ha, cell_of hb]
    have := h j u hj
    rwa [Array.getElem?_toList] at this
  match i, hx with
  | 0, hx =>
    simp at hx; subst hx
    refine ⟨_, c1, rfl, h1, key 0 c1 hl1 fun j u hj => ?_⟩
    have := (List.getElem?_eq_some_iff.1 hj).1
    rw [hcs, List.getElem?_append_left (by omega)]
    simpa using hj
  | 1, hx =>
    simp at hx; subst hx
    refine ⟨_, c2, rfl, h2, key 1 c2 (D.len h2) fun j u hj => ?_⟩
    rw [hcs, List.getElem?_append_right (by omega), show 1 * D.sz + j - c1.length = j from by omega]
    exact hj
  | i + 2, hx => simp at hx
def S3 : Spec := ⟨3, 2, 2⟩
def W3 : List Way := [⟨7, 0, [2, 5, 0]⟩, ⟨3, 1, [1]⟩]
def T3 : List (List Entry) := [[⟨7, 65535, 17⟩], [⟨3, 65535, 16⟩, ⟨7, 65535, 1⟩], [⟨7, 65535, 18⟩], [], [], [⟨7, 65535, 16⟩]]
def P3 : List Packet := [⟨0, 0, 7, 0⟩, ⟨0, 0, 7, 0⟩, ⟨0, 0, 7, 0⟩]
def A3 : List Arr := [⟨0, 0, 0⟩, ⟨1, 0, 1⟩, ⟨0, 2, 2⟩, ⟨1, 2, 3⟩, ⟨0, 5, 3⟩, ⟨1, 5, 4⟩]
def D3 : List Drp := [⟨2, 0, 1, 0⟩, ⟨2, 0, 16, 0⟩]
def M3 : List V2 := [⟨2, 0⟩, ⟨1, 0⟩, ⟨1, 0⟩, ⟨0, 0⟩, ⟨0, 0⟩, ⟨1, 0⟩]
def E4 : List Entry := [⟨0, 65535, 1⟩, ⟨1, 65535, 1⟩, ⟨2, 65535, 1⟩, ⟨3, 65535, 2⟩]
def E3 : List Entry := [⟨0, 65534, 1⟩, ⟨2, 65535, 1⟩, ⟨3, 65535, 2⟩]
theorem w_d : (if known S3 [0, 5] ≠ 0 then 0 else dist S3 0 5) = 3 := by kernel_rfl
theorem w_k : known S3 [0, 5] = 0 := by kernel_rfl
theorem w_r : routeP S3 5 0 = [5, 4, 3, 0] := by kernel_rfl
theorem w_rk : known S3 [5, 0] = 0 := by kernel_rfl
theorem w_t : treeP S3 0 [2, 5, 0] = [17, 1, 18, 0, 0, 16] := by kernel_rfl
theorem w_te : treeE S3 0 [2, 5, 0] = 0 := by kernel_rfl
theorem w_T : tabsP S3 W3 = T3 := by kernel_rfl
theorem w_TE : tabsE S3 W3 = 0 := by kernel_rfl
theorem w_run : runP S3 T3 P3 20 = ⟨A3, D3, M3, 0⟩ := by kernel_rfl
theorem w_runE : runE S3 T3 P3 20 = 0 := by kernel_rfl
theorem w_m : mergeP E4 [0, 1, 2, 3] = (E3, 0) := by kernel_rfl
theorem w_b : barP S3 [0, 0, 9, 0, 0, 0] = ([11, 12, 13, 12, 13, 14], 0) := by kernel_rfl
theorem w_f : find E3 3 = (2, true) := by kernel_rfl
end Go.Proofs.Ytlnogaoihkinbaa
