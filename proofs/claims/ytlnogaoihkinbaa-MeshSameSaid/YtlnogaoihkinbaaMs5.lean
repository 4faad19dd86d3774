/- Texts that the proof needs (part 5). -/
import Derived.KernelRfl
import Derived.Test.YtlnogaoihkinbaaMs4
set_option linter.unusedVariables false
set_option linter.unusedSimpArgs false
set_option linter.unusedSectionVars false
namespace Go.Proofs.Ytlnogaoihkinbaa
open Go.Gk Go.RowKit
structure RS where
  Q : Port → List Int
  C : CF
  ar : List Arr
  dr : List Drp
  mo : List V2
def pkAt (l : List Packet) (p : Int) : Packet := (l[p.toNat]?).getD ⟨0, 0, 0, 0⟩
def delC (C : CF) (r : Int) : CF := fun k => if k.r = r ∧ k.c = 0 ∧ k.o ∈ outs4 then none else C k
def sendsN (l : List Packet) (k : Nat) (t : Int) : List Int := ((List.range k).filter fun i => decide ((l[i]?).map (·.Tick) = some t)).map Int.ofNat
def sendsOf (l : List Packet) (t : Int) : List Int := sendsN l l.length t
def entsOf (l : List Packet) (C : CF) (t r : Int) : List Int := comL C r ++ sndL l (sendsOf l t) r
def enterN (s : Spec) (tab : List Entry) (l : List Packet) (t r : Int) (e : ES) (ps : List Int) : ES := ps.foldl (fun x p => enterP s tab (pkAt l p).Key t r p (pkAt l p).Class x) e
def enterR (s : Spec) (ts : List (List Entry)) (l : List Packet) (t : Int) (e : RS) (r : Nat) : RS :=
  let x := enterN s ((ts[r]?).getD []) l t r ⟨e.Q, e.dr, e.mo⟩ (entsOf l e.C t r)
  ⟨x.Q, delC e.C r, e.ar, x.dr, x.mo⟩
def sendR (s : Spec) (t : Int) (e : RS) (r : Nat) : RS :=
  let x := outs5.foldl (fun x o => sendP s t r o x) (⟨e.Q, e.C, e.ar⟩ : SS)
  ⟨x.Q, x.C, x.ar, e.dr, e.mo⟩
def nR (s : Spec) : Nat := (s.Wide * s.High).toNat
def entersR (s : Spec) (ts : List (List Entry)) (l : List Packet) (t : Int) (e : RS) (k : Nat) : RS := (List.range k).foldl (enterR s ts l t) e
def sendsR (s : Spec) (t : Int) (e : RS) (k : Nat) : RS := (List.range k).foldl (sendR s t) e
def tickR (s : Spec) (ts : List (List Entry)) (l : List Packet) (e : RS) (t : Nat) : RS := sendsR s t (entersR s ts l t e (nR s)) (nR s)
def startR (s : Spec) : RS := ⟨fun _ => [], fun _ => none, [], [], List.replicate (nR s) ⟨0, 0⟩⟩
def runN (s : Spec) (ts : List (List Entry)) (l : List Packet) (k : Nat) : RS := (List.range k).foldl (tickR s ts l) (startR s)
theorem runN_succ (s : Spec) (ts : List (List Entry)) (l : List Packet) (k : Nat) : runN s ts l (k + 1) = tickR s ts l (runN s ts l k) k := by
  simp [runN, List.range_succ]
theorem entersR_succ (s : Spec) (ts : List (List Entry)) (l : List Packet) (t : Int) (e : RS) (k : Nat) : entersR s ts l t e (k + 1) = enterR s ts l t (entersR s ts l t e k) k := by
  simp [entersR, List.range_succ]
theorem sendsR_succ (s : Spec) (t : Int) (e : RS) (k : Nat) : sendsR s t e (k + 1) = sendR s t (sendsR s t e k) k := by
  simp [sendsR, List.range_succ]
theorem enterN_snoc (s : Spec) (tab : List Entry) (l : List Packet) (t r : Int) (e : ES) (ps : List Int) (p : Int) : enterN s tab l t r e (ps ++ [p]) = enterP s tab (pkAt l p).Key t r p (pkAt l p).Class (enterN s tab l t r e ps) := by
  simp [enterN]
theorem outStep_lead {s : Spec} {t r p cls outs : Int} {e : ES} {o : Int} (h : leadQ s e.Q) : leadQ s (outStep s t r p cls outs e o).Q := by
  unfold outStep
  split
  · exact h
  · split
    · exact h
    · rename_i h1 h2
      intro k
      simp only [updP]
      split
      · rename_i hk
        intro _
        subst hk
        simp only [not_or] at h2
        simpa using h2.1
      · exact h k
theorem foldl_inv {α β : Type} {P : β → Prop} {f : β → α → β} (hf : ∀ b a, P b → P (f b a)) : ∀ (l : List α) (b : β), P b → P (l.foldl f b)
  | [], b, h => h
  | a :: l, b, h => foldl_inv hf l (f b a) (hf b a h)
/-- Queues are short, lead somewhere; the lists have their lengths. -/
structure OkE (s : Spec) (n : Nat) (e : ES) : Prop where
  short : shortQ s e.Q
  lead : leadQ s e.Q
  most : e.mo.length = n
theorem enterP_ok {s : Spec} {n : Nat} {tab : List Entry} {key t r p cls : Int} {e : ES} (h : OkE s n e) : OkE s n (enterP s tab key t r p cls e) := by
  unfold enterP
  split
  · exact ⟨h.short, h.lead, h.most⟩
  · exact foldl_inv (P := OkE s n) (fun b a hb => ⟨outStep_short hb.short, outStep_lead hb.lead, (outStep_dr s t r p cls _ b a).2.trans hb.most⟩) _ _ h
theorem enterN_ok {s : Spec} {n : Nat} {tab : List Entry} {l : List Packet} {t r : Int} {e : ES} {ps : List Int} (h : OkE s n e) : OkE s n (enterN s tab l t r e ps) :=
  foldl_inv (P := OkE s n) (fun b a hb => enterP_ok hb) _ _ h
theorem foldl_len {α : Type} {f : ES → α → ES} {c : Nat} (hf : ∀ b a, (f b a).dr.length ≤ b.dr.length + c) : ∀ (l : List α) (b : ES), (l.foldl f b).dr.length ≤ b.dr.length + c * l.length
  | [], b => by simp
  | a :: l, b => by
    have h1 := foldl_len hf l (f b a)
    have h2 := hf b a
    rw [List.foldl_cons, List.length_cons, Nat.mul_add]
    omega
theorem enterP_dr {s : Spec} {tab : List Entry} {key t r p cls : Int} {e : ES} : (enterP s tab key t r p cls e).dr.length ≤ e.dr.length + 5 := by
  unfold enterP
  split
  · simp
  · have := foldl_len (c := 1) (fun b a => (outStep_dr s t r p cls (find tab key).1 b a).1) outs5 e
    simpa [outs5] using this
theorem sendP_ok {s : Spec} {t r o : Int} {e : SS} (h1 : shortQ s e.Q) (h2 : leadQ s e.Q) : shortQ s (sendP s t r o e).Q ∧ leadQ s (sendP s t r o e).Q ∧ (sendP s t r o e).ar.length ≤ e.ar.length + 1 := by
  unfold sendP
  split
  · exact ⟨h1, h2, by omega⟩
  · rename_i p rest hx
    have hq : shortQ s (updP e.Q (sendK e.Q r o) rest) := fun k => by
      simp only [updP]
      split
      · have := h1 (sendK e.Q r o)
        rw [hx, List.length_cons] at this
        omega
      · exact h1 k
    have hl : leadQ s (updP e.Q (sendK e.Q r o) rest) := fun k => by
      simp only [updP]
      split
      · rename_i hk
        subst hk
        exact fun _ => h2 _ (by rw [hx]; simp)
      · exact h2 k
    split
    · exact ⟨hq, hl, by simp⟩
    · exact ⟨hq, hl, by simp⟩
theorem comL_len (C : CF) (r : Int) : (comL C r).length ≤ 4 := Nat.le_trans (List.length_filterMap_le _ _) (by simp [outs4])
theorem sendsN_len (l : List Packet) (k : Nat) (t : Int) : (sendsN l k t).length ≤ k := by
  simp only [sendsN, List.length_map]
  exact Nat.le_trans (List.length_filter_le _ _) (by simp)
theorem entsOf_len (l : List Packet) (C : CF) (t r : Int) : (entsOf l C t r).length ≤ 4 + l.length := by
  have h1 := comL_len C r
  have h2 : (sndL l (sendsOf l t) r).length ≤ l.length := Nat.le_trans (List.length_filter_le _ _) (sendsN_len _ _ _)
  simp only [entsOf, List.length_append]
  omega
theorem sends_mem {l : List Packet} {k : Nat} {t p : Int} (h : p ∈ sendsN l k t) : 0 ≤ p ∧ p < k := by
  simp only [sendsN, List.mem_map, List.mem_filter, List.mem_range] at h
  obtain ⟨i, ⟨hi, _⟩, rfl⟩ := h
  exact ⟨Int.natCast_nonneg _, Int.ofNat_lt.2 hi⟩
theorem sends_next {l : List Packet} {k : Nat} {x : Packet} (hx : l[k]? = some x) (t : Int) : sendsN l (k + 1) t = if t = x.Tick then sendsN l k t ++ [(k : Int)] else sendsN l k t := by
  simp only [sendsN, List.range_succ, List.filter_append, List.map_append, List.filter_cons, List.filter_nil, hx, Option.map_some, Option.some.injEq]
  by_cases h : x.Tick = t
  · rw [if_pos (decide_eq_true h), if_pos h.symm]; rfl
  · rw [if_neg (by simpa using h), if_neg (fun e => h e.symm)]; simp
section
variable {kv : List (Int × Sld Int)} {k : Int} {y : Sld Int}
theorem lk_mput (t : Int) : lkS t (mput k y kv) = if t = k then y else lkS t kv := by
  unfold lkS
  rw [mget_mput]
  by_cases h : t = k <;> simp [h]
theorem mput_perm {κ ν : Type} [DecidableEq κ] {k : κ} {v : ν} : ∀ (kv : List (κ × ν)), (mput k v kv).Perm ((k, v) :: mdel k kv)
  | [] => List.Perm.refl _
  | x :: l => by
    simp only [mput, mdel]
    by_cases h : k = x.1
    · rw [if_pos h, if_pos h]
    · rw [if_neg h, if_neg h]
      exact ((mput_perm l).cons x).trans (List.Perm.swap _ _ _)
theorem mdel_perm {κ ν : Type} [DecidableEq κ] {k : κ} {v : ν} : ∀ {kv : List (κ × ν)}, mget k kv = some v → kv.Perm ((k, v) :: mdel k kv)
  | x :: l, h => by
    simp only [mget] at h
    simp only [mdel]
    by_cases hk : k = x.1
    · rw [if_pos hk] at h ⊢
      injection h with h
      subst hk h
      exact List.Perm.refl _
    · rw [if_neg hk] at h ⊢
      exact ((mdel_perm h).cons x).trans (List.Perm.swap _ _ _)
theorem mdel_none {κ ν : Type} [DecidableEq κ] {k : κ} : ∀ {kv : List (κ × ν)}, mget k kv = none → mdel k kv = kv
  | [], _ => rfl
  | x :: l, h => by
    simp only [mget] at h
    simp only [mdel]
    by_cases hk : k = x.1
    · rw [if_pos hk] at h; cases h
    · rw [if_neg hk] at h ⊢
      rw [mdel_none h]
variable {n0 : Nat} {w0 w : World} {L : List SA}
/-- A row of the map is taken out. -/
theorem lk_out (k : Int) (H : Hp n0 w0 w (SA.rows kInt 3 (kv.map (·.2)) :: L)) : Hp n0 w0 w (SA.own kInt 3 (lkS k kv).A (lkS k kv).c (lkS k kv).xs :: SA.rows kInt 3 ((mdel k kv).map (·.2)) :: L) := by
  unfold lkS
  cases hm : mget k kv with
  | none =>
    rw [mdel_none hm]
    exact own_nil H kInt 3
  | some v =>
    exact big_out (f := fun s : Sld Int => SA.own kInt 3 s.A s.c s.xs) (x := v) (by simpa using (mdel_perm hm).map (·.2)) H
theorem lk_in' (y : Sld Int) (H : Hp n0 w0 w (SA.own kInt 3 y.A y.c y.xs :: SA.rows kInt 3 ((mdel k kv).map (·.2)) :: L)) : Hp n0 w0 w (SA.rows kInt 3 ((mput k y kv).map (·.2)) :: L) :=
  big_in (f := fun s : Sld Int => SA.own kInt 3 s.A s.c s.xs) (x := y) (by simpa using (mput_perm (k := k) (v := y) kv).map (·.2)) H
theorem own_nem {α : Type} {d : Kd α} {e : TypeId} {A : Option Addr} {c : Nat} {xs : List α} {κ ν : Type} {enc : κ → Value} {ev : ν → Value} {b : Nat} {kv : List (κ × ν)} (H : Hp n0 w0 w (SA.own d e A c xs :: SA.map enc ev b kv :: L)) : ∀ a, A = some a → a.block ≠ b := by
  obtain ⟨x, H1⟩ := (H.pull 1 rfl rfl).opn
  exact own_ne ((H1.out.2).pull 1 rfl rfl)
end
theorem delC_cf {kv : List (Port × Int)} {r : Int} (hn : (kv.map (·.1)).Nodup) : cf (delN kv r 4) = delC (cf kv) r := by
  funext p
  simp only [cf, delC, (delN_get hn 4).2.2]
  rfl
def allPorts (s : Spec) : List Port := (List.range (nR s)).flatMap fun (r : Nat) => outs5.flatMap fun o => [⟨(r : Int), o, 0⟩, ⟨(r : Int), o, 1⟩]
def allCom (s : Spec) : List Port := (List.range (nR s)).flatMap fun (r : Nat) => outs4.map fun o => ⟨(r : Int), o, 0⟩
def sumN {α : Type} (f : α → Nat) (l : List α) : Nat := (l.map f).sum
def restP (s : Spec) (Q : Port → List Int) (C : CF) : Nat := sumN (fun p => (Q p).length) (allPorts s) + sumN (fun p => if (C p).isSome then 1 else 0) (allCom s)
theorem sum_split {α : Type} [DecidableEq α] {f g : α → Nat} {x : α} {c : Nat} (hx : f x = g x + c) (h : ∀ y, y ≠ x → f y = g y) : ∀ {l : List α}, l.Nodup → sumN f l = sumN g l + if x ∈ l then c else 0
  | [], _ => by simp [sumN]
  | y :: l, hn => by
    obtain ⟨h1, h2⟩ := List.nodup_cons.1 hn
    have ih := sum_split hx h h2
    simp only [sumN, List.map_cons, List.sum_cons] at ih ⊢
    by_cases e : y = x
    · subst e
      rw [hx, ih, if_neg h1, if_pos List.mem_cons_self]
      omega
    · rw [h y e, ih]
      by_cases hm : x ∈ l
      · rw [if_pos hm, if_pos (List.mem_cons_of_mem _ hm)]; omega
      · rw [if_neg hm, if_neg (by simp [hm, Ne.symm e])]; omega
theorem sum_map {κ ν : Type} [DecidableEq κ] (f : ν → Nat) {all : List κ} (ha : all.Nodup) : ∀ {kv : List (κ × ν)}, (kv.map (·.1)).Nodup → (∀ k ∈ kv.map (·.1), k ∈ all) → sumN (fun x => f x.2) kv = sumN (fun p => ((mget p kv).map f).getD 0) all
  | [], _, _ => by
    simp only [sumN, mget]
    induction all with
    | nil => rfl
    | cons a l ih => simp at ih ⊢; exact ih (List.nodup_cons.1 ha).2
  | x :: l, hn, hall => by
    simp only [List.map_cons, List.nodup_cons] at hn
    have ih := sum_map f ha hn.2 (fun k hk => hall k (by simp [hk]))
    have hxm : x.1 ∈ all := hall x.1 (by simp)
    have hnone : mget x.1 l = none := by
      cases hm : mget x.1 l with
      | none => rfl
      | some v => exact absurd (mget_key.1 (by rw [hm]; rfl)) hn.1
    have h1 := sum_split (f := fun p => ((mget p (x :: l)).map f).getD 0) (g := fun p => ((mget p l).map f).getD 0) (x := x.1) (c := f x.2) (by simp [mget, hnone]) (fun y hy => by simp [mget, hy]) ha
    rw [h1, if_pos hxm, ← ih]
    simp only [sumN, List.map_cons, List.sum_cons]
    omega
theorem allPorts_mem {s : Spec} {k : Port} (h : portOk s k) : k ∈ allPorts s := by
  obtain ⟨h1, h2, h3, h4⟩ := h
  refine List.mem_flatMap.2 ⟨k.r.toNat, List.mem_range.2 (by unfold nR; omega), List.mem_flatMap.2 ⟨k.o, h3, ?_⟩⟩
  have : ((k.r.toNat : Nat) : Int) = k.r := by omega
  rw [this]
  cases k
  rcases h4 with h4 | h4 <;> (simp only at h4; subst h4; simp)
theorem allCom_mem {s : Spec} {k : Port} (h : comOk s k) : k ∈ allCom s := by
  obtain ⟨h1, h2, h3, h4⟩ := h
  refine List.mem_flatMap.2 ⟨k.r.toNat, List.mem_range.2 (by unfold nR; omega), List.mem_map.2 ⟨k.o, h3, ?_⟩⟩
  have : ((k.r.toNat : Nat) : Int) = k.r := by omega
  rw [this]
  cases k
  simp only at h4
  subst h4
  rfl
theorem nodup_blocks {β : Type} {f : Nat → List Port} (hf : ∀ r, (f r).Nodup) (hr : ∀ (r : Nat), ∀ k ∈ f r, k.r = (r : Int)) : ∀ n, ((List.range n).flatMap f).Nodup
  | 0 => by simp
  | n + 1 => by
    rw [List.range_succ, List.flatMap_append, List.nodup_append]
    refine ⟨nodup_blocks (β := β) hf hr n, by simpa using hf n, fun a ha b hb e => ?_⟩
    subst e
    obtain ⟨m, hm, hk⟩ := List.mem_flatMap.1 ha
    have h1 := hr m a hk
    have h2 := hr n a (by simpa using hb)
    have := List.mem_range.1 hm
    omega
theorem allPorts_nodup (s : Spec) : (allPorts s).Nodup := nodup_blocks (β := Nat) (fun r => by
  simp only [outs5, List.flatMap_cons, List.flatMap_nil, List.append_nil, List.cons_append, List.nil_append]
  simp [List.nodup_cons]) (fun r k hk => by
  obtain ⟨o, _, ho⟩ := List.mem_flatMap.1 hk
  simp only [List.mem_cons, List.not_mem_nil, or_false] at ho
  rcases ho with rfl | rfl <;> rfl) _
theorem allCom_nodup (s : Spec) : (allCom s).Nodup := nodup_blocks (β := Nat) (fun r => by
  simp only [outs4, List.map_cons, List.map_nil]
  simp [List.nodup_cons]) (fun r k hk => by
  obtain ⟨o, _, rfl⟩ := List.mem_map.1 hk
  rfl) _
theorem rest_of {s : Spec} {kvQ : List (Port × Qd)} {kvC : List (Port × Int)} (hn : (kvQ.map (·.1)).Nodup) (hp : ∀ k ∈ kvQ.map (·.1), portOk s k) (hnC : (kvC.map (·.1)).Nodup) (hc : ∀ k ∈ kvC.map (·.1), comOk s k) :
    kvC.length + sumN (fun x => x.2.xs.length) kvQ = restP s (qf kvQ) (cf kvC) := by
  have h1 := sum_map (fun q : Qd => q.xs.length) (allPorts_nodup s) hn (fun k hk => allPorts_mem (hp k hk))
  have h2 := sum_map (fun _ : Int => 1) (allCom_nodup s) hnC (fun k hk => allCom_mem (hc k hk))
  have h3 : sumN (fun x : Port × Int => 1) kvC = kvC.length := by
    simp only [sumN]
    generalize kvC = l
    induction l with
    | nil => rfl
    | cons a l ih => rw [List.map_cons, List.sum_cons, ih, List.length_cons]; omega
  rw [h3] at h2
  rw [h1, h2, restP, Nat.add_comm]
  congr 1
  · congr 1
    funext p
    simp only [qf]
    cases mget p kvQ <;> rfl
  · congr 1
    funext p
    show ((mget p kvC).map fun _ => 1).getD 0 = if (cf kvC p).isSome = true then 1 else 0
    unfold cf
    cases hm : mget p kvC with
    | none => simp
    | some v => simp
theorem q_cell {n0 : Nat} {w0 w : World} {L : List SA} {kv : List (Port × Qd)} {i : Nat} {k : Port} {q : Qd} (hi : kv[i]? = some (k, q)) (H : Hp n0 w0 w (SA.queues kv :: L)) : w.cell? ⟨q.b, 0, none⟩ = some (.slice q.A q.xs.length q.c) :=
  cell_of ((Hp.split (big_out (f := fun x : Port × Qd => qpart x.2) (perm_at hi) H)).rd 0 rfl)
def visLen (kv : List (Port × Qd)) (vis : List Nat) : Nat := sumN (fun i => ((kv[i]?).map fun x => x.2.xs.length).getD 0) vis
theorem visLen_snoc {kv : List (Port × Qd)} {vis : List Nat} {i : Nat} {k : Port} {q : Qd} (hi : kv[i]? = some (k, q)) : visLen kv (vis ++ [i]) = visLen kv vis + q.xs.length := by
  simp [visLen, sumN, hi]
theorem visLen_all {kv : List (Port × Qd)} {vis : List Nat} (hn : vis.Nodup) (hlt : ∀ i ∈ vis, i < kv.length) (hall : ∀ i, i < kv.length → i ∈ vis) : visLen kv vis = sumN (fun x => x.2.xs.length) kv := by
  have h1 : visLen kv vis = visLen kv (List.range kv.length) := ((perm_range hn hlt hall).map _).sum_nat
  rw [h1]
  simp only [visLen, sumN]
  congr 1
  apply List.ext_getElem?
  intro i
  by_cases h : i < kv.length
  · simp [h]
  · simp [h]
theorem visLen_le {kv : List (Port × Qd)} (h : ∀ x ∈ kv, x.2.xs.length ≤ 64) : ∀ (vis : List Nat), visLen kv vis ≤ 64 * vis.length
  | [] => by simp [visLen, sumN]
  | i :: vis => by
    have ih := visLen_le h vis
    simp only [visLen, sumN, List.map_cons, List.sum_cons, List.length_cons] at ih ⊢
    have : ((kv[i]?).map fun x => x.2.xs.length).getD 0 ≤ 64 := by
      cases hx : kv[i]? with
      | none => simp
      | some x => simpa using h x (List.mem_of_getElem? hx)
    omega
theorem nodup_sub {α : Type} [DecidableEq α] : ∀ {l all : List α}, l.Nodup → (∀ x ∈ l, x ∈ all) → l.length ≤ all.length
  | [], all, _, _ => by simp
  | a :: l, all, hn, h => by
    obtain ⟨h1, h2⟩ := List.nodup_cons.1 hn
    have ha := h a List.mem_cons_self
    have ih := nodup_sub (all := all.erase a) h2 fun x hx => (List.mem_erase_of_ne (fun e : x = a => h1 (by rw [← e]; exact hx))).2 (h x (List.mem_cons_of_mem _ hx))
    rw [List.length_erase_of_mem ha] at ih
    have := List.length_pos_of_mem ha
    simp only [List.length_cons]
    omega
theorem sum_const (c n : Nat) : ((List.range n).map fun _ => c).sum = n * c := by
  induction n with
  | zero => simp
  | succ n ih => rw [List.range_succ, List.map_append, List.sum_append, ih, Nat.succ_mul]; simp
theorem ports_len {s : Spec} {kv : List (Port × Qd)} (hs : chk s = 0) (hn : (kv.map (·.1)).Nodup) (hp : ∀ k ∈ kv.map (·.1), portOk s k) : kv.length ≤ 640 := by
  have h1 := nodup_sub hn fun k hk => allPorts_mem (hp k hk)
  have h2 : (allPorts s).length = nR s * 10 := by
    simp only [allPorts, List.length_flatMap, outs5]
    simp [sum_const]
  obtain ⟨hm1, hm2⟩ := mul64 hs
  rw [List.length_map, h2] at h1
  unfold nR at h1
  omega
theorem com_len {s : Spec} {kv : List (Port × Int)} (hs : chk s = 0) (hn : (kv.map (·.1)).Nodup) (hp : ∀ k ∈ kv.map (·.1), comOk s k) : kv.length ≤ 256 := by
  have h1 := nodup_sub hn fun k hk => allCom_mem (hp k hk)
  have h2 : (allCom s).length = nR s * 4 := by
    simp only [allCom, List.length_flatMap, outs4]
    simp [sum_const]
  obtain ⟨hm1, hm2⟩ := mul64 hs
  rw [List.length_map, h2] at h1
  unfold nR at h1
  omega
theorem qf_len {s : Spec} {kv : List (Port × Qd)} (hs : chk s = 0) (hn : (kv.map (·.1)).Nodup) (h : shortQ s (qf kv)) : ∀ x ∈ kv, x.2.xs.length ≤ 64 := fun x hx => by
  obtain ⟨i, hi, rfl⟩ := List.mem_iff_getElem.1 hx
  have h1 := mget_nodup (k := kv[i].1) (v := kv[i].2) (i := i) hn (by simp [hi])
  have h2 := h kv[i].1
  obtain ⟨_, _, _, _, _, h3⟩ := chk_ok hs
  simp only [qf, h1, Option.map_some, Option.getD_some] at h2
  omega
/-- What a run reports. -/
structure Rep where
  ar : List Arr
  dr : List Drp
  mo : List V2
  rest : Int
def runE (s : Spec) (ts : List (List Entry)) (l : List Packet) (ticks : Int) : Int := if chkT s ts ≠ 0 then chkT s ts else if chkP s l ≠ 0 then chkP s l else if ticks < 0 ∨ 10000 < ticks then 3 else 0
def repOf (s : Spec) (e : RS) : Rep := ⟨e.ar, e.dr, e.mo, restP s e.Q e.C⟩
def runP (s : Spec) (ts : List (List Entry)) (l : List Packet) (ticks : Int) : Rep := if runE s ts l ticks ≠ 0 then ⟨[], [], [], 0⟩ else repOf s (runN s ts l ticks.toNat)
theorem chkT_ok {s : Spec} {ts : List (List Entry)} (h : chkT s ts = 0) : chk s = 0 ∧ ((ts.length : Nat) : Int) = s.Wide * s.High ∧ ∀ t ∈ ts, t.length ≤ 1024 := by
  unfold chkT at h
  split at h
  · contradiction
  · split at h
    · cases h
    · refine ⟨by omega, by omega, fun t ht => ?_⟩
      have := first_zero h t ht
      unfold tabE at this
      split at this
      · cases this
      · omega
theorem chkP_ok {s : Spec} {l : List Packet} (h : chkP s l = 0) : l.length ≤ 1024 ∧ ∀ x ∈ l, x.Class = 0 ∨ x.Class = 1 := by
  unfold chkP at h
  split at h
  · cases h
  · refine ⟨by omega, fun x hx => ?_⟩
    have := first_zero h x hx
    unfold pktE at this
    (repeat' split at this) <;> first | contradiction | omega
theorem pkAt_eq {l : List Packet} {p : Int} {pk : Packet} (h : l[p.toNat]? = some pk) : pkAt l p = pk := by rw [pkAt, h]; rfl
end Go.Proofs.Ytlnogaoihkinbaa
namespace Go.Proofs.Ytlnogaoihkinbaa
open Go.Gk Go.RowKit
def inQ (n : Int) (Q : Port → List Int) : Prop := ∀ k, ∀ p ∈ Q k, 0 ≤ p ∧ p < n
def inC (n : Int) (C : CF) : Prop := ∀ k p, C k = some p → 0 ≤ p ∧ p < n
theorem updP_in {n : Int} {Q : Port → List Int} (h : inQ n Q) {k : Port} {l : List Int} (hl : ∀ p ∈ l, 0 ≤ p ∧ p < n) : inQ n (updP Q k l) := fun k' p hp => by
  simp only [updP] at hp
  split at hp
  · exact hl p hp
  · exact h k' p hp
theorem outStep_in {n : Int} {s : Spec} {t r p cls outs : Int} {e : ES} {o : Int} (hp : 0 ≤ p ∧ p < n) (h : inQ n e.Q) : inQ n (outStep s t r p cls outs e o).Q := by
  unfold outStep
  split
  · exact h
  · split
    · exact h
    · exact updP_in h fun x hx => (List.mem_append.1 hx).elim (h _ x) fun hx => by rw [List.mem_singleton.1 hx]; exact hp
theorem enterP_in {n : Int} {s : Spec} {tab : List Entry} {key t r p cls : Int} {e : ES} (hp : 0 ≤ p ∧ p < n) (h : inQ n e.Q) : inQ n (enterP s tab key t r p cls e).Q := by
  unfold enterP
  split
  · exact h
  · exact foldl_inv (P := fun e : ES => inQ n e.Q) (fun b a hb => outStep_in hp hb) _ _ h
theorem enterN_in {n : Int} {s : Spec} {tab : List Entry} {l : List Packet} {t r : Int} : ∀ {ps : List Int} {e : ES}, (∀ p ∈ ps, 0 ≤ p ∧ p < n) → inQ n e.Q → inQ n (enterN s tab l t r e ps).Q
  | [], e, _, h => h
  | p :: ps, e, hp, h => enterN_in (ps := ps) (fun x hx => hp x (List.mem_cons_of_mem _ hx)) (enterP_in (hp p List.mem_cons_self) h)
theorem sendP_in {n : Int} {s : Spec} {t r o : Int} {e : SS} (h : inQ n e.Q) (hc : inC n e.C) : inQ n (sendP s t r o e).Q ∧ inC n (sendP s t r o e).C := by
  unfold sendP
  split
  · exact ⟨h, hc⟩
  · rename_i p rest hx
    have h1 : inQ n (updP e.Q (sendK e.Q r o) rest) := updP_in h fun x hm => h (sendK e.Q r o) x (by rw [hx]; exact List.mem_cons_of_mem _ hm)
    have hp := h (sendK e.Q r o) p (by rw [hx]; exact List.mem_cons_self)
    split
    · exact ⟨h1, hc⟩
    · refine ⟨h1, fun k q hq => ?_⟩
      simp only [updP] at hq
      split at hq
      · injection hq with hq; rw [← hq]; exact hp
      · exact hc k q hq
theorem comL_in {n : Int} {C : CF} {r : Int} (h : inC n C) : ∀ p ∈ comL C r, 0 ≤ p ∧ p < n := fun p hp => by
  obtain ⟨o, _, ho⟩ := List.mem_filterMap.1 hp
  exact h _ _ ho
theorem ents_in {l : List Packet} {C : CF} {t r : Int} (h : inC l.length C) : ∀ p ∈ entsOf l C t r, 0 ≤ p ∧ p < l.length := fun p hp => by
  rcases List.mem_append.1 hp with hp | hp
  · exact comL_in h p hp
  · exact sends_mem (List.mem_filter.1 hp).1
def InR (n : Int) (e : RS) : Prop := inQ n e.Q ∧ inC n e.C
theorem enterR_in {s : Spec} {ts : List (List Entry)} {l : List Packet} {t : Int} {e : RS} {r : Nat} (h : InR l.length e) : InR l.length (enterR s ts l t e r) :=
  ⟨enterN_in (ents_in h.2) h.1, fun k p hp => by simp only [enterR, delC] at hp; split at hp; cases hp; exact h.2 k p hp⟩
theorem sendR_in {s : Spec} {n t : Int} {e : RS} {r : Nat} (h : InR n e) : InR n (sendR s t e r) :=
  foldl_inv (P := fun x : SS => inQ n x.Q ∧ inC n x.C) (fun b a hb => sendP_in hb.1 hb.2) _ _ h
theorem entersR_in {s : Spec} {ts : List (List Entry)} {l : List Packet} {t : Int} {e : RS} (h : InR l.length e) (k : Nat) : InR l.length (entersR s ts l t e k) :=
  foldl_inv (P := InR l.length) (fun b a hb => enterR_in hb) _ _ h
theorem sendsR_in {s : Spec} {n t : Int} {e : RS} (h : InR n e) (k : Nat) : InR n (sendsR s t e k) :=
  foldl_inv (P := InR n) (fun b a hb => sendR_in hb) _ _ h
theorem runN_in (s : Spec) (ts : List (List Entry)) (l : List Packet) (k : Nat) : InR l.length (runN s ts l k) :=
  foldl_inv (P := InR l.length) (fun b a hb => sendsR_in (entersR_in hb _) _) _ _ ⟨fun _ p hp => absurd hp (by simp [startR]), fun _ p hp => by simp [startR] at hp⟩
end Go.Proofs.Ytlnogaoihkinbaa
namespace Go.Proofs.Ytlnogaoihkinbaa
open Go.Gk Go.RowKit
theorem ca63 : cellsAgg Try.prog 63 = some (some 4) := by kernel_rfl
theorem cl25 : callable Try.prog 25 = true := by kernel_rfl
theorem cl59 : callable Try.prog 59 = true := by kernel_rfl
theorem cl61 : callable Try.prog 61 = true := by kernel_rfl
theorem cl62 : callable Try.prog 62 = true := by kernel_rfl
theorem cl64 : callable Try.prog 64 = true := by kernel_rfl
theorem cl87 : callable Try.prog 87 = true := by kernel_rfl
theorem fo63_3 : fieldOff Try.prog 63 3 = some 3 := by kernel_rfl
theorem ts61 : tySize Try.prog 61 = some 1 := by kernel_rfl
theorem ts63 : tySize Try.prog 63 = some 4 := by kernel_rfl
theorem tz63 : tyZero Try.prog 63 = some (.agg #[.slice none 0 0, .slice none 0 0, .slice none 0 0, .int .i64 0]) := by kernel_rfl
theorem entering_c (bw : Nat) (t r : Int) (w0 : World) :
    Calls Try.prog 61 #[.pointer (some ⟨bw, 0, none⟩), .int .i64 t, .int .i64 r] w0 fun e w' => ∃ v, e = .returned v ∧ (∃ b1 b2 b3, v = .func (.func 87) #[] #[.pointer (some ⟨b1, 0, none⟩), .pointer (some ⟨b2, 0, none⟩), .pointer (some ⟨b3, 0, none⟩)] ∧ Below w0.heap.size w0 w' ∧ New (SA.star (SA.star (SA.cel b1 #[.int .i64 r] 3) (SA.cel b2 #[.pointer (some ⟨bw, 0, none⟩)] 138)) (SA.cel b3 #[.int .i64 t] 3)) w0 w') := by
  refine calls_of (n := 8) (l := [.pointer (some ⟨bw, 0, none⟩), .int .i64 t, .int .i64 r]) Try.func61 rfl rfl rfl ?_
  have H := Hp.start w0
  refine V_seq rfl ?_
  refine V_region rfl ?_
  refine Rg_op rfl (o_box (v := .pointer (some ⟨bw, 0, none⟩)) rfl rfl H fun b1 w2 hA H => ?_)
  refine Rg_op rfl (o_box (v := .int .i64 t) rfl rfl H fun b3 w4 hA H => ?_)
  refine Rg_op rfl (o_box (v := .int .i64 r) rfl rfl H fun b5 w6 hA H => ?_)
  refine Rg_op rfl (o_val (v := .nilFunc) (d := 6) rfl rfl (ex_assign rfl) ?_)
  refine Rg_end ?_
  refine V_seq rfl ?_
  refine V_region rfl ?_
  refine Rg_op rfl (o_val (v := .func (.func 87) #[] #[.pointer (some ⟨b5, 0, none⟩), .pointer (some ⟨b1, 0, none⟩), .pointer (some ⟨b3, 0, none⟩)]) (d := 7) rfl rfl (ex_makeFunc (fv := []) (cv := [.pointer (some ⟨b5, 0, none⟩), .pointer (some ⟨b1, 0, none⟩), .pointer (some ⟨b3, 0, none⟩)]) rfl rfl) ?_)
  refine Rg_op rfl (o_val (v := .func (.func 87) #[] #[.pointer (some ⟨b5, 0, none⟩), .pointer (some ⟨b1, 0, none⟩), .pointer (some ⟨b3, 0, none⟩)]) (d := 6) rfl rfl (ex_assign rfl) ?_)
  refine Rg_end ?_
  refine V_ret rfl (end0 (v := .func (.func 87) #[] #[.pointer (some ⟨b5, 0, none⟩), .pointer (some ⟨b1, 0, none⟩), .pointer (some ⟨b3, 0, none⟩)]) rfl (res_tmp Try.results61 rfl) ?_)
  exact ⟨_, _, _, rfl, H.below, Hp.give (Hp.join (Hp.join ((H.pull 2 rfl rfl).pull 1 rfl rfl)))⟩

theorem run_c (s : Spec) (A : Option Addr) (c : Nat) (ts : List (List Entry)) (A1 : Option Addr) (c1 : Nat) (l : List Packet) (ticks : Int) (w0 : World) (hX : Row (kSl kEnt) w0.cell? A ts) (hl : ts.length ≤ 9223372036854775807) (hY : Row kPkt w0.cell? A1 l) (hll : l.length ≤ 9223372036854775807) :
    Calls Try.prog 22 #[.agg #[.int .i64 s.Wide, .int .i64 s.High, .int .i64 s.Room], .slice A ts.length c, .slice A1 l.length c1, .int .i64 ticks] w0 fun e w' => ∃ v, e = .returned v ∧ (∃ Aa' ca' Ad' cd' Am' cm', v = .tuple #[.agg #[.slice Aa' (runP s ts l ticks).ar.length ca', .slice Ad' (runP s ts l ticks).dr.length cd', .slice Am' (runP s ts l ticks).mo.length cm', .int .i64 (runP s ts l ticks).rest], .int .i64 (runE s ts l ticks)] ∧ Below w0.heap.size w0 w' ∧ New (SA.star (SA.star (SA.own kArr 97 Aa' ca' (runP s ts l ticks).ar) (SA.own kDrp 110 Ad' cd' (runP s ts l ticks).dr)) (SA.own kV2 101 Am' cm' (runP s ts l ticks).mo)) w0 w') := by
  refine calls_of (n := 168) (l := [.agg #[.int .i64 s.Wide, .int .i64 s.High, .int .i64 s.Room], .slice A ts.length c, .slice A1 l.length c1, .int .i64 ticks]) Try.func22 rfl rfl rfl ?_
  have H := Hp.start w0
  refine V_seq rfl ?_
  refine V_region rfl ?_
  refine Rg_op rfl (o_box (v := .agg #[.int .i64 s.Wide, .int .i64 s.High, .int .i64 s.Room]) rfl rfl H fun b1 w2 hA H => ?_)
  refine Rg_op rfl (o_alloc rfl tz63 H fun b3 w4 hA H => ?_)
  refine Rg_op rfl (o_val (v := .int .i64 0) (d := 9) rfl rfl (ex_assign rfl) ?_)
  refine Rg_end ?_
  refine V_seq rfl ?_
  refine V_seq rfl ?_
  refine V_region rfl ?_
  refine Rg_op rfl (o_val (v := .agg #[.int .i64 s.Wide, .int .i64 s.High, .int .i64 s.Room]) (d := 24) rfl rfl (ex_loadN (vs := [.int .i64 s.Wide, .int .i64 s.High, .int .i64 s.Room]) ca33 rfl rfl (blk_cells (H.rd 1 rfl) rfl)) ?_)
  refine Rg_op rfl (o_val (v := .slice A ts.length c) (d := 25) rfl rfl (ex_move rfl) ?_)
  refine Rg_op rfl (o_call (fv := []) (cap := []) (vs := [.agg #[.int .i64 s.Wide, .int .i64 s.High, .int .i64 s.Room], .slice A ts.length c]) rfl rfl cl25 rfl (checkT_c s _ _ ts _ (hX.mono (fun _ _ h => H.cell0 h)) (by omega)) fun v w5 hS => ?_)
  obtain ⟨rfl, hB⟩ := hS
  have H := H.keep hB
  refine Rg_op rfl (o_val (v := .int .i64 (chkT s ts)) (d := 10) rfl rfl (ex_assign rfl) ?_)
  refine Rg_end ?_
  refine V_seq rfl ?_
  refine V_region rfl ?_
  refine Rg_op rfl (o_val (v := .int .i64 (chkT s ts)) (d := 27) rfl rfl (ex_move rfl) ?_)
  refine Rg_op rfl (o_val (v := .bool (decide ((chkT s ts) ≠ 0))) (d := 28) rfl rfl (ex_neq rfl rfl) ?_)
  refine Rg_end ?_
  refine V_cond (b := (decide ((chkT s ts) ≠ 0))) rfl rfl (fun hb6 => ?_) (fun hb6 => ?_)
  · have hb6 : (chkT s ts) ≠ 0 := of_decide_eq_true hb6
    refine V_seq rfl ?_
    refine V_region rfl ?_
    refine Rg_op rfl (o_val (v := .agg #[.slice none 0 0, .slice none 0 0, .slice none 0 0, .int .i64 0]) (d := 29) rfl rfl (ex_eq (by kernel_rfl)) ?_)
    refine Rg_op rfl (o_val (v := .int .i64 (chkT s ts)) (d := 30) rfl rfl (ex_move rfl) ?_)
    refine Rg_op rfl (o_store (vs := [.slice none 0 0, .slice none 0 0, .slice none 0 0, .int .i64 0]) rfl ts63 rfl rfl rfl rfl 0 rfl rfl rfl rfl H fun w7 hA H => ?_)
    refine Rg_op rfl (o_val (v := .int .i64 (chkT s ts)) (d := 9) rfl rfl (ex_assign rfl) ?_)
    refine Rg_end ?_
    have hre : runE s ts l ticks = chkT s ts := by simp only [runE]; (repeat' split) <;> first | contradiction | rfl | (simp_all; done) | skip
    have hrp : runP s ts l ticks = ⟨[], [], [], 0⟩ := if_pos (by rw [hre]; first | assumption | decide)
    refine V_ret rfl (end0 (v := .tuple #[.agg #[.slice none 0 0, .slice none 0 0, .slice none 0 0, .int .i64 0], .int .i64 (chkT s ts)]) rfl (res_ct Try.results22 rfl (load_blk (vs := [.slice none 0 0, .slice none 0 0, .slice none 0 0, .int .i64 0]) ca63 (H.rd 0 rfl) rfl rfl) rfl) ?_)
    have H := own_nil H kV2 101
    have H := own_nil H kDrp 110
    have H := own_nil H kArr 97
    have H := Hp.join (Hp.join H)
    exact ⟨none, 0, none, 0, none, 0, by rw [hrp, hre]; rfl, H.below, by rw [hrp]; exact H.give⟩
  · have hb6 : ¬ ((chkT s ts) ≠ 0) := of_decide_eq_false hb6
    obtain ⟨hs, htl, hT2⟩ := chkT_ok (by omega : chkT s ts = 0)
    obtain ⟨hs1, hs2, hs3, hs4, hs5, hs6⟩ := chk_ok hs
    obtain ⟨hm1, hm2⟩ := mul64 hs
    refine V_skip rfl ?_
    refine V_seq rfl ?_
    refine V_seq rfl ?_
    refine V_region rfl ?_
    refine Rg_op rfl (o_val (v := .agg #[.int .i64 s.Wide, .int .i64 s.High, .int .i64 s.Room]) (d := 31) rfl rfl (ex_loadN (vs := [.int .i64 s.Wide, .int .i64 s.High, .int .i64 s.Room]) ca33 rfl rfl (blk_cells (H.rd 1 rfl) rfl)) ?_)
    refine Rg_op rfl (o_val (v := .slice A1 l.length c1) (d := 32) rfl rfl (ex_move rfl) ?_)
    refine Rg_op rfl (o_call (fv := []) (cap := []) (vs := [.agg #[.int .i64 s.Wide, .int .i64 s.High, .int .i64 s.Room], .slice A1 l.length c1]) rfl rfl cl59 rfl (checkP_c s _ _ l _ (by assumption) (hY.mono (fun _ _ h => H.cell0 h)) (by omega)) fun v w8 hS => ?_)
    obtain ⟨rfl, hB⟩ := hS
    have H := H.keep hB
    refine Rg_op rfl (o_val (v := .int .i64 (chkP s l)) (d := 11) rfl rfl (ex_assign rfl) ?_)
    refine Rg_end ?_
    refine V_seq rfl ?_
    refine V_region rfl ?_
    refine Rg_op rfl (o_val (v := .int .i64 (chkP s l)) (d := 34) rfl rfl (ex_move rfl) ?_)
    refine Rg_op rfl (o_val (v := .bool (decide ((chkP s l) ≠ 0))) (d := 35) rfl rfl (ex_neq rfl rfl) ?_)
    refine Rg_end ?_
    refine V_cond (b := (decide ((chkP s l) ≠ 0))) rfl rfl (fun hb9 => ?_) (fun hb9 => ?_)
    · have hb9 : (chkP s l) ≠ 0 := of_decide_eq_true hb9
      refine V_seq rfl ?_
      refine V_region rfl ?_
      refine Rg_op rfl (o_val (v := .agg #[.slice none 0 0, .slice none 0 0, .slice none 0 0, .int .i64 0]) (d := 36) rfl rfl (ex_eq (by kernel_rfl)) ?_)
      refine Rg_op rfl (o_val (v := .int .i64 (chkP s l)) (d := 37) rfl rfl (ex_move rfl) ?_)
      refine Rg_op rfl (o_store (vs := [.slice none 0 0, .slice none 0 0, .slice none 0 0, .int .i64 0]) rfl ts63 rfl rfl rfl rfl 0 rfl rfl rfl rfl H fun w10 hA H => ?_)
      refine Rg_op rfl (o_val (v := .int .i64 (chkP s l)) (d := 9) rfl rfl (ex_assign rfl) ?_)
      refine Rg_end ?_
      have hre : runE s ts l ticks = chkP s l := by simp only [runE]; (repeat' split) <;> first | contradiction | rfl | (simp_all; done) | skip
      have hrp : runP s ts l ticks = ⟨[], [], [], 0⟩ := if_pos (by rw [hre]; first | assumption | decide)
      refine V_ret rfl (end0 (v := .tuple #[.agg #[.slice none 0 0, .slice none 0 0, .slice none 0 0, .int .i64 0], .int .i64 (chkP s l)]) rfl (res_ct Try.results22 rfl (load_blk (vs := [.slice none 0 0, .slice none 0 0, .slice none 0 0, .int .i64 0]) ca63 (H.rd 0 rfl) rfl rfl) rfl) ?_)
      have H := own_nil H kV2 101
      have H := own_nil H kDrp 110
      have H := own_nil H kArr 97
      have H := Hp.join (Hp.join H)
      exact ⟨none, 0, none, 0, none, 0, by rw [hrp, hre]; rfl, H.below, by rw [hrp]; exact H.give⟩
    · have hb9 : ¬ ((chkP s l) ≠ 0) := of_decide_eq_false hb9
      obtain ⟨hl1024, hcl⟩ := chkP_ok (by omega : chkP s l = 0)
      refine V_skip rfl ?_
      refine V_seq rfl ?_
      refine V_seq rfl ?_
      refine V_join (fun σ w => σ 1 = .slice A ts.length c ∧ σ 2 = .slice A1 l.length c1 ∧ σ 3 = .int .i64 ticks ∧ σ 4 = .pointer (some ⟨b1, 0, none⟩) ∧ σ 8 = .pointer (some ⟨b3, 0, none⟩) ∧ σ 9 = .int .i64 0 ∧ σ 43 = .bool (decide ((ticks < 0) ∨ (10000 < ticks))) ∧ σ 1000000 = undef ∧ Hp w0.heap.size w0 w [SA.cel b3 #[.slice none 0 0, .slice none 0 0, .slice none 0 0, .int .i64 0] 63, SA.cel b1 #[.int .i64 s.Wide, .int .i64 s.High, .int .i64 s.Room] 33]) ?_ (fun σ w hI => ?_)
      · skip
        refine V_region rfl ?_
        refine Rg_op rfl (o_val (v := .int .i64 ticks) (d := 38) rfl rfl (ex_move rfl) ?_)
        refine Rg_op rfl (o_val (v := .bool (decide (ticks < 0))) (d := 39) rfl rfl (ex_lss rfl rfl) ?_)
        refine Rg_op rfl (o_val (v := .bool (decide (ticks < 0))) (d := 40) rfl rfl (ex_move rfl) ?_)
        by_cases hg11 : ticks < 0
        · skip
          refine Rg_op rfl (o_skip (d := 41) rfl rfl (wanted_no (b := (decide (ticks < 0))) rfl rfl rfl (decide_eq_true hg11)) ?_)
          refine Rg_op rfl (o_skip (d := 42) rfl rfl (wanted_no (b := (decide (ticks < 0))) rfl rfl rfl (decide_eq_true hg11)) ?_)
          refine Rg_op rfl (o_val (v := .bool true) (d := 43) rfl rfl (ex_pick (q := (decide (ticks < 0))) rfl (fun h => rfl) (fun h => absurd hg11 (of_decide_eq_false h))) ?_)
          refine Rg_end ?_
          exact ⟨rfl, rfl, rfl, rfl, rfl, rfl, (show (.bool true : Value) = .bool (decide ((ticks < 0) ∨ (10000 < ticks))) from by first | (simp only [hg11, true_or, or_true, false_or, or_false, true_and, and_true, false_and, and_false, decide_true, decide_false, Bool.not_true, Bool.not_false]; done) | (simp [hg11]; done) | (simp [hg11]; rfl)), rfl, H⟩
        · skip
          refine Rg_op rfl (o_valg (v := .int .i64 ticks) (d := 41) rfl rfl (wanted_yes (b := (decide (ticks < 0))) rfl rfl rfl (decide_eq_false hg11)) (ex_move rfl) ?_)
          refine Rg_op rfl (o_valg (v := .bool (decide (10000 < ticks))) (d := 42) rfl rfl (wanted_yes (b := (decide (ticks < 0))) rfl rfl rfl (decide_eq_false hg11)) (ex_gtr rfl rfl) ?_)
          refine Rg_op rfl (o_val (v := .bool (decide (10000 < ticks))) (d := 43) rfl rfl (ex_pick (q := (decide (ticks < 0))) rfl (fun h => absurd (of_decide_eq_true h) hg11) (fun h => rfl)) ?_)
          refine Rg_end ?_
          exact ⟨rfl, rfl, rfl, rfl, rfl, rfl, (show (.bool (decide (10000 < ticks)) : Value) = .bool (decide ((ticks < 0) ∨ (10000 < ticks))) from by first | (simp only [hg11, true_or, or_true, false_or, or_false, true_and, and_true, false_and, and_false, decide_true, decide_false, Bool.not_true, Bool.not_false]; done) | (simp [hg11]; done) | (simp [hg11]; rfl)), rfl, H⟩
      obtain ⟨s1, s2, s3, s4, s8, s9, s43, s1000000, H⟩ := hI
      refine V_cond (b := (decide ((ticks < 0) ∨ (10000 < ticks)))) rfl s43 (fun hb12 => ?_) (fun hb12 => ?_)
      · have hb12 : (ticks < 0) ∨ (10000 < ticks) := of_decide_eq_true hb12
        refine V_seq rfl ?_
        refine V_region rfl ?_
        refine Rg_op rfl (o_val (v := .agg #[.slice none 0 0, .slice none 0 0, .slice none 0 0, .int .i64 0]) (d := 44) rfl rfl (ex_eq (by kernel_rfl)) ?_)
        refine Rg_op rfl (o_store (vs := [.slice none 0 0, .slice none 0 0, .slice none 0 0, .int .i64 0]) rfl ts63 s8 rfl rfl rfl 0 rfl rfl rfl rfl H fun w13 hA H => ?_)
        refine Rg_op rfl (o_val (v := .int .i64 3) (d := 9) rfl rfl (ex_assign rfl) ?_)
        refine Rg_end ?_
        have hre : runE s ts l ticks = 3 := by simp only [runE]; (repeat' split) <;> first | contradiction | rfl | (simp_all; done) | skip
        have hrp : runP s ts l ticks = ⟨[], [], [], 0⟩ := if_pos (by rw [hre]; first | assumption | decide)
        refine V_ret rfl (end0 (v := .tuple #[.agg #[.slice none 0 0, .slice none 0 0, .slice none 0 0, .int .i64 0], .int .i64 3]) s1000000 (res_ct Try.results22 s8 (load_blk (vs := [.slice none 0 0, .slice none 0 0, .slice none 0 0, .int .i64 0]) ca63 (H.rd 0 rfl) rfl rfl) rfl) ?_)
        have H := own_nil H kV2 101
        have H := own_nil H kDrp 110
        have H := own_nil H kArr 97
        have H := Hp.join (Hp.join H)
        exact ⟨none, 0, none, 0, none, 0, by rw [hrp, hre]; rfl, H.below, by rw [hrp]; exact H.give⟩
      · have hb12 : ¬ ((ticks < 0) ∨ (10000 < ticks)) := of_decide_eq_false hb12
        refine V_skip rfl ?_
        refine V_seq rfl ?_
        refine V_region rfl ?_
        refine Rg_op rfl (o_val (v := .agg #[.int .i64 s.Wide, .int .i64 s.High, .int .i64 s.Room]) (d := 45) rfl rfl (ex_loadN (vs := [.int .i64 s.Wide, .int .i64 s.High, .int .i64 s.Room]) ca33 s4 rfl (blk_cells (H.rd 1 rfl) rfl)) ?_)
        refine Rg_op rfl (o_val (v := .slice A ts.length c) (d := 46) rfl rfl (ex_move s1) ?_)
        refine Rg_op rfl (o_val (v := .slice A1 l.length c1) (d := 47) rfl rfl (ex_move s2) ?_)
        refine Rg_op rfl (o_makeMap kI.enc (Sld.val (α := Int)) rfl H fun b14 w15 hA H => ?_)
        refine Rg_op rfl (o_makeMap kPort.enc Qd.val rfl H fun b16 w17 hA H => ?_)
        refine Rg_op rfl (o_makeMap kPort.enc (fun x : Int => Value.int .i64 x) rfl H fun b18 w19 hA H => ?_)
        refine Rg_op rfl (o_val (v := .agg #[.int .i64 s.Wide, .int .i64 s.High, .int .i64 s.Room, .slice A ts.length c, .slice A1 l.length c1, .map (some b14), .map (some b16), .map (some b18), .slice none 0 0, .slice none 0 0, .slice none 0 0, .int .i64 0]) (d := 51) rfl rfl (ex_eq (by kernel_rfl)) ?_)
        refine Rg_op rfl (o_box (v := .agg #[.int .i64 s.Wide, .int .i64 s.High, .int .i64 s.Room, .slice A ts.length c, .slice A1 l.length c1, .map (some b14), .map (some b16), .map (some b18), .slice none 0 0, .slice none 0 0, .slice none 0 0, .int .i64 0]) rfl rfl H fun b20 w21 hA H => ?_)
        refine Rg_op rfl (o_val (v := .pointer (some ⟨b20, 0, none⟩)) (d := 12) rfl rfl (ex_assign rfl) ?_)
        refine Rg_end ?_
        refine V_seq rfl ?_
        refine V_region rfl ?_
        refine Rg_op rfl (o_val (v := .pointer (some ⟨b20, 0, none⟩)) (d := 53) rfl rfl (ex_move rfl) ?_)
        refine Rg_op rfl (o_val (v := .pointer (some ⟨b1, 0, none⟩)) (d := 54) rfl rfl (ex_fieldAddr fo33_0 s4 rfl) ?_)
        refine Rg_op rfl (o_val (v := .int .i64 s.Wide) (d := 55) rfl rfl (ex_load ca3 rfl (cell_of (H.rd 5 rfl))) ?_)
        refine Rg_op rfl (o_val (v := .pointer (some ⟨b1, 1, none⟩)) (d := 56) rfl rfl (ex_fieldAddr fo33_1 s4 rfl) ?_)
        refine Rg_op rfl (o_val (v := .int .i64 s.High) (d := 57) rfl rfl (ex_load ca3 rfl (cell_of (H.rd 5 rfl))) ?_)
        refine Rg_op rfl (o_val (v := .int .i64 (s.Wide * s.High)) (d := 58) rfl rfl (ex_mul rfl rfl (by omega)) ?_)
        refine Rg_op rfl (o_make (D := kV2) (z := (⟨0, 0⟩ : V2)) rfl sl61 rfl (fun _ => rfl) rfl (by omega) (by simp only []; omega) (by omega) H fun A22 c23 w24 hA H => ?_)
        refine Rg_op rfl (o_val (v := .pointer (some ⟨b20, 0, none⟩)) (d := 60) rfl rfl (ex_nilCheck rfl) ?_)
        refine Rg_op rfl (o_val (v := .pointer (some ⟨b20, 8, none⟩)) (d := 61) rfl rfl (ex_fieldAddr fo142_6 rfl rfl) ?_)
        refine Rg_op rfl (o_val (v := .pointer (some ⟨b20, 10, none⟩)) (d := 62) rfl rfl (ex_fieldAddr fo63_2 rfl rfl) ?_)
        refine Rg_op rfl (o_store (vs := [.slice A22 ((s.Wide * s.High).toNat) c23]) rfl ts61 rfl rfl rfl rfl 1 rfl rfl rfl rfl H fun w26 hA H => ?_)
        refine Rg_end ?_
        refine V_seq rfl ?_
        refine V_seq rfl ?_
        refine V_region rfl ?_
        refine Rg_op rfl (o_val (v := .slice A1 l.length c1) (d := 63) rfl rfl (ex_move s2) ?_)
        refine Rg_op rfl (o_val (v := .int .i64 ((l.length : Nat) : Int)) (d := 64) rfl rfl (ex_len (ts := #[]) sl55 rfl) ?_)
        refine Rg_op rfl (o_val (v := .int .i64 0) (d := 65) rfl rfl (ex_move rfl) ?_)
        refine Rg_end ?_
        refine V_block rfl ?_
        have H := rows_emp H kInt 3
        have H : Hp w0.heap.size w0 w26 [SA.rows kInt 3 (([] : List (Int × Sld Int)).map (·.2)), SA.cel b20 #[.int .i64 s.Wide, .int .i64 s.High, .int .i64 s.Room, .slice A ts.length c, .slice A1 l.length c1, .map (some b14), .map (some b16), .map (some b18), .slice none 0 0, .slice none 0 0, .slice A22 (((List.replicate (s.Wide * s.High).toNat (⟨0, 0⟩ : V2))).length) c23, .int .i64 0] 142, SA.own kV2 101 A22 c23 (List.replicate (s.Wide * s.High).toNat (⟨0, 0⟩ : V2)), SA.map kPort.enc (fun x : Int => Value.int .i64 x) b18 ([]), SA.map kPort.enc Qd.val b16 ([]), SA.map kI.enc (Sld.val (α := Int)) b14 ([]), SA.cel b3 #[.slice none 0 0, .slice none 0 0, .slice none 0 0, .int .i64 0] 63, SA.cel b1 #[.int .i64 s.Wide, .int .i64 s.High, .int .i64 s.Room] 33] := by rw [List.length_replicate]; exact H
        refine V_loop rfl (γ := Nat) (fun i σ w => ∃ (kvS : List (Int × Sld Int)), σ 1 = .slice A ts.length c ∧ σ 3 = .int .i64 ticks ∧ σ 8 = .pointer (some ⟨b3, 0, none⟩) ∧ σ 9 = .int .i64 0 ∧ σ 12 = .pointer (some ⟨b20, 0, none⟩) ∧ σ 63 = .slice A1 l.length c1 ∧ σ 64 = .int .i64 ((l.length : Nat) : Int) ∧ σ 65 = .int .i64 ((i : Nat) : Int) ∧ σ 1000000 = undef ∧ Hp w0.heap.size w0 w [SA.rows kInt 3 (kvS.map (·.2)), SA.cel b20 #[.int .i64 s.Wide, .int .i64 s.High, .int .i64 s.Room, .slice A ts.length c, .slice A1 l.length c1, .map (some b14), .map (some b16), .map (some b18), .slice none 0 0, .slice none 0 0, .slice A22 (((List.replicate (s.Wide * s.High).toNat (⟨0, 0⟩ : V2))).length) c23, .int .i64 0] 142, SA.own kV2 101 A22 c23 (List.replicate (s.Wide * s.High).toNat (⟨0, 0⟩ : V2)), SA.map kPort.enc (fun x : Int => Value.int .i64 x) b18 ([]), SA.map kPort.enc Qd.val b16 ([]), SA.map kI.enc (Sld.val (α := Int)) b14 kvS, SA.cel b3 #[.slice none 0 0, .slice none 0 0, .slice none 0 0, .int .i64 0] 63, SA.cel b1 #[.int .i64 s.Wide, .int .i64 s.High, .int .i64 s.Room] 33] ∧ i ≤ l.length ∧ (∀ t, (lkS t kvS).xs = sendsN l i t)) (fun i => l.length - i) (0) ⟨[], s1, s3, s8, s9, rfl, rfl, rfl, rfl, s1000000, H, by omega, fun t => rfl⟩ (fun i σ w hI => ?_)
        obtain ⟨kvS, hI⟩ := hI
        obtain ⟨s1, s3, s8, s9, s12, s63, s64, s65, s1000000, H, hi, hkS⟩ := hI
        refine V_seq rfl ?_
        refine V_region rfl ?_
        refine Rg_op rfl (o_val (v := .bool (decide (((i : Nat) : Int) < ((l.length : Nat) : Int)))) (d := 66) rfl rfl (ex_lss s65 s64) ?_)
        refine Rg_end ?_
        refine V_seq rfl ?_
        refine V_cond (b := (decide (((i : Nat) : Int) < ((l.length : Nat) : Int)))) rfl rfl (fun hb27 => ?_) (fun hb27 => ?_)
        · have hb27 : ((i : Nat) : Int) < ((l.length : Nat) : Int) := of_decide_eq_true hb27
          refine V_skip rfl ?_
          refine V_seq rfl ?_
          refine V_block rfl ?_
          refine V_seq rfl ?_
          refine V_region rfl ?_
          refine Rg_op rfl (o_val (v := .int .i64 ((i : Nat) : Int)) (d := 67) rfl rfl (ex_move s65) ?_)
          obtain ⟨ad28, x28, cs28, hA28, hx28, hR28, hc28⟩ := Row.get hY ((i : Nat) : Int) ((by first | omega | (simp only [List.length_cons, List.length_nil]; omega))) ((by first | omega | (simp only [List.length_cons, List.length_nil]; omega)))
          obtain rfl := hR28
          refine Rg_op rfl (o_val (v := .pointer (some (ad28.add ((((i : Nat) : Int)).toNat * 4)))) (d := 68) rfl rfl (ex_indexAddr sl55 s63 hA28 s65 ((by first | omega | (simp only [List.length_cons, List.length_nil]; omega))) ((by first | omega | (simp only [List.length_cons, List.length_nil]; omega))) rfl) ?_)
          refine Rg_op rfl (o_val (v := .agg #[.int .i64 x28.Tick, .int .i64 x28.Source, .int .i64 x28.Key, .int .i64 x28.Class]) (d := 69) rfl rfl (ex_loadN (vs := [.int .i64 x28.Tick, .int .i64 x28.Source, .int .i64 x28.Key, .int .i64 x28.Class]) ca58 rfl rfl (fun j u hj => by rw [add_add]; exact H.cell0 (hc28 j u hj))) ?_)
          refine Rg_op rfl (o_alloc rfl tz58 H fun b29 w30 hA H => ?_)
          have H := H.pull 1 rfl rfl
          have H := lk_out x28.Tick H
          have hln9 : (lkS x28.Tick kvS).xs.length ≤ 1024 := by rw [hkS]; have := sendsN_len l i x28.Tick; omega
          refine Rg_op rfl (o_val (v := .int .i64 ((i : Nat) : Int)) (d := 13) rfl rfl (ex_assign rfl) ?_)
          refine Rg_op rfl (o_store (vs := [.int .i64 x28.Tick, .int .i64 x28.Source, .int .i64 x28.Key, .int .i64 x28.Class]) rfl ts58 rfl rfl rfl rfl 2 rfl rfl rfl rfl H fun w31 hA H => ?_)
          refine Rg_end ?_
          have hloD := own_lo (H.pull 1 rfl rfl)
          have hne_b29 := own_ne ((H.pull 0 rfl rfl).pull 1 rfl rfl)
          have hne_b20 := own_ne ((H.pull 3 rfl rfl).pull 2 rfl rfl)
          have hnm_mc := own_nem ((H.pull 5 rfl rfl).pull 2 rfl rfl)
          have hnm_mq := own_nem ((H.pull 6 rfl rfl).pull 2 rfl rfl)
          have hnm_ms := own_nem ((H.pull 7 rfl rfl).pull 2 rfl rfl)
          have hne_b3 := own_ne ((H.pull 8 rfl rfl).pull 2 rfl rfl)
          have hne_b1 := own_ne ((H.pull 9 rfl rfl).pull 2 rfl rfl)
          refine V_draw [0, 1, 2, 4, 6, 7, 8, 10, 13] (.p 0 (.p 1 (.p 2 (.q 3 (.p 4 (.q 5 (.p 6 (.p 7 (.p 8 (.q 9 (.p 10 (.q 11 (.q 12 (.p 13 (.l 14 (.l 15 (.l 16 .done))))))))))))))))) (fun b => ∃ a, (lkS x28.Tick kvS).A = some a ∧ a.block = b) rfl mixed (by kernel_rfl) fun w32 hD => ?_
          have H := H.drew hD
          refine c_p (v := .pointer (some ⟨b20, 0, none⟩)) (d := 70) rfl rfl rfl (fun w' => ex_move s12) ?_
          refine c_p (v := .pointer (some ⟨b20, 0, none⟩)) (d := 71) rfl rfl rfl (fun w' => ex_nilCheck rfl) ?_
          refine c_p (v := .pointer (some ⟨b20, 5, none⟩)) (d := 72) rfl rfl rfl (fun w' => ex_fieldAddr fo142_3 rfl rfl) ?_
          refine c_q (v := .map (some b14)) (d := 73) rfl rfl rfl (fun w' hG => ex_load ca119 rfl (hG.cell (cell_of (H.rd 3 rfl)) (fun ⟨a, h1, h2⟩ => hne_b20 a h1 h2))) ?_
          refine c_p (v := .pointer (some ⟨b29, 0, none⟩)) (d := 74) rfl rfl rfl (fun w' => ex_fieldAddr fo58_0 rfl rfl) ?_
          refine c_q (v := .int .i64 x28.Tick) (d := 75) rfl rfl rfl (fun w' hG => ex_load ca3 rfl (hG.cell (cell_of (H.rd 0 rfl)) (fun ⟨a, h1, h2⟩ => hne_b29 a h1 h2))) ?_
          refine c_p (v := .pointer (some ⟨b20, 0, none⟩)) (d := 76) rfl rfl rfl (fun w' => ex_move s12) ?_
          refine c_p (v := .pointer (some ⟨b20, 0, none⟩)) (d := 77) rfl rfl rfl (fun w' => ex_nilCheck rfl) ?_
          refine c_p (v := .pointer (some ⟨b20, 5, none⟩)) (d := 78) rfl rfl rfl (fun w' => ex_fieldAddr fo142_3 rfl rfl) ?_
          refine c_q (v := .map (some b14)) (d := 79) rfl rfl rfl (fun w' hG => ex_load ca119 rfl (hG.cell (cell_of (H.rd 3 rfl)) (fun ⟨a, h1, h2⟩ => hne_b20 a h1 h2))) ?_
          refine c_p (v := .pointer (some ⟨b29, 0, none⟩)) (d := 80) rfl rfl rfl (fun w' => ex_fieldAddr fo58_0 rfl rfl) ?_
          refine c_q (v := .int .i64 x28.Tick) (d := 81) rfl rfl rfl (fun w' hG => ex_load ca3 rfl (hG.cell (cell_of (H.rd 0 rfl)) (fun ⟨a, h1, h2⟩ => hne_b29 a h1 h2))) ?_
          refine c_q (v := .slice ((lkS x28.Tick kvS).A) ((lkS x28.Tick kvS).xs.length) ((lkS x28.Tick kvS).c)) (d := 82) rfl rfl rfl (fun w' hG => by rw [show (Value.slice ((lkS x28.Tick kvS).A) ((lkS x28.Tick kvS).xs.length) ((lkS x28.Tick kvS).c) : Value) = ((mget x28.Tick kvS).map (Sld.val (α := Int))).getD (.slice none 0 0) from get_sld.symm]; exact ex_lookup (k := x28.Tick) mt119 kI rfl rfl ((H.mapAt 7 rfl).agr hG (fun ⟨a, h1, h2⟩ => hnm_ms a h1 h2))) ?_
          refine c_p (v := .int .i64 ((i : Nat) : Int)) (d := 83) rfl rfl rfl (fun w' => ex_move rfl) ?_
          refine c_l rfl (o_lit (cs := [.int .i64 ((i : Nat) : Int)]) (e := 3) rfl (fun W => by kernel_rfl) H fun b33 w34 hA H => ⟨.inr (Below.agr hA), ?_⟩)
          have H := H.pull 2 rfl rfl
          refine c_l rfl (o_append (ys := [((i : Nat) : Int)]) (ts := #[]) rfl sl26 rfl rfl rfl H (row_lit1 (z := ((i : Nat) : Int)) (H.rd 1 rfl) rfl) (by first | omega | (simp only [List.length_append, List.length_cons, List.length_nil, List.length_map, List.length_take]; omega)) (by first | omega | (simp only [List.length_append, List.length_cons, List.length_nil, List.length_map, List.length_take]; omega)) fun A35 c36 w37 hA H => ⟨.inr hA, ?_⟩)
          have H := (H.pull 1 rfl rfl).drop
          have H := H.pull 7 rfl rfl
          refine c_l rfl (o_mapUpdate (k := x28.Tick) (v := (⟨A35, c36, ((lkS x28.Tick kvS).xs ++ [((i : Nat) : Int)])⟩ : Sld Int)) rfl mt119 kI rfl rfl rfl H fun w39 hA H => ⟨.inl (by kernel_rfl), ?_⟩)
          refine c_done ?_
          refine V_region rfl ?_
          refine Rg_op rfl (o_val (v := .int .i64 (((i : Nat) : Int) + 1)) (d := 86) rfl rfl (ex_add s65 rfl (by omega)) ?_)
          refine Rg_op rfl (o_val (v := .int .i64 (((i : Nat) : Int) + 1)) (d := 65) rfl rfl (ex_move rfl) ?_)
          refine Rg_end ?_
          have H := H.pull 3 rfl rfl
          have H := H.pull 2 rfl rfl
          have H := lk_in' (k := x28.Tick) (kv := kvS) (⟨A35, c36, (lkS x28.Tick kvS).xs ++ [((i : Nat) : Int)]⟩ : Sld Int) H
          have hkS9 : ∀ t, (lkS t (mput x28.Tick (⟨A35, c36, (lkS x28.Tick kvS).xs ++ [((i : Nat) : Int)]⟩ : Sld Int) kvS)).xs = sendsN l (i + 1) t := fun t => by rw [lk_mput, sends_next (x := x28) (show l[i]? = some _ from hx28)]; exact if h9 : t = x28.Tick then (by rw [if_pos h9, if_pos h9, h9]; show (lkS x28.Tick kvS).xs ++ [((i : Nat) : Int)] = _; rw [hkS]) else (by rw [if_neg h9, if_neg h9]; exact hkS t)
          exact ⟨i + 1, ⟨(mput x28.Tick (⟨A35, c36, (lkS x28.Tick kvS).xs ++ [((i : Nat) : Int)]⟩ : Sld Int) kvS), s1, s3, s8, s9, s12, s63, s64, rfl, s1000000, (Hp.pull 7 rfl rfl (Hp.pull 7 rfl rfl (Hp.pull 7 rfl rfl (Hp.pull 7 rfl rfl (Hp.pull 7 rfl rfl (Hp.pull 3 rfl rfl (Hp.pull 7 rfl rfl (Hp.pull 7 rfl rfl (Hp.drop (Hp.pull 2 rfl rfl H)))))))))), by omega, hkS9⟩, by omega⟩
        · have hb27 : ¬ (((i : Nat) : Int) < ((l.length : Nat) : Int)) := of_decide_eq_false hb27
          refine V_exit rfl ?_
          refine V_seq rfl ?_
          refine V_seq rfl ?_
          refine V_region rfl ?_
          refine Rg_op rfl (o_val (v := .int .i64 ticks) (d := 87) rfl rfl (ex_move s3) ?_)
          refine Rg_op rfl (o_val (v := .int .i64 0) (d := 88) rfl rfl (ex_move rfl) ?_)
          refine Rg_end ?_
          refine V_block rfl ?_
          have H := own_nil H kArr 97
          have H := own_nil H kDrp 110
          have H : Hp w0.heap.size w0 w (SA.queues [] :: [SA.own kDrp 110 none 0 ([]), SA.own kArr 97 none 0 ([]), SA.rows kInt 3 (kvS.map (·.2)), SA.cel b20 #[.int .i64 s.Wide, .int .i64 s.High, .int .i64 s.Room, .slice A ts.length c, .slice A1 l.length c1, .map (some b14), .map (some b16), .map (some b18), .slice none 0 0, .slice none 0 0, .slice A22 (((List.replicate (s.Wide * s.High).toNat (⟨0, 0⟩ : V2))).length) c23, .int .i64 0] 142, SA.own kV2 101 A22 c23 (List.replicate (s.Wide * s.High).toNat (⟨0, 0⟩ : V2)), SA.map kPort.enc (fun x : Int => Value.int .i64 x) b18 ([]), SA.map kPort.enc Qd.val b16 ([]), SA.map kI.enc (Sld.val (α := Int)) b14 kvS, SA.cel b3 #[.slice none 0 0, .slice none 0 0, .slice none 0 0, .int .i64 0] 63, SA.cel b1 #[.int .i64 s.Wide, .int .i64 s.High, .int .i64 s.Room] 33]) := emp_in H
          have hSb : ∀ (t p : Int), p ∈ (lkS t kvS).xs → 0 ≤ p ∧ p < l.length := fun t p hp => by rw [hkS] at hp; have := sends_mem hp; omega
          rw [show i = l.length from by omega] at hkS
          refine V_loop rfl (γ := Nat) (fun k σ w => ∃ (e : RS) (kvQ : List (Port × Qd)) (kvC : List (Port × Int)) (Aa Ad : Option Addr) (ca cd : Nat), σ 1 = .slice A ts.length c ∧ σ 8 = .pointer (some ⟨b3, 0, none⟩) ∧ σ 9 = .int .i64 0 ∧ σ 12 = .pointer (some ⟨b20, 0, none⟩) ∧ σ 87 = .int .i64 ticks ∧ σ 88 = .int .i64 ((k : Nat) : Int) ∧ σ 1000000 = undef ∧ Hp w0.heap.size w0 w [SA.queues kvQ, SA.own kDrp 110 Ad cd e.dr, SA.own kArr 97 Aa ca e.ar, SA.rows kInt 3 (kvS.map (·.2)), SA.cel b20 #[.int .i64 s.Wide, .int .i64 s.High, .int .i64 s.Room, .slice A ts.length c, .slice A1 l.length c1, .map (some b14), .map (some b16), .map (some b18), .slice Aa e.ar.length ca, .slice Ad e.dr.length cd, .slice A22 e.mo.length c23, .int .i64 0] 142, SA.own kV2 101 A22 c23 e.mo, SA.map kPort.enc (fun x : Int => Value.int .i64 x) b18 kvC, SA.map kPort.enc Qd.val b16 kvQ, SA.map kI.enc (Sld.val (α := Int)) b14 kvS, SA.cel b3 #[.slice none 0 0, .slice none 0 0, .slice none 0 0, .int .i64 0] 63, SA.cel b1 #[.int .i64 s.Wide, .int .i64 s.High, .int .i64 s.Room] 33] ∧ ((k : Nat) : Int) ≤ ticks ∧ e = runN s ts l k ∧ e.Q = qf kvQ ∧ e.C = cf kvC ∧ (kvQ.map (·.1)).Nodup ∧ (kvC.map (·.1)).Nodup ∧ (∀ k ∈ kvQ.map (·.1), portOk s k) ∧ (∀ k ∈ kvC.map (·.1), comOk s k) ∧ shortQ s e.Q ∧ leadQ s e.Q ∧ e.mo.length = nR s ∧ e.dr.length ≤ 328960 * k ∧ e.ar.length ≤ 320 * k) (fun k => ticks.toNat - k) (0) ⟨startR s, [], [], none, none, 0, 0, s1, s8, s9, s12, rfl, rfl, s1000000, H, by omega, rfl, rfl, rfl, List.nodup_nil, List.nodup_nil, by simp, by simp, fun k => by simp only [startR, List.length_nil]; omega, fun k h => absurd rfl h, by simp [startR], by simp [startR], by simp [startR]⟩ (fun k σ w hI => ?_)
          obtain ⟨e, kvQ, kvC, Aa, Ad, ca, cd, hI⟩ := hI
          obtain ⟨s1, s8, s9, s12, s87, s88, s1000000, H, hk, he, hQ, hC, hnQ, hnC, hpQ, hpC, hsh, hld, hml, hdl, hal⟩ := hI
          refine V_seq rfl ?_
          refine V_region rfl ?_
          refine Rg_op rfl (o_val (v := .bool (decide (((k : Nat) : Int) < ticks))) (d := 89) rfl rfl (ex_lss s88 s87) ?_)
          refine Rg_end ?_
          refine V_seq rfl ?_
          refine V_cond (b := (decide (((k : Nat) : Int) < ticks))) rfl rfl (fun hb40 => ?_) (fun hb40 => ?_)
          · have hb40 : ((k : Nat) : Int) < ticks := of_decide_eq_true hb40
            refine V_skip rfl ?_
            refine V_seq rfl ?_
            refine V_block rfl ?_
            refine V_seq rfl ?_
            refine V_region rfl ?_
            refine Rg_op rfl (o_val (v := .int .i64 ((k : Nat) : Int)) (d := 90) rfl rfl (ex_move s88) ?_)
            refine Rg_op rfl (o_val (v := .int .i64 ((k : Nat) : Int)) (d := 15) rfl rfl (ex_assign rfl) ?_)
            refine Rg_end ?_
            refine V_seq rfl ?_
            refine V_seq rfl ?_
            refine V_region rfl ?_
            refine Rg_op rfl (o_val (v := .slice A ts.length c) (d := 91) rfl rfl (ex_move s1) ?_)
            refine Rg_op rfl (o_val (v := .int .i64 ((ts.length : Nat) : Int)) (d := 92) rfl rfl (ex_len (ts := #[]) sl29 rfl) ?_)
            refine Rg_op rfl (o_val (v := .int .i64 0) (d := 93) rfl rfl (ex_move rfl) ?_)
            refine Rg_end ?_
            refine V_block rfl ?_
            refine V_loop rfl (γ := Nat) (fun r σ w => ∃ (e : RS) (kvQ : List (Port × Qd)) (kvC : List (Port × Int)) (Aa Ad : Option Addr) (ca cd : Nat), σ 1 = .slice A ts.length c ∧ σ 8 = .pointer (some ⟨b3, 0, none⟩) ∧ σ 9 = .int .i64 0 ∧ σ 12 = .pointer (some ⟨b20, 0, none⟩) ∧ σ 15 = .int .i64 ((k : Nat) : Int) ∧ σ 87 = .int .i64 ticks ∧ σ 88 = .int .i64 ((k : Nat) : Int) ∧ σ 89 = .bool (decide (((k : Nat) : Int) < ticks)) ∧ σ 90 = .int .i64 ((k : Nat) : Int) ∧ σ 91 = .slice A ts.length c ∧ σ 92 = .int .i64 ((ts.length : Nat) : Int) ∧ σ 93 = .int .i64 ((r : Nat) : Int) ∧ σ 1000000 = undef ∧ Hp w0.heap.size w0 w [SA.queues kvQ, SA.own kDrp 110 Ad cd e.dr, SA.own kArr 97 Aa ca e.ar, SA.rows kInt 3 (kvS.map (·.2)), SA.cel b20 #[.int .i64 s.Wide, .int .i64 s.High, .int .i64 s.Room, .slice A ts.length c, .slice A1 l.length c1, .map (some b14), .map (some b16), .map (some b18), .slice Aa e.ar.length ca, .slice Ad e.dr.length cd, .slice A22 e.mo.length c23, .int .i64 0] 142, SA.own kV2 101 A22 c23 e.mo, SA.map kPort.enc (fun x : Int => Value.int .i64 x) b18 kvC, SA.map kPort.enc Qd.val b16 kvQ, SA.map kI.enc (Sld.val (α := Int)) b14 kvS, SA.cel b3 #[.slice none 0 0, .slice none 0 0, .slice none 0 0, .int .i64 0] 63, SA.cel b1 #[.int .i64 s.Wide, .int .i64 s.High, .int .i64 s.Room] 33] ∧ r ≤ ts.length ∧ e = entersR s ts l k (runN s ts l k) r ∧ e.Q = qf kvQ ∧ e.C = cf kvC ∧ (kvQ.map (·.1)).Nodup ∧ (kvC.map (·.1)).Nodup ∧ (∀ k ∈ kvQ.map (·.1), portOk s k) ∧ (∀ k ∈ kvC.map (·.1), comOk s k) ∧ shortQ s e.Q ∧ leadQ s e.Q ∧ e.mo.length = nR s ∧ e.dr.length ≤ 328960 * k + 5140 * r ∧ e.ar.length ≤ 320 * k) (fun r => ts.length - r) (0) ⟨e, kvQ, kvC, Aa, Ad, ca, cd, s1, s8, s9, s12, rfl, s87, s88, rfl, rfl, rfl, rfl, rfl, s1000000, H, by omega, he, hQ, hC, hnQ, hnC, hpQ, hpC, hsh, hld, hml, by omega, by omega⟩ (fun r σ w hI => ?_)
            obtain ⟨e, kvQ, kvC, Aa, Ad, ca, cd, hI⟩ := hI
            obtain ⟨s1, s8, s9, s12, s15, s87, s88, s89, s90, s91, s92, s93, s1000000, H, hr, he, hQ, hC, hnQ, hnC, hpQ, hpC, hsh, hld, hml, hdl, hal⟩ := hI
            refine V_seq rfl ?_
            refine V_region rfl ?_
            refine Rg_op rfl (o_val (v := .bool (decide (((r : Nat) : Int) < ((ts.length : Nat) : Int)))) (d := 94) rfl rfl (ex_lss s93 s92) ?_)
            refine Rg_end ?_
            refine V_seq rfl ?_
            refine V_cond (b := (decide (((r : Nat) : Int) < ((ts.length : Nat) : Int)))) rfl rfl (fun hb41 => ?_) (fun hb41 => ?_)
            · have hb41 : ((r : Nat) : Int) < ((ts.length : Nat) : Int) := of_decide_eq_true hb41
              refine V_skip rfl ?_
              refine V_seq rfl ?_
              refine V_block rfl ?_
              refine V_seq rfl ?_
              refine V_region rfl ?_
              refine Rg_op rfl (o_val (v := .int .i64 ((r : Nat) : Int)) (d := 95) rfl rfl (ex_move s93) ?_)
              refine Rg_op rfl (o_val (v := .int .i64 ((r : Nat) : Int)) (d := 16) rfl rfl (ex_assign rfl) ?_)
              refine Rg_end ?_
              refine V_seq rfl ?_
              refine V_region rfl ?_
              refine Rg_op rfl (o_val (v := .pointer (some ⟨b20, 0, none⟩)) (d := 96) rfl rfl (ex_move s12) ?_)
              refine Rg_op rfl (o_val (v := .int .i64 ((k : Nat) : Int)) (d := 97) rfl rfl (ex_move s15) ?_)
              refine Rg_op rfl (o_val (v := .int .i64 ((r : Nat) : Int)) (d := 98) rfl rfl (ex_move rfl) ?_)
              refine Rg_op rfl (o_call (fv := []) (cap := []) (vs := [.pointer (some ⟨b20, 0, none⟩), .int .i64 ((k : Nat) : Int), .int .i64 ((r : Nat) : Int)]) rfl rfl cl61 rfl (entering_c b20 ((k : Nat) : Int) ((r : Nat) : Int) _) fun v w46 hS => ?_)
              obtain ⟨b42, b43, b44, rfl, hB, hN⟩ := hS
              have H := ((H.new hB hN).split).split
              have H := H.pull 6 rfl rfl
              have H := H.pull 11 rfl rfl
              have H := H.pull 10 rfl rfl
              have H := H.pull 9 rfl rfl
              have H := H.pull 6 rfl rfl
              have H := H.pull 6 rfl rfl
              have H := H.pull 6 rfl rfl
              have H := H.join
              have H := H.join
              have H := H.join
              have H := H.join
              have H := H.join
              have H := H.join
              refine Rg_op rfl (o_call (fv := []) (cap := []) (vs := [.func (.func 87) #[] #[.pointer (some ⟨b42, 0, none⟩), .pointer (some ⟨b43, 0, none⟩), .pointer (some ⟨b44, 0, none⟩)]]) rfl rfl cl60 rfl (collect_c _ _ _ _  87 [] [.pointer (some ⟨b42, 0, none⟩), .pointer (some ⟨b43, 0, none⟩), .pointer (some ⟨b44, 0, none⟩)] (comL (cf kvC) ((r : Nat) : Int) ++ sndL l (lkS ((k : Nat) : Int) kvS).xs ((r : Nat) : Int)) _ _ H (enterIter_c w0.heap.size w0 b20 b18 b14 b42 b43 b44 #[.int .i64 s.Wide, .int .i64 s.High, .int .i64 s.Room, .slice A ts.length c, .slice A1 l.length c1, .map (some b14), .map (some b16), .map (some b18), .slice Aa e.ar.length ca, .slice Ad e.dr.length cd, .slice A22 e.mo.length c23, .int .i64 0] kvC kvS A1 c1 l ((k : Nat) : Int) ((r : Nat) : Int) rfl hY rfl rfl rfl hnC hSb (by rw [hkS]; have := sendsN_len l l.length ((k : Nat) : Int); omega)) cl87 (by have h1 := entsOf_len l (cf kvC) k r; rw [entsOf, sendsOf, ← hkS] at h1; omega)) fun v w50 hS => ?_)
              obtain ⟨A47, c48, rfl, H⟩ := hS
              have H := H.pull 1 rfl rfl
              have H := H.split
              have H := H.split
              have H := H.split
              refine Rg_op rfl (o_val (v := .int .i64 (((comL (cf kvC) ((r : Nat) : Int) ++ sndL l (lkS ((k : Nat) : Int) kvS).xs ((r : Nat) : Int)).length : Nat) : Int)) (d := 101) rfl rfl (ex_len (ts := #[]) sl26 rfl) ?_)
              refine Rg_op rfl (o_val (v := .int .i64 0) (d := 102) rfl rfl (ex_move rfl) ?_)
              refine Rg_end ?_
              refine V_block rfl ?_
              obtain ⟨tab, htb⟩ : ∃ tab, ts[r]? = some tab := ⟨_, List.getElem?_eq_getElem (by omega)⟩
              have htab9 := hT2 tab (List.mem_of_getElem? htb)
              have hin9 : InR l.length e := by rw [he]; exact entersR_in (runN_in s ts l k) r
              have hPb : ∀ p ∈ (comL (cf kvC) ((r : Nat) : Int) ++ sndL l (lkS ((k : Nat) : Int) kvS).xs ((r : Nat) : Int)), 0 ≤ p ∧ p < l.length := by have h9 := ents_in (t := k) (r := r) hin9.2; rw [entsOf, sendsOf, ← hkS, hC] at h9; exact h9
              have hpl9 : ((comL (cf kvC) ((r : Nat) : Int) ++ sndL l (lkS ((k : Nat) : Int) kvS).xs ((r : Nat) : Int))).length ≤ 1028 := by have h1 := entsOf_len l (cf kvC) k r; rw [entsOf, sendsOf, ← hkS] at h1; omega
              refine V_loop rfl (γ := Nat) (fun i σ w => ∃ (x : ES) (kvQ : List (Port × Qd)) (Ad : Option Addr) (cd : Nat), σ 1 = .slice A ts.length c ∧ σ 8 = .pointer (some ⟨b3, 0, none⟩) ∧ σ 9 = .int .i64 0 ∧ σ 12 = .pointer (some ⟨b20, 0, none⟩) ∧ σ 15 = .int .i64 ((k : Nat) : Int) ∧ σ 16 = .int .i64 ((r : Nat) : Int) ∧ σ 87 = .int .i64 ticks ∧ σ 88 = .int .i64 ((k : Nat) : Int) ∧ σ 89 = .bool (decide (((k : Nat) : Int) < ticks)) ∧ σ 90 = .int .i64 ((k : Nat) : Int) ∧ σ 91 = .slice A ts.length c ∧ σ 92 = .int .i64 ((ts.length : Nat) : Int) ∧ σ 93 = .int .i64 ((r : Nat) : Int) ∧ σ 94 = .bool (decide (((r : Nat) : Int) < ((ts.length : Nat) : Int))) ∧ σ 95 = .int .i64 ((r : Nat) : Int) ∧ σ 96 = .pointer (some ⟨b20, 0, none⟩) ∧ σ 97 = .int .i64 ((k : Nat) : Int) ∧ σ 98 = .int .i64 ((r : Nat) : Int) ∧ σ 99 = .func (.func 87) #[] #[.pointer (some ⟨b42, 0, none⟩), .pointer (some ⟨b43, 0, none⟩), .pointer (some ⟨b44, 0, none⟩)] ∧ σ 100 = .slice A47 ((comL (cf kvC) ((r : Nat) : Int) ++ sndL l (lkS ((k : Nat) : Int) kvS).xs ((r : Nat) : Int)).length) c48 ∧ σ 101 = .int .i64 (((comL (cf kvC) ((r : Nat) : Int) ++ sndL l (lkS ((k : Nat) : Int) kvS).xs ((r : Nat) : Int)).length : Nat) : Int) ∧ σ 102 = .int .i64 ((i : Nat) : Int) ∧ σ 1000000 = undef ∧ Hp w0.heap.size w0 w [SA.cel b20 #[.int .i64 s.Wide, .int .i64 s.High, .int .i64 s.Room, .slice A ts.length c, .slice A1 l.length c1, .map (some b14), .map (some b16), .map (some b18), .slice Aa e.ar.length ca, .slice Ad x.dr.length cd, .slice A22 x.mo.length c23, .int .i64 0] 142, SA.map kPort.enc (fun x : Int => Value.int .i64 x) b18 (delN kvC ((r : Nat) : Int) 4), SA.map kI.enc (Sld.val (α := Int)) b14 kvS, SA.rows kInt 3 (kvS.map (·.2)), SA.own kInt 3 A47 c48 (comL (cf kvC) ((r : Nat) : Int) ++ sndL l (lkS ((k : Nat) : Int) kvS).xs ((r : Nat) : Int)), SA.queues kvQ, SA.own kDrp 110 Ad cd x.dr, SA.own kArr 97 Aa ca e.ar, SA.own kV2 101 A22 c23 x.mo, SA.map kPort.enc Qd.val b16 kvQ, SA.cel b3 #[.slice none 0 0, .slice none 0 0, .slice none 0 0, .int .i64 0] 63, SA.cel b1 #[.int .i64 s.Wide, .int .i64 s.High, .int .i64 s.Room] 33] ∧ i ≤ ((comL (cf kvC) ((r : Nat) : Int) ++ sndL l (lkS ((k : Nat) : Int) kvS).xs ((r : Nat) : Int))).length ∧ x = enterN s tab l k r ⟨e.Q, e.dr, e.mo⟩ (List.take i (comL (cf kvC) ((r : Nat) : Int) ++ sndL l (lkS ((k : Nat) : Int) kvS).xs ((r : Nat) : Int))) ∧ x.Q = qf kvQ ∧ OkE s (nR s) x ∧ (kvQ.map (·.1)).Nodup ∧ (∀ k ∈ kvQ.map (·.1), portOk s k) ∧ x.dr.length ≤ 328960 * k + 5140 * r + 5 * i) (fun i => ((comL (cf kvC) ((r : Nat) : Int) ++ sndL l (lkS ((k : Nat) : Int) kvS).xs ((r : Nat) : Int))).length - i) (0) ⟨⟨e.Q, e.dr, e.mo⟩, kvQ, Ad, cd, s1, s8, s9, s12, s15, rfl, s87, s88, s89, s90, s91, s92, s93, rfl, rfl, rfl, rfl, rfl, rfl, rfl, rfl, rfl, s1000000, H, by omega, rfl, hQ, ⟨hsh, hld, hml⟩, hnQ, hpQ, by simp only []; omega⟩ (fun i σ w hI => ?_)
              obtain ⟨x, kvQ, Ad, cd, hI⟩ := hI
              obtain ⟨s1, s8, s9, s12, s15, s16, s87, s88, s89, s90, s91, s92, s93, s94, s95, s96, s97, s98, s99, s100, s101, s102, s1000000, H, hi, hx, hxQ, hxo, hnQ, hpQ, hxl⟩ := hI
              refine V_seq rfl ?_
              refine V_region rfl ?_
              refine Rg_op rfl (o_val (v := .bool (decide (((i : Nat) : Int) < (((comL (cf kvC) ((r : Nat) : Int) ++ sndL l (lkS ((k : Nat) : Int) kvS).xs ((r : Nat) : Int)).length : Nat) : Int)))) (d := 103) rfl rfl (ex_lss s102 s101) ?_)
              refine Rg_end ?_
              refine V_seq rfl ?_
              refine V_cond (b := (decide (((i : Nat) : Int) < (((comL (cf kvC) ((r : Nat) : Int) ++ sndL l (lkS ((k : Nat) : Int) kvS).xs ((r : Nat) : Int)).length : Nat) : Int)))) rfl rfl (fun hb51 => ?_) (fun hb51 => ?_)
              · have hb51 : ((i : Nat) : Int) < (((comL (cf kvC) ((r : Nat) : Int) ++ sndL l (lkS ((k : Nat) : Int) kvS).xs ((r : Nat) : Int)).length : Nat) : Int) := of_decide_eq_true hb51
                refine V_skip rfl ?_
                refine V_seq rfl ?_
                refine V_block rfl ?_
                refine V_seq rfl ?_
                refine V_region rfl ?_
                have hr52 := (own_row (H.pull 4 rfl rfl)).1
                obtain ⟨ad53, x53, cs53, hA53, hx53, hR53, hc53⟩ := Row.get hr52 ((i : Nat) : Int) ((by first | omega | (simp only [List.length_cons, List.length_nil]; omega))) ((by first | omega | (simp only [List.length_cons, List.length_nil]; omega)))
                obtain rfl := hR53
                refine Rg_op rfl (o_val (v := .pointer (some (ad53.add ((((i : Nat) : Int)).toNat * 1)))) (d := 104) rfl rfl (ex_indexAddr sl26 s100 hA53 s102 ((by first | omega | (simp only [List.length_cons, List.length_nil]; omega))) ((by first | omega | (simp only [List.length_cons, List.length_nil]; omega))) rfl) ?_)
                refine Rg_op rfl (o_val (v := .int .i64 x53) (d := 105) rfl rfl (ex_load ca3 rfl (hc53 0 _ rfl)) ?_)
                refine Rg_op rfl (o_val (v := .int .i64 x53) (d := 18) rfl rfl (ex_assign rfl) ?_)
                refine Rg_end ?_
                refine V_region rfl ?_
                refine Rg_op rfl (o_val (v := .pointer (some ⟨b20, 0, none⟩)) (d := 106) rfl rfl (ex_move s12) ?_)
                refine Rg_op rfl (o_val (v := .int .i64 ((k : Nat) : Int)) (d := 107) rfl rfl (ex_move s15) ?_)
                refine Rg_op rfl (o_val (v := .int .i64 ((r : Nat) : Int)) (d := 108) rfl rfl (ex_move s16) ?_)
                refine Rg_op rfl (o_val (v := .int .i64 x53) (d := 109) rfl rfl (ex_move rfl) ?_)
                have H := H.pull 8 rfl rfl
                have H := H.pull 7 rfl rfl
                have H := H.pull 7 rfl rfl
                have H := H.pull 9 rfl rfl
                have H := H.pull 4 rfl rfl
                obtain ⟨h0p, h1p⟩ := hPb x53 (List.mem_of_getElem? hx53)
                obtain ⟨pk, hpk⟩ : ∃ pk, l[x53.toNat]? = some pk := ⟨_, List.getElem?_eq_getElem (by omega)⟩
                refine Rg_op rfl (o_call (fv := []) (cap := []) (vs := [.pointer (some ⟨b20, 0, none⟩), .int .i64 ((k : Nat) : Int), .int .i64 ((r : Nat) : Int), .int .i64 x53]) rfl rfl cl62 rfl (enter_c w0 _ _ s b20 b14 b16 b18 A c ts A1 c1 l kvQ Aa Ad A22 ca cd c23 e.ar x.dr x.mo 0 ((k : Nat) : Int) ((r : Nat) : Int) x53 tab pk H hX hY hs (by omega) (by omega) htl htb (by omega) hpk (hcl _ (List.mem_of_getElem? hpk)) (by omega) hnQ hpQ (by rw [← hxQ]; exact hxo.short) (by omega) (by rw [hxo.most]; unfold nR; omega) (by omega)) fun v w55 hS => ?_)
                obtain ⟨kv54, x54, A54, c54, hxe9, hxq54, hxn54, hxp54, H⟩ := hS
                rw [show (⟨qf kvQ, x.dr, x.mo⟩ : ES) = x from by rw [← hxQ]] at hxe9
                refine Rg_end ?_
                refine V_region rfl ?_
                refine Rg_op rfl (o_val (v := .int .i64 (((i : Nat) : Int) + 1)) (d := 111) rfl rfl (ex_add s102 rfl (by omega)) ?_)
                refine Rg_op rfl (o_val (v := .int .i64 (((i : Nat) : Int) + 1)) (d := 102) rfl rfl (ex_move rfl) ?_)
                refine Rg_end ?_
                have hx9 : x54 = enterN s tab l k r ⟨e.Q, e.dr, e.mo⟩ (List.take (i + 1) (comL (cf kvC) ((r : Nat) : Int) ++ sndL l (lkS ((k : Nat) : Int) kvS).xs ((r : Nat) : Int))) := by rw [List.take_add_one, (show ((comL (cf kvC) ((r : Nat) : Int) ++ sndL l (lkS ((k : Nat) : Int) kvS).xs ((r : Nat) : Int)))[i]? = some x53 from hx53), Option.toList_some, enterN_snoc, ← hx, pkAt_eq hpk, ← hxe9]
                exact ⟨i + 1, ⟨x54, kv54, A54, c54, s1, s8, s9, s12, s15, s16, s87, s88, s89, s90, s91, s92, s93, s94, s95, s96, s97, s98, s99, s100, s101, rfl, s1000000, (Hp.pull 11 rfl rfl (Hp.pull 11 rfl rfl (Hp.pull 11 rfl rfl (Hp.pull 11 rfl rfl (Hp.pull 11 rfl rfl (Hp.pull 7 rfl rfl (Hp.pull 7 rfl rfl (Hp.pull 11 rfl rfl (Hp.pull 6 rfl rfl (Hp.pull 3 rfl rfl (Hp.pull 11 rfl rfl (Hp.pull 11 rfl rfl H)))))))))))), by omega, hx9, hxq54, by rw [hx9]; exact enterN_ok ⟨hsh, hld, hml⟩, hxn54, hxp54, by have := enterP_dr (s := s) (tab := tab) (key := pk.Key) (t := k) (r := r) (p := x53) (cls := pk.Class) (e := x); rw [hxe9] at this; omega⟩, by omega⟩
              · have hb51 : ¬ (((i : Nat) : Int) < (((comL (cf kvC) ((r : Nat) : Int) ++ sndL l (lkS ((k : Nat) : Int) kvS).xs ((r : Nat) : Int)).length : Nat) : Int)) := of_decide_eq_false hb51
                refine V_exit rfl ?_
                refine V_region rfl ?_
                refine Rg_op rfl (o_val (v := .int .i64 (((r : Nat) : Int) + 1)) (d := 112) rfl rfl (ex_add s93 rfl (by omega)) ?_)
                refine Rg_op rfl (o_val (v := .int .i64 (((r : Nat) : Int) + 1)) (d := 93) rfl rfl (ex_move rfl) ?_)
                refine Rg_end ?_
                have hps9 : List.take i (comL (cf kvC) r ++ sndL l (lkS (k : Int) kvS).xs r) = entsOf l e.C k r := by rw [List.take_of_length_le (by omega), entsOf, hC, hkS]; rfl
                have he9 : (⟨x.Q, delC e.C r, e.ar, x.dr, x.mo⟩ : RS) = entersR s ts l k (runN s ts l k) (r + 1) := by rw [entersR_succ, ← he, enterR, htb, Option.getD_some, ← hps9, ← hx]
                exact ⟨r + 1, ⟨⟨x.Q, delC e.C r, e.ar, x.dr, x.mo⟩, kvQ, delN kvC r 4, Aa, Ad, ca, cd, s1, s8, s9, s12, s15, s87, s88, s89, s90, s91, s92, rfl, s1000000, (Hp.pull 10 rfl rfl (Hp.pull 10 rfl rfl (Hp.pull 10 rfl rfl (Hp.pull 7 rfl rfl (Hp.pull 6 rfl rfl (Hp.pull 10 rfl rfl (Hp.pull 5 rfl rfl (Hp.pull 10 rfl rfl (Hp.pull 4 rfl rfl (Hp.pull 10 rfl rfl (Hp.pull 10 rfl rfl (Hp.drop (Hp.pull 4 rfl rfl H))))))))))))), by omega, he9, hxQ, by rw [delC_cf hnC, hC], hnQ, (delN_get hnC 4).1, hpQ, fun p hp => hpC p ((delN_get hnC 4).2.1 p hp), hxo.short, hxo.lead, hxo.most, by show x.dr.length ≤ _; omega, hal⟩, by omega⟩
            · have hb41 : ¬ (((r : Nat) : Int) < ((ts.length : Nat) : Int)) := of_decide_eq_false hb41
              refine V_exit rfl ?_
              refine V_seq rfl ?_
              refine V_region rfl ?_
              refine Rg_op rfl (o_val (v := .slice A ts.length c) (d := 113) rfl rfl (ex_move s1) ?_)
              refine Rg_op rfl (o_val (v := .int .i64 ((ts.length : Nat) : Int)) (d := 114) rfl rfl (ex_len (ts := #[]) sl29 rfl) ?_)
              refine Rg_op rfl (o_val (v := .int .i64 0) (d := 115) rfl rfl (ex_move rfl) ?_)
              refine Rg_end ?_
              refine V_block rfl ?_
              have hr9 : r = nR s := by unfold nR; omega
              refine V_loop rfl (γ := Nat) (fun r2 σ w => ∃ (e : RS) (kvQ : List (Port × Qd)) (kvC : List (Port × Int)) (Aa Ad : Option Addr) (ca cd : Nat), σ 1 = .slice A ts.length c ∧ σ 8 = .pointer (some ⟨b3, 0, none⟩) ∧ σ 9 = .int .i64 0 ∧ σ 12 = .pointer (some ⟨b20, 0, none⟩) ∧ σ 15 = .int .i64 ((k : Nat) : Int) ∧ σ 87 = .int .i64 ticks ∧ σ 88 = .int .i64 ((k : Nat) : Int) ∧ σ 89 = .bool (decide (((k : Nat) : Int) < ticks)) ∧ σ 90 = .int .i64 ((k : Nat) : Int) ∧ σ 91 = .slice A ts.length c ∧ σ 92 = .int .i64 ((ts.length : Nat) : Int) ∧ σ 93 = .int .i64 ((r : Nat) : Int) ∧ σ 94 = .bool (decide (((r : Nat) : Int) < ((ts.length : Nat) : Int))) ∧ σ 113 = .slice A ts.length c ∧ σ 114 = .int .i64 ((ts.length : Nat) : Int) ∧ σ 115 = .int .i64 ((r2 : Nat) : Int) ∧ σ 1000000 = undef ∧ Hp w0.heap.size w0 w [SA.queues kvQ, SA.own kDrp 110 Ad cd e.dr, SA.own kArr 97 Aa ca e.ar, SA.rows kInt 3 (kvS.map (·.2)), SA.cel b20 #[.int .i64 s.Wide, .int .i64 s.High, .int .i64 s.Room, .slice A ts.length c, .slice A1 l.length c1, .map (some b14), .map (some b16), .map (some b18), .slice Aa e.ar.length ca, .slice Ad e.dr.length cd, .slice A22 e.mo.length c23, .int .i64 0] 142, SA.own kV2 101 A22 c23 e.mo, SA.map kPort.enc (fun x : Int => Value.int .i64 x) b18 kvC, SA.map kPort.enc Qd.val b16 kvQ, SA.map kI.enc (Sld.val (α := Int)) b14 kvS, SA.cel b3 #[.slice none 0 0, .slice none 0 0, .slice none 0 0, .int .i64 0] 63, SA.cel b1 #[.int .i64 s.Wide, .int .i64 s.High, .int .i64 s.Room] 33] ∧ r2 ≤ ts.length ∧ e = sendsR s k (entersR s ts l k (runN s ts l k) (nR s)) r2 ∧ e.Q = qf kvQ ∧ e.C = cf kvC ∧ (kvQ.map (·.1)).Nodup ∧ (kvC.map (·.1)).Nodup ∧ (∀ k ∈ kvQ.map (·.1), portOk s k) ∧ (∀ k ∈ kvC.map (·.1), comOk s k) ∧ shortQ s e.Q ∧ leadQ s e.Q ∧ e.mo.length = nR s ∧ e.dr.length ≤ 328960 * k + 328960 ∧ e.ar.length ≤ 320 * k + 5 * r2) (fun r2 => ts.length - r2) (0) ⟨e, kvQ, kvC, Aa, Ad, ca, cd, s1, s8, s9, s12, s15, s87, s88, s89, s90, s91, s92, s93, rfl, rfl, rfl, rfl, s1000000, H, by omega, by rw [← hr9]; exact he, hQ, hC, hnQ, hnC, hpQ, hpC, hsh, hld, hml, by omega, by omega⟩ (fun r2 σ w hI => ?_)
              obtain ⟨e, kvQ, kvC, Aa, Ad, ca, cd, hI⟩ := hI
              obtain ⟨s1, s8, s9, s12, s15, s87, s88, s89, s90, s91, s92, s93, s94, s113, s114, s115, s1000000, H, hr2, he, hQ, hC, hnQ, hnC, hpQ, hpC, hsh, hld, hml, hdl, hal⟩ := hI
              refine V_seq rfl ?_
              refine V_region rfl ?_
              refine Rg_op rfl (o_val (v := .bool (decide (((r2 : Nat) : Int) < ((ts.length : Nat) : Int)))) (d := 116) rfl rfl (ex_lss s115 s114) ?_)
              refine Rg_end ?_
              refine V_seq rfl ?_
              refine V_cond (b := (decide (((r2 : Nat) : Int) < ((ts.length : Nat) : Int)))) rfl rfl (fun hb56 => ?_) (fun hb56 => ?_)
              · have hb56 : ((r2 : Nat) : Int) < ((ts.length : Nat) : Int) := of_decide_eq_true hb56
                refine V_skip rfl ?_
                refine V_seq rfl ?_
                refine V_block rfl ?_
                refine V_seq rfl ?_
                refine V_region rfl ?_
                refine Rg_op rfl (o_val (v := .int .i64 ((r2 : Nat) : Int)) (d := 117) rfl rfl (ex_move s115) ?_)
                refine Rg_op rfl (o_val (v := .int .i64 ((r2 : Nat) : Int)) (d := 19) rfl rfl (ex_assign rfl) ?_)
                refine Rg_end ?_
                refine V_seq rfl ?_
                refine V_region rfl ?_
                refine Rg_op rfl (o_call (fv := []) (cap := []) (vs := []) rfl rfl cl63 rfl (outputs_c _) fun v w60 hS => ?_)
                obtain ⟨A58, c59, rfl, hB, hN⟩ := hS
                have H := H.new hB hN
                refine Rg_op rfl (o_val (v := .int .i64 ((([1, 2, 4, 8, 16]).length : Nat) : Int)) (d := 119) rfl rfl (ex_len (ts := #[]) sl26 rfl) ?_)
                refine Rg_op rfl (o_val (v := .int .i64 0) (d := 120) rfl rfl (ex_move rfl) ?_)
                refine Rg_end ?_
                refine V_block rfl ?_
                refine V_loop rfl (γ := Nat) (fun j σ w => ∃ (y : SS) (kvQ : List (Port × Qd)) (kvC : List (Port × Int)) (Aa : Option Addr) (ca : Nat), σ 1 = .slice A ts.length c ∧ σ 8 = .pointer (some ⟨b3, 0, none⟩) ∧ σ 9 = .int .i64 0 ∧ σ 12 = .pointer (some ⟨b20, 0, none⟩) ∧ σ 15 = .int .i64 ((k : Nat) : Int) ∧ σ 19 = .int .i64 ((r2 : Nat) : Int) ∧ σ 87 = .int .i64 ticks ∧ σ 88 = .int .i64 ((k : Nat) : Int) ∧ σ 89 = .bool (decide (((k : Nat) : Int) < ticks)) ∧ σ 90 = .int .i64 ((k : Nat) : Int) ∧ σ 91 = .slice A ts.length c ∧ σ 92 = .int .i64 ((ts.length : Nat) : Int) ∧ σ 93 = .int .i64 ((r : Nat) : Int) ∧ σ 94 = .bool (decide (((r : Nat) : Int) < ((ts.length : Nat) : Int))) ∧ σ 113 = .slice A ts.length c ∧ σ 114 = .int .i64 ((ts.length : Nat) : Int) ∧ σ 115 = .int .i64 ((r2 : Nat) : Int) ∧ σ 116 = .bool (decide (((r2 : Nat) : Int) < ((ts.length : Nat) : Int))) ∧ σ 117 = .int .i64 ((r2 : Nat) : Int) ∧ σ 118 = .slice A58 (([1, 2, 4, 8, 16]).length) c59 ∧ σ 119 = .int .i64 ((([1, 2, 4, 8, 16]).length : Nat) : Int) ∧ σ 120 = .int .i64 ((j : Nat) : Int) ∧ σ 1000000 = undef ∧ Hp w0.heap.size w0 w [SA.own kInt 3 A58 c59 ([1, 2, 4, 8, 16]), SA.queues kvQ, SA.own kDrp 110 Ad cd e.dr, SA.own kArr 97 Aa ca y.ar, SA.rows kInt 3 (kvS.map (·.2)), SA.cel b20 #[.int .i64 s.Wide, .int .i64 s.High, .int .i64 s.Room, .slice A ts.length c, .slice A1 l.length c1, .map (some b14), .map (some b16), .map (some b18), .slice Aa y.ar.length ca, .slice Ad e.dr.length cd, .slice A22 e.mo.length c23, .int .i64 0] 142, SA.own kV2 101 A22 c23 e.mo, SA.map kPort.enc (fun x : Int => Value.int .i64 x) b18 kvC, SA.map kPort.enc Qd.val b16 kvQ, SA.map kI.enc (Sld.val (α := Int)) b14 kvS, SA.cel b3 #[.slice none 0 0, .slice none 0 0, .slice none 0 0, .int .i64 0] 63, SA.cel b1 #[.int .i64 s.Wide, .int .i64 s.High, .int .i64 s.Room] 33] ∧ j ≤ 5 ∧ y = (outs5.take j).foldl (fun x o => sendP s k r2 o x) ⟨e.Q, e.C, e.ar⟩ ∧ y.Q = qf kvQ ∧ y.C = cf kvC ∧ (kvQ.map (·.1)).Nodup ∧ (kvC.map (·.1)).Nodup ∧ (∀ k ∈ kvQ.map (·.1), portOk s k) ∧ (∀ k ∈ kvC.map (·.1), comOk s k) ∧ shortQ s y.Q ∧ leadQ s y.Q ∧ y.ar.length ≤ 320 * k + 5 * r2 + j) (fun j => 5 - j) (0) ⟨⟨e.Q, e.C, e.ar⟩, kvQ, kvC, Aa, ca, s1, s8, s9, s12, s15, rfl, s87, s88, s89, s90, s91, s92, s93, s94, s113, s114, s115, rfl, rfl, rfl, rfl, rfl, s1000000, H, by omega, rfl, hQ, hC, hnQ, hnC, hpQ, hpC, hsh, hld, by simp only []; omega⟩ (fun j σ w hI => ?_)
                obtain ⟨y, kvQ, kvC, Aa, ca, hI⟩ := hI
                obtain ⟨s1, s8, s9, s12, s15, s19, s87, s88, s89, s90, s91, s92, s93, s94, s113, s114, s115, s116, s117, s118, s119, s120, s1000000, H, hj, hy, hyQ, hyC, hnQ, hnC, hpQ, hpC, hys, hyl, hya⟩ := hI
                refine V_seq rfl ?_
                refine V_region rfl ?_
                refine Rg_op rfl (o_val (v := .bool (decide (((j : Nat) : Int) < ((([1, 2, 4, 8, 16]).length : Nat) : Int)))) (d := 121) rfl rfl (ex_lss s120 s119) ?_)
                refine Rg_end ?_
                refine V_seq rfl ?_
                refine V_cond (b := (decide (((j : Nat) : Int) < ((([1, 2, 4, 8, 16]).length : Nat) : Int)))) rfl rfl (fun hb61 => ?_) (fun hb61 => ?_)
                · have hb61 : ((j : Nat) : Int) < ((([1, 2, 4, 8, 16]).length : Nat) : Int) := of_decide_eq_true hb61
                  have hj5 : j < 5 := by have h9 := hb61; simp only [List.length_cons, List.length_nil] at h9; omega
                  refine V_skip rfl ?_
                  refine V_seq rfl ?_
                  refine V_block rfl ?_
                  refine V_seq rfl ?_
                  refine V_region rfl ?_
                  have hr62 := (own_row (H.pull 0 rfl rfl)).1
                  obtain ⟨ad63, x63, cs63, hA63, hx63, hR63, hc63⟩ := Row.get hr62 ((j : Nat) : Int) ((by first | omega | (simp only [List.length_cons, List.length_nil]; omega))) ((by first | omega | (simp only [List.length_cons, List.length_nil]; omega)))
                  obtain rfl := hR63
                  refine Rg_op rfl (o_val (v := .pointer (some (ad63.add ((((j : Nat) : Int)).toNat * 1)))) (d := 122) rfl rfl (ex_indexAddr sl26 s118 hA63 s120 ((by first | omega | (simp only [List.length_cons, List.length_nil]; omega))) ((by first | omega | (simp only [List.length_cons, List.length_nil]; omega))) rfl) ?_)
                  refine Rg_op rfl (o_val (v := .int .i64 x63) (d := 123) rfl rfl (ex_load ca3 rfl (hc63 0 _ rfl)) ?_)
                  have hxo : outs5[j]? = some x63 := hx63
                  refine Rg_op rfl (o_val (v := .int .i64 x63) (d := 21) rfl rfl (ex_assign rfl) ?_)
                  refine Rg_end ?_
                  refine V_region rfl ?_
                  refine Rg_op rfl (o_val (v := .pointer (some ⟨b20, 0, none⟩)) (d := 124) rfl rfl (ex_move s12) ?_)
                  refine Rg_op rfl (o_val (v := .int .i64 ((k : Nat) : Int)) (d := 125) rfl rfl (ex_move s15) ?_)
                  refine Rg_op rfl (o_val (v := .int .i64 ((r2 : Nat) : Int)) (d := 126) rfl rfl (ex_move s19) ?_)
                  refine Rg_op rfl (o_val (v := .int .i64 x63) (d := 127) rfl rfl (ex_move rfl) ?_)
                  have H := H.pull 3 rfl rfl
                  have H := H.pull 7 rfl rfl
                  have H := H.pull 3 rfl rfl
                  have H := H.pull 8 rfl rfl
                  have H := H.pull 7 rfl rfl
                  refine Rg_op rfl (o_call (fv := []) (cap := []) (vs := [.pointer (some ⟨b20, 0, none⟩), .int .i64 ((k : Nat) : Int), .int .i64 ((r2 : Nat) : Int), .int .i64 x63]) rfl rfl cl64 rfl (send_c w0 _ _ s b20 b14 b16 b18 A c ts A1 c1 l kvQ kvC Aa Ad A22 ca cd c23 y.ar e.dr e.mo 0 ((k : Nat) : Int) ((r2 : Nat) : Int) x63 H hs (by omega) (by omega) (List.mem_of_getElem? hxo) hnQ hnC hpQ hpC (by rw [← hyQ]; exact hyl) (by omega)) fun v w65 hS => ?_)
                  obtain ⟨kv64, kc64, y64, A64, c64, hye9, hyq64, hyc64, hyn64, hym64, hyp64, hyo64, H⟩ := hS
                  rw [show (⟨qf kvQ, cf kvC, y.ar⟩ : SS) = y from by rw [← hyQ, ← hyC]] at hye9
                  refine Rg_end ?_
                  refine V_region rfl ?_
                  refine Rg_op rfl (o_val (v := .int .i64 (((j : Nat) : Int) + 1)) (d := 129) rfl rfl (ex_add s120 rfl (by omega)) ?_)
                  refine Rg_op rfl (o_val (v := .int .i64 (((j : Nat) : Int) + 1)) (d := 120) rfl rfl (ex_move rfl) ?_)
                  refine Rg_end ?_
                  have hso9 := sendP_ok (s := s) (t := k) (r := r2) (o := x63) hys hyl
                  rw [hye9] at hso9
                  have hy9 : y64 = (outs5.take (j + 1)).foldl (fun x o => sendP s k r2 o x) ⟨e.Q, e.C, e.ar⟩ := by rw [List.take_add_one, hxo, Option.toList_some, List.foldl_append, ← hy, ← hye9]; rfl
                  exact ⟨j + 1, ⟨y64, kv64, kc64, A64, c64, s1, s8, s9, s12, s15, s19, s87, s88, s89, s90, s91, s92, s93, s94, s113, s114, s115, s116, s117, s118, s119, rfl, s1000000, (Hp.pull 11 rfl rfl (Hp.pull 10 rfl rfl (Hp.pull 11 rfl rfl (Hp.pull 9 rfl rfl (Hp.pull 11 rfl rfl (Hp.pull 6 rfl rfl (Hp.pull 11 rfl rfl (Hp.pull 6 rfl rfl (Hp.pull 4 rfl rfl (Hp.pull 11 rfl rfl (Hp.pull 11 rfl rfl (Hp.pull 11 rfl rfl H)))))))))))), by omega, hy9, hyq64, hyc64, hyn64, hym64, hyp64, hyo64, hso9.1, hso9.2.1, by have := hso9.2.2; omega⟩, by omega⟩
                · have hb61 : ¬ (((j : Nat) : Int) < ((([1, 2, 4, 8, 16]).length : Nat) : Int)) := of_decide_eq_false hb61
                  have hj5 : ¬ j < 5 := by have h9 := hb61; simp only [List.length_cons, List.length_nil] at h9; omega
                  refine V_exit rfl ?_
                  refine V_region rfl ?_
                  refine Rg_op rfl (o_val (v := .int .i64 (((r2 : Nat) : Int) + 1)) (d := 130) rfl rfl (ex_add s115 rfl (by omega)) ?_)
                  refine Rg_op rfl (o_val (v := .int .i64 (((r2 : Nat) : Int) + 1)) (d := 115) rfl rfl (ex_move rfl) ?_)
                  refine Rg_end ?_
                  have he9 : (⟨y.Q, y.C, y.ar, e.dr, e.mo⟩ : RS) = sendsR s k (entersR s ts l k (runN s ts l k) (nR s)) (r2 + 1) := by rw [sendsR_succ, ← he, sendR, hy, List.take_of_length_le (show outs5.length ≤ j by simp only [outs5, List.length_cons, List.length_nil]; omega)]
                  exact ⟨r2 + 1, ⟨⟨y.Q, y.C, y.ar, e.dr, e.mo⟩, kvQ, kvC, Aa, Ad, ca, cd, s1, s8, s9, s12, s15, s87, s88, s89, s90, s91, s92, s93, s94, s113, s114, rfl, s1000000, (Hp.pull 10 rfl rfl (Hp.pull 10 rfl rfl (Hp.pull 10 rfl rfl (Hp.pull 10 rfl rfl (Hp.pull 10 rfl rfl (Hp.pull 10 rfl rfl (Hp.pull 10 rfl rfl (Hp.pull 10 rfl rfl (Hp.pull 10 rfl rfl (Hp.pull 10 rfl rfl (Hp.pull 10 rfl rfl (Hp.drop (Hp.pull 0 rfl rfl H))))))))))))), by omega, he9, hyQ, hyC, hnQ, hnC, hpQ, hpC, hys, hyl, hml, hdl, by show y.ar.length ≤ _; omega⟩, by omega⟩
              · have hb56 : ¬ (((r2 : Nat) : Int) < ((ts.length : Nat) : Int)) := of_decide_eq_false hb56
                refine V_exit rfl ?_
                refine V_region rfl ?_
                refine Rg_op rfl (o_val (v := .int .i64 (((k : Nat) : Int) + 1)) (d := 131) rfl rfl (ex_add s88 rfl (by omega)) ?_)
                refine Rg_op rfl (o_val (v := .int .i64 (((k : Nat) : Int) + 1)) (d := 88) rfl rfl (ex_move rfl) ?_)
                refine Rg_end ?_
                have hr9 : r2 = nR s := by unfold nR; omega
                have he9 : e = runN s ts l (k + 1) := by rw [runN_succ, tickR, he, hr9]
                exact ⟨k + 1, ⟨e, kvQ, kvC, Aa, Ad, ca, cd, s1, s8, s9, s12, s87, rfl, s1000000, H, by omega, he9, hQ, hC, hnQ, hnC, hpQ, hpC, hsh, hld, hml, by omega, by omega⟩, by omega⟩
          · have hb40 : ¬ (((k : Nat) : Int) < ticks) := of_decide_eq_false hb40
            refine V_exit rfl ?_
            refine V_seq rfl ?_
            refine V_region rfl ?_
            refine Rg_op rfl (o_val (v := .pointer (some ⟨b20, 0, none⟩)) (d := 132) rfl rfl (ex_move s12) ?_)
            refine Rg_op rfl (o_val (v := .pointer (some ⟨b20, 0, none⟩)) (d := 133) rfl rfl (ex_move s12) ?_)
            refine Rg_op rfl (o_val (v := .pointer (some ⟨b20, 0, none⟩)) (d := 134) rfl rfl (ex_nilCheck rfl) ?_)
            refine Rg_op rfl (o_val (v := .pointer (some ⟨b20, 7, none⟩)) (d := 135) rfl rfl (ex_fieldAddr fo142_5 rfl rfl) ?_)
            refine Rg_op rfl (o_val (v := .map (some b18)) (d := 136) rfl rfl (ex_load ca140 rfl (cell_of (H.rd 4 rfl))) ?_)
            refine Rg_op rfl (o_val (v := .int .i64 ((kvC.length : Nat) : Int)) (d := 137) rfl rfl (ex_lenMap mt140 kPort.enc rfl (H.mapAt 6 rfl)) ?_)
            refine Rg_op rfl (o_val (v := .pointer (some ⟨b20, 0, none⟩)) (d := 138) rfl rfl (ex_nilCheck rfl) ?_)
            refine Rg_op rfl (o_val (v := .pointer (some ⟨b20, 8, none⟩)) (d := 139) rfl rfl (ex_fieldAddr fo142_6 rfl rfl) ?_)
            refine Rg_op rfl (o_val (v := .pointer (some ⟨b20, 11, none⟩)) (d := 140) rfl rfl (ex_fieldAddr fo63_3 rfl rfl) ?_)
            refine Rg_op rfl (o_store (vs := [.int .i64 ((kvC.length : Nat) : Int)]) rfl ts3 rfl rfl rfl rfl 4 rfl rfl rfl rfl H fun w66 hA H => ?_)
            refine Rg_end ?_
            refine V_seq rfl ?_
            refine V_seq rfl ?_
            refine V_region rfl ?_
            refine Rg_op rfl (o_val (v := .pointer (some ⟨b20, 0, none⟩)) (d := 141) rfl rfl (ex_move s12) ?_)
            refine Rg_op rfl (o_val (v := .pointer (some ⟨b20, 0, none⟩)) (d := 142) rfl rfl (ex_nilCheck rfl) ?_)
            refine Rg_op rfl (o_val (v := .pointer (some ⟨b20, 6, none⟩)) (d := 143) rfl rfl (ex_fieldAddr fo142_4 rfl rfl) ?_)
            refine Rg_op rfl (o_val (v := .map (some b16)) (d := 144) rfl rfl (ex_load ca139 rfl (cell_of (H.rd 0 rfl))) ?_)
            have H := H.pull 7 rfl rfl
            refine Rg_op rfl (o_range rfl mt139 rfl H fun it67 w68 H => ?_)
            refine Rg_end ?_
            refine V_block rfl ?_
            have hkt9 : k = ticks.toNat := by omega
            have hq64 := qf_len hs hnQ (hQ ▸ hsh)
            have hkl9 := ports_len hs hnQ hpQ
            have hcl9 := com_len hs hnC hpC
            refine V_loop rfl (γ := List Nat) (fun vis σ w => σ 8 = .pointer (some ⟨b3, 0, none⟩) ∧ σ 9 = .int .i64 0 ∧ σ 12 = .pointer (some ⟨b20, 0, none⟩) ∧ σ 145 = .pointer (some ⟨it67, 0, none⟩) ∧ σ 1000000 = undef ∧ Hp w0.heap.size w0 w [SA.ranged kPort.enc Qd.val b16 it67 kvQ vis, SA.cel b20 #[.int .i64 s.Wide, .int .i64 s.High, .int .i64 s.Room, .slice A ts.length c, .slice A1 l.length c1, .map (some b14), .map (some b16), .map (some b18), .slice Aa e.ar.length ca, .slice Ad e.dr.length cd, .slice A22 e.mo.length c23, .int .i64 ((kvC.length + visLen kvQ vis : Nat) : Int)] 142, SA.queues kvQ, SA.own kDrp 110 Ad cd e.dr, SA.own kArr 97 Aa ca e.ar, SA.rows kInt 3 (kvS.map (·.2)), SA.own kV2 101 A22 c23 e.mo, SA.map kPort.enc (fun x : Int => Value.int .i64 x) b18 kvC, SA.map kI.enc (Sld.val (α := Int)) b14 kvS, SA.cel b3 #[.slice none 0 0, .slice none 0 0, .slice none 0 0, .int .i64 0] 63, SA.cel b1 #[.int .i64 s.Wide, .int .i64 s.High, .int .i64 s.Room] 33] ∧ vis.Nodup ∧ (∀ i ∈ vis, i < kvQ.length)) (fun vis => kvQ.length - vis.length) ([]) ⟨s8, s9, s12, rfl, s1000000, H, List.nodup_nil, by simp⟩ (fun vis σ w hI => ?_)
            obtain ⟨s8, s9, s12, s145, s1000000, H, hvn, hvl⟩ := hI
            have hvk := nodup_len hvn hvl
            have hvq := visLen_le hq64 vis
            refine V_seq rfl ?_
            refine V_region rfl ?_
            refine Rg_op rfl (o_next rfl s145 H (fun i69 k69 v69 w hi69 hnv69 H => ?_) (fun w hall69 H => ?_))
            · skip
              refine Rg_op rfl (o_val (v := .bool true) (d := 147) rfl rfl (ex_extract rfl rfl) ?_)
              refine Rg_end ?_
              refine V_seq rfl ?_
              refine V_true rfl rfl ?_
              refine V_skip rfl ?_
              refine V_block rfl ?_
              refine V_seq rfl ?_
              refine V_region rfl ?_
              refine Rg_op rfl (o_val (v := .tuple #[.agg #[.int .i64 k69.r, .int .i64 k69.o, .int .i64 k69.c], .pointer (some ⟨v69.b, 0, none⟩)]) (d := 148) rfl rfl (ex_entry (enc := kPort.enc) (evv := Qd.val) (k := k69) (v := v69) s145 hi69 H) ?_)
              refine Rg_op rfl (o_val (v := .pointer (some ⟨v69.b, 0, none⟩)) (d := 149) rfl rfl (ex_extract rfl rfl) ?_)
              refine Rg_op rfl (o_val (v := .pointer (some ⟨v69.b, 0, none⟩)) (d := 23) rfl rfl (ex_assign rfl) ?_)
              refine Rg_end ?_
              refine V_draw [0, 1, 2, 3, 5, 6, 7, 9, 10, 11, 12, 13] (.p 0 (.p 1 (.p 2 (.p 3 (.q 4 (.p 5 (.p 6 (.p 7 (.q 8 (.p 9 (.p 10 (.p 11 (.p 12 (.p 13 (.l 14 .done))))))))))))))) (fun _ => False) rfl mixed (by kernel_rfl) fun w70 hD => ?_
              have H := H.drew hD
              have hq9 := hq64 _ (List.mem_of_getElem? hi69)
              simp only [] at hq9
              refine c_p (v := .pointer (some ⟨b20, 0, none⟩)) (d := 150) rfl rfl rfl (fun w' => ex_move s12) ?_
              refine c_p (v := .pointer (some ⟨b20, 0, none⟩)) (d := 151) rfl rfl rfl (fun w' => ex_nilCheck rfl) ?_
              refine c_p (v := .pointer (some ⟨b20, 8, none⟩)) (d := 152) rfl rfl rfl (fun w' => ex_fieldAddr fo142_6 rfl rfl) ?_
              refine c_p (v := .pointer (some ⟨b20, 11, none⟩)) (d := 153) rfl rfl rfl (fun w' => ex_fieldAddr fo63_3 rfl rfl) ?_
              refine c_q (v := .int .i64 ((kvC.length + visLen kvQ vis : Nat) : Int)) (d := 154) rfl rfl rfl (fun w' hG => ex_load ca3 rfl (hG.cell (cell_of (H.rd 1 rfl)) id)) ?_
              refine c_p (v := .pointer (some ⟨v69.b, 0, none⟩)) (d := 155) rfl rfl rfl (fun w' => ex_move rfl) ?_
              refine c_p (v := .pointer (some ⟨v69.b, 0, none⟩)) (d := 156) rfl rfl rfl (fun w' => ex_nilCheck rfl) ?_
              refine c_p (v := .pointer (some ⟨v69.b, 0, none⟩)) (d := 157) rfl rfl rfl (fun w' => ex_fieldAddr fo153_0 rfl rfl) ?_
              refine c_q (v := .slice v69.A v69.xs.length v69.c) (d := 158) rfl rfl rfl (fun w' hG => ex_load ca26 rfl (hG.cell (q_cell hi69 (H.pull 2 rfl rfl)) id)) ?_
              refine c_p (v := .int .i64 ((v69.xs.length : Nat) : Int)) (d := 159) rfl rfl rfl (fun w' => ex_len (ts := #[]) sl26 rfl) ?_
              refine c_p (v := .int .i64 (((kvC.length + visLen kvQ vis : Nat) : Int) + ((v69.xs.length : Nat) : Int))) (d := 160) rfl rfl rfl (fun w' => ex_add rfl rfl (by omega)) ?_
              refine c_p (v := .pointer (some ⟨b20, 0, none⟩)) (d := 161) rfl rfl rfl (fun w' => ex_nilCheck rfl) ?_
              refine c_p (v := .pointer (some ⟨b20, 8, none⟩)) (d := 162) rfl rfl rfl (fun w' => ex_fieldAddr fo142_6 rfl rfl) ?_
              refine c_p (v := .pointer (some ⟨b20, 11, none⟩)) (d := 163) rfl rfl rfl (fun w' => ex_fieldAddr fo63_3 rfl rfl) ?_
              refine c_l rfl (o_store (vs := [.int .i64 (((kvC.length + visLen kvQ vis : Nat) : Int) + ((v69.xs.length : Nat) : Int))]) rfl ts3 rfl rfl rfl rfl 1 rfl rfl rfl rfl H fun w71 hA H => ⟨.inl (by kernel_rfl), ?_⟩)
              refine c_done ?_
              have hi9 := (List.getElem?_eq_some_iff.1 hi69).1
              have hvn2 : (vis ++ [i69]).Nodup := by rw [List.nodup_append]; exact ⟨hvn, by simp, fun a ha c hc => by simp at hc; subst hc; rintro rfl; exact hnv69 ha⟩
              have hvl2 : ∀ j ∈ vis ++ [i69], j < kvQ.length := fun j hj => (List.mem_append.1 hj).elim (hvl j) (fun hj => by simp at hj; subst hj; exact hi9)
              have hrs9 : ((kvC.length + visLen kvQ vis : Nat) : Int) + ((v69.xs.length : Nat) : Int) = ((kvC.length + visLen kvQ (vis ++ [i69]) : Nat) : Int) := by rw [visLen_snoc hi69]; omega
              have H : Hp w0.heap.size w0 w71 [SA.cel b20 #[.int .i64 s.Wide, .int .i64 s.High, .int .i64 s.Room, .slice A ts.length c, .slice A1 l.length c1, .map (some b14), .map (some b16), .map (some b18), .slice Aa e.ar.length ca, .slice Ad e.dr.length cd, .slice A22 e.mo.length c23, .int .i64 ((kvC.length + visLen kvQ (vis ++ [i69]) : Nat) : Int)] 142, SA.ranged kPort.enc Qd.val b16 it67 kvQ (vis ++ [i69]), SA.queues kvQ, SA.own kDrp 110 Ad cd e.dr, SA.own kArr 97 Aa ca e.ar, SA.rows kInt 3 (kvS.map (·.2)), SA.own kV2 101 A22 c23 e.mo, SA.map kPort.enc (fun x : Int => Value.int .i64 x) b18 kvC, SA.map kI.enc (Sld.val (α := Int)) b14 kvS, SA.cel b3 #[.slice none 0 0, .slice none 0 0, .slice none 0 0, .int .i64 0] 63, SA.cel b1 #[.int .i64 s.Wide, .int .i64 s.High, .int .i64 s.Room] 33] := by rw [← hrs9]; exact H
              exact ⟨vis ++ [i69], ⟨s8, s9, s12, s145, s1000000, (Hp.pull 10 rfl rfl (Hp.pull 9 rfl rfl (Hp.pull 10 rfl rfl (Hp.pull 10 rfl rfl (Hp.pull 10 rfl rfl (Hp.pull 10 rfl rfl (Hp.pull 10 rfl rfl (Hp.pull 10 rfl rfl (Hp.pull 10 rfl rfl (Hp.pull 10 rfl rfl (Hp.pull 10 rfl rfl H))))))))))), hvn2, hvl2⟩, by have := nodup_len hvn2 hvl2; simp only [List.length_append, List.length_cons, List.length_nil] at *; omega⟩
            · skip
              refine Rg_op rfl (o_val (v := .bool false) (d := 147) rfl rfl (ex_extract rfl rfl) ?_)
              refine Rg_end ?_
              refine V_seq rfl ?_
              refine V_false rfl rfl ?_
              refine V_exit rfl ?_
              refine V_seq rfl ?_
              refine V_region rfl ?_
              refine Rg_op rfl (o_val (v := .pointer (some ⟨b20, 0, none⟩)) (d := 164) rfl rfl (ex_move s12) ?_)
              refine Rg_op rfl (o_val (v := .pointer (some ⟨b20, 0, none⟩)) (d := 165) rfl rfl (ex_nilCheck rfl) ?_)
              refine Rg_op rfl (o_val (v := .pointer (some ⟨b20, 8, none⟩)) (d := 166) rfl rfl (ex_fieldAddr fo142_6 rfl rfl) ?_)
              refine Rg_op rfl (o_val (v := .agg #[.slice Aa e.ar.length ca, .slice Ad e.dr.length cd, .slice A22 e.mo.length c23, .int .i64 ((kvC.length + visLen kvQ vis : Nat) : Int)]) (d := 167) rfl rfl (ex_loadN (vs := [.slice Aa e.ar.length ca, .slice Ad e.dr.length cd, .slice A22 e.mo.length c23, .int .i64 ((kvC.length + visLen kvQ vis : Nat) : Int)]) ca63 rfl rfl (blk_cells (H.rd 1 rfl) rfl)) ?_)
              refine Rg_op rfl (o_store (vs := [.slice Aa e.ar.length ca, .slice Ad e.dr.length cd, .slice A22 e.mo.length c23, .int .i64 ((kvC.length + visLen kvQ vis : Nat) : Int)]) rfl ts63 s8 rfl rfl rfl 9 rfl rfl rfl rfl H fun w72 hA H => ?_)
              refine Rg_op rfl (o_val (v := .int .i64 0) (d := 9) rfl rfl (ex_assign rfl) ?_)
              refine Rg_end ?_
              have hre : runE s ts l ticks = 0 := by simp only [runE]; rw [if_neg (by omega), if_neg (by omega), if_neg (by omega)]
              have hrp : runP s ts l ticks = ⟨e.ar, e.dr, e.mo, ((kvC.length + visLen kvQ vis : Nat) : Int)⟩ := by rw [runP, if_neg (by omega), ← hkt9, ← he, repOf, hQ, hC, ← rest_of hnQ hpQ hnC hpC, visLen_all hvn hvl hall69]
              refine V_ret rfl (end0 (v := .tuple #[.agg #[.slice Aa e.ar.length ca, .slice Ad e.dr.length cd, .slice A22 e.mo.length c23, .int .i64 ((kvC.length + visLen kvQ vis : Nat) : Int)], .int .i64 0]) s1000000 (res_ct Try.results22 s8 (load_blk (vs := [.slice Aa e.ar.length ca, .slice Ad e.dr.length cd, .slice A22 e.mo.length c23, .int .i64 ((kvC.length + visLen kvQ vis : Nat) : Int)]) ca63 (H.rd 0 rfl) rfl rfl) rfl) ?_)
              have H := H.pull 7 rfl rfl
              have H := H.pull 5 rfl rfl
              have H := H.pull 6 rfl rfl
              have H := Hp.join (Hp.join H)
              exact ⟨Aa, ca, Ad, cd, A22, c23, by rw [hrp, hre], H.below, by rw [hrp]; exact H.give⟩

end Go.Proofs.Ytlnogaoihkinbaa
namespace Go.Proofs.Ytlnogaoihkinbaa
open Go.Gk Go.RowKit
theorem row_lit2 {α : Type} {D : Kd α} {w : World} {b e : Nat} {cs : Array Value} {c1 c2 : List Value} {z1 z2 : α} (hb : w.heap[b]? = some (.cells cs e (0, 0))) (hcs : cs.toList = c1 ++ c2) (h1 : D.R w.cell? z1 c1) (h2 : D.R w.cell? z2 c2) : Row D w.cell? (some ⟨b, 0, none⟩) [z1, z2] := by
  intro i x hx
  have hl1 := D.len h1
  have key : ∀ (i : Nat) (c : List Value), c.length = D.sz → (∀ (j : Nat) (u : Value), c[j]? = some u → cs.toList[i * D.sz + j]? = some u) → ∀ (j : Nat) (u : Value), c[j]? = some u → w.cell? ((⟨b, 0, none⟩ : Addr).add (i * D.sz + j)) = some u := by
    intro i c hc h j u hj
    have ha : (⟨b, 0, none⟩ : Addr).add (i * D.sz + j) = ⟨b, i * D.sz + j, none⟩ := by unfold Addr.add; split <;> simp_all
    rw [ha, cell_of hb]
    have := h j u hj
    rwa [Array.getElem?_toList] at this
  match i, hx with
  | 0, hx =>
    simp at hx; subst hx
    refine ⟨_, c1, rfl, h1, key 0 c1 hl1 fun j u hj => ?_⟩
    have := (List.getElem?_eq_some_iff.1 hj).1
    rw [hcs, List.getElem?_append_left (by omega)]
    simpa using hj
  | 1, hx =>
    simp at hx; subst hx
    refine ⟨_, c2, rfl, h2, key 1 c2 (D.len h2) fun j u hj => ?_⟩
    rw [hcs, List.getElem?_append_right (by omega), show 1 * D.sz + j - c1.length = j from by omega]
    exact hj
  | i + 2, hx => simp at hx
def S3 : Spec := ⟨3, 2, 2⟩
def W3 : List Way := [⟨7, 0, [2, 5, 0]⟩, ⟨3, 1, [1]⟩]
def T3 : List (List Entry) := [[⟨7, 65535, 17⟩], [⟨3, 65535, 16⟩, ⟨7, 65535, 1⟩], [⟨7, 65535, 18⟩], [], [], [⟨7, 65535, 16⟩]]
def P3 : List Packet := [⟨0, 0, 7, 0⟩, ⟨0, 0, 7, 0⟩, ⟨0, 0, 7, 0⟩]
def A3 : List Arr := [⟨0, 0, 0⟩, ⟨1, 0, 1⟩, ⟨0, 2, 2⟩, ⟨1, 2, 3⟩, ⟨0, 5, 3⟩, ⟨1, 5, 4⟩]
def D3 : List Drp := [⟨2, 0, 1, 0⟩, ⟨2, 0, 16, 0⟩]
def M3 : List V2 := [⟨2, 0⟩, ⟨1, 0⟩, ⟨1, 0⟩, ⟨0, 0⟩, ⟨0, 0⟩, ⟨1, 0⟩]
def E4 : List Entry := [⟨0, 65535, 1⟩, ⟨1, 65535, 1⟩, ⟨2, 65535, 1⟩, ⟨3, 65535, 2⟩]
def E3 : List Entry := [⟨0, 65534, 1⟩, ⟨2, 65535, 1⟩, ⟨3, 65535, 2⟩]
theorem w_d : (if known S3 [0, 5] ≠ 0 then 0 else dist S3 0 5) = 3 := by kernel_rfl
theorem w_k : known S3 [0, 5] = 0 := by kernel_rfl
theorem w_r : routeP S3 5 0 = [5, 4, 3, 0] := by kernel_rfl
theorem w_rk : known S3 [5, 0] = 0 := by kernel_rfl
theorem w_t : treeP S3 0 [2, 5, 0] = [17, 1, 18, 0, 0, 16] := by kernel_rfl
theorem w_te : treeE S3 0 [2, 5, 0] = 0 := by kernel_rfl
theorem w_T : tabsP S3 W3 = T3 := by kernel_rfl
theorem w_TE : tabsE S3 W3 = 0 := by kernel_rfl
theorem w_run : runP S3 T3 P3 20 = ⟨A3, D3, M3, 0⟩ := by kernel_rfl
theorem w_runE : runE S3 T3 P3 20 = 0 := by kernel_rfl
theorem w_m : mergeP E4 [0, 1, 2, 3] = (E3, 0) := by kernel_rfl
theorem w_b : barP S3 [0, 0, 9, 0, 0, 0] = ([11, 12, 13, 12, 13, 14], 0) := by kernel_rfl
theorem w_f : find E3 3 = (2, true) := by kernel_rfl
end Go.Proofs.Ytlnogaoihkinbaa
set_option maxRecDepth 20000
namespace Go.Proofs.Ytlnogaoihkinbaa
open Go.Gk Go.RowKit
theorem ca101 : cellsAgg Try.prog 101 = some (some 2) := by kernel_rfl
theorem ca110 : cellsAgg Try.prog 110 = some (some 4) := by kernel_rfl
theorem ca97 : cellsAgg Try.prog 97 = some (some 3) := by kernel_rfl
theorem cl11 : callable Try.prog 11 = true := by kernel_rfl
theorem cl15 : callable Try.prog 15 = true := by kernel_rfl
theorem cl16 : callable Try.prog 16 = true := by kernel_rfl
theorem cl22 : callable Try.prog 22 = true := by kernel_rfl
theorem cl29 : callable Try.prog 29 = true := by kernel_rfl
theorem cl30 : callable Try.prog 30 = true := by kernel_rfl
theorem cl34 : callable Try.prog 34 = true := by kernel_rfl
theorem cl40 : callable Try.prog 40 = true := by kernel_rfl
theorem works_c (w0 : World) :
    Calls Try.prog 10 #[] w0 fun e w' => ∃ v, e = .returned v ∧ (v = .bool true ∧ Below w0.heap.size w0 w') := by
  refine calls_of (n := 194) (l := []) Try.func10 rfl rfl rfl ?_
  have H := Hp.start w0
  refine V_seq rfl ?_
  refine V_region rfl ?_
  refine Rg_op rfl (o_val (v := .bool false) (d := 0) rfl rfl (ex_assign rfl) ?_)
  refine Rg_end ?_
  refine V_seq rfl ?_
  refine V_region rfl ?_
  refine Rg_op rfl (o_val (v := .agg #[.int .i64 3, .int .i64 2, .int .i64 2]) (d := 14) rfl rfl (ex_eq (by kernel_rfl)) ?_)
  refine Rg_op rfl (o_alloc rfl tz33 H fun b1 w2 hA H => ?_)
  refine Rg_op rfl (o_store (vs := [.int .i64 3, .int .i64 2, .int .i64 2]) rfl ts33 rfl rfl rfl rfl 0 rfl rfl rfl rfl H fun w3 hA H => ?_)
  refine Rg_end ?_
  refine V_seq rfl ?_
  refine V_region rfl ?_
  refine Rg_op rfl (o_val (v := .agg #[.int .i64 3, .int .i64 2, .int .i64 2]) (d := 16) rfl rfl (ex_loadN (vs := [.int .i64 3, .int .i64 2, .int .i64 2]) ca33 rfl rfl (blk_cells (H.rd 0 rfl) rfl)) ?_)
  refine Rg_op rfl (o_call (fv := []) (cap := []) (vs := [.agg #[.int .i64 3, .int .i64 2, .int .i64 2], .int .i64 0, .int .i64 5]) rfl rfl cl30 rfl (distance_c S3 0 5 _) fun v w4 hS => ?_)
  obtain ⟨hv, hB⟩ := hS
  rw [w_d, w_k] at hv
  subst hv
  have H := H.keep hB
  refine Rg_op rfl (o_val (v := .tuple #[.int .i64 3, .int .i64 0]) (d := 15) rfl rfl (ex_move rfl) ?_)
  refine Rg_op rfl (o_val (v := .int .i64 3) (d := 18) rfl rfl (ex_extract rfl rfl) ?_)
  refine Rg_op rfl (o_val (v := .int .i64 0) (d := 19) rfl rfl (ex_extract rfl rfl) ?_)
  refine Rg_op rfl (o_val (v := .int .i64 3) (d := 2) rfl rfl (ex_assign rfl) ?_)
  refine Rg_op rfl (o_val (v := .int .i64 0) (d := 3) rfl rfl (ex_assign rfl) ?_)
  refine Rg_end ?_
  refine V_seq rfl ?_
  refine V_region rfl ?_
  refine Rg_op rfl (o_val (v := .agg #[.int .i64 3, .int .i64 2, .int .i64 2]) (d := 21) rfl rfl (ex_loadN (vs := [.int .i64 3, .int .i64 2, .int .i64 2]) ca33 rfl rfl (blk_cells (H.rd 0 rfl) rfl)) ?_)
  refine Rg_op rfl (o_call (fv := []) (cap := []) (vs := [.agg #[.int .i64 3, .int .i64 2, .int .i64 2], .int .i64 5, .int .i64 0]) rfl rfl cl29 rfl (route_c S3 5 0 _) fun v w8 hS => ?_)
  obtain ⟨A6, c7, hv, hB, hN⟩ := hS
  rw [w_r, w_rk] at hv
  rw [w_r] at hN
  subst hv
  have H := H.new hB hN
  refine Rg_op rfl (o_val (v := .tuple #[.slice A6 4 c7, .int .i64 0]) (d := 20) rfl rfl (ex_move rfl) ?_)
  refine Rg_op rfl (o_val (v := .slice A6 4 c7) (d := 23) rfl rfl (ex_extract rfl rfl) ?_)
  refine Rg_op rfl (o_val (v := .int .i64 0) (d := 24) rfl rfl (ex_extract rfl rfl) ?_)
  refine Rg_op rfl (o_val (v := .slice A6 4 c7) (d := 4) rfl rfl (ex_assign rfl) ?_)
  refine Rg_op rfl (o_val (v := .int .i64 0) (d := 5) rfl rfl (ex_assign rfl) ?_)
  refine Rg_end ?_
  refine V_seq rfl ?_
  refine V_region rfl ?_
  refine Rg_op rfl (o_val (v := .agg #[.int .i64 3, .int .i64 2, .int .i64 2]) (d := 26) rfl rfl (ex_loadN (vs := [.int .i64 3, .int .i64 2, .int .i64 2]) ca33 rfl rfl (blk_cells (H.rd 1 rfl) rfl)) ?_)
  refine Rg_op rfl (o_lit (cs := [.int .i64 2, .int .i64 5, .int .i64 0]) (e := 3) rfl (fun W => by kernel_rfl) H fun b9 w10 hA H => ?_)
  refine Rg_op rfl (o_call (fv := []) (cap := []) (vs := [.agg #[.int .i64 3, .int .i64 2, .int .i64 2], .int .i64 0, .slice (some ⟨b9, 0, none⟩) 3 3]) rfl rfl cl32 rfl (tree_c S3 0 _ _ [2, 5, 0] _ (row_litF (zs := [2, 5, 0]) (H.rd 0 rfl) rfl) (by decide)) fun v w14 hS => ?_)
  obtain ⟨A12, c13, hv, hB, hN⟩ := hS
  rw [w_t, w_te] at hv
  rw [w_t] at hN
  subst hv
  have H := H.new hB hN
  refine Rg_op rfl (o_val (v := .tuple #[.slice A12 6 c13, .int .i64 0]) (d := 25) rfl rfl (ex_move rfl) ?_)
  refine Rg_op rfl (o_val (v := .slice A12 6 c13) (d := 29) rfl rfl (ex_extract rfl rfl) ?_)
  refine Rg_op rfl (o_val (v := .int .i64 0) (d := 30) rfl rfl (ex_extract rfl rfl) ?_)
  refine Rg_op rfl (o_val (v := .slice A12 6 c13) (d := 6) rfl rfl (ex_assign rfl) ?_)
  refine Rg_op rfl (o_val (v := .int .i64 0) (d := 7) rfl rfl (ex_assign rfl) ?_)
  refine Rg_end ?_
  refine V_seq rfl ?_
  refine V_seq rfl ?_
  refine V_region rfl ?_
  refine Rg_op rfl (o_val (v := .int .i64 3) (d := 31) rfl rfl (ex_move rfl) ?_)
  refine Rg_op rfl (o_val (v := .bool false) (d := 32) rfl rfl (ex_eq (by kernel_rfl)) ?_)
  refine Rg_op rfl (o_val (v := .bool false) (d := 33) rfl rfl (ex_move rfl) ?_)
  refine Rg_op rfl (o_valg (v := .int .i64 0) (d := 34) rfl rfl (wanted_yes (b := false) rfl rfl rfl rfl) (ex_move rfl) ?_)
  refine Rg_op rfl (o_valg (v := .bool false) (d := 35) rfl rfl (wanted_yes (b := false) rfl rfl rfl rfl) (ex_eq (by kernel_rfl)) ?_)
  refine Rg_op rfl (o_val (v := .bool false) (d := 36) rfl rfl (ex_pick (q := false) rfl (fun h => by cases h) (fun h => rfl)) ?_)
  refine Rg_op rfl (o_val (v := .bool false) (d := 37) rfl rfl (ex_move rfl) ?_)
  refine Rg_op rfl (o_valg (v := .int .i64 0) (d := 38) rfl rfl (wanted_yes (b := false) rfl rfl rfl rfl) (ex_move rfl) ?_)
  refine Rg_op rfl (o_valg (v := .bool false) (d := 39) rfl rfl (wanted_yes (b := false) rfl rfl rfl rfl) (ex_eq (by kernel_rfl)) ?_)
  refine Rg_op rfl (o_val (v := .bool false) (d := 40) rfl rfl (ex_pick (q := false) rfl (fun h => by cases h) (fun h => rfl)) ?_)
  refine Rg_op rfl (o_val (v := .bool false) (d := 41) rfl rfl (ex_move rfl) ?_)
  refine Rg_op rfl (o_valg (v := .int .i64 0) (d := 42) rfl rfl (wanted_yes (b := false) rfl rfl rfl rfl) (ex_move rfl) ?_)
  refine Rg_op rfl (o_valg (v := .bool false) (d := 43) rfl rfl (wanted_yes (b := false) rfl rfl rfl rfl) (ex_eq (by kernel_rfl)) ?_)
  refine Rg_op rfl (o_val (v := .bool false) (d := 44) rfl rfl (ex_pick (q := false) rfl (fun h => by cases h) (fun h => rfl)) ?_)
  refine Rg_op rfl (o_val (v := .bool false) (d := 45) rfl rfl (ex_move rfl) ?_)
  refine Rg_op rfl (o_valg (v := .slice A6 4 c7) (d := 46) rfl rfl (wanted_yes (b := false) rfl rfl rfl rfl) (ex_move rfl) ?_)
  refine Rg_op rfl (o_g (wanted_yes (b := false) rfl rfl rfl rfl) (o_lit (cs := [.int .i64 5, .int .i64 4, .int .i64 3, .int .i64 0]) (e := 3) rfl (fun W => by kernel_rfl) H fun b15 w16 hA H => ?_))
  refine Rg_op rfl (o_g (wanted_yes (b := false) rfl rfl rfl rfl) (o_call (fv := []) (cap := []) (vs := [.slice A6 4 c7, .slice (some ⟨b15, 0, none⟩) 4 4]) rfl rfl cl34 rfl (numbers_c _ _ ([5, 4, 3, 0]) _ _ ([5, 4, 3, 0]) _ (own_row (H.pull 3 rfl rfl)).1 (row_litF (zs := [5, 4, 3, 0]) (H.rd 0 rfl) rfl) (by first | omega | (simp only [List.length_append, List.length_cons, List.length_nil]; omega))) fun v w17 hS => ?_))
  obtain ⟨hv, hB⟩ := hS
  rw [decide_eq_true (by decide)] at hv
  subst hv
  have H := H.keep hB
  refine Rg_op rfl (o_valg (v := .bool false) (d := 49) rfl rfl (wanted_yes (b := false) rfl rfl rfl rfl) (ex_not (q := true) rfl) ?_)
  refine Rg_op rfl (o_val (v := .bool false) (d := 50) rfl rfl (ex_pick (q := false) rfl (fun h => by cases h) (fun h => rfl)) ?_)
  refine Rg_op rfl (o_val (v := .bool false) (d := 51) rfl rfl (ex_move rfl) ?_)
  refine Rg_op rfl (o_valg (v := .slice A12 6 c13) (d := 52) rfl rfl (wanted_yes (b := false) rfl rfl rfl rfl) (ex_move rfl) ?_)
  refine Rg_op rfl (o_g (wanted_yes (b := false) rfl rfl rfl rfl) (o_lit (cs := [.int .i64 17, .int .i64 1, .int .i64 18, .int .i64 0, .int .i64 0, .int .i64 16]) (e := 3) rfl (fun W => by kernel_rfl) H fun b18 w19 hA H => ?_))
  refine Rg_op rfl (o_g (wanted_yes (b := false) rfl rfl rfl rfl) (o_call (fv := []) (cap := []) (vs := [.slice A12 6 c13, .slice (some ⟨b18, 0, none⟩) 6 6]) rfl rfl cl34 rfl (numbers_c _ _ ([17, 1, 18, 0, 0, 16]) _ _ ([17, 1, 18, 0, 0, 16]) _ (own_row (H.pull 2 rfl rfl)).1 (row_litF (zs := [17, 1, 18, 0, 0, 16]) (H.rd 0 rfl) rfl) (by first | omega | (simp only [List.length_append, List.length_cons, List.length_nil]; omega))) fun v w20 hS => ?_))
  obtain ⟨hv, hB⟩ := hS
  rw [decide_eq_true (by decide)] at hv
  subst hv
  have H := H.keep hB
  refine Rg_op rfl (o_valg (v := .bool false) (d := 55) rfl rfl (wanted_yes (b := false) rfl rfl rfl rfl) (ex_not (q := true) rfl) ?_)
  refine Rg_op rfl (o_val (v := .bool false) (d := 56) rfl rfl (ex_pick (q := false) rfl (fun h => by cases h) (fun h => rfl)) ?_)
  refine Rg_end ?_
  refine V_false rfl rfl ?_
  refine V_skip rfl ?_
  refine V_seq rfl ?_
  refine V_region rfl ?_
  refine Rg_op rfl (o_val (v := .agg #[.int .i64 3, .int .i64 2, .int .i64 2]) (d := 58) rfl rfl (ex_loadN (vs := [.int .i64 3, .int .i64 2, .int .i64 2]) ca33 rfl rfl (blk_cells (H.rd 5 rfl) rfl)) ?_)
  refine Rg_op rfl (o_lit (cs := [.int .i64 2, .int .i64 5, .int .i64 0]) (e := 3) rfl (fun W => by kernel_rfl) H fun b21 w22 hA H => ?_)
  refine Rg_op rfl (o_val (v := .agg #[.int .i64 7, .int .i64 0, .slice (some ⟨b21, 0, none⟩) 3 3]) (d := 60) rfl rfl (ex_eq (by kernel_rfl)) ?_)
  refine Rg_op rfl (o_lit (cs := [.int .i64 1]) (e := 3) rfl (fun W => by kernel_rfl) H fun b23 w24 hA H => ?_)
  refine Rg_op rfl (o_val (v := .agg #[.int .i64 3, .int .i64 1, .slice (some ⟨b23, 0, none⟩) 1 1]) (d := 62) rfl rfl (ex_eq (by kernel_rfl)) ?_)
  refine Rg_op rfl (o_lit (cs := [.int .i64 7, .int .i64 0, .slice (some ⟨b21, 0, none⟩) 3 3, .int .i64 3, .int .i64 1, .slice (some ⟨b23, 0, none⟩) 1 1]) (e := 99) rfl (fun W => by kernel_rfl) H fun b25 w26 hA H => ?_)
  have hT1 := row_litF (n := 1) (enc := fun x : Int => [.int .i64 x]) (hl := fun _ => rfl) (h1 := fun _ => rfl) (zs := [2, 5, 0]) (H.rd 2 rfl) rfl
  have hT2 := row_litF (n := 1) (enc := fun x : Int => [.int .i64 x]) (hl := fun _ => rfl) (h1 := fun _ => rfl) (zs := [1]) (H.rd 1 rfl) rfl
  have hW3 := row_lit2 (D := kWay) (z1 := ⟨7, 0, [2, 5, 0]⟩) (z2 := ⟨3, 1, [1]⟩) (c1 := [.int .i64 7, .int .i64 0, .slice (some ⟨b21, 0, none⟩) 3 3]) (c2 := [.int .i64 3, .int .i64 1, .slice (some ⟨b23, 0, none⟩) 1 1]) (H.rd 0 rfl) rfl ⟨_, 3, rfl, by decide, by decide, hT1⟩ ⟨_, 1, rfl, by decide, by decide, hT2⟩
  refine Rg_op rfl (o_call (fv := []) (cap := []) (vs := [.agg #[.int .i64 3, .int .i64 2, .int .i64 2], .slice (some ⟨b25, 0, none⟩) 2 2]) rfl rfl cl11 rfl (tabs_c S3 _ _ W3 _ hW3 (.inl (by decide)) (by decide) (by decide)) fun v w30 hS => ?_)
  obtain ⟨A28, c29, hv, hB, hN⟩ := hS
  rw [w_T, w_TE] at hv
  rw [w_T] at hN
  subst hv
  have H := H.new hB hN
  refine Rg_op rfl (o_val (v := .tuple #[.slice A28 6 c29, .int .i64 0]) (d := 57) rfl rfl (ex_move rfl) ?_)
  refine Rg_op rfl (o_val (v := .slice A28 6 c29) (d := 65) rfl rfl (ex_extract rfl rfl) ?_)
  refine Rg_op rfl (o_val (v := .int .i64 0) (d := 66) rfl rfl (ex_extract rfl rfl) ?_)
  refine Rg_op rfl (o_val (v := .slice A28 6 c29) (d := 8) rfl rfl (ex_assign rfl) ?_)
  refine Rg_op rfl (o_val (v := .int .i64 0) (d := 3) rfl rfl (ex_assign rfl) ?_)
  refine Rg_end ?_
  refine V_seq rfl ?_
  refine V_seq rfl ?_
  refine V_region rfl ?_
  refine Rg_op rfl (o_val (v := .int .i64 0) (d := 67) rfl rfl (ex_move rfl) ?_)
  refine Rg_op rfl (o_val (v := .bool false) (d := 68) rfl rfl (ex_eq (by kernel_rfl)) ?_)
  refine Rg_op rfl (o_val (v := .bool false) (d := 69) rfl rfl (ex_move rfl) ?_)
  refine Rg_op rfl (o_valg (v := .slice A28 6 c29) (d := 70) rfl rfl (wanted_yes (b := false) rfl rfl rfl rfl) (ex_move rfl) ?_)
  refine Rg_op rfl (o_valg (v := .int .i64 ((6 : Nat) : Int)) (d := 71) rfl rfl (wanted_yes (b := false) rfl rfl rfl rfl) (ex_len (ts := #[]) sl29 rfl) ?_)
  refine Rg_op rfl (o_valg (v := .bool false) (d := 72) rfl rfl (wanted_yes (b := false) rfl rfl rfl rfl) (ex_eq (by kernel_rfl)) ?_)
  refine Rg_op rfl (o_val (v := .bool false) (d := 73) rfl rfl (ex_pick (q := false) rfl (fun h => by cases h) (fun h => rfl)) ?_)
  refine Rg_op rfl (o_val (v := .bool false) (d := 74) rfl rfl (ex_move rfl) ?_)
  refine Rg_op rfl (o_valg (v := .slice A28 6 c29) (d := 75) rfl rfl (wanted_yes (b := false) rfl rfl rfl rfl) (ex_move rfl) ?_)
  have hr31 := (own_row (H.pull 0 rfl rfl)).1
  obtain ⟨ad32, x32, cs32, hA32, hx32, hR32, hc32⟩ := Row.get hr31 1 ((by decide)) ((by decide))
  obtain ⟨Ae33, ce33, rfl, hle33, hme33, hWe33⟩ := hR32
  refine Rg_op rfl (o_valg (v := .pointer (some (ad32.add ((1 : Int).toNat * 1)))) (d := 76) rfl rfl (wanted_yes (b := false) rfl rfl rfl rfl) (ex_indexAddr sl29 rfl hA32 rfl ((by decide)) ((by decide)) rfl) ?_)
  refine Rg_op rfl (o_valg (v := .slice Ae33 x32.length ce33) (d := 77) rfl rfl (wanted_yes (b := false) rfl rfl rfl rfl) (ex_load ca41 rfl (hc32 0 _ rfl)) ?_)
  obtain rfl : x32 = ([⟨3, 65535, 16⟩, ⟨7, 65535, 1⟩] : List Entry) := (Option.some.inj hx32).symm
  refine Rg_op rfl (o_valg (v := .agg #[.int .i64 3, .int .i64 65535, .int .i64 16]) (d := 78) rfl rfl (wanted_yes (b := false) rfl rfl rfl rfl) (ex_eq (by kernel_rfl)) ?_)
  refine Rg_op rfl (o_valg (v := .agg #[.int .i64 7, .int .i64 65535, .int .i64 1]) (d := 79) rfl rfl (wanted_yes (b := false) rfl rfl rfl rfl) (ex_eq (by kernel_rfl)) ?_)
  refine Rg_op rfl (o_g (wanted_yes (b := false) rfl rfl rfl rfl) (o_lit (cs := [.int .i64 3, .int .i64 65535, .int .i64 16, .int .i64 7, .int .i64 65535, .int .i64 1]) (e := 116) rfl (fun W => by kernel_rfl) H fun b34 w35 hA H => ?_))
  refine Rg_op rfl (o_g (wanted_yes (b := false) rfl rfl rfl rfl) (o_call (fv := []) (cap := []) (vs := [.slice Ae33 (([⟨3, 65535, 16⟩, ⟨7, 65535, 1⟩] : List Entry).length) ce33, .slice (some ⟨b34, 0, none⟩) 2 2]) rfl rfl cl15 rfl (entries_c _ _ ([⟨3, 65535, 16⟩, ⟨7, 65535, 1⟩] : List Entry) _ _ ([(⟨3, 65535, 16⟩ : Entry), (⟨7, 65535, 1⟩ : Entry)]) _ (hWe33.mono (fun _ _ h => (Below.agr (D := fun _ => False) hA).cell h id)) (row_litF (zs := [(⟨3, 65535, 16⟩ : Entry), (⟨7, 65535, 1⟩ : Entry)]) (H.rd 0 rfl) rfl) (by first | omega | (simp only [List.length_append, List.length_cons, List.length_nil]; omega))) fun v w36 hS => ?_))
  obtain ⟨hv, hB⟩ := hS
  rw [decide_eq_true (by decide)] at hv
  subst hv
  have H := H.keep hB
  refine Rg_op rfl (o_valg (v := .bool false) (d := 82) rfl rfl (wanted_yes (b := false) rfl rfl rfl rfl) (ex_not (q := true) rfl) ?_)
  refine Rg_op rfl (o_val (v := .bool false) (d := 83) rfl rfl (ex_pick (q := false) rfl (fun h => by cases h) (fun h => rfl)) ?_)
  refine Rg_end ?_
  refine V_false rfl rfl ?_
  refine V_skip rfl ?_
  refine V_seq rfl ?_
  refine V_region rfl ?_
  refine Rg_op rfl (o_val (v := .agg #[.int .i64 3, .int .i64 2, .int .i64 2]) (d := 85) rfl rfl (ex_loadN (vs := [.int .i64 3, .int .i64 2, .int .i64 2]) ca33 rfl rfl (blk_cells (H.rd 10 rfl) rfl)) ?_)
  refine Rg_op rfl (o_val (v := .slice A28 6 c29) (d := 86) rfl rfl (ex_move rfl) ?_)
  refine Rg_op rfl (o_val (v := .agg #[.int .i64 0, .int .i64 0, .int .i64 7, .int .i64 0]) (d := 87) rfl rfl (ex_eq (by kernel_rfl)) ?_)
  refine Rg_op rfl (o_val (v := .agg #[.int .i64 0, .int .i64 0, .int .i64 7, .int .i64 0]) (d := 88) rfl rfl (ex_eq (by kernel_rfl)) ?_)
  refine Rg_op rfl (o_val (v := .agg #[.int .i64 0, .int .i64 0, .int .i64 7, .int .i64 0]) (d := 89) rfl rfl (ex_eq (by kernel_rfl)) ?_)
  refine Rg_op rfl (o_lit (cs := [.int .i64 0, .int .i64 0, .int .i64 7, .int .i64 0, .int .i64 0, .int .i64 0, .int .i64 7, .int .i64 0, .int .i64 0, .int .i64 0, .int .i64 7, .int .i64 0]) (e := 58) rfl (fun W => by kernel_rfl) H fun b37 w38 hA H => ?_)
  refine Rg_op rfl (o_call (fv := []) (cap := []) (vs := [.agg #[.int .i64 3, .int .i64 2, .int .i64 2], .slice A28 6 c29, .slice (some ⟨b37, 0, none⟩) 3 3, .int .i64 20]) rfl rfl cl22 rfl (run_c S3 _ _ T3 _ _ P3 20 _ (own_row (H.pull 2 rfl rfl)).1 (by decide) (row_litF (zs := [(⟨0, 0, 7, 0⟩ : Packet), (⟨0, 0, 7, 0⟩ : Packet), (⟨0, 0, 7, 0⟩ : Packet)]) (H.rd 0 rfl) rfl) (by decide)) fun v w45 hS => ?_)
  obtain ⟨A39, c42, A40, c43, A41, c44, hv, hB, hN⟩ := hS
  rw [w_run, w_runE] at hv
  rw [w_run] at hN
  subst hv
  have H := ((H.new hB hN).split).split
  refine Rg_op rfl (o_val (v := .tuple #[.agg #[.slice A39 6 c42, .slice A40 2 c43, .slice A41 6 c44, .int .i64 0], .int .i64 0]) (d := 84) rfl rfl (ex_move rfl) ?_)
  refine Rg_op rfl (o_val (v := .agg #[.slice A39 6 c42, .slice A40 2 c43, .slice A41 6 c44, .int .i64 0]) (d := 92) rfl rfl (ex_extract rfl rfl) ?_)
  refine Rg_op rfl (o_val (v := .int .i64 0) (d := 93) rfl rfl (ex_extract rfl rfl) ?_)
  refine Rg_op rfl (o_alloc rfl tz63 H fun b46 w47 hA H => ?_)
  refine Rg_op rfl (o_store (vs := [.slice A39 6 c42, .slice A40 2 c43, .slice A41 6 c44, .int .i64 0]) rfl ts63 rfl rfl rfl rfl 0 rfl rfl rfl rfl H fun w48 hA H => ?_)
  refine Rg_op rfl (o_val (v := .int .i64 0) (d := 3) rfl rfl (ex_assign rfl) ?_)
  refine Rg_end ?_
  refine V_seq rfl ?_
  refine V_seq rfl ?_
  refine V_region rfl ?_
  refine Rg_op rfl (o_val (v := .int .i64 0) (d := 94) rfl rfl (ex_move rfl) ?_)
  refine Rg_op rfl (o_val (v := .bool false) (d := 95) rfl rfl (ex_eq (by kernel_rfl)) ?_)
  refine Rg_op rfl (o_val (v := .bool false) (d := 96) rfl rfl (ex_move rfl) ?_)
  refine Rg_op rfl (o_valg (v := .pointer (some ⟨b46, 0, none⟩)) (d := 97) rfl rfl (wanted_yes (b := false) rfl rfl rfl rfl) (ex_fieldAddr fo63_0 rfl rfl) ?_)
  refine Rg_op rfl (o_valg (v := .slice A39 6 c42) (d := 98) rfl rfl (wanted_yes (b := false) rfl rfl rfl rfl) (ex_load ca59 rfl (cell_of (H.rd 0 rfl))) ?_)
  refine Rg_op rfl (o_valg (v := .int .i64 ((6 : Nat) : Int)) (d := 99) rfl rfl (wanted_yes (b := false) rfl rfl rfl rfl) (ex_len (ts := #[]) sl59 rfl) ?_)
  refine Rg_op rfl (o_valg (v := .bool false) (d := 100) rfl rfl (wanted_yes (b := false) rfl rfl rfl rfl) (ex_eq (by kernel_rfl)) ?_)
  refine Rg_op rfl (o_val (v := .bool false) (d := 101) rfl rfl (ex_pick (q := false) rfl (fun h => by cases h) (fun h => rfl)) ?_)
  refine Rg_op rfl (o_val (v := .bool false) (d := 102) rfl rfl (ex_move rfl) ?_)
  refine Rg_op rfl (o_valg (v := .pointer (some ⟨b46, 0, none⟩)) (d := 103) rfl rfl (wanted_yes (b := false) rfl rfl rfl rfl) (ex_fieldAddr fo63_0 rfl rfl) ?_)
  refine Rg_op rfl (o_valg (v := .slice A39 6 c42) (d := 104) rfl rfl (wanted_yes (b := false) rfl rfl rfl rfl) (ex_load ca59 rfl (cell_of (H.rd 0 rfl))) ?_)
  have hr49 := (own_row (H.pull 1 rfl rfl)).1
  obtain ⟨ad50, x50, cs50, hA50, hx50, hR50, hc50⟩ := Row.get hr49 5 ((by decide)) ((by decide))
  obtain rfl := hR50
  refine Rg_op rfl (o_valg (v := .pointer (some (ad50.add ((5 : Int).toNat * 3)))) (d := 105) rfl rfl (wanted_yes (b := false) rfl rfl rfl rfl) (ex_indexAddr sl59 rfl hA50 rfl ((by decide)) ((by decide)) rfl) ?_)
  refine Rg_op rfl (o_valg (v := .agg #[.int .i64 x50.Packet, .int .i64 x50.Core, .int .i64 x50.Tick]) (d := 106) rfl rfl (wanted_yes (b := false) rfl rfl rfl rfl) (ex_loadN (vs := [.int .i64 x50.Packet, .int .i64 x50.Core, .int .i64 x50.Tick]) ca97 rfl rfl (fun j u hj => by rw [add_add]; exact hc50 j u hj)) ?_)
  obtain rfl : x50 = (⟨1, 5, 4⟩ : Arr) := (Option.some.inj hx50).symm
  refine Rg_op rfl (o_valg (v := .agg #[.int .i64 1, .int .i64 5, .int .i64 4]) (d := 107) rfl rfl (wanted_yes (b := false) rfl rfl rfl rfl) (ex_eq (by kernel_rfl)) ?_)
  refine Rg_op rfl (o_valg (v := .bool false) (d := 108) rfl rfl (wanted_yes (b := false) rfl rfl rfl rfl) (ex_eq (by kernel_rfl)) ?_)
  refine Rg_op rfl (o_val (v := .bool false) (d := 109) rfl rfl (ex_pick (q := false) rfl (fun h => by cases h) (fun h => rfl)) ?_)
  refine Rg_op rfl (o_val (v := .bool false) (d := 110) rfl rfl (ex_move rfl) ?_)
  refine Rg_op rfl (o_valg (v := .pointer (some ⟨b46, 1, none⟩)) (d := 111) rfl rfl (wanted_yes (b := false) rfl rfl rfl rfl) (ex_fieldAddr fo63_1 rfl rfl) ?_)
  refine Rg_op rfl (o_valg (v := .slice A40 2 c43) (d := 112) rfl rfl (wanted_yes (b := false) rfl rfl rfl rfl) (ex_load ca60 rfl (cell_of (H.rd 0 rfl))) ?_)
  refine Rg_op rfl (o_valg (v := .int .i64 ((2 : Nat) : Int)) (d := 113) rfl rfl (wanted_yes (b := false) rfl rfl rfl rfl) (ex_len (ts := #[]) sl60 rfl) ?_)
  refine Rg_op rfl (o_valg (v := .bool false) (d := 114) rfl rfl (wanted_yes (b := false) rfl rfl rfl rfl) (ex_eq (by kernel_rfl)) ?_)
  refine Rg_op rfl (o_val (v := .bool false) (d := 115) rfl rfl (ex_pick (q := false) rfl (fun h => by cases h) (fun h => rfl)) ?_)
  refine Rg_op rfl (o_val (v := .bool false) (d := 116) rfl rfl (ex_move rfl) ?_)
  refine Rg_op rfl (o_valg (v := .pointer (some ⟨b46, 1, none⟩)) (d := 117) rfl rfl (wanted_yes (b := false) rfl rfl rfl rfl) (ex_fieldAddr fo63_1 rfl rfl) ?_)
  refine Rg_op rfl (o_valg (v := .slice A40 2 c43) (d := 118) rfl rfl (wanted_yes (b := false) rfl rfl rfl rfl) (ex_load ca60 rfl (cell_of (H.rd 0 rfl))) ?_)
  have hr51 := (own_row (H.pull 2 rfl rfl)).1
  obtain ⟨ad52, x52, cs52, hA52, hx52, hR52, hc52⟩ := Row.get hr51 1 ((by decide)) ((by decide))
  obtain rfl := hR52
  refine Rg_op rfl (o_valg (v := .pointer (some (ad52.add ((1 : Int).toNat * 4)))) (d := 119) rfl rfl (wanted_yes (b := false) rfl rfl rfl rfl) (ex_indexAddr sl60 rfl hA52 rfl ((by decide)) ((by decide)) rfl) ?_)
  refine Rg_op rfl (o_valg (v := .agg #[.int .i64 x52.Packet, .int .i64 x52.Router, .int .i64 x52.Out, .int .i64 x52.Tick]) (d := 120) rfl rfl (wanted_yes (b := false) rfl rfl rfl rfl) (ex_loadN (vs := [.int .i64 x52.Packet, .int .i64 x52.Router, .int .i64 x52.Out, .int .i64 x52.Tick]) ca110 rfl rfl (fun j u hj => by rw [add_add]; exact hc52 j u hj)) ?_)
  obtain rfl : x52 = (⟨2, 0, 16, 0⟩ : Drp) := (Option.some.inj hx52).symm
  refine Rg_op rfl (o_valg (v := .agg #[.int .i64 2, .int .i64 0, .int .i64 16, .int .i64 0]) (d := 121) rfl rfl (wanted_yes (b := false) rfl rfl rfl rfl) (ex_eq (by kernel_rfl)) ?_)
  refine Rg_op rfl (o_valg (v := .bool false) (d := 122) rfl rfl (wanted_yes (b := false) rfl rfl rfl rfl) (ex_eq (by kernel_rfl)) ?_)
  refine Rg_op rfl (o_val (v := .bool false) (d := 123) rfl rfl (ex_pick (q := false) rfl (fun h => by cases h) (fun h => rfl)) ?_)
  refine Rg_op rfl (o_val (v := .bool false) (d := 124) rfl rfl (ex_move rfl) ?_)
  refine Rg_op rfl (o_valg (v := .pointer (some ⟨b46, 2, none⟩)) (d := 125) rfl rfl (wanted_yes (b := false) rfl rfl rfl rfl) (ex_fieldAddr fo63_2 rfl rfl) ?_)
  refine Rg_op rfl (o_valg (v := .slice A41 6 c44) (d := 126) rfl rfl (wanted_yes (b := false) rfl rfl rfl rfl) (ex_load ca61 rfl (cell_of (H.rd 0 rfl))) ?_)
  refine Rg_op rfl (o_valg (v := .int .i64 ((6 : Nat) : Int)) (d := 127) rfl rfl (wanted_yes (b := false) rfl rfl rfl rfl) (ex_len (ts := #[]) sl61 rfl) ?_)
  refine Rg_op rfl (o_valg (v := .bool false) (d := 128) rfl rfl (wanted_yes (b := false) rfl rfl rfl rfl) (ex_eq (by kernel_rfl)) ?_)
  refine Rg_op rfl (o_val (v := .bool false) (d := 129) rfl rfl (ex_pick (q := false) rfl (fun h => by cases h) (fun h => rfl)) ?_)
  refine Rg_op rfl (o_val (v := .bool false) (d := 130) rfl rfl (ex_move rfl) ?_)
  refine Rg_op rfl (o_valg (v := .pointer (some ⟨b46, 2, none⟩)) (d := 131) rfl rfl (wanted_yes (b := false) rfl rfl rfl rfl) (ex_fieldAddr fo63_2 rfl rfl) ?_)
  refine Rg_op rfl (o_valg (v := .slice A41 6 c44) (d := 132) rfl rfl (wanted_yes (b := false) rfl rfl rfl rfl) (ex_load ca61 rfl (cell_of (H.rd 0 rfl))) ?_)
  have hr53 := (own_row (H.pull 3 rfl rfl)).1
  obtain ⟨ad54, x54, cs54, hA54, hx54, hR54, hc54⟩ := Row.get hr53 0 ((by decide)) ((by decide))
  obtain rfl := hR54
  refine Rg_op rfl (o_valg (v := .pointer (some (ad54.add ((0 : Int).toNat * 2)))) (d := 133) rfl rfl (wanted_yes (b := false) rfl rfl rfl rfl) (ex_indexAddr sl61 rfl hA54 rfl ((by decide)) ((by decide)) rfl) ?_)
  refine Rg_op rfl (o_valg (v := .agg #[.int .i64 x54.a, .int .i64 x54.b]) (d := 134) rfl rfl (wanted_yes (b := false) rfl rfl rfl rfl) (ex_loadN (vs := [.int .i64 x54.a, .int .i64 x54.b]) ca101 rfl rfl (fun j u hj => by rw [add_add]; exact hc54 j u hj)) ?_)
  obtain rfl : x54 = (⟨2, 0⟩ : V2) := (Option.some.inj hx54).symm
  refine Rg_op rfl (o_valg (v := .agg #[.int .i64 2, .int .i64 0]) (d := 135) rfl rfl (wanted_yes (b := false) rfl rfl rfl rfl) (ex_eq (by kernel_rfl)) ?_)
  refine Rg_op rfl (o_valg (v := .bool false) (d := 136) rfl rfl (wanted_yes (b := false) rfl rfl rfl rfl) (ex_eq (by kernel_rfl)) ?_)
  refine Rg_op rfl (o_val (v := .bool false) (d := 137) rfl rfl (ex_pick (q := false) rfl (fun h => by cases h) (fun h => rfl)) ?_)
  refine Rg_op rfl (o_val (v := .bool false) (d := 138) rfl rfl (ex_move rfl) ?_)
  refine Rg_op rfl (o_valg (v := .pointer (some ⟨b46, 3, none⟩)) (d := 139) rfl rfl (wanted_yes (b := false) rfl rfl rfl rfl) (ex_fieldAddr fo63_3 rfl rfl) ?_)
  refine Rg_op rfl (o_valg (v := .int .i64 0) (d := 140) rfl rfl (wanted_yes (b := false) rfl rfl rfl rfl) (ex_load ca3 rfl (cell_of (H.rd 0 rfl))) ?_)
  refine Rg_op rfl (o_valg (v := .bool false) (d := 141) rfl rfl (wanted_yes (b := false) rfl rfl rfl rfl) (ex_eq (by kernel_rfl)) ?_)
  refine Rg_op rfl (o_val (v := .bool false) (d := 142) rfl rfl (ex_pick (q := false) rfl (fun h => by cases h) (fun h => rfl)) ?_)
  refine Rg_end ?_
  refine V_false rfl rfl ?_
  refine V_skip rfl ?_
  refine V_seq rfl ?_
  refine V_region rfl ?_
  refine Rg_op rfl (o_val (v := .agg #[.int .i64 0, .int .i64 65535, .int .i64 1]) (d := 144) rfl rfl (ex_eq (by kernel_rfl)) ?_)
  refine Rg_op rfl (o_val (v := .agg #[.int .i64 1, .int .i64 65535, .int .i64 1]) (d := 145) rfl rfl (ex_eq (by kernel_rfl)) ?_)
  refine Rg_op rfl (o_val (v := .agg #[.int .i64 2, .int .i64 65535, .int .i64 1]) (d := 146) rfl rfl (ex_eq (by kernel_rfl)) ?_)
  refine Rg_op rfl (o_val (v := .agg #[.int .i64 3, .int .i64 65535, .int .i64 2]) (d := 147) rfl rfl (ex_eq (by kernel_rfl)) ?_)
  refine Rg_op rfl (o_lit (cs := [.int .i64 0, .int .i64 65535, .int .i64 1, .int .i64 1, .int .i64 65535, .int .i64 1, .int .i64 2, .int .i64 65535, .int .i64 1, .int .i64 3, .int .i64 65535, .int .i64 2]) (e := 113) rfl (fun W => by kernel_rfl) H fun b55 w56 hA H => ?_)
  refine Rg_op rfl (o_lit (cs := [.int .i64 0, .int .i64 1, .int .i64 2, .int .i64 3]) (e := 3) rfl (fun W => by kernel_rfl) H fun b57 w58 hA H => ?_)
  refine Rg_op rfl (o_call (fv := []) (cap := []) (vs := [.slice (some ⟨b55, 0, none⟩) 4 4, .slice (some ⟨b57, 0, none⟩) 4 4]) rfl rfl cl16 rfl (merge_c _ _ E4 _ _ [0, 1, 2, 3] _ (row_litF (zs := [(⟨0, 65535, 1⟩ : Entry), (⟨1, 65535, 1⟩ : Entry), (⟨2, 65535, 1⟩ : Entry), (⟨3, 65535, 2⟩ : Entry)]) (H.rd 1 rfl) rfl) (by decide) (row_litF (zs := [0, 1, 2, 3]) (H.rd 0 rfl) rfl) (by decide)) fun v w62 hS => ?_)
  obtain ⟨A60, c61, hv, hB, hN⟩ := hS
  rw [w_m] at hv
  rw [w_m] at hN
  subst hv
  have H := H.new hB hN
  refine Rg_op rfl (o_val (v := .tuple #[.slice A60 3 c61, .int .i64 0]) (d := 143) rfl rfl (ex_move rfl) ?_)
  refine Rg_op rfl (o_val (v := .slice A60 3 c61) (d := 151) rfl rfl (ex_extract rfl rfl) ?_)
  refine Rg_op rfl (o_val (v := .int .i64 0) (d := 152) rfl rfl (ex_extract rfl rfl) ?_)
  refine Rg_op rfl (o_val (v := .slice A60 3 c61) (d := 10) rfl rfl (ex_assign rfl) ?_)
  refine Rg_op rfl (o_val (v := .int .i64 0) (d := 3) rfl rfl (ex_assign rfl) ?_)
  refine Rg_end ?_
  refine V_seq rfl ?_
  refine V_region rfl ?_
  refine Rg_op rfl (o_val (v := .agg #[.int .i64 3, .int .i64 2, .int .i64 2]) (d := 154) rfl rfl (ex_loadN (vs := [.int .i64 3, .int .i64 2, .int .i64 2]) ca33 rfl rfl (blk_cells (H.rd 18 rfl) rfl)) ?_)
  refine Rg_op rfl (o_lit (cs := [.int .i64 0, .int .i64 0, .int .i64 9, .int .i64 0, .int .i64 0, .int .i64 0]) (e := 3) rfl (fun W => by kernel_rfl) H fun b63 w64 hA H => ?_)
  refine Rg_op rfl (o_call (fv := []) (cap := []) (vs := [.agg #[.int .i64 3, .int .i64 2, .int .i64 2], .slice (some ⟨b63, 0, none⟩) 6 6]) rfl rfl cl40 rfl (barrier_c S3 _ _ [0, 0, 9, 0, 0, 0] _ (row_litF (zs := [0, 0, 9, 0, 0, 0]) (H.rd 0 rfl) rfl) (by decide)) fun v w68 hS => ?_)
  obtain ⟨A66, c67, hv, hB, hN⟩ := hS
  rw [w_b] at hv
  rw [w_b] at hN
  subst hv
  have H := H.new hB hN
  refine Rg_op rfl (o_val (v := .tuple #[.slice A66 6 c67, .int .i64 0]) (d := 153) rfl rfl (ex_move rfl) ?_)
  refine Rg_op rfl (o_val (v := .slice A66 6 c67) (d := 157) rfl rfl (ex_extract rfl rfl) ?_)
  refine Rg_op rfl (o_val (v := .int .i64 0) (d := 158) rfl rfl (ex_extract rfl rfl) ?_)
  refine Rg_op rfl (o_val (v := .slice A66 6 c67) (d := 11) rfl rfl (ex_assign rfl) ?_)
  refine Rg_op rfl (o_val (v := .int .i64 0) (d := 5) rfl rfl (ex_assign rfl) ?_)
  refine Rg_end ?_
  refine V_seq rfl ?_
  refine V_region rfl ?_
  refine Rg_op rfl (o_val (v := .slice A60 3 c61) (d := 160) rfl rfl (ex_move rfl) ?_)
  refine Rg_op rfl (o_call (fv := []) (cap := []) (vs := [.slice A60 3 c61, .int .i64 3]) rfl rfl cl19 rfl (find_c _ _ E3 3 _ (own_row (H.pull 2 rfl rfl)).1 (by decide)) fun v w69 hS => ?_)
  obtain ⟨hv, hB⟩ := hS
  rw [w_f] at hv
  subst hv
  have H := H.keep hB
  refine Rg_op rfl (o_val (v := .tuple #[.int .i64 2, .bool true]) (d := 159) rfl rfl (ex_move rfl) ?_)
  refine Rg_op rfl (o_val (v := .int .i64 2) (d := 162) rfl rfl (ex_extract rfl rfl) ?_)
  refine Rg_op rfl (o_val (v := .bool true) (d := 163) rfl rfl (ex_extract rfl rfl) ?_)
  refine Rg_op rfl (o_val (v := .int .i64 2) (d := 12) rfl rfl (ex_assign rfl) ?_)
  refine Rg_op rfl (o_val (v := .bool true) (d := 13) rfl rfl (ex_assign rfl) ?_)
  refine Rg_end ?_
  refine V_seq rfl ?_
  refine V_region rfl ?_
  refine Rg_op rfl (o_val (v := .int .i64 0) (d := 164) rfl rfl (ex_move rfl) ?_)
  refine Rg_op rfl (o_val (v := .bool true) (d := 165) rfl rfl (ex_eq (by kernel_rfl)) ?_)
  refine Rg_op rfl (o_val (v := .bool true) (d := 166) rfl rfl (ex_move rfl) ?_)
  refine Rg_op rfl (o_valg (v := .int .i64 0) (d := 167) rfl rfl (wanted_yes (b := true) rfl rfl rfl rfl) (ex_move rfl) ?_)
  refine Rg_op rfl (o_valg (v := .bool true) (d := 168) rfl rfl (wanted_yes (b := true) rfl rfl rfl rfl) (ex_eq (by kernel_rfl)) ?_)
  refine Rg_op rfl (o_val (v := .bool true) (d := 169) rfl rfl (ex_pick (q := true) rfl (fun h => rfl) (fun h => by cases h)) ?_)
  refine Rg_op rfl (o_val (v := .bool true) (d := 170) rfl rfl (ex_move rfl) ?_)
  refine Rg_op rfl (o_valg (v := .slice A60 3 c61) (d := 171) rfl rfl (wanted_yes (b := true) rfl rfl rfl rfl) (ex_move rfl) ?_)
  refine Rg_op rfl (o_valg (v := .int .i64 ((3 : Nat) : Int)) (d := 172) rfl rfl (wanted_yes (b := true) rfl rfl rfl rfl) (ex_len (ts := #[]) sl41 rfl) ?_)
  refine Rg_op rfl (o_valg (v := .bool true) (d := 173) rfl rfl (wanted_yes (b := true) rfl rfl rfl rfl) (ex_eq (by kernel_rfl)) ?_)
  refine Rg_op rfl (o_val (v := .bool true) (d := 174) rfl rfl (ex_pick (q := true) rfl (fun h => rfl) (fun h => by cases h)) ?_)
  refine Rg_op rfl (o_val (v := .bool true) (d := 175) rfl rfl (ex_move rfl) ?_)
  refine Rg_op rfl (o_valg (v := .slice A60 3 c61) (d := 176) rfl rfl (wanted_yes (b := true) rfl rfl rfl rfl) (ex_move rfl) ?_)
  have hr70 := (own_row (H.pull 2 rfl rfl)).1
  obtain ⟨ad71, x71, cs71, hA71, hx71, hR71, hc71⟩ := Row.get hr70 0 ((by decide)) ((by decide))
  obtain rfl := hR71
  refine Rg_op rfl (o_valg (v := .pointer (some (ad71.add ((0 : Int).toNat * 3)))) (d := 177) rfl rfl (wanted_yes (b := true) rfl rfl rfl rfl) (ex_indexAddr sl41 rfl hA71 rfl ((by decide)) ((by decide)) rfl) ?_)
  refine Rg_op rfl (o_valg (v := .agg #[.int .i64 x71.Key, .int .i64 x71.Mask, .int .i64 x71.Outs]) (d := 178) rfl rfl (wanted_yes (b := true) rfl rfl rfl rfl) (ex_loadN (vs := [.int .i64 x71.Key, .int .i64 x71.Mask, .int .i64 x71.Outs]) ca113 rfl rfl (fun j u hj => by rw [add_add]; exact hc71 j u hj)) ?_)
  obtain rfl : x71 = (⟨0, 65534, 1⟩ : Entry) := (Option.some.inj hx71).symm
  refine Rg_op rfl (o_valg (v := .agg #[.int .i64 0, .int .i64 65534, .int .i64 1]) (d := 179) rfl rfl (wanted_yes (b := true) rfl rfl rfl rfl) (ex_eq (by kernel_rfl)) ?_)
  refine Rg_op rfl (o_valg (v := .bool true) (d := 180) rfl rfl (wanted_yes (b := true) rfl rfl rfl rfl) (ex_eq (by kernel_rfl)) ?_)
  refine Rg_op rfl (o_val (v := .bool true) (d := 181) rfl rfl (ex_pick (q := true) rfl (fun h => rfl) (fun h => by cases h)) ?_)
  refine Rg_op rfl (o_val (v := .bool true) (d := 182) rfl rfl (ex_move rfl) ?_)
  refine Rg_op rfl (o_valg (v := .slice A66 6 c67) (d := 183) rfl rfl (wanted_yes (b := true) rfl rfl rfl rfl) (ex_move rfl) ?_)
  refine Rg_op rfl (o_g (wanted_yes (b := true) rfl rfl rfl rfl) (o_lit (cs := [.int .i64 11, .int .i64 12, .int .i64 13, .int .i64 12, .int .i64 13, .int .i64 14]) (e := 3) rfl (fun W => by kernel_rfl) H fun b72 w73 hA H => ?_))
  refine Rg_op rfl (o_g (wanted_yes (b := true) rfl rfl rfl rfl) (o_call (fv := []) (cap := []) (vs := [.slice A66 6 c67, .slice (some ⟨b72, 0, none⟩) 6 6]) rfl rfl cl34 rfl (numbers_c _ _ ([11, 12, 13, 12, 13, 14]) _ _ ([11, 12, 13, 12, 13, 14]) _ (own_row (H.pull 1 rfl rfl)).1 (row_litF (zs := [11, 12, 13, 12, 13, 14]) (H.rd 0 rfl) rfl) (by first | omega | (simp only [List.length_append, List.length_cons, List.length_nil]; omega))) fun v w74 hS => ?_))
  obtain ⟨hv, hB⟩ := hS
  rw [decide_eq_true (by decide)] at hv
  subst hv
  have H := H.keep hB
  refine Rg_op rfl (o_val (v := .bool true) (d := 186) rfl rfl (ex_pick (q := true) rfl (fun h => rfl) (fun h => by cases h)) ?_)
  refine Rg_op rfl (o_val (v := .bool true) (d := 187) rfl rfl (ex_move rfl) ?_)
  refine Rg_op rfl (o_valg (v := .int .i64 2) (d := 188) rfl rfl (wanted_yes (b := true) rfl rfl rfl rfl) (ex_move rfl) ?_)
  refine Rg_op rfl (o_valg (v := .bool true) (d := 189) rfl rfl (wanted_yes (b := true) rfl rfl rfl rfl) (ex_eq (by kernel_rfl)) ?_)
  refine Rg_op rfl (o_val (v := .bool true) (d := 190) rfl rfl (ex_pick (q := true) rfl (fun h => rfl) (fun h => by cases h)) ?_)
  refine Rg_op rfl (o_val (v := .bool true) (d := 191) rfl rfl (ex_move rfl) ?_)
  refine Rg_op rfl (o_valg (v := .bool true) (d := 192) rfl rfl (wanted_yes (b := true) rfl rfl rfl rfl) (ex_move rfl) ?_)
  refine Rg_op rfl (o_val (v := .bool true) (d := 193) rfl rfl (ex_pick (q := true) rfl (fun h => rfl) (fun h => by cases h)) ?_)
  refine Rg_op rfl (o_val (v := .bool true) (d := 0) rfl rfl (ex_assign rfl) ?_)
  refine Rg_end ?_
  refine V_ret rfl (end0 (v := .bool true) rfl (res_tmp Try.results10 rfl) ?_)
  exact ⟨rfl, H.below⟩

end Go.Proofs.Ytlnogaoihkinbaa
namespace Go.Proofs.Ytlnogaoihkinbaa
open Go.Gk Go.RowKit
def on1 (d : Nat) : Nat := (d / 2 &&& 6148914691236517205) + (d &&& 6148914691236517205)
def on2 (d : Nat) : Nat := (d / 4 &&& 3689348814741910323) + (d &&& 3689348814741910323)
def on3 (d : Nat) : Nat := (d / 16 + d) &&& 1085102592571150095
def on4 (m : Nat) (d : Nat) : Nat := d + d / m
def onN (d : Nat) : Nat := on4 4294967296 (on4 65536 (on4 256 (on3 (on2 (on1 d))))) &&& 127
def pows : List Nat := [1, 2, 4, 8, 16, 32, 64, 128, 256, 512, 1024, 2048, 4096, 8192, 16384, 32768]
def okN (d : Nat) : Bool := !(Nat.beq (onN d) 1) || pows.contains d
def allN (p : Nat → Bool) : Nat → Bool
  | 0 => true
  | n + 1 => p n && allN p n
theorem allN_at {p : Nat → Bool} : ∀ {n : Nat}, allN p n = true → ∀ i, i < n → p i = true
  | n + 1, h, i, hi => by
    simp only [allN, Bool.and_eq_true] at h
    by_cases e : i = n
    · rw [e]; exact h.1
    · exact allN_at h.2 i (by omega)
theorem onN_all : allN okN 65536 = true := by kernel_rfl
theorem onN_pow : pows.all (fun d => Nat.beq (onN d) 1) = true := by kernel_rfl
theorem onN_iff {d : Nat} (h : d < 65536) : onN d = 1 ↔ d ∈ pows := by
  constructor
  · intro h1
    have := allN_at onN_all d h
    simp only [okN, Bool.or_eq_true, Bool.not_eq_true', List.contains_iff_mem] at this
    rcases this with this | this
    · rw [h1] at this; exact absurd this (by decide)
    · exact this
  · intro h1
    exact Nat.eq_of_beq_eq_true (List.all_eq_true.1 onN_pow d h1)
end Go.Proofs.Ytlnogaoihkinbaa
namespace Go.Proofs.Ytlnogaoihkinbaa
open Go.Gk Go.RowKit
theorem ofInt_nat {n a : Nat} (h : a < 2 ^ n) : (BitVec.ofInt n (a : Int)).toNat = a := by
  rw [BitVec.toNat_ofInt, ← Int.natCast_emod, Int.toNat_natCast, Nat.mod_eq_of_lt h]
theorem and_u64 {a b : Nat} (ha : a < 2 ^ 64) (hb : b < 2 ^ 64) : bAnd .u64 (a : Int) (b : Int) = ((a &&& b : Nat) : Int) := by
  have h1 : (BitVec.ofInt IntKind.u64.bits (a : Int) &&& BitVec.ofInt IntKind.u64.bits (b : Int)).toNat = a &&& b := by
    rw [BitVec.toNat_and, show (BitVec.ofInt IntKind.u64.bits (a : Int)).toNat = a from ofInt_nat (n := 64) ha, show (BitVec.ofInt IntKind.u64.bits (b : Int)).toNat = b from ofInt_nat (n := 64) hb]
  have h2 : a &&& b ≤ a := Nat.and_le_left
  unfold bAnd
  rw [h1]
  show ((a &&& b : Nat) : Int) % 18446744073709551616 = _
  omega
theorem wrap_i64 {a : Nat} (h : a < 2 ^ 63) : IntKind.i64.wrap (a : Int) = a := wrap_in (by omega)
theorem and_i64 {a b : Nat} (ha : a < 2 ^ 63) (hb : b < 2 ^ 63) : bAnd .i64 (a : Int) (b : Int) = ((a &&& b : Nat) : Int) := by
  have h1 : (BitVec.ofInt IntKind.i64.bits (a : Int) &&& BitVec.ofInt IntKind.i64.bits (b : Int)).toNat = a &&& b := by
    rw [BitVec.toNat_and, show (BitVec.ofInt IntKind.i64.bits (a : Int)).toNat = a from ofInt_nat (n := 64) (by omega), show (BitVec.ofInt IntKind.i64.bits (b : Int)).toNat = b from ofInt_nat (n := 64) (by omega)]
  have h2 : a &&& b ≤ a := Nat.and_le_left
  unfold bAnd
  rw [h1]
  exact wrap_i64 (by omega)
theorem xor_i64 {a b : Nat} (ha : a < 65536) (hb : b < 65536) : ∃ d : Nat, bXor .i64 (a : Int) (b : Int) = (d : Int) ∧ d < 65536 := by
  have h1 : (BitVec.ofInt IntKind.i64.bits (a : Int) ^^^ BitVec.ofInt IntKind.i64.bits (b : Int)).toNat = a ^^^ b := by
    rw [BitVec.toNat_xor, show (BitVec.ofInt IntKind.i64.bits (a : Int)).toNat = a from ofInt_nat (n := 64) (by omega), show (BitVec.ofInt IntKind.i64.bits (b : Int)).toNat = b from ofInt_nat (n := 64) (by omega)]
  have h2 : a ^^^ b < 2 ^ 16 := Nat.xor_lt_two_pow ha hb
  refine ⟨a ^^^ b, ?_, h2⟩
  unfold bXor
  rw [h1]
  exact wrap_i64 (by omega)
theorem bits_sub {n : Nat} (x y : BitVec n) : x &&& ~~~ y = 0#n ↔ x &&& y = x := by
  constructor <;> intro h <;> apply BitVec.eq_of_getLsbD_eq <;> intro i hi <;> have := congrArg (·.getLsbD i) h <;> simp [hi] at this ⊢ <;> cases hx : x.getLsbD i <;> cases hy : y.getLsbD i <;> simp_all
theorem sub_iff {a b : Nat} (ha : a < 2 ^ 63) (hb : b < 2 ^ 63) : bAndNot .i64 (a : Int) (b : Int) = 0 ↔ bAnd .i64 (a : Int) (b : Int) = a := by
  have e1 : ∀ z : BitVec 64, z.toNat < 2 ^ 63 → IntKind.i64.wrap (z.toNat : Int) = (z.toNat : Int) := fun z h => wrap_i64 h
  have hx : (BitVec.ofInt 64 (a : Int)).toNat = a := ofInt_nat (n := 64) (by omega)
  have l1 : (BitVec.ofInt 64 (a : Int) &&& ~~~ BitVec.ofInt 64 (b : Int)).toNat ≤ a := by rw [BitVec.toNat_and, hx]; exact Nat.and_le_left
  have l2 : (BitVec.ofInt 64 (a : Int) &&& BitVec.ofInt 64 (b : Int)).toNat ≤ a := by rw [BitVec.toNat_and, hx]; exact Nat.and_le_left
  show IntKind.i64.wrap ((BitVec.ofInt 64 (a : Int) &&& ~~~ BitVec.ofInt 64 (b : Int)).toNat : Int) = 0 ↔ IntKind.i64.wrap ((BitVec.ofInt 64 (a : Int) &&& BitVec.ofInt 64 (b : Int)).toNat : Int) = (a : Int)
  rw [e1 _ (by omega), e1 _ (by omega)]
  constructor
  · intro h
    have h0 : BitVec.ofInt 64 (a : Int) &&& ~~~ BitVec.ofInt 64 (b : Int) = 0#64 := BitVec.eq_of_toNat_eq (by simpa using h)
    rw [(bits_sub _ _).1 h0, hx]
  · intro h
    have h0 : BitVec.ofInt 64 (a : Int) &&& BitVec.ofInt 64 (b : Int) = BitVec.ofInt 64 (a : Int) := BitVec.eq_of_toNat_eq (by rw [hx]; exact_mod_cast h)
    rw [(bits_sub _ _).2 h0]
    rfl
theorem fd (d m : Nat) {q : Int} (hq : q = (m : Int)) : (d : Int).fdiv q = ((d / m : Nat) : Int) := by rw [hq]; exact (Int.ofNat_fdiv d m).symm
theorem wu {x : Nat} (h : x < 2 ^ 64) : IntKind.u64.wrap (x : Int) = (x : Int) := wrapU64 (by omega)
theorem ones1_nat {d : Nat} (h : d < 2 ^ 40) : ones1 (d : Int) = (on1 d : Int) ∧ on1 d ≤ 2 * d := by
  have l1 : d / 2 &&& 6148914691236517205 ≤ d / 2 := Nat.and_le_left
  have l2 : d &&& 6148914691236517205 ≤ d := Nat.and_le_left
  refine ⟨?_, by unfold on1; omega⟩
  have a1 := and_u64 (a := d / 2) (b := 6148914691236517205) (by omega) (by omega)
  have a2 := and_u64 (a := d) (b := 6148914691236517205) (by omega) (by omega)
  rw [ones1, fd d 2 (by decide)]
  show IntKind.u64.wrap (bAnd .u64 _ ((6148914691236517205 : Nat) : Int) + bAnd .u64 _ ((6148914691236517205 : Nat) : Int)) = _
  rw [a1, a2, ← Int.natCast_add, wu (by omega)]
  rfl
theorem ones2_nat {d : Nat} (h : d < 2 ^ 40) : ones2 (d : Int) = (on2 d : Int) ∧ on2 d ≤ 2 * d := by
  have l1 : d / 4 &&& 3689348814741910323 ≤ d / 4 := Nat.and_le_left
  have l2 : d &&& 3689348814741910323 ≤ d := Nat.and_le_left
  refine ⟨?_, by unfold on2; omega⟩
  have a1 := and_u64 (a := d / 4) (b := 3689348814741910323) (by omega) (by omega)
  have a2 := and_u64 (a := d) (b := 3689348814741910323) (by omega) (by omega)
  rw [ones2, fd d 4 (by decide)]
  show IntKind.u64.wrap (bAnd .u64 _ ((3689348814741910323 : Nat) : Int) + bAnd .u64 _ ((3689348814741910323 : Nat) : Int)) = _
  rw [a1, a2, ← Int.natCast_add, wu (by omega)]
  rfl
theorem ones3_nat {d : Nat} (h : d < 2 ^ 40) : ones3 (d : Int) = (on3 d : Int) ∧ on3 d ≤ 2 * d := by
  have l1 : (d / 16 + d) &&& 1085102592571150095 ≤ d / 16 + d := Nat.and_le_left
  refine ⟨?_, by unfold on3; omega⟩
  have a1 := and_u64 (a := d / 16 + d) (b := 1085102592571150095) (by omega) (by omega)
  rw [ones3, fd d 16 (by decide), ← Int.natCast_add, wu (by omega)]
  exact a1
theorem ones4_nat {d : Nat} (h : d < 2 ^ 40) {j m : Nat} (hm : (2 : Int) ^ min j IntKind.u64.bits = (m : Int)) : ones4 j (d : Int) = (on4 m d : Int) ∧ on4 m d ≤ 2 * d := by
  have l1 : d / m ≤ d := Nat.div_le_self _ _
  refine ⟨?_, by unfold on4; omega⟩
  rw [ones4, fd d m hm, ← Int.natCast_add, wu (by omega)]
  rfl
theorem ones_nat {d : Nat} (h : d < 65536) : ones (IntKind.u64.wrap (d : Int)) = (onN d : Int) := by
  rw [wu (by omega)]
  obtain ⟨h1, b1⟩ := ones1_nat (d := d) (by omega)
  obtain ⟨h2, b2⟩ := ones2_nat (d := on1 d) (by omega)
  obtain ⟨h3, b3⟩ := ones3_nat (d := on2 (on1 d)) (by omega)
  obtain ⟨h4, b4⟩ := ones4_nat (d := on3 (on2 (on1 d))) (by omega) (j := 8) (m := 256) (by decide)
  obtain ⟨h5, b5⟩ := ones4_nat (d := on4 256 (on3 (on2 (on1 d)))) (by omega) (j := 16) (m := 65536) (by decide)
  obtain ⟨h6, b6⟩ := ones4_nat (d := on4 65536 (on4 256 (on3 (on2 (on1 d))))) (by omega) (j := 32) (m := 4294967296) (by decide)
  rw [ones, h1, h2, h3, h4, h5, h6, wrap_i64 (by omega)]
  exact and_i64 (b := 127) (by omega) (by omega)
end Go.Proofs.Ytlnogaoihkinbaa
namespace Go.Proofs.Ytlnogaoihkinbaa
open Go.Gk Go.RowKit
def Ge (x : Entry) : Prop := (0 ≤ x.Key ∧ x.Key ≤ 65535) ∧ (0 ≤ x.Mask ∧ x.Mask ≤ 65535) ∧ 1 ≤ x.Outs
theorem nat_of {x m : Int} (h : 0 ≤ x ∧ x ≤ m) : ∃ n : Nat, x = (n : Int) ∧ (n : Int) ≤ m := ⟨x.toNat, by omega, by omega⟩
theorem ent_iff {x : Entry} (hk : x.Key ≤ 9223372036854775807) : ent x ↔ entR x := by
  obtain ⟨K, M, O⟩ := x
  simp only [ent, entR] at *
  constructor
  · rintro ⟨⟨⟨⟨h1, h2⟩, h3⟩, h4⟩, h5⟩
    obtain ⟨a, rfl, ha⟩ := nat_of (x := K) (m := 9223372036854775807) (by omega)
    obtain ⟨b, rfl, hb⟩ := nat_of (x := M) (m := 65535) (by omega)
    have h6 := (sub_iff (a := a) (b := b) (by omega) (by omega)).1 h3
    have h7 := and_i64 (a := a) (b := b) (by omega) (by omega)
    have h8 : a &&& b ≤ b := Nat.and_le_right
    rw [h6] at h7
    exact ⟨⟨⟨⟨⟨⟨by omega, by omega⟩, by omega⟩, by omega⟩, h6⟩, h4⟩, h5⟩
  · rintro ⟨⟨⟨⟨⟨⟨h1, h2⟩, h2'⟩, h2''⟩, h3⟩, h4⟩, h5⟩
    obtain ⟨a, rfl, ha⟩ := nat_of (x := K) (m := 65535) (by omega)
    obtain ⟨b, rfl, hb⟩ := nat_of (x := M) (m := 65535) (by omega)
    exact ⟨⟨⟨⟨by omega, by omega⟩, (sub_iff (a := a) (b := b) (by omega) (by omega)).2 h3⟩, h4⟩, h5⟩
theorem ge_of {x : Entry} (h : entR x) : Ge x := by
  obtain ⟨⟨⟨⟨⟨⟨h1, h2⟩, h2'⟩, h2''⟩, h3⟩, h4⟩, h5⟩ := h
  exact ⟨⟨h1, h2⟩, ⟨h2', h2''⟩, h4⟩
theorem diff_nat {x y : Entry} (hx : Ge x) (hy : Ge y) : ∃ d : Nat, diff x y = (d : Int) ∧ d < 65536 := by
  obtain ⟨a, ha, ha'⟩ := nat_of hx.1
  obtain ⟨b, hb, hb'⟩ := nat_of hy.1
  rw [diff, ha, hb]
  exact xor_i64 (by omega) (by omega)
theorem find_ge {t : List Entry} (hg : ∀ x ∈ t, Ge x) (k : Int) : find t k = ((find t k).1, decide ((find t k).1 ≠ 0)) := by
  unfold find
  split
  · rename_i x hx
    have := (hg x (List.mem_of_find?_eq_some hx)).2.2
    simp only [Prod.mk.injEq, true_and]
    exact (decide_eq_true (by omega)).symm
  · rfl
theorem found_outs {keys : List Int} {t : List Entry} (hg : ∀ x ∈ t, Ge x) : foundOf keys t = (outsOf keys t).map fun o => (o, decide (o ≠ 0)) := by
  rw [foundOf, outsOf, List.map_map]
  exact List.map_congr_left fun k _ => find_ge hg k
theorem mergeN_le {same : List Entry → Bool} : ∀ (n : Nat) (l : List Entry), (mergeN same n l).length ≤ l.length
  | 0, l => Nat.le_refl _
  | n + 1, l => by
    rw [mergeN]
    cases hj : joinedO l same with
    | none => exact Nat.le_refl _
    | some t =>
      have h1 := joined_len hj
      have h2 := mergeN_le (same := same) n t
      simp only []
      omega
theorem merge_le (l : List Entry) (keys : List Int) : (mergeP l keys).1.length ≤ l.length := by
  unfold mergeP
  (repeat' split) <;> first | exact Nat.zero_le _ | exact mergeN_le _ _
end Go.Proofs.Ytlnogaoihkinbaa
namespace Go.Proofs.Ytlnogaoihkinbaa
open Go.Gk Go.RowKit
theorem cl10 : callable Try.prog 10 = true := by kernel_rfl
end Go.Proofs.Ytlnogaoihkinbaa
namespace Go.Proofs.Ytlnogaoihkinbaa
open Go.Gk Go.RowKit
theorem and_small (x : Int) {b : Nat} (hb : b < 2 ^ 63) : ∃ d : Nat, bAnd .i64 x (b : Int) = (d : Int) ∧ d ≤ b ∧ d &&& b = d := by
  have hx : (BitVec.ofInt 64 (b : Int)).toNat = b := ofInt_nat (n := 64) (by omega)
  have h1 : (BitVec.ofInt 64 x &&& BitVec.ofInt 64 (b : Int)).toNat = (BitVec.ofInt 64 x).toNat &&& b := by rw [BitVec.toNat_and, hx]
  have h2 : (BitVec.ofInt 64 x).toNat &&& b ≤ b := Nat.and_le_right
  refine ⟨(BitVec.ofInt 64 x).toNat &&& b, ?_, h2, by rw [Nat.and_assoc, Nat.and_self]⟩
  show IntKind.i64.wrap ((BitVec.ofInt 64 x &&& BitVec.ofInt 64 (b : Int)).toNat : Int) = _
  rw [h1]
  exact wrap_i64 (by omega)
theorem and_b (x : Int) {b : Nat} (hb : b < 2 ^ 63) : 0 ≤ bAnd .i64 x (b : Int) ∧ bAnd .i64 x (b : Int) ≤ b := by
  obtain ⟨d, h1, h2, _⟩ := and_small x hb
  omega
/-- An entry, made sane. -/
def san (x : Entry) : Entry := ⟨bAnd .i64 x.Key (bAnd .i64 x.Mask 65535), bAnd .i64 x.Mask 65535, 1 + bAnd .i64 x.Outs 15⟩
theorem san_ok (x : Entry) : entR (san x) := by
  obtain ⟨m, hm, hm1, _⟩ := and_small x.Mask (b := 65535) (by omega)
  obtain ⟨k, hk, hk1, hk2⟩ := and_small x.Key (b := m) (by omega)
  obtain ⟨o, ho, ho1, _⟩ := and_small x.Outs (b := 15) (by omega)
  have e1 : bAnd .i64 x.Mask 65535 = (m : Int) := hm
  have e2 : bAnd .i64 x.Outs 15 = (o : Int) := ho
  have e3 := and_i64 (a := k) (b := m) (by omega) (by omega)
  rw [hk2] at e3
  unfold entR san
  simp only [e1, hk, e2]
  exact ⟨⟨⟨⟨⟨⟨by omega, by omega⟩, by omega⟩, by omega⟩, e3⟩, by omega⟩, by omega⟩
/-- A number without some bits: whether it still lies within another one without these bits. -/
theorem andNot_sub {a b d : Nat} (ha : a < 2 ^ 63) (hb : b < 2 ^ 63) (hd : d < 2 ^ 63) (h : a &&& b = a) : ∃ a' b' : Nat, bAndNot .i64 (a : Int) (d : Int) = (a' : Int) ∧ bAndNot .i64 (b : Int) (d : Int) = (b' : Int) ∧ a' ≤ a ∧ b' ≤ b ∧ a' &&& b' = a' := by
  have hx : ∀ c : Nat, c < 2 ^ 63 → (BitVec.ofInt 64 (c : Int)).toNat = c := fun c hc => ofInt_nat (n := 64) (by omega)
  have key : ∀ c : Nat, c < 2 ^ 63 → (BitVec.ofInt 64 (c : Int) &&& ~~~ BitVec.ofInt 64 (d : Int)).toNat ≤ c := fun c hc => by
    rw [BitVec.toNat_and, hx c hc]; exact Nat.and_le_left
  refine ⟨(BitVec.ofInt 64 (a : Int) &&& ~~~ BitVec.ofInt 64 (d : Int)).toNat, (BitVec.ofInt 64 (b : Int) &&& ~~~ BitVec.ofInt 64 (d : Int)).toNat, by show IntKind.i64.wrap ((BitVec.ofInt 64 (a : Int) &&& ~~~ BitVec.ofInt 64 (d : Int)).toNat : Int) = _; exact wrap_i64 (by have := key a ha; omega), by show IntKind.i64.wrap ((BitVec.ofInt 64 (b : Int) &&& ~~~ BitVec.ofInt 64 (d : Int)).toNat : Int) = _; exact wrap_i64 (by have := key b hb; omega), key a ha, key b hb, ?_⟩
  have h0 : BitVec.ofInt 64 (a : Int) &&& BitVec.ofInt 64 (b : Int) = BitVec.ofInt 64 (a : Int) := BitVec.eq_of_toNat_eq (by rw [BitVec.toNat_and, hx a ha, hx b hb, h])
  rw [← BitVec.toNat_and]
  congr 1
  apply BitVec.eq_of_getLsbD_eq
  intro i hi
  have := congrArg (·.getLsbD i) h0
  simp only [BitVec.getLsbD_and, BitVec.getLsbD_not, hi, decide_true, Bool.true_and] at this ⊢
  cases ha' : (BitVec.ofInt 64 (a : Int)).getLsbD i <;> cases hb' : (BitVec.ofInt 64 (b : Int)).getLsbD i <;> cases hd' : (BitVec.ofInt 64 (d : Int)).getLsbD i <;> simp_all
theorem join_entR {x y : Entry} (hx : entR x) (hy : entR y) (h : canJoin x y = true) : entR (joinE x y) := by
  obtain ⟨d, hd, hl⟩ := diff_nat (ge_of hx) (ge_of hy)
  obtain ⟨⟨⟨⟨⟨⟨h1, h2⟩, h2'⟩, h2''⟩, h3⟩, h4⟩, h5⟩ := hx
  obtain ⟨a, ha, ha'⟩ := nat_of (x := x.Key) (m := 65535) ⟨h1, h2⟩
  obtain ⟨b, hb, hb'⟩ := nat_of (x := x.Mask) (m := 65535) ⟨h2', h2''⟩
  have e1 : a &&& b = a := by
    have := and_i64 (a := a) (b := b) (by omega) (by omega)
    rw [← ha, ← hb, h3, ha] at this
    exact_mod_cast this.symm
  obtain ⟨a', b', e2, e3, e4, e5, e6⟩ := andNot_sub (a := a) (b := b) (d := d) (by omega) (by omega) (by omega) e1
  have e7 := and_i64 (a := a') (b := b') (by omega) (by omega)
  rw [e6] at e7
  rw [joinE, if_pos h, ha, hb, hd, e2, e3]
  exact ⟨⟨⟨⟨⟨⟨by simp only []; omega, by simp only []; omega⟩, by simp only []; omega⟩, by simp only []; omega⟩, e7⟩, h4⟩, h5⟩
theorem cand_entR {l t : List Entry} (hg : ∀ x ∈ l, entR x) {k j : Nat} (h : cand l k j = some t) : ∀ x ∈ t, entR x := by
  unfold cand at h
  split at h
  · rename_i x y hx hy
    split at h
    · rename_i hc
      injection h with h
      subst h
      intro z hz
      rcases List.mem_or_eq_of_mem_set hz with hz | hz
      · exact hg z (List.mem_of_mem_eraseIdx hz)
      · rw [hz]; exact join_entR (hg x (List.mem_of_getElem? hx)) (hg y (List.mem_of_getElem? hy)) hc
    · cases h
  · cases h
theorem joined_of {l t : List Entry} {same : List Entry → Bool} (h : joinedO l same = some t) : ∃ k j, cand l k j = some t ∧ same t = true := by
  obtain ⟨k, _, h1⟩ := List.exists_of_findSome?_eq_some h
  obtain ⟨j, _, h2⟩ := List.exists_of_findSome?_eq_some h1
  unfold cand2 at h2
  split at h2
  · obtain ⟨h3, h4⟩ := Option.filter_eq_some_iff.1 h2
    exact ⟨k, j, h3, h4⟩
  · cases h2
/-- What merging leaves: sane entries; nothing to join; the same outs. -/
theorem mergeN_ok {same : List Entry → Bool} : ∀ (n : Nat) (l : List Entry), l.length ≤ n → (∀ x ∈ l, entR x) → same l = true → (∀ x ∈ mergeN same n l, entR x) ∧ joinedO (mergeN same n l) same = none ∧ same (mergeN same n l) = true
  | 0, l, hl, hg, hs => by
    match l, hl with
    | [], _ => exact ⟨hg, rfl, hs⟩
  | n + 1, l, hl, hg, hs => by
    rw [mergeN]
    cases hj : joinedO l same with
    | none => exact ⟨hg, hj, hs⟩
    | some t =>
      obtain ⟨k, j, hc, ht⟩ := joined_of hj
      have := joined_len hj
      exact mergeN_ok n t (by omega) (cand_entR hg hc) ht
theorem mergeP_of {l : List Entry} {keys : List Int} (hl : l.length ≤ 1024) (hkl : keys.length ≤ 1024) (hg : ∀ x ∈ l, entR x) (hk : ∀ k ∈ keys, 0 ≤ k ∧ k ≤ 65535) : mergeP l keys = (mergeN (sameW keys (outsOf keys l)) l.length l, 0) := by
  have h1 : ¬ l.any (fun x => !decide (ent x)) = true := fun h => by
    obtain ⟨x, hx, h2⟩ := List.any_eq_true.1 h
    have h3 := hg x hx
    have h4 : x.Key ≤ 65535 := (ge_of h3).1.2
    have := (ent_iff (x := x) (by omega)).2 h3
    simp [this] at h2
  have h2 : ¬ keys.any (fun x => decide (x < 0 ∨ 65535 < x)) = true := fun h => by
    obtain ⟨x, hx, h2⟩ := List.any_eq_true.1 h
    have := hk x hx
    simp at h2
    omega
  rw [mergeP, if_neg (by omega), if_neg h1, if_neg h2]
/-- Merged tables: sane, not longer, they find the same; merged again they are what they are. -/
theorem merged {l : List Entry} {keys : List Int} (hl : l.length ≤ 1024) (hkl : keys.length ≤ 1024) (hg : ∀ x ∈ l, entR x) (hk : ∀ k ∈ keys, 0 ≤ k ∧ k ≤ 65535) :
    (mergeP l keys).2 = 0 ∧ (∀ x ∈ (mergeP l keys).1, entR x) ∧ mergeP (mergeP l keys).1 keys = ((mergeP l keys).1, 0) ∧ (∀ k ∈ keys, find (mergeP l keys).1 k = find l k) ∧ joinedO (mergeP l keys).1 (sameW keys (outsOf keys l)) = none := by
  have hm := merge_le l keys
  have h1 := mergeP_of hl hkl hg hk
  obtain ⟨h2, h3, h4⟩ := mergeN_ok (same := sameW keys (outsOf keys l)) l.length l (Nat.le_refl _) hg (decide_eq_true rfl)
  have h5 : outsOf keys (mergeP l keys).1 = outsOf keys l := by rw [h1]; exact of_decide_eq_true h4
  have h6 : ∀ x ∈ (mergeP l keys).1, entR x := by rw [h1]; exact h2
  have h7 : joinedO (mergeP l keys).1 (sameW keys (outsOf keys l)) = none := by rw [h1]; exact h3
  refine ⟨by rw [h1], h6, ?_, ?_, h7⟩
  · rw [mergeP_of (by omega) hkl h6 hk, h5]
    cases hn : (mergeP l keys).1.length with
    | zero => rfl
    | succ n => rw [mergeN, h7]
  · intro k hk'
    have h8 : foundOf keys (mergeP l keys).1 = foundOf keys l := by
      rw [found_outs (fun x hx => ge_of (h6 x hx)), found_outs (fun x hx => ge_of (hg x hx)), h5]
    obtain ⟨i, hi⟩ := List.mem_iff_getElem?.1 hk'
    have h9 := found_get (t := (mergeP l keys).1) hi
    rw [h8, found_get hi] at h9
    injection h9 with h9
    exact h9.symm
def oneB (d : Nat) : Bool := !(Nat.beq (d &&& (d - 1)) 0) || Nat.beq d 0 || pows.contains d
theorem oneB_all : allN oneB 65536 = true := by kernel_rfl
/-- Where nothing can be joined, no two entries differ in one bit of their keys alone. -/
theorem none_left {l : List Entry} (hg : ∀ x ∈ l, entR x) (h : joinedO l (sameW [] (outsOf [] l)) = none) {k j : Nat} {x y : Entry} (hkj : k < j) (hx : l[k]? = some x) (hy : l[j]? = some y) : canJoin x y = false := by
  have h1 : ∀ k ∈ List.range l.length, rowJ l (sameW [] (outsOf [] l)) k = none := List.findSome?_eq_none_iff.1 h
  have h2 : ∀ j ∈ List.range l.length, cand2 l (sameW [] (outsOf [] l)) k j = none := List.findSome?_eq_none_iff.1 (h1 k (List.mem_range.2 (List.getElem?_eq_some_iff.1 hx).1))
  have h3 := h2 j (List.mem_range.2 (List.getElem?_eq_some_iff.1 hy).1)
  unfold cand2 at h3
  rw [if_pos hkj, cand_at hx hy] at h3
  cases hc : canJoin x y with
  | false => rfl
  | true =>
    rw [hc, if_pos rfl] at h3
    simp [Option.filter, sameW, outsOf] at h3
theorem xor_comm (a b : Int) : bXor .i64 a b = bXor .i64 b a := by
  unfold bXor
  rw [BitVec.xor_comm]
theorem no_pair {x y : Entry} (hx : entR x) (hy : entR y) (h : canJoin y x = false) : ¬ (((x.Mask = y.Mask ∧ x.Outs = y.Outs) ∧ bXor .i64 x.Key y.Key ≠ 0) ∧ bAnd .i64 (bXor .i64 x.Key y.Key) (bXor .i64 x.Key y.Key - 1) = 0) := by
  rintro ⟨⟨⟨h1, h2⟩, h3⟩, h4⟩
  obtain ⟨d, hd, hl⟩ := diff_nat (ge_of hy) (ge_of hx)
  have e : bXor .i64 x.Key y.Key = (d : Int) := by rw [xor_comm]; exact hd
  rw [e] at h3 h4
  have h5 : d ≠ 0 := by omega
  have h6 := and_i64 (a := d) (b := d - 1) (by omega) (by omega)
  rw [show ((d - 1 : Nat) : Int) = (d : Int) - 1 from by omega, h4] at h6
  have h7 : d &&& (d - 1) = 0 := by exact_mod_cast h6.symm
  have h8 := allN_at oneB_all d hl
  simp only [oneB, Bool.or_eq_true, Bool.not_eq_true', List.contains_iff_mem] at h8
  have h9 : d ∈ pows := by
    rcases h8 with (h8 | h8) | h8
    · rw [h7] at h8; exact absurd h8 (by decide)
    · exact absurd (Nat.eq_of_beq_eq_true h8) h5
    · exact h8
  have h10 : canJoin y x = true := by
    refine decide_eq_true ⟨h1.symm, h2.symm, ?_⟩
    rw [hd, ones_nat hl, (onN_iff hl).2 h9]
    rfl
  rw [h] at h10
  cases h10
end Go.Proofs.Ytlnogaoihkinbaa
