/- Texts that the proof needs (part 1). -/
import Derived.WalkKit
import Derived.CallsIn
import Derived.OrdersHeld
import Derived.OrdersIn
import Derived.OwnWalkIn
import Derived.KernelRfl
import Derived.RangeFuncLeaves
import Derived.RangeFuncIn
import Derived.Maps.AppendAt
import Derived.Deep.OwnRows
import Derived.Laws.MakeOwn
import Derived.Laws.Cover3
import Derived.Test.YtlnogaoihkinbaaProg
namespace Go.Gk
open Go.RowKit

/-- The fence that asks nothing, in round r. -/
def fence (r : Option Nat) : Fence := { Fence.wide with round := r }
theorem fence_depth (r : Option Nat) (n : Nat) : (fence r).depth.isSome = true → 1 ≤ n := fun h => by simp [fence, Fence.wide] at h
theorem callsIn_fence {r : Option Nat} {n : Nat} {P : Program} {f : FuncId} {args : Array Value} {w : World} {R : Ending → World → Prop} (h : Calls P f args w R) : CallsIn (fence r) n P f args w R :=
  callsIn_wide.2 h

abbrev Env := Nat → Value
def upd (σ : Env) (d : Nat) (v : Value) : Env := fun t => if t = d then v else σ t
def updo (σ : Env) : Option Nat → Value → Env
  | some d, v => upd σ d v
  | none, _ => σ
/-- Place 1000000 is no slot: it tells the blocks of the deferred calls of loops over functions. -/
def ev (σ : Env) : Operand → Value
  | .tmp t => if t = 1000000 then undef else σ t
  | .const v => v
  | .global g => .pointer (some ⟨g, 0, none⟩)
  | .func f => .func (.func f) #[] #[]

def decD : Value → List Nat
  | .tuple vs => vs.toList.filterMap fun
    | .int _ n => some n.toNat
    | _ => none
  | _ => []
def encD (ds : List Nat) : Value := .tuple (ds.map fun (D : Nat) => Value.int .i64 (D : Int)).toArray
theorem decD_encD (ds : List Nat) : decD (encD ds) = ds := by
  simp only [encD, decD]
  induction ds with
  | nil => rfl
  | cons D ds ih => simpa using ih
def mark (D : Nat) : Deferred := { target := .collected D, args := #[] }
structure At (n : Nat) (σ : Env) (a : Act) : Prop where
  size : a.tmps.size = n
  lt : n ≤ 1000000
  get : ∀ t, a.tmps.getD t undef = ev σ (.tmp t)
  defers : a.defers = (decD (σ 1000000)).map mark

theorem At.eval {n : Nat} {σ : Env} {a : Act} (h : At n σ a) : a.eval = ev σ := by
  funext x
  cases x with
  | tmp t => exact h.get t
  | const v => rfl
  | global g => rfl
  | func f => rfl

/-- Destinations lie in the frame. -/
def inFrame (n : Nat) : Option Nat → Prop
  | some d => d < n
  | none => True
theorem At.put {n : Nat} {σ : Env} {a : Act} (h : At n σ a) {d : Option Nat} (hd : inFrame n d) (v : Value) : At n (updo σ d v) (a.put d v) := by
  cases d with
  | none => exact h
  | some d =>
    have hl := h.lt
    have hd0 : d < n := hd
    have hne : (1000000 : Nat) ≠ d := by omega
    refine ⟨by simp [Act.put, h.size], hl, fun t => ?_, by simp only [updo, upd]; rw [if_neg hne]; exact h.defers⟩
    simp only [Act.put, updo, upd, ev]
    by_cases e : t = d
    · subst e
      have hd' : t < a.tmps.size := by rw [h.size]; exact hd
      simp [hd', Ne.symm hne]
    · rw [if_neg e]
      have hg := h.get t
      simp only [ev] at hg
      rw [← hg]
      have e' : d ≠ t := fun x => e x.symm
      simp [Array.getD_eq_getD_getElem?, Array.getElem?_setIfInBounds_ne e']

def yld (ops : Array Oper) (σ : Env) (j : Nat) : Option Bool :=
  match (ops[j]?).bind (·.dst) with
  | some d => match ev σ (.tmp d) with
    | .bool b => some b
    | _ => none
  | none => none
theorem At.yielded {n : Nat} {σ : Env} {a : Act} (h : At n σ a) (ops : Array Oper) : yielded ops a.tmps = yld ops σ := by
  funext j
  unfold Go.yielded yld
  cases hd : (ops[j]?).bind (·.dst) with
  | none => rfl
  | some d =>
    simp only [Option.bind_some]
    have hg := h.get d
    rw [Array.getD_eq_getD_getElem?] at hg
    cases ht : a.tmps[d]? with
    | none =>
      rw [ht] at hg
      simp only [Option.getD_none] at hg
      rw [← hg]
      rfl
    | some v =>
      rw [ht] at hg
      simp only [Option.getD_some] at hg
      rw [hg]
      cases ev σ (.tmp d) <;> rfl

/-- What an operation that is carried out leaves. -/
def Upon (P : Program) (r : Option Nat) (σ : Env) (dst : Option Nat) (K : Env → World → Prop) : Result Next → Prop
  | .ok (.value v) w' => K (updo σ dst v) w'
  | .ok .skip w' => K (updo σ dst undef) w'
  | .ok (.enter f args) w' => Calls P f args w' fun e w'' => ∃ v, e = .returned v ∧ K (updo σ dst v) w''
  | .ok (.round l f tmps assign body) w' => RoundIn (fence r) 0 P l f tmps assign body w' fun e w'' => ∃ v, e = .returned v ∧ K (updo σ dst v) w''
  | _ => False
def notDefer (o : Oper) : Bool := match o.op with | .defer _ => false | _ => true
/-- One operation, its guard looked at. -/
def OpW (P : Program) (r : Option Nat) (n : Nat) (ops : Array Oper) (o : Oper) (K : Env → World → Prop) (σ : Env) (w : World) : Prop :=
  inFrame n o.dst ∧ (if Region.wanted o (yld ops σ) = true then notDefer o = true ∧ Upon P r σ o.dst K ((execOp (ev σ) o).run P w) else K (updo σ o.dst undef) w)

/-- The post of a walk over frames, out of one over environments. -/
def post (n : Nat) (Q : Exit → Env → World → Prop) : Exit → Act → World → Prop := fun e a w => ∃ σ, At n σ a ∧ Q e σ w
def wpOp1 (F : Fence) (P : Program) (ops : Array Oper) (o : Oper) (K : Act → World → Prop) (Q : Exit → Act → World → Prop) (a : Act) (w : World) : Prop :=
  if Region.wanted o (yielded ops a.tmps) then o.wpIn F 0 P a w K Q else (∀ f, o.about P w a.eval = some f → F.fn f) ∧ K (a.put o.dst undef) w
theorem OpW.sound {P : Program} {r : Option Nat} {n : Nat} {ops : Array Oper} {o : Oper} {K : Env → World → Prop} {σ : Env} {w : World} {Q : Exit → Act → World → Prop} (h : OpW P r n ops o K σ w) {a : Act} (ha : At n σ a) :
    wpOp1 (fence r) P ops o (fun a' w' => ∃ σ', At n σ' a' ∧ K σ' w') Q a w := by
  obtain ⟨hd, h⟩ := h
  unfold wpOp1
  rw [ha.yielded]
  split
  · rename_i hw
    rw [if_pos hw] at h
    obtain ⟨hnd, h⟩ := h
    refine ⟨fun _ _ => trivial, ?_⟩
    have hs : o.semAt (fence r).round a.eval = execOp (ev σ) o := by
      rw [ha.eval]
      refine Oper.semAt_eq _ _ _ (fun c hc => ?_)
      simp [notDefer, hc] at hnd
    rw [hs]
    generalize (execOp (ev σ) o).run P w = res at h
    cases res with
    | halt x w' => cases x <;> exact h.elim
    | ok x w' =>
      cases x <;> simp only [Upon] at h <;> first | exact h.elim | skip
      case value v => exact ⟨_, ha.put hd v, h⟩
      case skip => exact ⟨_, ha.put hd undef, h⟩
      case enter f args =>
        refine ⟨fence_depth r 0, (callsIn_fence h).mono fun e w'' ⟨v, he, hk⟩ => ?_⟩
        subst he
        exact ⟨_, ha.put hd v, hk⟩
      case round l f tmps assign body =>
        refine ⟨fence_depth r 0, h.mono fun e w'' ⟨v, he, hk⟩ => ?_⟩
        subst he
        exact ⟨_, ha.put hd v, hk⟩
  · rename_i hw
    rw [if_neg hw] at h
    exact ⟨fun _ _ => trivial, _, ha.put hd undef, h⟩
theorem Upon.mono {P : Program} {r : Option Nat} {σ : Env} {d : Option Nat} {K K' : Env → World → Prop} (hk : ∀ σ w, K σ w → K' σ w) {x : Result Next} (h : Upon P r σ d K x) : Upon P r σ d K' x := by
  cases x with
  | halt x w' => cases x <;> exact h.elim
  | ok x w' =>
    cases x <;> simp only [Upon] at h ⊢ <;> first | exact h.elim | skip
    case value v => exact hk _ _ h
    case skip => exact hk _ _ h
    case enter f args => exact h.mono fun e w'' ⟨v, he, hq⟩ => ⟨v, he, hk _ _ hq⟩
    case round => exact h.mono fun e w'' ⟨v, he, hq⟩ => ⟨v, he, hk _ _ hq⟩
theorem OpW.mono {P : Program} {r : Option Nat} {n : Nat} {ops : Array Oper} {o : Oper} {K K' : Env → World → Prop} {σ : Env} {w : World} (hk : ∀ σ w, K σ w → K' σ w) (h : OpW P r n ops o K σ w) : OpW P r n ops o K' σ w := by
  obtain ⟨hd, h⟩ := h
  refine ⟨hd, ?_⟩
  split
  · rename_i hw
    rw [if_pos hw] at h
    exact ⟨h.1, h.2.mono hk⟩
  · rename_i hw
    rw [if_neg hw] at h
    exact hk _ _ h

/-- A region's operations from number i on, in the order of the text. -/
def Rg (P : Program) (r : Option Nat) (n : Nat) (ops : Array Oper) (K : Env → World → Prop) : (fuel i : Nat) → Env → World → Prop
  | 0, _, σ, w => K σ w
  | m + 1, i, σ, w => ∃ o, ops[i]? = some o ∧ OpW P r n ops o (Rg P r n ops K m (i + 1)) σ w

theorem wpOp1_mono {F : Fence} {P : Program} {ops : Array Oper} {o : Oper} {K K' : Act → World → Prop} {Q : Exit → Act → World → Prop} {a : Act} {w : World} (hk : ∀ a w, K a w → K' a w) (h : wpOp1 F P ops o K Q a w) : wpOp1 F P ops o K' Q a w := by
  unfold wpOp1 at *
  split
  · rename_i hw
    rw [if_pos hw] at h
    refine ⟨h.1, ?_⟩
    have h2 := h.2
    unfold Oper.uponIn at *
    split at h2 <;> first | exact hk _ _ h2 | exact h2 | skip
    · exact ⟨h2.1, h2.2.mono fun e w'' he => by cases e <;> first | exact hk _ _ he | exact he⟩
    · exact ⟨h2.1, h2.2.mono fun v w'' he => hk _ _ he⟩
    · exact ⟨h2.1, h2.2.mono fun e w'' he => by cases e <;> first | exact hk _ _ he | exact he⟩
  · rename_i hw
    rw [if_neg hw] at h
    exact ⟨h.1, hk _ _ h.2⟩
theorem wpOpsIn_cons {F : Fence} {P : Program} {ops : Array Oper} {Q : Exit → Act → World → Prop} {i : Nat} {rest : List Nat} {o : Oper} (ho : ops[i]? = some o) {a : Act} {w : World} (h : wpOp1 F P ops o (wpOpsIn F 0 P ops Q rest) Q a w) : wpOpsIn F 0 P ops Q (i :: rest) a w := by
  simp only [wpOpsIn, ho]
  exact h

theorem Rg.sound {P : Program} {r : Option Nat} {n : Nat} {ops : Array Oper} {Q : Exit → Env → World → Prop} : ∀ (m i : Nat) (σ : Env) (w : World), Rg P r n ops (Q .normal) m i σ w → ∀ a, At n σ a → wpOpsIn (fence r) 0 P ops (post n Q) (List.range' i m) a w := by
  intro m
  induction m with
  | zero => intro i σ w h a ha; exact ⟨σ, ha, h⟩
  | succ m ih =>
    intro i σ w h a ha
    obtain ⟨o, ho, h⟩ := h
    rw [List.range'_succ]
    exact wpOpsIn_cons ho (wpOp1_mono (fun a' w' ⟨σ', ha', hk⟩ => ih _ _ _ hk _ ha') (h.sound ha))

/-- Code, over environments. -/
def W (P : Program) (r : Option Nat) (n : Nat) (c : Code) (Q : Exit → Env → World → Prop) (σ : Env) (w : World) : Prop :=
  ∀ a, At n σ a → c.wpIn (fence r) 0 P (post n Q) a w

section
variable {P : Program} {r : Option Nat} {n : Nat} {Q Q' : Exit → Env → World → Prop} {σ : Env} {w : World}
theorem W.mono {c : Code} (h : W P r n c Q σ w) (hq : ∀ e σ w, Q e σ w → Q' e σ w) : W P r n c Q' σ w :=
  fun a ha => wpIn_mono (h a ha) fun e _ _ ⟨σ', ha', hk⟩ => ⟨σ', ha', hq e _ _ hk⟩

theorem W_region {id : Nat} {ops : Array Oper} {m : Nat} (hm : ops.size = m) (h : Rg P r n ops (Q .normal) m 0 σ w) : W P r n (.region id ops false) Q σ w :=
  fun a ha => wpIn_region (by rw [hm, List.range_eq_range']; exact Rg.sound m 0 σ w h a ha)
def thenK (K : Env → World → Prop) (Q : Exit → Env → World → Prop) : Exit → Env → World → Prop
  | .normal => K
  | e => Q e
theorem W_seq {x y : Code} (h : W P r n x (thenK (W P r n y Q) Q) σ w) : W P r n (.seq x y) Q σ w := fun a ha => by
  refine wpIn_seq (wpIn_mono (h a ha) fun e a' w' ⟨σ', ha', hk⟩ => ?_)
  cases e <;> first | exact hk a' ha' | exact ⟨σ', ha', hk⟩
/-- A cut behind the first part: what holds there. -/
theorem W_seq_cut {x y : Code} (I : Env → World → Prop) (h : W P r n x (thenK I Q) σ w) (k : ∀ σ w, I σ w → W P r n y Q σ w) : W P r n (.seq x y) Q σ w :=
  W_seq (h.mono fun e σ w hq => by cases e <;> first | exact k _ _ hq | exact hq)
theorem W_skip (h : Q .normal σ w) : W P r n .skip Q σ w := fun _ ha => wpIn_skip ⟨σ, ha, h⟩
theorem W_ret (h : Q .ret σ w) : W P r n .ret Q σ w := fun _ ha => wpIn_ret ⟨σ, ha, h⟩
theorem W_exit {id : Nat} (h : Q (.exit id) σ w) : W P r n (.exit id) Q σ w := fun _ ha => wpIn_exit ⟨σ, ha, h⟩
def blkK (id : Nat) (Q : Exit → Env → World → Prop) : Exit → Env → World → Prop
  | .exit j => if j = id then Q .normal else Q (.exit j)
  | e => Q e
theorem W_block {id : Nat} {c : Code} (h : W P r n c (blkK id Q) σ w) : W P r n (.block id c) Q σ w := fun a ha => by
  refine wpIn_block (wpIn_mono (h a ha) fun e a' w' ⟨σ', ha', hk⟩ => ?_)
  cases e <;> first | exact ⟨σ', ha', hk⟩ | skip
  rename_i j
  simp only [Exit.inBlock, blkK] at *
  split
  · rename_i hj
    rw [if_pos hj] at hk
    exact ⟨σ', ha', hk⟩
  · rename_i hj
    rw [if_neg hj] at hk
    exact ⟨σ', ha', hk⟩
theorem W_cond {c : Operand} {x y : Code} {b : Bool} (hc : ev σ c = .bool b) (ht : b = true → W P r n x Q σ w) (hf : b = false → W P r n y Q σ w) : W P r n (.cond c x y) Q σ w := fun a ha => by
  have hc' : a.eval c = .bool b := by rw [ha.eval]; exact hc
  cases b with
  | true => exact wpIn_cond_true hc' (ht rfl a ha)
  | false => exact wpIn_cond_false hc' (hf rfl a ha)
/-- A loop: what holds at each round's head, with a ghost. -/
theorem W_loop {c : Code} {γ : Type} (I : γ → Env → World → Prop) (μ : γ → Nat) (g : γ) (h₀ : I g σ w)
    (round : ∀ g σ w, I g σ w → W P r n c (thenK (fun σ' w' => ∃ g', I g' σ' w' ∧ μ g' < μ g) Q) σ w) : W P r n (.loop c) Q σ w := by
  have key : ∀ (m : Nat) (g : γ) (σ : Env) (w : World), μ g = m → I g σ w → ∀ a, At n σ a → ∀ (b : Frame) (k : List Item) (cs : List Frame), b.roundOf = (fence r).round → (fence r).fn b.fn → (fence r).room (cs.length + 1 + 0) →
      ∃ e a' w', post n Q e a' w' ∧ ArrivesIn (Machine.fenced P (fence r)) P (lone (b.atR a (.code c :: .inLoop c :: k)) cs w) b k cs e a' w' := by
    intro m
    induction m using Nat.strongRecOn with
    | _ m ih =>
      intro g σ w hm hI a ha b k cs hro hb hr
      obtain ⟨e, a₁, w₁, ⟨σ₁, ha₁, hq⟩, harr⟩ := round g σ w hI a ha b (.inLoop c :: k) cs hro hb hr
      cases e with
      | normal =>
        obtain ⟨g', hI', hlt⟩ := hq
        obtain ⟨e₂, a₂, w₂, hq₂, harr₂⟩ := ih (μ g') (hm ▸ hlt) g' σ₁ w₁ rfl hI' a₁ ha₁ b k cs hro hb hr
        exact ⟨e₂, a₂, w₂, hq₂, .of_steps (StepsIn.trans harr (.one (fenced_calm hb hr rfl) stepR_inLoop)) harr₂⟩
      | exit id => exact ⟨_, a₁, w₁, ⟨σ₁, ha₁, hq⟩, .pass (x := .inLoop c) rfl (fun _ _ => .inl (by simp)) harr⟩
      | goto l => exact ⟨_, a₁, w₁, ⟨σ₁, ha₁, hq⟩, .pass (x := .inLoop c) rfl (fun _ _ => .inl (by simp)) harr⟩
      | ret => exact ⟨_, a₁, w₁, ⟨σ₁, ha₁, hq⟩, .pass (x := .inLoop c) rfl (fun _ _ => .inl (by simp)) harr⟩
      | panic ch => exact ⟨_, a₁, w₁, ⟨σ₁, ha₁, hq⟩, .pass (x := .inLoop c) rfl (fun _ _ => .inl (by simp)) harr⟩
      | outgrown => exact ⟨_, a₁, w₁, ⟨σ₁, ha₁, hq⟩, .pass (x := .inLoop c) rfl (fun _ _ => .inl (by simp)) harr⟩
  intro a ha b k cs hro hb hr
  obtain ⟨e, a', w', hq, harr⟩ := key _ g σ w rfl h₀ a ha b k cs hro hb hr
  exact ⟨e, a', w', hq, .of_steps (.one (fenced_calm hb hr rfl) stepR_loop) harr⟩
end
end Go.Gk
namespace Go.Gk
open Go.RowKit

def argEnv (l : List Value) : Env := fun t => l.getD t undef
theorem at_args (l : List Value) (n : Nat) (h : l.length ≤ n) (hn : n ≤ 1000000) : At n (argEnv l) { tmps := l.toArray ++ Array.replicate (n - l.toArray.size) undef, defers := [] } := by
  have h6 : argEnv l 1000000 = undef := by
    simp only [argEnv]
    rw [List.getD_eq_getElem?_getD, List.getElem?_eq_none (by omega)]
    rfl
  refine ⟨by simp; omega, hn, fun t => ?_, by rw [h6]; rfl⟩
  have h7 : ev (argEnv l) (.tmp t) = argEnv l t := by
    simp only [ev]
    split
    · rename_i e; rw [e, h6]
    · rfl
  rw [h7]
  simp only [argEnv, Array.getD_eq_getD_getElem?, List.getD_eq_getElem?_getD, Array.getElem?_append, List.size_toArray, Array.getElem?_replicate, List.getElem?_toArray]
  by_cases h1 : t < l.length
  · simp [h1]
  · simp only [h1, if_false]
    rw [List.getElem?_eq_none (by omega)]
    by_cases h2 : t - l.length < n - l.length
    · simp [h2]
    · simp [h2]
/-- What a function hands back. -/
def Res (P : Program) (fn : Func) (σ : Env) (w : World) (v : Value) : Prop := ∀ tmps : Array Value, (∀ t, tmps.getD t undef = ev σ (.tmp t)) → (results fn tmps).run P w = .ok v w
/-- The blocks ds have been taken. -/
def Taken : List Nat → World → World → Prop
  | [], w, w' => w' = w
  | D :: ds, w, w' => w.heap[D]? = some (.deferred (some [])) ∧ Taken ds { w with heap := w.heap.setIfInBounds D (.deferred none) } w'
def endQ (P : Program) (fn : Func) (R : Value → World → Prop) : Exit → Env → World → Prop
  | .normal, σ, w => ∃ v w', Taken (decD (σ 1000000)) w w' ∧ Res P fn σ w' v ∧ R v w'
  | .ret, σ, w => ∃ v w', Taken (decD (σ 1000000)) w w' ∧ Res P fn σ w' v ∧ R v w'
  | _, _, _ => False
theorem end0 {P : Program} {fn : Func} {R : Value → World → Prop} {σ : Env} {w : World} {v : Value} (hd : σ 1000000 = undef) (hr : Res P fn σ w v) (hR : R v w) : ∃ v w', Taken (decD (σ 1000000)) w w' ∧ Res P fn σ w' v ∧ R v w' :=
  ⟨v, w, by rw [hd]; exact rfl, hr, hR⟩
theorem leaves_taken {F : Fence} {n : Nat} {P : Program} {fn : Func} {R : Ending → World → Prop} {tmps : Array Value} {v : Value} : ∀ (ds : List Nat) (w w' : World), Taken ds w w' → (results fn tmps).run P w' = .ok v w' → R (.returned v) w' → LeavesInM F n P fn tmps R (ds.map mark) .returning w
  | [], w, w', h, hr, hR => by
    obtain rfl : w' = w := h
    exact ⟨v, hr, hR⟩
  | D :: ds, w, w', ⟨hD, h⟩, hr, hR => by
    have hb : D < w.heap.size := (Array.getElem?_eq_some_iff.1 hD).1
    refine ⟨by simp, .inl ⟨D, _, rfl, ?_, leaves_taken ds _ w' h hr hR⟩⟩
    simp [Instr.takeDeferred, getObj, setObj, Sem.run, hD]
theorem calls_of_W {P : Program} {f : FuncId} {fn : Func} {c : Code} {l : List Value} {args : Array Value} {w : World} {R : Value → World → Prop} (hf : P.funcs[f]? = some fn) (hb : fn.body = some c) (hl : l.length ≤ fn.ntmps) (hn : fn.ntmps ≤ 1000000) (ha : args = l.toArray)
    (h : W P none fn.ntmps c (endQ P fn R) (argEnv l) w) : Calls P f args w fun e w' => ∃ v, e = .returned v ∧ R v w' := by
  subst ha
  refine callsIn_wide.1 (callsIn_of_wp_marks (n := 0) (F := Fence.wide) hf hb trivial ?_)
  refine wpIn_mono (h _ (at_args l fn.ntmps hl hn)) fun e a w' ⟨σ, ha, hq⟩ => ?_
  cases e <;> simp only [endQ] at hq <;> first | exact hq.elim | skip
  all_goals
    obtain ⟨v, w'', ht, hr, hR⟩ := hq
    simp only [bodyPostM]
    rw [ha.defers]
    exact leaves_taken _ _ _ ht (hr _ ha.get) ⟨v, rfl, hR⟩
theorem res_tmp {P : Program} {fn : Func} {t : Tmp} {σ : Env} {w : World} {v : Value} (h : fn.results = #[.tmp t]) (hv : ev σ (.tmp t) = v) : Res P fn σ w v := fun tmps ht => by rw [results_tmp h, ht, hv]
theorem res_none {P : Program} {fn : Func} {σ : Env} {w : World} (h : fn.results = #[]) : Res P fn σ w (.tuple #[]) := fun tmps _ => results_none h tmps P w
theorem res_tmp2 {P : Program} {fn : Func} {t u : Tmp} {σ : Env} {w : World} {v x : Value} (h : fn.results = #[.tmp t, .tmp u]) (hv : ev σ (.tmp t) = v) (hx : ev σ (.tmp u) = x) : Res P fn σ w (.tuple #[v, x]) := fun tmps ht => by rw [results_tmp2 h, ht, ht, hv, hx]

def upm (B : Array Nat) (o : Oper) : Nat := o.after.toList.foldl (fun s e => if Region.binds .any e then s ||| 2 ^ e.on ||| B.getD e.on 0 else s) 0
/-- B tells of each operation what it waits for, edge by edge. -/
def okB (ops : Array Oper) (B : Array Nat) : Bool := (List.range ops.size).all fun j => match ops[j]? with
  | some o => B.getD j 0 == upm B o && o.after.toList.all fun e => !Region.binds .any e || decide (e.on < j)
  | none => true
/-- Number i waits for every other operation of the region, or is waited for, but for those of ps, which look at no memory. -/
def exempt (ops : Array Oper) (ps : List Nat) (i : Nat) : Bool := (List.range ops.size).all fun j => j == i || ((Region.before ops).getD i 0).testBit j || ((Region.before ops).getD j 0).testBit i || ps.contains j
theorem upm_bit {B : Array Nat} {i : Nat} : ∀ (l : List Edge) (s : Nat), (l.foldl (fun s e => if Region.binds .any e then s ||| 2 ^ e.on ||| B.getD e.on 0 else s) s).testBit i = true → s.testBit i = true ∨ ∃ e ∈ l, Region.binds .any e = true ∧ (e.on = i ∨ (B.getD e.on 0).testBit i = true)
  | [], s, h => .inl h
  | e :: l, s, h => by
    rcases upm_bit l _ h with h | ⟨e', he, hb⟩
    · simp only [] at h
      by_cases hbd : Region.binds .any e = true
      · rw [if_pos hbd, Nat.testBit_or, Nat.testBit_or, Bool.or_eq_true, Bool.or_eq_true] at h
        rcases h with (h | h) | h
        · exact .inl h
        · rw [Nat.testBit_two_pow] at h
          exact .inr ⟨e, List.mem_cons_self, hbd, .inl (of_decide_eq_true h)⟩
        · exact .inr ⟨e, List.mem_cons_self, hbd, .inr h⟩
      · rw [if_neg hbd] at h
        exact .inl h
    · exact .inr ⟨e', List.mem_cons_of_mem _ he, hb⟩
/-- What is listed waits for what is listed. -/
def closedL (ops : Array Oper) (listed : Array Bool) : Prop := ∀ (d : Nat) (o : Oper), ops[d]? = some o → listed.getD d false = true → ∀ e ∈ o.after, Region.binds .any e = true → listed.getD e.on false = true
theorem bits_listed {ops : Array Oper} {B : Array Nat} (hB : okB ops B = true) {listed : Array Bool} (hc : closedL ops listed) {i : Nat} : ∀ (m j : Nat) (o : Oper), j ≤ m → ops[j]? = some o → (∀ e ∈ o.after, Region.binds .any e = true → listed.getD e.on false = true) → (B.getD j 0).testBit i = true → listed.getD i false = true := by
  have row : ∀ (j : Nat) (o : Oper), ops[j]? = some o → B.getD j 0 = upm B o ∧ ∀ e ∈ o.after, Region.binds .any e = true → e.on < j := fun j o ho => by
    have h1 := List.all_eq_true.1 hB j (List.mem_range.2 (Array.getElem?_eq_some_iff.1 ho).1)
    rw [ho] at h1
    simp only [Bool.and_eq_true, beq_iff_eq, List.all_eq_true] at h1
    refine ⟨h1.1, fun e he hb => ?_⟩
    have := h1.2 e (by simpa using he)
    simpa [hb] using this
  have key : ∀ (j : Nat) (o : Oper), ops[j]? = some o → (∀ e ∈ o.after, Region.binds .any e = true → listed.getD e.on false = true) → (B.getD j 0).testBit i = true → listed.getD i false = true ∨ ∃ j', j' < j ∧ ∃ o', ops[j']? = some o' ∧ listed.getD j' false = true ∧ (B.getD j' 0).testBit i = true := by
    intro j o ho hl hb
    rw [(row j o ho).1] at hb
    rcases upm_bit _ _ hb with h | ⟨e, he, hbd, h⟩
    · simp at h
    · have he' : e ∈ o.after := by simpa using he
      have hle := hl e he' hbd
      rcases h with rfl | h
      · exact .inl hle
      · have hlt := (row j o ho).2 e he' hbd
        have hjs := (Array.getElem?_eq_some_iff.1 ho).1
        exact .inr ⟨e.on, hlt, ops[e.on]'(by omega), Array.getElem?_eq_getElem _, hle, h⟩
  intro m
  induction m with
  | zero =>
    intro j o hj ho hl hb
    rcases key j o ho hl hb with h | ⟨j', hlt, _⟩
    · exact h
    · omega
  | succ m ih =>
    intro j o hj ho hl hb
    rcases key j o ho hl hb with h | ⟨j', hlt, o', ho', hl', hb'⟩
    · exact h
    · exact ih j' o' (by omega) ho' (hc j' o' ho' hl') hb'
def AnyE (P : Program) (r : Option Nat) (n : Nat) (ops : Array Oper) (ps : List Nat) (G : World → World → Prop) (K : Env → World → Prop) : Nat → Array Bool → Env → World → Prop
  | 0, listed, σ, w => Region.ready .any ops listed = [] ∧ K σ w
  | m + 1, listed, σ, w => (Region.ready .any ops listed = [] → K σ w) ∧ ∀ i ∈ Region.ready .any ops listed, ∃ o, ops[i]? = some o ∧
      OpW P r n ops o (fun σ' w' => (exempt ops ps i = true ∨ G w w') ∧ AnyE P r n ops ps G K m (listed.setIfInBounds i true) σ' w') σ w

theorem AnyE.sound {P : Program} {r : Option Nat} {n : Nat} {ops : Array Oper} {ps : List Nat} {G : World → World → Prop} {Q : Exit → Env → World → Prop} :
    ∀ (m : Nat) (listed : Array Bool) (σ : Env) (w : World), AnyE P r n ops ps G (Q .normal) m listed σ w → ∀ a, At n σ a → wpAnyIn (fence r) 0 P .any ops (post n Q) m listed a w := by
  intro m
  induction m with
  | zero => intro listed σ w h a ha; exact ⟨h.1, σ, ha, h.2⟩
  | succ m ih =>
    intro listed σ w h a ha
    refine ⟨fun h0 => ⟨σ, ha, h.1 h0⟩, fun i hi => ?_⟩
    obtain ⟨o, ho, hw⟩ := h.2 i hi
    have h1 := wpOp1_mono (fun a' w' (hk : ∃ σ', At n σ' a' ∧ ((exempt ops ps i = true ∨ G w w') ∧ AnyE P r n ops ps G (Q .normal) m (listed.setIfInBounds i true) σ' w')) => (by
      obtain ⟨σ', ha', _, hk⟩ := hk
      exact ih _ _ _ hk _ ha')) (hw.sound (Q := post n Q) ha)
    unfold wpOpIn
    simp only [ho]
    exact h1

/-- In every world that G leads to, the operation yields v and does nothing else. -/
def Qt (P : Program) (n : Nat) (ops : Array Oper) (G : World → World → Prop) (o : Oper) (v : Value) (σ : Env) (w : World) : Prop :=
  inFrame n o.dst ∧ notDefer o = true ∧ ((Region.wanted o (yld ops σ) = true ∧ ∀ w', G w w' → (execOp (ev σ) o).run P w' = .ok (.value v) w') ∨ (Region.wanted o (yld ops σ) = false ∧ v = undef))

theorem updo_comm (σ : Env) {x y : Option Nat} (v u : Value) (h : ∀ d, x = some d → y ≠ some d) : updo (updo σ x v) y u = updo (updo σ y u) x v := by
  cases x with
  | none => rfl
  | some d =>
    cases y with
    | none => rfl
    | some e =>
      have hne : d ≠ e := fun he => h d rfl (he ▸ rfl)
      funext t
      simp only [updo, upd]
      by_cases h1 : t = e
      · subst h1; simp [Ne.symm hne]
      · by_cases h2 : t = d <;> simp [h1]
theorem ev_updo {σ : Env} {d : Option Nat} {v : Value} {x : Operand} (h : ∀ e, d = some e → x ≠ .tmp e) : ev (updo σ d v) x = ev σ x := by
  cases d with
  | none => rfl
  | some d =>
    cases x with
    | tmp t =>
      have hne : t ≠ d := fun e => h d rfl (e ▸ rfl)
      simp [ev, updo, upd, hne]
    | _ => rfl
theorem exec_updo {ops : Array Oper} (o : Oper) (hs : ∀ cs b, o.op ≠ .select cs b) (σ : Env) (d : Option Nat) (v : Value) (h : ∀ e, d = some e → e ∉ o.looksAt ops) : execOp (ev (updo σ d v)) o = execOp (ev σ) o :=
  execOp_congr o hs fun x hx => ev_updo fun e he hxe => h e he (by
    subst hxe
    exact List.mem_append_left _ (List.mem_filterMap.2 ⟨.tmp e, by simpa using hx, rfl⟩))
theorem wanted_updo {ops : Array Oper} (o : Oper) (σ : Env) (d : Option Nat) (v : Value) (h : ∀ e, d = some e → e ∉ o.looksAt ops) : Region.wanted o (yld ops (updo σ d v)) = Region.wanted o (yld ops σ) := by
  cases d with
  | none => rfl
  | some d =>
    unfold Region.wanted
    cases hg : o.guard with
    | none => rfl
    | some gw =>
      obtain ⟨g, want⟩ := gw
      have hy : yld ops (updo σ (some d) v) g = yld ops σ g := by
        unfold yld
        cases ht : (ops[g]?).bind (·.dst) with
        | none => rfl
        | some t =>
          have hne : t ≠ d := fun e => h d rfl (by subst e; simp [Oper.looksAt, hg, ht])
          simp [ev, updo, upd, hne]
      simp only [hy]
theorem OpW_comm {P : Program} {r : Option Nat} {n : Nat} {ops : Array Oper} {oi oj : Oper} {v : Value} (hap : oi.apart ops oj = true) (hsj : ∀ cs b, oj.op ≠ .select cs b)
    {K : Env → World → Prop} {σ : Env} {w : World} (h : OpW P r n ops oj K (updo σ oi.dst v) w) : OpW P r n ops oj (fun σ' w' => (∃ u, σ' = updo σ oj.dst u) ∧ K (updo σ' oi.dst v) w') σ w := by
  obtain ⟨h1, h2, h3⟩ := Oper.apart_spec hap
  obtain ⟨hd, h⟩ := h
  rw [wanted_updo oj σ oi.dst v h1, exec_updo oj hsj σ oi.dst v h1] at h
  refine ⟨hd, ?_⟩
  split
  · rename_i hw
    rw [if_pos hw] at h
    refine ⟨h.1, ?_⟩
    have h := h.2
    generalize (execOp (ev σ) oj).run P w = res at h ⊢
    have hc : ∀ u, updo (updo σ oi.dst v) oj.dst u = updo (updo σ oj.dst u) oi.dst v := fun u => updo_comm σ v u h2
    cases res with
    | halt x w' => cases x <;> exact h.elim
    | ok x w' =>
      cases x <;> simp only [Upon] at h ⊢ <;> first | exact h.elim | skip
      case value u => rw [hc] at h; exact ⟨⟨u, rfl⟩, h⟩
      case skip => rw [hc] at h; exact ⟨⟨_, rfl⟩, h⟩
      case enter f args => exact h.mono fun e w'' ⟨u, he, hk⟩ => ⟨u, he, ⟨u, rfl⟩, by rw [← hc]; exact hk⟩
      case round => exact h.mono fun e w'' ⟨u, he, hk⟩ => ⟨u, he, ⟨u, rfl⟩, by rw [← hc]; exact hk⟩
  · rename_i hw
    rw [if_neg hw] at h
    exact ⟨⟨_, rfl⟩, by rw [← updo_comm σ v undef h2]; exact h⟩

theorem closed_set {ops : Array Oper} {listed : Array Bool} {j : Nat} (h : closedL ops listed) (hj : j ∈ Region.ready .any ops listed) : closedL ops (listed.setIfInBounds j true) := by
  obtain ⟨_, oj, hoj, hall⟩ := mem_ready.1 hj
  have up : ∀ k, listed.getD k false = true → (listed.setIfInBounds j true).getD k false = true := fun k hk => by
    by_cases e : j = k
    · subst e
      rcases Nat.lt_or_ge j listed.size with h' | h'
      · simp [h']
      · simp [Array.getElem?_eq_none h'] at hk
    · rw [getD_set_ne false e]; exact hk
  intro d o ho hd e he hb
  by_cases e' : j = d
  · subst e'
    rw [hoj] at ho
    injection ho with ho
    subst ho
    exact up _ (hall e he hb)
  · rw [getD_set_ne false e'] at hd
    exact up _ (h d o ho hd e he hb)
section
variable {P : Program} {r : Option Nat} {n : Nat} {ops : Array Oper} {ps : List Nat} {G : World → World → Prop} {K : Env → World → Prop}
theorem Qt.opW {oi : Oper} {v : Value} {σ : Env} {w : World} (hq : Qt P n ops G oi v σ w) (hG : G w w) {K : Env → World → Prop} (h : K (updo σ oi.dst v) w) : OpW P r n ops oi K σ w := by
  obtain ⟨hd, hn, hy⟩ := hq
  refine ⟨hd, ?_⟩
  rcases hy with ⟨hw, hy⟩ | ⟨hw, rfl⟩
  · rw [if_pos hw, hy w hG]; exact ⟨hn, h⟩
  · rw [if_neg (by rw [hw]; decide)]; exact h
theorem Qt.weak {G' : World → World → Prop} {oi : Oper} {v : Value} {σ : Env} {w : World} (hq : Qt P n ops G oi v σ w) (h : ∀ a b, G' a b → G a b) : Qt P n ops G' oi v σ w :=
  ⟨hq.1, hq.2.1, hq.2.2.imp (fun ⟨h1, h2⟩ => ⟨h1, fun w' hg => h2 w' (h _ _ hg)⟩) id⟩
theorem AnyE_first (hB : okB ops (Region.before ops) = true) (hrefl : ∀ w, G w w) (htrans : ∀ a b c, G a b → G b c → G a c) {i : Nat} {oi : Oper} {v : Value} (hi : ops[i]? = some oi) (hsel : ∀ (j : Nat) (o : Oper) cs b, ops[j]? = some o → o.op ≠ .select cs b) :
    ∀ (m : Nat) (listed : Array Bool) (σ : Env) (w : World),
      (∀ j oj, ops[j]? = some oj → j ≠ i → listed.getD j true = false → (∀ e ∈ oj.after, Region.binds .any e = true → e.on ≠ i) → oi.apart ops oj = true) →
      closedL ops listed → i ∈ Region.ready .any ops listed → Qt P n ops (fun a b => i ∉ ps → G a b) oi v σ w → AnyE P r n ops ps G K m (listed.setIfInBounds i true) (updo σ oi.dst v) w → AnyE P r n ops ps G K (m + 1) listed σ w := by
  intro m
  induction m with
  | zero =>
    intro listed σ w _ hcl hr hq H
    refine ⟨fun h => (by rw [h] at hr; cases hr), fun j hj => ?_⟩
    by_cases hji : j = i
    · subst hji; exact ⟨oi, hi, hq.opW (fun _ => hrefl w) ⟨.inr (hrefl w), H⟩⟩
    · have := ready_mono hj hji
      rw [H.1] at this
      cases this
  | succ m ih =>
    intro listed σ w hfree hcl hr hq H
    refine ⟨fun h => (by rw [h] at hr; cases hr), fun j hj => ?_⟩
    by_cases hji : j = i
    · subst hji; exact ⟨oi, hi, hq.opW (fun _ => hrefl w) ⟨.inr (hrefl w), H⟩⟩
    · obtain ⟨oj, hoj, h1⟩ := H.2 j (ready_mono hj hji)
      obtain ⟨hjun, oj', hoj', hall⟩ := mem_ready.1 hj
      rw [hoj] at hoj'
      injection hoj' with hoj'
      subst hoj'
      have hnot : ∀ e ∈ oj.after, Region.binds .any e = true → e.on ≠ i := fun e he hb heq => by
        have h1 := hall e he hb
        have h0 := (mem_ready.1 hr).1
        rw [heq] at h1
        rcases Nat.lt_or_ge i listed.size with h' | h'
        · simp [h'] at h0 h1; rw [h0] at h1; cases h1
        · simp [Array.getElem?_eq_none h'] at h1
      have hil : i < ops.size := (Array.getElem?_eq_some_iff.1 hi).1
      have hjs : j < ops.size := (Array.getElem?_eq_some_iff.1 hoj).1
      have nl : ∀ k, k ∈ Region.ready .any ops listed → listed.getD k false = true → False := fun k hk hl => by
        have h0 := (mem_ready.1 hk).1
        rcases Nat.lt_or_ge k listed.size with h' | h'
        · simp [h'] at h0 hl; rw [h0] at hl; cases hl
        · simp [Array.getElem?_eq_none h'] at hl
      obtain ⟨_, oi', hoi', halli⟩ := mem_ready.1 hr
      have hex : exempt ops ps j = true → i ∈ ps := fun hx => by
        simp only [exempt, List.all_eq_true, List.mem_range] at hx
        have h2 := hx i hil
        rw [Bool.or_eq_true, Bool.or_eq_true, Bool.or_eq_true] at h2
        rcases h2 with ((h2 | h2) | h2) | h2
        · have : i = j := by simpa using h2
          exact absurd this.symm hji
        · exact (nl i hr (bits_listed hB hcl j j oj (Nat.le_refl _) hoj hall h2)).elim
        · exact (nl j hj (bits_listed hB hcl i i oi' (Nat.le_refl _) hoi' halli h2)).elim
        · simpa using h2
      have hap := hfree j oj hoj hji hjun hnot
      refine ⟨oj, hoj, (OpW_comm hap (fun cs b => hsel j oj cs b hoj) h1).mono fun σ' w' ⟨⟨u, hu⟩, hg, hk⟩ => ?_⟩
      refine ⟨hg, ih (listed.setIfInBounds j true) σ' w' (fun k ok hk2 hki hun hno => ?_) (closed_set hcl hj) (ready_mono hr (Ne.symm hji)) ?_ ?_⟩
      · refine hfree k ok hk2 hki ?_ hno
        by_cases hjk : j = k
        · subst hjk; exact hjun
        · rw [getD_set_ne true hjk] at hun; exact hun
      · obtain ⟨_, _, h3⟩ := Oper.apart_spec hap
        subst hu
        refine ⟨hq.1, hq.2.1, ?_⟩
        rw [wanted_updo oi σ oj.dst u h3, exec_updo oi (fun cs b => hsel i oi cs b hi) σ oj.dst u h3]
        rcases hq.2.2 with ⟨hw, hy⟩ | hy
        · refine .inl ⟨hw, fun w'' hg' => hy w'' fun hn => ?_⟩
          rcases hg with hg | hG
          · exact absurd (hex hg) hn
          · exact htrans _ _ _ hG (hg' hn)
        · exact .inr hy
      · rw [Array.setIfInBounds_comm _ _ hji]
        exact hk

/-- An order: q: taken as soon as it may come; p: the same, of what looks at no memory; l: it alone may come; l2, l3: one of two, three. -/
inductive Ord where
  | done
  | q (i : Nat) (t : Ord)
  | p (i : Nat) (t : Ord)
  | l (i : Nat) (t : Ord)
  | l2 (i j : Nat) (s t : Ord)
  | l3 (i j k : Nat) (s t u : Ord)
def CanE (P : Program) (r : Option Nat) (n : Nat) (ops : Array Oper) (ps : List Nat) (G : World → World → Prop) (K : Env → World → Prop) : Ord → Env → World → Prop
  | .done, σ, w => K σ w
  | .q i t, σ, w => ps.contains i = false ∧ ∃ o v, ops[i]? = some o ∧ Qt P n ops G o v σ w ∧ CanE P r n ops ps G K t (updo σ o.dst v) w
  | .p i t, σ, w => ps.contains i = true ∧ ∃ o v, ops[i]? = some o ∧ Qt P n ops (fun _ _ => True) o v σ w ∧ CanE P r n ops ps G K t (updo σ o.dst v) w
  | .l i t, σ, w => ∃ o, ops[i]? = some o ∧ OpW P r n ops o (fun σ' w' => (exempt ops ps i = true ∨ G w w') ∧ CanE P r n ops ps G K t σ' w') σ w
  | .l2 i j s t, σ, w => (∃ o, ops[i]? = some o ∧ OpW P r n ops o (fun σ' w' => (exempt ops ps i = true ∨ G w w') ∧ CanE P r n ops ps G K s σ' w') σ w) ∧
      (∃ o, ops[j]? = some o ∧ OpW P r n ops o (fun σ' w' => (exempt ops ps j = true ∨ G w w') ∧ CanE P r n ops ps G K t σ' w') σ w)
  | .l3 i j k s t u, σ, w => (∃ o, ops[i]? = some o ∧ OpW P r n ops o (fun σ' w' => (exempt ops ps i = true ∨ G w w') ∧ CanE P r n ops ps G K s σ' w') σ w) ∧
      (∃ o, ops[j]? = some o ∧ OpW P r n ops o (fun σ' w' => (exempt ops ps j = true ∨ G w w') ∧ CanE P r n ops ps G K t σ' w') σ w) ∧
      (∃ o, ops[k]? = some o ∧ OpW P r n ops o (fun σ' w' => (exempt ops ps k = true ∨ G w w') ∧ CanE P r n ops ps G K u σ' w') σ w)
def canOk (ops : Array Oper) : Ord → Nat → Array Bool → Bool
  | .done, 0, listed => (Region.ready .any ops listed).isEmpty
  | .q i t, m + 1, listed => Region.free .any ops listed i && (Region.ready .any ops listed).contains i && canOk ops t m (listed.setIfInBounds i true)
  | .p i t, m + 1, listed => Region.free .any ops listed i && (Region.ready .any ops listed).contains i && canOk ops t m (listed.setIfInBounds i true)
  | .l i t, m + 1, listed => (Region.ready .any ops listed) == [i] && canOk ops t m (listed.setIfInBounds i true)
  | .l2 i j s t, m + 1, listed => (Region.ready .any ops listed) == [i, j] && canOk ops s m (listed.setIfInBounds i true) && canOk ops t m (listed.setIfInBounds j true)
  | .l3 i j k s t u, m + 1, listed => (Region.ready .any ops listed) == [i, j, k] && canOk ops s m (listed.setIfInBounds i true) && canOk ops t m (listed.setIfInBounds j true) && canOk ops u m (listed.setIfInBounds k true)
  | _, _, _ => false
theorem CanE.sound (hB : okB ops (Region.before ops) = true) (hrefl : ∀ w, G w w) (htrans : ∀ a b c, G a b → G b c → G a c) (hsel : Region.noSelect ops = true) :
    ∀ (t : Ord) (m : Nat) (listed : Array Bool) (σ : Env) (w : World), closedL ops listed → canOk ops t m listed = true → CanE P r n ops ps G K t σ w → AnyE P r n ops ps G K m listed σ w := by
  have loud : ∀ {m : Nat} {listed : Array Bool} {σ : Env} {w : World} {i : Nat} {t : Ord}, (∀ (m : Nat) (listed : Array Bool) (σ : Env) (w : World), closedL ops listed → canOk ops t m listed = true → CanE P r n ops ps G K t σ w → AnyE P r n ops ps G K m listed σ w) →
      closedL ops listed → i ∈ Region.ready .any ops listed → canOk ops t m (listed.setIfInBounds i true) = true → (∃ o, ops[i]? = some o ∧ OpW P r n ops o (fun σ' w' => (exempt ops ps i = true ∨ G w w') ∧ CanE P r n ops ps G K t σ' w') σ w) →
      ∃ o, ops[i]? = some o ∧ OpW P r n ops o (fun σ' w' => (exempt ops ps i = true ∨ G w w') ∧ AnyE P r n ops ps G K m (listed.setIfInBounds i true) σ' w') σ w := by
    intro m listed σ w i t ih hcl hri hc ⟨o, ho, h⟩
    exact ⟨o, ho, h.mono fun σ' w' hk => ⟨hk.1, ih _ _ _ _ (closed_set hcl hri) hc hk.2⟩⟩
  intro t
  induction t with
  | done =>
    intro m listed σ w hcl hc h
    cases m with
    | zero => exact ⟨by simpa [canOk] using hc, h⟩
    | succ m => simp [canOk] at hc
  | q i t ih =>
    intro m listed σ w hcl hc h
    cases m with
    | zero => simp [canOk] at hc
    | succ m =>
      simp only [canOk, Bool.and_eq_true] at hc
      obtain ⟨⟨hf, hr⟩, hc⟩ := hc
      obtain ⟨hps, o, v, ho, hq, hk⟩ := h
      exact AnyE_first hB hrefl htrans ho (Region.noSelect_spec hsel) m listed σ w (Region.free_spec ho hf) hcl (by simpa using hr) (hq.weak fun _ _ h => h (by simpa using hps)) (ih m _ _ _ (closed_set hcl (by simpa using hr)) hc hk)
  | p i t ih =>
    intro m listed σ w hcl hc h
    cases m with
    | zero => simp [canOk] at hc
    | succ m =>
      simp only [canOk, Bool.and_eq_true] at hc
      obtain ⟨⟨hf, hr⟩, hc⟩ := hc
      obtain ⟨hps, o, v, ho, hq, hk⟩ := h
      exact AnyE_first hB hrefl htrans ho (Region.noSelect_spec hsel) m listed σ w (Region.free_spec ho hf) hcl (by simpa using hr) (hq.weak fun _ _ _ => trivial) (ih m _ _ _ (closed_set hcl (by simpa using hr)) hc hk)
  | l i t ih =>
    intro m listed σ w hcl hc h
    cases m with
    | zero => simp [canOk] at hc
    | succ m =>
      simp only [canOk, Bool.and_eq_true, beq_iff_eq] at hc
      refine ⟨fun h0 => (by rw [hc.1] at h0; cases h0), fun j hj => ?_⟩
      rw [hc.1] at hj
      obtain rfl := List.mem_singleton.1 hj
      exact loud ih hcl (by rw [hc.1]; simp) hc.2 h
  | l2 i j s t ihs iht =>
    intro m listed σ w hcl hc h
    cases m with
    | zero => simp [canOk] at hc
    | succ m =>
      simp only [canOk, Bool.and_eq_true, beq_iff_eq] at hc
      refine ⟨fun h0 => (by rw [hc.1.1] at h0; cases h0), fun x hx => ?_⟩
      rw [hc.1.1] at hx
      simp only [List.mem_cons, List.not_mem_nil, or_false] at hx
      rcases hx with rfl | rfl
      · exact loud ihs hcl (by rw [hc.1.1]; simp) hc.1.2 h.1
      · exact loud iht hcl (by rw [hc.1.1]; simp) hc.2 h.2
  | l3 i j k s t u ihs iht ihu =>
    intro m listed σ w hcl hc h
    cases m with
    | zero => simp [canOk] at hc
    | succ m =>
      simp only [canOk, Bool.and_eq_true, beq_iff_eq] at hc
      refine ⟨fun h0 => (by rw [hc.1.1.1] at h0; cases h0), fun x hx => ?_⟩
      rw [hc.1.1.1] at hx
      simp only [List.mem_cons, List.not_mem_nil, or_false] at hx
      rcases hx with rfl | rfl | rfl
      · exact loud ihs hcl (by rw [hc.1.1.1]; simp) hc.1.1.2 h.1
      · exact loud iht hcl (by rw [hc.1.1.1]; simp) hc.1.2 h.2.1
      · exact loud ihu hcl (by rw [hc.1.1.1]; simp) hc.2 h.2.2
end

/-- The new world is the old one but for a count of draws. -/
def Drew (w w' : World) : Prop := w'.heap = w.heap ∧ w'.tape = w.tape ∧ w'.os = w.os ∧ w'.output = w.output
/-- All blocks of w but those of D are as they were. -/
def Agr (D : Nat → Prop) (w w' : World) : Prop := w.heap.size ≤ w'.heap.size ∧ ∀ b, b < w.heap.size → ¬ D b → w'.heap[b]? = w.heap[b]?
theorem Agr.refl (D : Nat → Prop) (w : World) : Agr D w w := ⟨Nat.le_refl _, fun _ _ _ => rfl⟩
theorem Agr.trans {D : Nat → Prop} (a b c : World) (h : Agr D a b) (k : Agr D b c) : Agr D a c := ⟨Nat.le_trans h.1 k.1, fun i hi hd => (k.2 i (Nat.lt_of_lt_of_le hi h.1) hd).trans (h.2 i hi hd)⟩
theorem W_draw {P : Program} {r : Option Nat} {n : Nat} {ops : Array Oper} {ps : List Nat} {id : Nat} {Q : Exit → Env → World → Prop} {σ : Env} {w : World} (t : Ord) (D : Nat → Prop) (hm : P.follows .mixedOrders = true) (hs : Region.noSelect ops = true) (hB : okB ops (Region.before ops) = true)
    (hc : canOk ops t ops.size (Array.replicate ops.size false) = true) (h : ∀ w', Drew w w' → CanE P r n ops ps (Agr D) (Q .normal) t σ w') : W P r n (.region id ops true) Q σ w :=
  fun a ha => wpIn_region_any hm (AnyE.sound _ _ _ _ (CanE.sound hB (Agr.refl D) (Agr.trans (D := D)) hs t _ _ _ _ (fun d o _ hd => by simp [Array.getD_eq_getD_getElem?, Array.getElem?_replicate] at hd; split at hd <;> simp at hd) hc (h { w with drawn := w.drawn + 1 } ⟨rfl, rfl, rfl, rfl⟩)) a ha)
end Go.Gk
set_option linter.unusedVariables false
set_option linter.unusedSimpArgs false
namespace Go.Gk
open Go.RowKit

/-- A part of memory: F is where it lies, h is memory. It looks at F alone. -/
structure SA where
  p : (Nat → Prop) → (Nat → Option Obj) → Prop
  ext : ∀ {F : Nat → Prop} {h h' : Nat → Option Obj}, (∀ b, F b → h' b = h b) → p F h → p F h'
  mono : ∀ {F F' : Nat → Prop} {h : Nat → Option Obj}, (∀ b, F b → F' b) → p F h → p F' h

def SA.blk (b : Nat) (o : Obj) : SA := ⟨fun F h => F b ∧ h b = some o, fun hh ⟨hb, ho⟩ => ⟨hb, (hh _ hb).trans ho⟩, fun hf ⟨hb, ho⟩ => ⟨hf _ hb, ho⟩⟩
/-- Two parts as one. -/
def SA.star (A B : SA) : SA := ⟨fun F h => ∃ F1 F2 : Nat → Prop, (∀ b, F1 b → F b) ∧ (∀ b, F2 b → F b ∧ ¬ F1 b) ∧ A.p F1 h ∧ B.p F2 h,
  fun hh ⟨F1, F2, h1, h2, h3, h4⟩ => ⟨F1, F2, h1, h2, A.ext (fun b hb => hh b (h1 b hb)) h3, B.ext (fun b hb => hh b (h2 b hb).1) h4⟩,
  fun hf ⟨F1, F2, h1, h2, h3, h4⟩ => ⟨F1, F2, fun b hb => hf b (h1 b hb), fun b hb => ⟨hf b (h2 b hb).1, (h2 b hb).2⟩, h3, h4⟩⟩
def SA.ex {ι : Type} (A : ι → SA) : SA := ⟨fun F h => ∃ i, (A i).p F h, fun hh ⟨i, hi⟩ => ⟨i, (A i).ext hh hi⟩, fun hf ⟨i, hi⟩ => ⟨i, (A i).mono hf hi⟩⟩
/-- A fact that speaks of no memory, beside a part. -/
def SA.and (q : Prop) (A : SA) : SA := ⟨fun F h => q ∧ A.p F h, fun hh ⟨hq, hi⟩ => ⟨hq, A.ext hh hi⟩, fun hf ⟨hq, hi⟩ => ⟨hq, A.mono hf hi⟩⟩
def SA.emp : SA := ⟨fun _ _ => True, fun _ _ => trivial, fun _ _ => trivial⟩
abbrev SA.cel (b : Nat) (cs : Array Value) (T : TypeId) : SA := SA.blk b (.cells cs T (0, 0))

def Sat : List SA → (Nat → Prop) → (Nat → Option Obj) → Prop
  | [], _, _ => True
  | A :: L, F, h => ∃ F1 : Nat → Prop, (∀ b, F1 b → F b) ∧ A.p F1 h ∧ Sat L (fun b => F b ∧ ¬ F1 b) h
theorem Sat.mono : ∀ {L : List SA} {F F' : Nat → Prop} {h : Nat → Option Obj}, (∀ b, F b → F' b) → Sat L F h → Sat L F' h
  | [], _, _, _, _, _ => trivial
  | _ :: _, _, _, _, hf, ⟨F1, h1, h2, h3⟩ => ⟨F1, fun b hb => hf b (h1 b hb), h2, h3.mono fun b ⟨hb, hn⟩ => ⟨hf b hb, hn⟩⟩
theorem Sat.ext : ∀ {L : List SA} {F : Nat → Prop} {h h' : Nat → Option Obj}, (∀ b, F b → h' b = h b) → Sat L F h → Sat L F h'
  | [], _, _, _, _, _ => trivial
  | A :: _, _, _, _, hh, ⟨F1, h1, h2, h3⟩ => ⟨F1, h1, A.ext (fun b hb => hh b (h1 b hb)) h2, h3.ext fun b hb => hh b hb.1⟩
theorem Sat.swap {A B : SA} {L : List SA} {F : Nat → Prop} {h : Nat → Option Obj} : Sat (A :: B :: L) F h → Sat (B :: A :: L) F h
  | ⟨F1, h1, h2, F2, h3, h4, h5⟩ => ⟨F2, fun b hb => (h3 b hb).1, h4, F1, fun b hb => ⟨h1 b hb, fun hb2 => (h3 b hb2).2 hb⟩, h2, h5.mono fun b ⟨⟨ha, hb⟩, hc⟩ => ⟨⟨ha, hc⟩, hb⟩⟩
theorem Sat.perm {L L' : List SA} (hp : L.Perm L') : ∀ {F : Nat → Prop} {h : Nat → Option Obj}, Sat L F h → Sat L' F h := by
  induction hp with
  | nil => exact fun h => h
  | cons A _ ih => exact fun ⟨F1, h1, h2, h3⟩ => ⟨F1, h1, h2, ih h3⟩
  | swap A B L => exact fun h => h.swap
  | trans _ _ ih1 ih2 => exact fun h => ih2 (ih1 h)

abbrev hp (w : World) : Nat → Option Obj := fun b => w.heap[b]?
/-- Below n0 the world is as w0 was; from n0 on the parts L lie, apart from each other. -/
structure Hp (n0 : Nat) (w0 w : World) (L : List SA) : Prop where
  below : Below n0 w0 w
  size : n0 ≤ w.heap.size
  sat : Sat L (fun b => n0 ≤ b ∧ b < w.heap.size) (hp w)

section
variable {n0 : Nat} {w0 w w' : World} {L L' : List SA} {A A' : SA}
theorem Hp.start (w : World) : Hp w.heap.size w w [] := ⟨Below.refl _ _, Nat.le_refl _, trivial⟩
theorem Drew.below {B : Nat} (h : Drew w w') : Below B w w' := ⟨h.2.2.1, h.2.1, h.2.2.2, by rw [h.1]; exact Nat.le_refl _, fun k _ => by rw [h.1]⟩
theorem Drew.agr {D : Nat → Prop} (h : Drew w w') : Agr D w w' := ⟨by rw [h.1]; exact Nat.le_refl _, fun k _ _ => by rw [h.1]⟩
theorem Below.agr {D : Nat → Prop} (h : Below w.heap.size w w') : Agr D w w' := ⟨h.size, fun b hb _ => h.block b hb⟩
theorem Hp.drew (H : Hp n0 w0 w L) (h : Drew w w') : Hp n0 w0 w' L :=
  ⟨H.below.trans h.below, by rw [h.1]; exact H.size, by rw [h.1]; exact H.sat.ext fun b _ => by simp only [hp]; rw [h.1]⟩
/-- Nothing that lay there has turned. -/
theorem Hp.keep (H : Hp n0 w0 w L) (h : Below w.heap.size w w') : Hp n0 w0 w' L :=
  ⟨H.below.trans (h.mono H.size), Nat.le_trans H.size h.size, (H.sat.mono (F' := fun b => n0 ≤ b ∧ b < w'.heap.size) fun b hb => ⟨hb.1, Nat.lt_of_lt_of_le hb.2 h.size⟩) |> fun _ => (H.sat.ext (h' := hp w') fun b hb => h.block b hb.2).mono fun b hb => ⟨hb.1, Nat.lt_of_lt_of_le hb.2 h.size⟩⟩
/-- .. and A is new. -/
theorem Hp.new (H : Hp n0 w0 w L) (h : Below w.heap.size w w') (hA : A.p (fun b => w.heap.size ≤ b ∧ b < w'.heap.size) (hp w')) : Hp n0 w0 w' (A :: L) :=
  ⟨H.below.trans (h.mono H.size), Nat.le_trans H.size h.size, _, fun b hb => ⟨Nat.le_trans H.size hb.1, hb.2⟩, hA,
    (H.sat.ext (h' := hp w') fun b hb => h.block b hb.2).mono fun b hb => ⟨⟨hb.1, Nat.lt_of_lt_of_le hb.2 h.size⟩, fun hc => by omega⟩⟩
theorem alloc_new (w : World) (o : Obj) : (w.alloc o).heap[w.heap.size]? = some o := by
  show (w.heap.push o)[w.heap.size]? = _
  simp
theorem alloc_size (w : World) (o : Obj) : (w.alloc o).heap.size = w.heap.size + 1 := by
  show (w.heap.push o).size = _
  simp
theorem alloc_below (w : World) (o : Obj) : Below w.heap.size w (w.alloc o) := (Below.refl _ _).alloc (Nat.le_refl _) o
theorem Hp.alloc (H : Hp n0 w0 w L) (o : Obj) : Hp n0 w0 (w.alloc o) (SA.blk w.heap.size o :: L) :=
  H.new (alloc_below w o) ⟨⟨Nat.le_refl _, by rw [alloc_size]; omega⟩, alloc_new w o⟩
theorem Hp.perm (H : Hp n0 w0 w L) (h : L.Perm L') : Hp n0 w0 w L' := ⟨H.below, H.size, H.sat.perm h⟩
theorem perm_pull {i : Nat} : ∀ {L : List SA} {i : Nat}, L[i]? = some A → L.Perm (A :: L.eraseIdx i)
  | [], i, h => by simp at h
  | B :: L, 0, h => by simp at h; subst h; exact List.Perm.refl _
  | B :: L, i + 1, h => by
    simp only [List.getElem?_cons_succ] at h
    exact ((perm_pull (i := i) h).cons B).trans (List.Perm.swap A B _)
/-- Part number i to the head. -/
theorem Hp.pull (i : Nat) (hA : L[i]? = some A) (hL : L.eraseIdx i = L') (H : Hp n0 w0 w L) : Hp n0 w0 w (A :: L') := by
  subst hL
  exact H.perm (perm_pull (i := i) hA)
theorem Hp.drop (H : Hp n0 w0 w (A :: L)) : Hp n0 w0 w L := by
  obtain ⟨F1, _, _, h3⟩ := H.sat
  exact ⟨H.below, H.size, h3.mono fun b hb => hb.1⟩
/-- The part at the head says something else now. -/
theorem Hp.weaken (H : Hp n0 w0 w (A :: L)) (h : ∀ F, (∀ b, F b → n0 ≤ b ∧ b < w.heap.size) → A.p F (hp w) → A'.p F (hp w)) : Hp n0 w0 w (A' :: L) := by
  obtain ⟨F1, h1, h2, h3⟩ := H.sat
  exact ⟨H.below, H.size, F1, h1, h F1 h1 h2, h3⟩
theorem Hp.join (H : Hp n0 w0 w (A :: A' :: L)) : Hp n0 w0 w (SA.star A A' :: L) := by
  obtain ⟨F1, h1, h2, F2, h3, h4, h5⟩ := H.sat
  exact ⟨H.below, H.size, fun b => F1 b ∨ F2 b, fun b hb => hb.elim (h1 b) (fun x => (h3 b x).1), ⟨F1, F2, fun b hb => .inl hb, fun b hb => ⟨.inr hb, (h3 b hb).2⟩, h2, h4⟩, h5.mono fun b hb => ⟨hb.1.1, fun hc => hc.elim hb.1.2 hb.2⟩⟩
theorem Hp.split (H : Hp n0 w0 w (SA.star A A' :: L)) : Hp n0 w0 w (A :: A' :: L) := by
  obtain ⟨F, h1, ⟨F1, F2, h2, h3, h4, h5⟩, h6⟩ := H.sat
  exact ⟨H.below, H.size, F1, fun b hb => h1 b (h2 b hb), h4, F2, fun b hb => ⟨h1 b (h3 b hb).1, (h3 b hb).2⟩, h5, h6.mono fun b hb => ⟨⟨hb.1, fun hc => hb.2 (h2 b hc)⟩, fun hc => hb.2 (h3 b hc).1⟩⟩
theorem Hp.opn {ι : Type} {B : ι → SA} (H : Hp n0 w0 w (SA.ex B :: L)) : ∃ i, Hp n0 w0 w (B i :: L) := by
  obtain ⟨F, h1, ⟨i, hi⟩, h6⟩ := H.sat
  exact ⟨i, H.below, H.size, F, h1, hi, h6⟩
theorem Hp.shut {ι : Type} {B : ι → SA} (i : ι) (H : Hp n0 w0 w (B i :: L)) : Hp n0 w0 w (SA.ex B :: L) := by
  obtain ⟨F, h1, hi, h6⟩ := H.sat
  exact ⟨H.below, H.size, F, h1, ⟨i, hi⟩, h6⟩
theorem Hp.out {q : Prop} (H : Hp n0 w0 w (SA.and q A :: L)) : q ∧ Hp n0 w0 w (A :: L) := by
  obtain ⟨F, h1, ⟨hq, hi⟩, h6⟩ := H.sat
  exact ⟨hq, H.below, H.size, F, h1, hi, h6⟩
theorem Hp.put {q : Prop} (hq : q) (H : Hp n0 w0 w (A :: L)) : Hp n0 w0 w (SA.and q A :: L) := by
  obtain ⟨F, h1, hi, h6⟩ := H.sat
  exact ⟨H.below, H.size, F, h1, ⟨hq, hi⟩, h6⟩
/-- What a call hands back as new memory. -/
def New (A : SA) (w w' : World) : Prop := A.p (fun b => w.heap.size ≤ b ∧ b < w'.heap.size) (hp w')
theorem Hp.give (H : Hp w0.heap.size w0 w (A :: L)) : New A w0 w := by
  obtain ⟨F1, h1, h2, _⟩ := H.sat
  exact A.mono h1 h2
theorem Hp.head (H : Hp n0 w0 w (A :: L)) : ∃ F : Nat → Prop, (∀ b, F b → n0 ≤ b ∧ b < w.heap.size) ∧ A.p F (hp w) := by
  obtain ⟨F1, h1, h2, _⟩ := H.sat
  exact ⟨F1, h1, h2⟩
/-- A block, wherever it stands in the list. -/
theorem Hp.rd {b : Nat} {o : Obj} (i : Nat) (hA : L[i]? = some (SA.blk b o)) (H : Hp n0 w0 w L) : w.heap[b]? = some o := by
  obtain ⟨F1, h1, h2⟩ := (H.pull i hA rfl).head
  exact h2.2
theorem Hp.lo {b : Nat} {o : Obj} (i : Nat) (hA : L[i]? = some (SA.blk b o)) (H : Hp n0 w0 w L) : n0 ≤ b ∧ b < w.heap.size := by
  obtain ⟨F1, h1, h2⟩ := (H.pull i hA rfl).head
  exact h1 _ h2.1
theorem Hp.done {F1 : Nat → Prop} (hb0 : Below n0 w0 w) (hS : n0 ≤ w.heap.size) (h1 : ∀ b, F1 b → n0 ≤ b ∧ b < w.heap.size) (h3 : Sat L (fun b => (n0 ≤ b ∧ b < w.heap.size) ∧ ¬ F1 b) (hp w)) (hs : w.heap.size ≤ w'.heap.size) (ho : w'.os = w.os) (ht : w'.tape = w.tape) (hu : w'.output = w.output)
    (hk : ∀ b, b < w.heap.size → ¬ F1 b → w'.heap[b]? = w.heap[b]?) (hA : A'.p (fun b => F1 b ∨ (w.heap.size ≤ b ∧ b < w'.heap.size)) (hp w')) : Hp n0 w0 w' (A' :: L) := by
  refine ⟨hb0.trans ⟨ho, ht, hu, hs, fun k hk' => hk k (by omega) (fun hf => by have := h1 k hf; omega)⟩, Nat.le_trans hS hs, _, fun b hb => ?_, hA, (h3.ext (h' := hp w') fun b hb => hk b hb.1.2 hb.2).mono fun b hb => ⟨⟨hb.1.1, by have := hb.1.2; omega⟩, ?_⟩⟩
  · rcases hb with hb | hb
    · have := h1 b hb; omega
    · omega
  · rintro (hc | hc)
    · exact hb.2 hc
    · have := hb.1.2; omega
/-- What the part at the head has become, where the rest stays. -/
theorem Hp.step (H : Hp n0 w0 w (A :: L)) (hs : w.heap.size ≤ w'.heap.size) (ho : w'.os = w.os) (ht : w'.tape = w.tape) (hu : w'.output = w.output)
    (h : ∀ F : Nat → Prop, (∀ b, F b → n0 ≤ b ∧ b < w.heap.size) → A.p F (hp w) → (∀ b, b < w.heap.size → ¬ F b → w'.heap[b]? = w.heap[b]?) ∧ A'.p (fun b => F b ∨ (w.heap.size ≤ b ∧ b < w'.heap.size)) (hp w')) : Hp n0 w0 w' (A' :: L) := by
  obtain ⟨F1, h1, h2, h3⟩ := H.sat
  obtain ⟨hk, hA⟩ := h F1 h1 h2
  exact Hp.done H.below H.size h1 h3 hs ho ht hu hk hA
/-- Blocks alone may be written in place. -/
theorem Hp.setBlk {b : Nat} {o o' : Obj} (H : Hp n0 w0 w (SA.blk b o :: L)) (h : w'.heap = w.heap.setIfInBounds b o') (ho : w'.os = w.os) (ht : w'.tape = w.tape) (hu : w'.output = w.output) : Hp n0 w0 w' (SA.blk b o' :: L) := by
  refine H.step (by rw [h]; simp) ho ht hu fun F hF ⟨hb, hv⟩ => ⟨fun c hc hn => ?_, .inl hb, ?_⟩
  · rw [h, Array.getElem?_setIfInBounds_ne]
    rintro rfl
    exact hn hb
  · have := (hF b hb).2
    simp [hp, h, this]
theorem setCell_heap {w : World} {b j : Nat} {cs : Array Value} {T : TypeId} (h : w.heap[b]? = some (.cells cs T (0, 0))) (v : Value) : (w.setCell ⟨b, j, none⟩ v).heap = w.heap.setIfInBounds b (.cells (cs.setIfInBounds j v) T (0, 0)) := by
  have hb : b < w.heap.size := (Array.getElem?_eq_some_iff.1 h).1
  apply Array.ext_getElem?
  intro i
  simp only [World.setCell, Array.getElem?_modify]
  by_cases e : b = i
  · subst e
    rw [if_pos rfl, h]
    simp [hb]
  · rw [if_neg e, Array.getElem?_setIfInBounds_ne e]
theorem Hp.setCell {b : Nat} {cs : Array Value} {T : TypeId} (H : Hp n0 w0 w (SA.cel b cs T :: L)) (j : Nat) (v : Value) : Hp n0 w0 (w.setCell ⟨b, j, none⟩ v) (SA.cel b (cs.setIfInBounds j v) T :: L) :=
  H.setBlk (setCell_heap (H.rd 0 rfl) v) rfl rfl rfl
theorem cell_of {b j : Nat} {cs : Array Value} {T : TypeId} (h : w.heap[b]? = some (.cells cs T (0, 0))) : w.cell? ⟨b, j, none⟩ = cs[j]? := by simp [World.cell?, h]
theorem froz_of {b j : Nat} {cs : Array Value} {T : TypeId} (h : w.heap[b]? = some (.cells cs T (0, 0))) : w.frozen? ⟨b, j, none⟩ = false := by simp [World.frozen?, h]
/-- What was there before reads as it did. -/
theorem Hp.old (H : Hp n0 w0 w L) {a : Addr} (ha : a.block < n0) : w.cell? a = w0.cell? a := H.below.cell ha
theorem Hp.cell0 (H : Hp w0.heap.size w0 w L) {a : Addr} {v : Value} (h : w0.cell? a = some v) : w.cell? a = some v := (H.old (World.block_lt_of_cell? w0 a h)).trans h
theorem Agr.cell {D : Nat → Prop} (h : Agr D w w') {a : Addr} {v : Value} (hc : w.cell? a = some v) (hd : ¬ D a.block) : w'.cell? a = some v :=
  (World.cell?_of_block (w := w) (h.2 a.block (World.block_lt_of_cell? w a hc) hd)).trans hc
theorem Agr.mono {D D' : Nat → Prop} (h : Agr D w w') (hd : ∀ b, D b → D' b) : Agr D' w w' := ⟨h.1, fun b hb hn => h.2 b hb fun x => hn (hd b x)⟩
end
end Go.Gk
namespace Go.Gk
open Go.RowKit

def inFrameB (n : Nat) : Option Nat → Bool
  | some d => Nat.blt d n
  | none => true
theorem inFrame_of {n : Nat} {d : Option Nat} (h : inFrameB n d = true) : inFrame n d := by
  cases d with
  | none => trivial
  | some d => exact Nat.le_of_ble_eq_true h
def opOk (n : Nat) (o : Oper) : Bool := inFrameB n o.dst && (o.guard.isNone && notDefer o)
def opOkG (n : Nat) (o : Oper) : Bool := inFrameB n o.dst && notDefer o
/-- The operation yields v. -/
def Ex (P : Program) (σ : Env) (o : Oper) (w : World) (v : Value) : Prop := (execOp (ev σ) o).run P w = .ok (.value v) w

section
variable {P : Program} {r : Option Nat} {n : Nat} {ops : Array Oper} {K : Env → World → Prop} {σ : Env} {w w' : World} {o : Oper} {v : Value} {m i : Nat} {ps : List Nat} {G : World → World → Prop} {t : Ord}
theorem wanted_none (h : o.guard.isNone = true) (y : Nat → Option Bool) : Region.wanted o y = true := by
  cases hg : o.guard with
  | none => simp [Region.wanted, hg]
  | some x => rw [hg] at h; cases h
theorem opOk_spec (h : opOk n o = true) : inFrame n o.dst ∧ o.guard.isNone = true ∧ notDefer o = true := by
  simp only [opOk, Bool.and_eq_true] at h
  exact ⟨inFrame_of h.1, h.2.1, h.2.2⟩
theorem opOkG_spec (h : opOkG n o = true) : inFrame n o.dst ∧ notDefer o = true := by
  simp only [opOkG, Bool.and_eq_true] at h
  exact ⟨inFrame_of h.1, h.2⟩
theorem Rg_op (ho : ops[i]? = some o) (h : OpW P r n ops o (Rg P r n ops K m (i + 1)) σ w) : Rg P r n ops K (m + 1) i σ w := ⟨o, ho, h⟩
theorem Rg_end (h : K σ w) : Rg P r n ops K 0 i σ w := h
/-- Whatever the operation comes to. -/
theorem o_run (hk : opOk n o = true) (h : Upon P r σ o.dst K ((execOp (ev σ) o).run P w)) : OpW P r n ops o K σ w := by
  obtain ⟨h1, h2, h3⟩ := opOk_spec hk
  exact ⟨h1, by rw [if_pos (wanted_none h2 _)]; exact ⟨h3, h⟩⟩
theorem o_val0 (hk : opOk n o = true) (hx : Ex P σ o w v) (h : K (updo σ o.dst v) w) : OpW P r n ops o K σ w := o_run hk (by rw [show (execOp (ev σ) o).run P w = _ from hx]; exact h)
theorem o_val {d : Nat} (hk : opOk n o = true) (hd : o.dst = some d) (hx : Ex P σ o w v) (h : K (upd σ d v) w) : OpW P r n ops o K σ w := o_val0 hk hx (by rw [hd]; exact h)
theorem o_runs (hk : opOk n o = true) (hx : (execOp (ev σ) o).run P w = .ok (.value v) w') (h : K (updo σ o.dst v) w') : OpW P r n ops o K σ w := o_run hk (by rw [hx]; exact h)
theorem o_does (hk : opOk n o = true) (hx : (execOp (ev σ) o).run P w = .ok .skip w') (h : K (updo σ o.dst undef) w') : OpW P r n ops o K σ w := o_run hk (by rw [hx]; exact h)
theorem o_valg {d : Nat} (hk : opOkG n o = true) (hd : o.dst = some d) (hw : Region.wanted o (yld ops σ) = true) (hx : Ex P σ o w v) (h : K (upd σ d v) w) : OpW P r n ops o K σ w := by
  rw [show upd σ d v = updo σ o.dst v from by rw [hd]; rfl] at h
  obtain ⟨h1, h3⟩ := opOkG_spec hk
  exact ⟨h1, by rw [if_pos hw, show (execOp (ev σ) o).run P w = _ from hx]; exact ⟨h3, h⟩⟩
theorem o_skip {d : Nat} (hk : opOkG n o = true) (hd : o.dst = some d) (hw : Region.wanted o (yld ops σ) = false) (h : K (upd σ d undef) w) : OpW P r n ops o K σ w := by
  rw [show upd σ d undef = updo σ o.dst undef from by rw [hd]; rfl] at h
  obtain ⟨h1, h3⟩ := opOkG_spec hk
  exact ⟨h1, by rw [if_neg (by rw [hw]; decide)]; exact h⟩
theorem c_done (h : K σ w) : CanE P r n ops ps G K .done σ w := h
theorem c_q {d : Nat} (ho : ops[i]? = some o) (hk : opOk n o = true) (hd : o.dst = some d) (hx : ∀ w', G w w' → Ex P σ o w' v) (h : CanE P r n ops ps G K t (upd σ d v) w) (hp : ps.contains i = false := by rfl) : CanE P r n ops ps G K (.q i t) σ w := by
  rw [show upd σ d v = updo σ o.dst v from by rw [hd]; rfl] at h
  obtain ⟨h1, h2, h3⟩ := opOk_spec hk
  exact ⟨hp, o, v, ho, ⟨h1, h3, .inl ⟨wanted_none h2 _, hx⟩⟩, h⟩
theorem c_qg {d : Nat} (ho : ops[i]? = some o) (hk : opOkG n o = true) (hd : o.dst = some d) (hw : Region.wanted o (yld ops σ) = true) (hx : ∀ w', G w w' → Ex P σ o w' v) (h : CanE P r n ops ps G K t (upd σ d v) w) (hp : ps.contains i = false := by rfl) : CanE P r n ops ps G K (.q i t) σ w := by
  rw [show upd σ d v = updo σ o.dst v from by rw [hd]; rfl] at h
  obtain ⟨h1, h3⟩ := opOkG_spec hk
  exact ⟨hp, o, v, ho, ⟨h1, h3, .inl ⟨hw, hx⟩⟩, h⟩
theorem c_qs {d : Nat} (ho : ops[i]? = some o) (hk : opOkG n o = true) (hd : o.dst = some d) (hw : Region.wanted o (yld ops σ) = false) (h : CanE P r n ops ps G K t (upd σ d undef) w) (hp : ps.contains i = false := by rfl) : CanE P r n ops ps G K (.q i t) σ w := by
  rw [show upd σ d undef = updo σ o.dst undef from by rw [hd]; rfl] at h
  obtain ⟨h1, h3⟩ := opOkG_spec hk
  exact ⟨hp, o, undef, ho, ⟨h1, h3, .inr ⟨hw, rfl⟩⟩, h⟩
/-- What looks at no memory. -/
theorem c_p {d : Nat} (ho : ops[i]? = some o) (hk : opOk n o = true) (hd : o.dst = some d) (hx : ∀ w', Ex P σ o w' v) (h : CanE P r n ops ps G K t (upd σ d v) w) (hp : ps.contains i = true := by rfl) : CanE P r n ops ps G K (.p i t) σ w := by
  rw [show upd σ d v = updo σ o.dst v from by rw [hd]; rfl] at h
  obtain ⟨h1, h2, h3⟩ := opOk_spec hk
  exact ⟨hp, o, v, ho, ⟨h1, h3, .inl ⟨wanted_none h2 _, fun w' _ => hx w'⟩⟩, h⟩
theorem c_pg {d : Nat} (ho : ops[i]? = some o) (hk : opOkG n o = true) (hd : o.dst = some d) (hw : Region.wanted o (yld ops σ) = true) (hx : ∀ w', Ex P σ o w' v) (h : CanE P r n ops ps G K t (upd σ d v) w) (hp : ps.contains i = true := by rfl) : CanE P r n ops ps G K (.p i t) σ w := by
  rw [show upd σ d v = updo σ o.dst v from by rw [hd]; rfl] at h
  obtain ⟨h1, h3⟩ := opOkG_spec hk
  exact ⟨hp, o, v, ho, ⟨h1, h3, .inl ⟨hw, fun w' _ => hx w'⟩⟩, h⟩
theorem c_ps {d : Nat} (ho : ops[i]? = some o) (hk : opOkG n o = true) (hd : o.dst = some d) (hw : Region.wanted o (yld ops σ) = false) (h : CanE P r n ops ps G K t (upd σ d undef) w) (hp : ps.contains i = true := by rfl) : CanE P r n ops ps G K (.p i t) σ w := by
  rw [show upd σ d undef = updo σ o.dst undef from by rw [hd]; rfl] at h
  obtain ⟨h1, h3⟩ := opOkG_spec hk
  exact ⟨hp, o, undef, ho, ⟨h1, h3, .inr ⟨hw, rfl⟩⟩, h⟩
theorem c_l (ho : ops[i]? = some o) (h : OpW P r n ops o (fun σ' w' => (exempt ops ps i = true ∨ G w w') ∧ CanE P r n ops ps G K t σ' w') σ w) : CanE P r n ops ps G K (.l i t) σ w := ⟨o, ho, h⟩
end

def cellsAgg (P : Program) (t : TypeId) : Option (Option Nat) :=
  match P.underlying t with
  | none => none
  | some (.struct _) => (P.info? t).map fun i => some i.size
  | some (.array _ _) => (P.info? t).map fun i => some i.size
  | some _ => some none
def fieldOff (P : Program) (t : TypeId) (k : Nat) : Option Nat :=
  match P.underlying t with
  | some (.struct fs) => match fs[k]? with
    | some f => match P.info? f.type with
      | some i => if i.size = 0 then none else some f.offset
      | none => none
    | none => none
  | _ => none
structure SlT where
  e : TypeId
  size : Nat
  bytes : Nat
  zero : Value
def sliceT (P : Program) (t : TypeId) : Option SlT :=
  match P.underlying t with
  | some (.slice e) => match P.info? e with
    | some i => match i.zero with
      | some z => some ⟨e, i.size, i.bytes, z⟩
      | none => none
    | none => none
  | _ => none
theorem sliceT_spec {P : Program} {t : TypeId} {s : SlT} (h : sliceT P t = some s) : P.underlying t = some (.slice s.e) ∧ ∃ i, P.info? s.e = some i ∧ i.zero = some s.zero ∧ i.size = s.size ∧ i.bytes = s.bytes := by
  unfold sliceT at h
  split at h <;> try (cases h)
  rename_i e he
  split at h <;> try (cases h)
  rename_i i hi
  split at h <;> try (cases h)
  rename_i z hz
  exact ⟨he, i, hi, hz, rfl, rfl⟩
theorem run_fieldAt {P : Program} {t : TypeId} {k off : Nat} (h : fieldOff P t k = some off) (a : Addr) (w : World) : (Instr.fieldAt t (.pointer (some a)) k).run P w = .ok (.pointer (some (a.add off))) w := by
  unfold fieldOff at h
  split at h <;> try (cases h)
  rename_i fs hfs
  split at h <;> try (cases h)
  rename_i f hf
  split at h <;> try (cases h)
  rename_i i hi
  split at h <;> try (cases h)
  rename_i hne
  simp [Instr.fieldAt, run_underlying hfs, hf, Instr.sureAddr, fieldPlace, sizeOf, typeInfo, hi, hne]
theorem run_isAgg_no {P : Program} {t : TypeId} (h : cellsAgg P t = some none) (w : World) : (isAgg t).run P w = .ok false w := by
  unfold cellsAgg at h
  cases hu : P.underlying t with
  | none => rw [hu] at h; cases h
  | some d =>
    rw [hu] at h
    cases d <;> simp [isAgg, run_underlying hu] at h ⊢
theorem run_isAgg_yes {P : Program} {t : TypeId} {k : Nat} (h : cellsAgg P t = some (some k)) (w : World) : (isAgg t).run P w = .ok true w ∧ ∃ i, P.info? t = some i ∧ i.size = k := by
  unfold cellsAgg at h
  cases hu : P.underlying t with
  | none => rw [hu] at h; cases h
  | some d =>
    rw [hu] at h
    cases d <;> simp [isAgg, run_underlying hu] at h ⊢ <;> exact h
theorem run_load1 {P : Program} {t : TypeId} (h : cellsAgg P t = some none) {w : World} {a : Addr} {v : Value} (hc : w.cell? a = some v) : (loadVar t a).run P w = .ok v w := by
  simp [loadVar, run_isAgg_no h, load, Sem.run, hc]
theorem run_loadCells {P : Program} {w : World} {a : Addr} : ∀ (vs : List Value) (i : Nat) (acc : Array Value), (∀ j u, vs[j]? = some u → w.cell? (a.add (i + j)) = some u) → (loadCellsFrom a i vs.length acc).run P w = .ok (acc ++ vs.toArray) w
  | [], i, acc, _ => by simp [loadCellsFrom]
  | v :: vs, i, acc, h => by
    have h0 := h 0 v rfl
    have h1 := run_loadCells (P := P) vs (i + 1) (acc.push v) (fun j u hj => by have := h (j + 1) u hj; rwa [show i + (j + 1) = i + 1 + j from by omega] at this)
    simp only [Nat.add_zero] at h0
    simp [loadCellsFrom, load, Sem.run, h0, h1]
theorem run_loadN {P : Program} {t : TypeId} {k : Nat} (h : cellsAgg P t = some (some k)) {w : World} {a : Addr} {vs : List Value} (hl : vs.length = k) (hc : ∀ j u, vs[j]? = some u → w.cell? (a.add j) = some u) : (loadVar t a).run P w = .ok (.agg vs.toArray) w := by
  obtain ⟨h1, i, hi, hs⟩ := run_isAgg_yes h w
  have h2 := run_loadCells (P := P) (w := w) (a := a) vs 0 #[] (fun j u hj => by rw [Nat.zero_add]; exact hc j u hj)
  rw [hl] at h2
  simp [loadVar, h1, loadCells, sizeOf, typeInfo, hi, hs, h2]
def setCells (cs : Array Value) (off : Nat) : List Value → Array Value
  | [] => cs
  | v :: vs => setCells (cs.setIfInBounds off v) (off + 1) vs
theorem size_setCells : ∀ (vs : List Value) (cs : Array Value) (off : Nat), (setCells cs off vs).size = cs.size
  | [], _, _ => rfl
  | v :: vs, cs, off => by rw [setCells, size_setCells vs]; simp
theorem run_storeCells {P : Program} {b : Nat} {T : TypeId} : ∀ (vs : List Value) (i off : Nat) (w : World) (cs : Array Value), w.heap[b]? = some (.cells cs T (0, 0)) → off + i + vs.length ≤ cs.size → (∀ u ∈ vs, u.oneCell' = true) →
    ∃ w', (storeCells (⟨b, off, none⟩ : Addr) vs i).run P w = .ok () w' ∧ w'.heap = w.heap.setIfInBounds b (.cells (setCells cs (off + i) vs) T (0, 0)) ∧ w'.os = w.os ∧ w'.tape = w.tape ∧ w'.output = w.output
  | [], i, off, w, cs, hb, _, _ => ⟨w, by simp [storeCells], by
      apply Array.ext_getElem?
      intro j
      simp only [setCells]
      by_cases e : b = j
      · subst e
        rw [hb]
        simp [(Array.getElem?_eq_some_iff.1 hb).1]
      · rw [Array.getElem?_setIfInBounds_ne e], rfl, rfl, rfl⟩
  | v :: vs, i, off, w, cs, hb, hl, h1 => by
    simp only [List.length_cons] at hl
    have hadd : (⟨b, off, none⟩ : Addr).add i = ⟨b, off + i, none⟩ := by unfold Addr.add; split <;> simp_all
    have hc : w.cell? ⟨b, off + i, none⟩ = cs[off + i]? := cell_of hb
    have hc' : w.cell? ⟨b, off + i, none⟩ = some cs[off + i] := by rw [hc]; exact Array.getElem?_eq_getElem _
    have hset := setCell_heap (j := off + i) hb v
    have hb2 : (w.setCell ⟨b, off + i, none⟩ v).heap[b]? = some (.cells (cs.setIfInBounds (off + i) v) T (0, 0)) := by
      rw [hset]; simp [(Array.getElem?_eq_some_iff.1 hb).1]
    obtain ⟨w', hr, hh, e1, e2, e3⟩ := run_storeCells (P := P) vs (i + 1) off _ _ hb2 (by simp; omega) (fun u hu => h1 u (List.mem_cons_of_mem _ hu))
    refine ⟨w', ?_, ?_, e1, e2, e3⟩
    · have hv := h1 v List.mem_cons_self
      have hst : (store (⟨b, off + i, none⟩ : Addr) v).run P w = .ok () (w.setCell ⟨b, off + i, none⟩ v) := by
        cases v <;> simp [Value.oneCell'] at hv <;> simp [store, Sem.run, hc', froz_of hb]
      simp only [storeCells, hadd]
      simp [hst, hr]
    · rw [hh, hset]
      apply Array.ext_getElem?
      intro j
      by_cases e : b = j
      · subst e
        simp [Nat.add_assoc, setCells]
      · rw [Array.getElem?_setIfInBounds_ne e, Array.getElem?_setIfInBounds_ne e, Array.getElem?_setIfInBounds_ne e]
end Go.Gk
namespace Go.Gk
open Go.RowKit

theorem add_add (a : Addr) (x y : Nat) : (a.add x).add y = a.add (x + y) := by
  unfold Addr.add
  by_cases hx : x = 0 <;> by_cases hy : y = 0 <;> simp [hx, hy, Nat.add_assoc]
theorem wrap_in {x : Int} (h : -9223372036854775808 ≤ x ∧ x ≤ 9223372036854775807) : IntKind.i64.wrap x = x := by
  simp only [IntKind.wrap, IntKind.bits, IntKind.signed]
  simp
  omega
def bAnd (k : IntKind) (a b : Int) : Int := k.wrap (BitVec.ofInt k.bits a &&& BitVec.ofInt k.bits b).toNat
def bOr (k : IntKind) (a b : Int) : Int := k.wrap (BitVec.ofInt k.bits a ||| BitVec.ofInt k.bits b).toNat
def bXor (k : IntKind) (a b : Int) : Int := k.wrap (BitVec.ofInt k.bits a ^^^ BitVec.ofInt k.bits b).toNat
def bAndNot (k : IntKind) (a b : Int) : Int := k.wrap (BitVec.ofInt k.bits a &&& ~~~ BitVec.ofInt k.bits b).toNat

section
variable {P : Program} {σ : Env} {w : World} {d : Option Nat} {t xT yT : TypeId} {p : String} {af : Array Edge} {g : Option (Nat × Bool)} {x y c : Operand} {v u : Value} {a b : Int} {k : IntKind}
theorem ex_eq {o : Oper} (h : (execOp (ev σ) o).run P w = .ok (.value v) w) : Ex P σ o w v := h
theorem ex_move (hx : ev σ x = v) : Ex P σ ⟨d, .move x, t, p, af, g⟩ w v := by simp [Ex, execOp, hx]
theorem ex_assign (hx : ev σ x = v) : Ex P σ ⟨d, .assign x, t, p, af, g⟩ w v := by simp [Ex, execOp, hx]
theorem ex_pick {q : Bool} (hc : ev σ c = .bool q) (h1 : q = true → ev σ x = v) (h2 : q = false → ev σ y = v) : Ex P σ ⟨d, .pick c x y, t, p, af, g⟩ w v := by
  cases q
  · simp [Ex, execOp, hc, asBool, h2 rfl]
  · simp [Ex, execOp, hc, asBool, h1 rfl]
theorem ex_extract {vs : Array Value} {j : Nat} (hx : ev σ x = .tuple vs) (hv : vs[j]? = some v) : Ex P σ ⟨d, .extract x j, t, p, af, g⟩ w v := by simp [Ex, execOp, hx, Instr.extract, hv]
theorem ex_fieldAddr {j off : Nat} {ad ad' : Addr} (hf : fieldOff P xT j = some off) (hx : ev σ x = .pointer (some ad)) (ha : ad.add off = ad') : Ex P σ ⟨d, .fieldAddr xT x j, t, p, af, g⟩ w (.pointer (some ad')) := by
  subst ha
  simp [Ex, execOp, hx, run_fieldAt hf]
theorem ex_load {ad : Addr} (ht : cellsAgg P xT = some none) (hx : ev σ x = .pointer (some ad)) (hc : w.cell? ad = some v) : Ex P σ ⟨d, .load xT x, t, p, af, g⟩ w v := by
  simp [Ex, execOp, hx, Instr.loadAt, Instr.sureAddr, run_load1 ht hc]
theorem ex_loadN {ad : Addr} {m : Nat} {vs : List Value} (ht : cellsAgg P xT = some (some m)) (hx : ev σ x = .pointer (some ad)) (hl : vs.length = m) (hc : ∀ j u, vs[j]? = some u → w.cell? (ad.add j) = some u) : Ex P σ ⟨d, .load xT x, t, p, af, g⟩ w (.agg vs.toArray) := by
  simp [Ex, execOp, hx, Instr.loadAt, Instr.sureAddr, run_loadN ht hl hc]
theorem ex_nilCheck {ad : Addr} (hx : ev σ x = .pointer (some ad)) : Ex P σ ⟨d, .nilCheck x, t, p, af, g⟩ w (.pointer (some ad)) := by simp [Ex, execOp, hx]
theorem ex_makeFunc {fn : Fn} {fs cs : Array Operand} {fv cv : List Value} (h1 : fs.toList.map (ev σ) = fv) (h2 : cs.toList.map (ev σ) = cv) : Ex P σ ⟨d, .makeFunc fn fs cs, t, p, af, g⟩ w (.func fn fv.toArray cv.toArray) := by
  subst h1 h2
  have h : ∀ xs : Array Operand, xs.map (ev σ) = (xs.toList.map (ev σ)).toArray := fun xs => by cases xs; simp
  simp [Ex, execOp, Instr.makeFunc, h]

/-- Cells of one block, of whatever one knows the literal. -/
theorem blk_cells {b off : Nat} {cs : Array Value} {T : TypeId} {vs : List Value} (hb : w.heap[b]? = some (.cells cs T (0, 0))) (hv : (cs.toList.drop off).take vs.length = vs) : ∀ j u, vs[j]? = some u → w.cell? ((⟨b, off, none⟩ : Addr).add j) = some u := by
  intro j u hj
  have ha : (⟨b, off, none⟩ : Addr).add j = ⟨b, off + j, none⟩ := by unfold Addr.add; split <;> simp_all
  rw [ha, cell_of hb]
  rw [← hv, List.getElem?_take] at hj
  split at hj
  · simpa using hj
  · cases hj
theorem load_blk {b off m : Nat} {cs : Array Value} {T : TypeId} {vs : List Value} (ht : cellsAgg P xT = some (some m)) (hb : w.heap[b]? = some (.cells cs T (0, 0))) (hl : vs.length = m) (hv : (cs.toList.drop off).take vs.length = vs) : (loadVar xT ⟨b, off, none⟩).run P w = .ok (.agg vs.toArray) w := run_loadN ht hl (blk_cells hb hv)
theorem ex_bin {op : BinOp} (hx : ev σ x = .int k a) (hy : ev σ y = .int k b) (hn : op ≠ .shl ∧ op ≠ .shr) (h : ∀ W, (match op with
    | .add | .sub | .mul => Op.intArith op k a b
    | .quo | .rem => Op.intDiv op k a b
    | .and | .or | .xor | .andNot => Op.intBits op k a b
    | _ => Op.intCmp op a b).run P W = .ok v W) : Ex P σ ⟨d, .binOp op xT x y yT, t, p, af, g⟩ w v := by
  have hw := h w
  cases op <;> simp at hn <;> simp [Ex, execOp, hx, hy, eqGuard, binOp] <;> simp at hw <;> simp [hw]
theorem ex_addk (hx : ev σ x = .int k a) (hy : ev σ y = .int k b) : Ex P σ ⟨d, .binOp .add xT x y yT, t, p, af, g⟩ w (.int k (k.wrap (a + b))) := ex_bin hx hy (by decide) fun W => by simp [Op.intArith]
theorem ex_subk (hx : ev σ x = .int k a) (hy : ev σ y = .int k b) : Ex P σ ⟨d, .binOp .sub xT x y yT, t, p, af, g⟩ w (.int k (k.wrap (a - b))) := ex_bin hx hy (by decide) fun W => by simp [Op.intArith]
theorem ex_mulk (hx : ev σ x = .int k a) (hy : ev σ y = .int k b) : Ex P σ ⟨d, .binOp .mul xT x y yT, t, p, af, g⟩ w (.int k (k.wrap (a * b))) := ex_bin hx hy (by decide) fun W => by simp [Op.intArith]
theorem ex_add (hx : ev σ x = .int .i64 a) (hy : ev σ y = .int .i64 b) (h : -9223372036854775808 ≤ a + b ∧ a + b ≤ 9223372036854775807) : Ex P σ ⟨d, .binOp .add xT x y yT, t, p, af, g⟩ w (.int .i64 (a + b)) := by
  have := ex_addk (P := P) (d := d) (t := t) (p := p) (af := af) (g := g) (w := w) (xT := xT) (yT := yT) hx hy
  rwa [wrap_in h] at this
theorem ex_sub (hx : ev σ x = .int .i64 a) (hy : ev σ y = .int .i64 b) (h : -9223372036854775808 ≤ a - b ∧ a - b ≤ 9223372036854775807) : Ex P σ ⟨d, .binOp .sub xT x y yT, t, p, af, g⟩ w (.int .i64 (a - b)) := by
  have := ex_subk (P := P) (d := d) (t := t) (p := p) (af := af) (g := g) (w := w) (xT := xT) (yT := yT) hx hy
  rwa [wrap_in h] at this
theorem ex_mul (hx : ev σ x = .int .i64 a) (hy : ev σ y = .int .i64 b) (h : -9223372036854775808 ≤ a * b ∧ a * b ≤ 9223372036854775807) : Ex P σ ⟨d, .binOp .mul xT x y yT, t, p, af, g⟩ w (.int .i64 (a * b)) := by
  have := ex_mulk (P := P) (d := d) (t := t) (p := p) (af := af) (g := g) (w := w) (xT := xT) (yT := yT) hx hy
  rwa [wrap_in h] at this
theorem ex_quo (hx : ev σ x = .int .i64 a) (hy : ev σ y = .int .i64 b) (h0 : 0 ≤ a) (h1 : 0 < b) (h2 : a ≤ 9223372036854775807) : Ex P σ ⟨d, .binOp .quo xT x y yT, t, p, af, g⟩ w (.int .i64 (a / b)) := ex_bin hx hy (by decide) fun W => by
  have hb : b ≠ 0 := by omega
  have hd : a.tdiv b = a / b := Int.tdiv_eq_ediv_of_nonneg h0
  have hr : 0 ≤ a / b := Int.ediv_nonneg h0 (by omega)
  have hl : a / b ≤ a := Int.ediv_le_self b h0
  simp [Op.intDiv, hb, hd, wrap_in (x := a / b) ⟨by omega, by omega⟩]
theorem ex_rem (hx : ev σ x = .int .i64 a) (hy : ev σ y = .int .i64 b) (h0 : 0 ≤ a) (h1 : 0 < b) : Ex P σ ⟨d, .binOp .rem xT x y yT, t, p, af, g⟩ w (.int .i64 (a % b)) := ex_bin hx hy (by decide) fun W => by
  have hb : b ≠ 0 := by omega
  have hd : a.tmod b = a % b := Int.tmod_eq_emod_of_nonneg h0
  simp [Op.intDiv, hb, hd]
theorem ex_lss (hx : ev σ x = .int k a) (hy : ev σ y = .int k b) : Ex P σ ⟨d, .binOp .lss xT x y yT, t, p, af, g⟩ w (.bool (decide (a < b))) := ex_bin hx hy (by decide) fun W => by simp [Op.intCmp]
theorem ex_leq (hx : ev σ x = .int k a) (hy : ev σ y = .int k b) : Ex P σ ⟨d, .binOp .leq xT x y yT, t, p, af, g⟩ w (.bool (decide (a ≤ b))) := ex_bin hx hy (by decide) fun W => by simp [Op.intCmp]
theorem ex_gtr (hx : ev σ x = .int k a) (hy : ev σ y = .int k b) : Ex P σ ⟨d, .binOp .gtr xT x y yT, t, p, af, g⟩ w (.bool (decide (b < a))) := ex_bin hx hy (by decide) fun W => by simp [Op.intCmp]
theorem ex_geq (hx : ev σ x = .int k a) (hy : ev σ y = .int k b) : Ex P σ ⟨d, .binOp .geq xT x y yT, t, p, af, g⟩ w (.bool (decide (b ≤ a))) := ex_bin hx hy (by decide) fun W => by simp [Op.intCmp]
theorem ex_eql (hx : ev σ x = .int k a) (hy : ev σ y = .int k b) : Ex P σ ⟨d, .binOp .eql xT x y yT, t, p, af, g⟩ w (.bool (decide (a = b))) := ex_bin hx hy (by decide) fun W => by simp [Op.intCmp]; rfl
theorem ex_neq (hx : ev σ x = .int k a) (hy : ev σ y = .int k b) : Ex P σ ⟨d, .binOp .neq xT x y yT, t, p, af, g⟩ w (.bool (decide (a ≠ b))) := ex_bin hx hy (by decide) fun W => by
  by_cases h : a = b <;> simp [Op.intCmp, h]
theorem ex_and (hx : ev σ x = .int k a) (hy : ev σ y = .int k b) : Ex P σ ⟨d, .binOp .and xT x y yT, t, p, af, g⟩ w (.int k (bAnd k a b)) := ex_bin hx hy (by decide) fun W => by simp [Op.intBits, bAnd]
theorem ex_or (hx : ev σ x = .int k a) (hy : ev σ y = .int k b) : Ex P σ ⟨d, .binOp .or xT x y yT, t, p, af, g⟩ w (.int k (bOr k a b)) := ex_bin hx hy (by decide) fun W => by simp [Op.intBits, bOr]
theorem ex_xor (hx : ev σ x = .int k a) (hy : ev σ y = .int k b) : Ex P σ ⟨d, .binOp .xor xT x y yT, t, p, af, g⟩ w (.int k (bXor k a b)) := ex_bin hx hy (by decide) fun W => by simp [Op.intBits, bXor]
theorem ex_andNot (hx : ev σ x = .int k a) (hy : ev σ y = .int k b) : Ex P σ ⟨d, .binOp .andNot xT x y yT, t, p, af, g⟩ w (.int k (bAndNot k a b)) := ex_bin hx hy (by decide) fun W => by simp [Op.intBits, bAndNot]
theorem ex_shl {k' : IntKind} {j : Nat} (hx : ev σ x = .int k a) (hy : ev σ y = .int k' (j : Int)) : Ex P σ ⟨d, .binOp .shl xT x y yT, t, p, af, g⟩ w (.int k (k.wrap (a * 2 ^ min j k.bits))) := by
  have h0 : ¬ ((j : Int) < 0) := by omega
  simp [Ex, execOp, hx, hy, eqGuard, binOp, Op.shift, h0]
theorem ex_shr {k' : IntKind} {j : Nat} (hx : ev σ x = .int k a) (hy : ev σ y = .int k' (j : Int)) : Ex P σ ⟨d, .binOp .shr xT x y yT, t, p, af, g⟩ w (.int k (a.fdiv (2 ^ min j k.bits))) := by
  have h0 : ¬ ((j : Int) < 0) := by omega
  simp [Ex, execOp, hx, hy, eqGuard, binOp, Op.shift, h0]
theorem ex_not {q : Bool} (hx : ev σ x = .bool q) : Ex P σ ⟨d, .unOp .not xT x, t, p, af, g⟩ w (.bool (!q)) := by simp [Ex, execOp, hx, Op.unary]
theorem ex_conv {k' : IntKind} {s : TypeId} {ds : TypeDesc} (hs : P.underlying s = some ds) (hd : P.underlying xT = some (.int k)) (hx : ev σ x = .int k' a) : Ex P σ ⟨d, .convert s xT x, t, p, af, g⟩ w (.int k (k.wrap a)) := by
  simp [Ex, execOp, hx, convert, run_underlying hs, run_underlying hd, Conv.intToInt]

theorem ex_len {A : Option Addr} {m cp : Nat} {s : SlT} {ts : Array TypeId} (ht : sliceT P xT = some s) (hx : ev σ x = .slice A m cp) : Ex P σ ⟨d, .call { callee := .builtin .len, args := #[x], argTypes := #[xT] }, t, p, af, g⟩ w (.int .i64 (m : Int)) := by
  obtain ⟨h1, _⟩ := sliceT_spec ht
  simp [Ex, execOp, resolve, invoke, builtin, Builtin.len_, run_underlying h1, hx, goInt]
theorem ex_indexAddr {A : Option Addr} {ad ad' : Addr} {m cp : Nat} {s : SlT} (ht : sliceT P xT = some s) (hx : ev σ x = .slice A m cp) (hA : A = some ad) (hy : ev σ y = .int k a) (h0 : 0 ≤ a) (h1 : a < m) (ha : ad.add (a.toNat * s.size) = ad') : Ex P σ ⟨d, .indexAddr xT x y, t, p, af, g⟩ w (.pointer (some ad')) := by
  subst ha hA
  obtain ⟨h2, i, hi, _, hs, _⟩ := sliceT_spec ht
  simp [Ex, execOp, hx, hy, Instr.indexAt, asIntOf, run_underlying h2, h0, h1, sizeOf, typeInfo, hi, hs]
theorem ex_min2 (hx : ev σ x = .int k a) (hy : ev σ y = .int k b) {ts : Array TypeId} : Ex P σ ⟨d, .call { callee := .builtin .min, args := #[x, y], argTypes := ts }, t, p, af, g⟩ w (.int k (min a b)) := by
  have h : (if b < a then b else a) = min a b := by split <;> omega
  simp [Ex, execOp, resolve, invoke, builtin, Builtin.min_, Builtin.min2, hx, hy, h]
theorem ex_min3 {z : Operand} {e : Int} (hx : ev σ x = .int k a) (hy : ev σ y = .int k b) (hz : ev σ z = .int k e) {ts : Array TypeId} : Ex P σ ⟨d, .call { callee := .builtin .min, args := #[x, y, z], argTypes := ts }, t, p, af, g⟩ w (.int k (min (min a b) e)) := by
  have h : ∀ a b : Int, (if b < a then b else a) = min a b := fun a b => by split <;> omega
  simp [Ex, execOp, resolve, invoke, builtin, Builtin.min_, Builtin.min2, hx, hy, hz, h]
theorem ex_max2 (hx : ev σ x = .int k a) (hy : ev σ y = .int k b) {ts : Array TypeId} : Ex P σ ⟨d, .call { callee := .builtin .max, args := #[x, y], argTypes := ts }, t, p, af, g⟩ w (.int k (max a b)) := by
  have h : (if a < b then b else a) = max a b := by split <;> omega
  simp [Ex, execOp, resolve, invoke, builtin, Builtin.max_, Builtin.max2, hx, hy, h]
end

section
variable {P : Program} {r : Option Nat} {n : Nat} {ops : Array Oper} {K : Env → World → Prop} {σ : Env} {w : World} {d : Option Nat} {t xT yT : TypeId} {p : String} {af : Array Edge} {x y c : Operand} {v u : Value} {n0 : Nat} {w0 : World} {L : List SA}
theorem o_box {dd : Nat} (hk : opOk n ⟨some dd, .box xT x, t, p, af, none⟩ = true) (hx : ev σ x = v) (H : Hp n0 w0 w L)
    (h : ∀ b w', Below w.heap.size w w' → Hp n0 w0 w' (SA.cel b v.cells xT :: L) → K (upd σ dd (.pointer (some ⟨b, 0, none⟩))) w') : OpW P r n ops ⟨some dd, .box xT x, t, p, af, none⟩ K σ w :=
  o_runs (v := .pointer (some ⟨w.heap.size, 0, none⟩)) (w' := w.alloc (.cells v.cells xT)) hk (by simp [execOp, hx, Instr.box, newVar, newRow, newObj, Sem.run, World.alloc_eq]) (h _ _ (alloc_below w _) (H.alloc _))

def tySize (P : Program) (t : TypeId) : Option Nat := (P.info? t).map (·.size)
def tyZero (P : Program) (t : TypeId) : Option Value := (P.info? t).bind (·.zero)
theorem o_alloc {z : Value} {dd : Nat} (hk : opOk n ⟨some dd, .alloc xT, t, p, af, none⟩ = true) (hz : tyZero P xT = some z) (H : Hp n0 w0 w L)
    (h : ∀ b w', Below w.heap.size w w' → Hp n0 w0 w' (SA.cel b z.cells xT :: L) → K (upd σ dd (.pointer (some ⟨b, 0, none⟩))) w') : OpW P r n ops ⟨some dd, .alloc xT, t, p, af, none⟩ K σ w := by
  unfold tyZero at hz
  obtain ⟨i, hi, hz⟩ := Option.bind_eq_some_iff.1 hz
  exact o_runs (v := .pointer (some ⟨w.heap.size, 0, none⟩)) (w' := w.alloc (.cells z.cells xT)) hk (by simp [execOp, Instr.alloc, zeroValue, typeInfo, hi, hz, newVar, newRow, newObj, Sem.run, World.alloc_eq]) (h _ _ (alloc_below w _) (H.alloc _))
theorem run_store {b off : Nat} {cs : Array Value} {T : TypeId} {vs : List Value} (hs : tySize P xT = some vs.length) (hv : v.cells = vs.toArray) (h1 : vs.all (·.oneCell') = true) (hb : w.heap[b]? = some (.cells cs T (0, 0))) (hl : off + vs.length ≤ cs.size) :
    ∃ w', (storeVar xT ⟨b, off, none⟩ v).run P w = .ok () w' ∧ w'.heap = w.heap.setIfInBounds b (.cells (setCells cs off vs) T (0, 0)) ∧ w'.os = w.os ∧ w'.tape = w.tape ∧ w'.output = w.output := by
  unfold tySize at hs
  obtain ⟨i, hi, hsz⟩ := Option.map_eq_some_iff.1 hs
  obtain ⟨w', hr, h2⟩ := run_storeCells (P := P) vs 0 off w cs hb (by omega) (fun u hu => List.all_eq_true.1 h1 u hu)
  refine ⟨w', ?_, by simpa using h2⟩
  simp [storeVar, sizeOf, typeInfo, hi, hsz, hv, hr]
theorem heap_agr {b : Nat} {o : Obj} {w' : World} (h : w'.heap = w.heap.setIfInBounds b o) : Agr (· = b) w w' := ⟨by rw [h]; simp, fun c hc hn => by rw [h, Array.getElem?_setIfInBounds_ne (fun e => hn e.symm)]⟩
theorem o_store {b off : Nat} {cs cs' : Array Value} {T : TypeId} {vs : List Value} {L' : List SA} (hk : opOk n ⟨none, .store xT x y, t, p, af, none⟩ = true) (hs : tySize P xT = some vs.length) (hx : ev σ x = .pointer (some ⟨b, off, none⟩)) (hy : ev σ y = v)
    (hv : v.cells = vs.toArray) (h1 : vs.all (·.oneCell') = true) (j : Nat) (hj : L[j]? = some (SA.cel b cs T)) (hL : L.eraseIdx j = L') (hl : Nat.ble (off + vs.length) cs.size = true) (hc : setCells cs off vs = cs') (H : Hp n0 w0 w L)
    (h : ∀ w', Agr (· = b) w w' → Hp n0 w0 w' (SA.cel b cs' T :: L') → K σ w') : OpW P r n ops ⟨none, .store xT x y, t, p, af, none⟩ K σ w := by
  subst hc
  obtain ⟨w', hr, hh, e1, e2, e3⟩ := run_store (P := P) (xT := xT) (w := w) hs hv h1 (H.rd j hj) (Nat.le_of_ble_eq_true hl)
  exact o_does (w' := w') hk (by simp [execOp, hx, hy, Instr.storeAt, Instr.sureAddr, hr]) (h w' (heap_agr hh) ((H.pull j hj hL).setBlk hh e1 e2 e3))

def callable (P : Program) (f : FuncId) : Bool :=
  match P.funcs[f]? with
  | some fn => !(fn.name == "runtime.NumGoroutine") && fn.body.isSome
  | none => false
theorem run_callFunc {f : FuncId} (h : callable P f = true) (args : Array Value) : (callFunc f args).run P w = .ok (.enter f args) w := by
  unfold callable at h
  split at h <;> try (cases h)
  rename_i fn hf
  simp only [Bool.and_eq_true, Bool.not_eq_true', Option.isSome_iff_exists] at h
  obtain ⟨h1, c, hc⟩ := h
  have h1 : fn.name ≠ "runtime.NumGoroutine" := by simpa using h1
  simp [callFunc, program, Sem.run, hf, h1, hc]
theorem o_call {dd : Nat} {f : FuncId} {ars : Array Operand} {ts : Array TypeId} {fo : Operand} {fv cap vs : List Value} {S : Value → World → Prop} (hk : opOk n ⟨some dd, .call { callee := .value fo, args := ars, argTypes := ts }, t, p, af, none⟩ = true) (hf : ev σ fo = .func (.func f) fv.toArray cap.toArray) (hc : callable P f = true)
    (ha : fv ++ ars.toList.map (ev σ) ++ cap = vs) (hC : Calls P f vs.toArray w fun e w' => ∃ v, e = .returned v ∧ S v w') (h : ∀ v w', S v w' → K (upd σ dd v) w') : OpW P r n ops ⟨some dd, .call { callee := .value fo, args := ars, argTypes := ts }, t, p, af, none⟩ K σ w := by
  subst ha
  have he : (execOp (ev σ) ⟨some dd, .call { callee := .value fo, args := ars, argTypes := ts }, t, p, af, none⟩).run P w = .ok (.enter f (fv ++ ars.toList.map (ev σ) ++ cap).toArray) w := by
    have h1 : fv.toArray ++ ars.map (ev σ) ++ cap.toArray = (fv ++ ars.toList.map (ev σ) ++ cap).toArray := by cases ars; simp
    simp [execOp, resolve, Deferred.ofValue, hf, invoke, run_callFunc hc]
  exact o_run hk (by rw [he]; exact hC.mono fun e w' ⟨v, e1, hs⟩ => ⟨v, e1, h v w' hs⟩)
end
end Go.Gk
namespace Go.Gk
open Go.RowKit
def bodyOf (f : Func) : Code := f.body.getD .skip
def sL : Code → Code
  | .seq a _ => a
  | c => c
def sR : Code → Code
  | .seq _ b => b
  | c => c
def inB : Code → Code
  | .block _ b => b
  | .loop b => b
  | .scope b => b
  | c => c
def cT : Code → Code
  | .cond _ a _ => a
  | c => c
def cF : Code → Code
  | .cond _ _ b => b
  | c => c
def cO : Code → Operand
  | .cond o _ _ => o
  | _ => .const undef
def rg : Code → Array Oper
  | .region _ ops _ => ops
  | _ => #[]
inductive Kind where
  | seq | region (m : Nat) (draw : Bool) | block (id : Nat) | loop | cond | ret | skip | exit (id : Nat) | range (ps : Array Nat) | other
def kindOf : Code → Kind
  | .seq _ _ => .seq
  | .region _ ops d => .region ops.size d
  | .block id _ => .block id
  | .loop _ => .loop
  | .cond _ _ _ => .cond
  | .ret => .ret
  | .skip => .skip
  | .exit id => .exit id
  | .rangeFunc _ ps _ _ => .range ps
  | _ => .other
def rfO : Code → Operand
  | .rangeFunc g _ _ _ => g
  | _ => .const undef
def rfA : Code → Code
  | .rangeFunc _ _ a _ => a
  | c => c
def rfB : Code → Code
  | .rangeFunc _ _ _ b => b
  | c => c
section
variable {P : Program} {r : Option Nat} {n : Nat} {Q Q' : Exit → Env → World → Prop} {σ : Env} {w : World} {c : Code}
theorem V_seq (hc : kindOf c = .seq) (h : W P r n (sL c) (thenK (W P r n (sR c) Q) Q) σ w) : W P r n c Q σ w := by
  cases c <;> simp [kindOf] at hc
  exact W_seq h
theorem V_cut (hc : kindOf c = .seq) (I : Env → World → Prop) (h : W P r n (sL c) (thenK I Q) σ w) (k : ∀ σ w, I σ w → W P r n (sR c) Q σ w) : W P r n c Q σ w := by
  cases c <;> simp [kindOf] at hc
  exact W_seq_cut I h k
/-- What holds behind this code, once. -/
theorem V_join (I : Env → World → Prop) (h : W P r n c (thenK I Q) σ w) (k : ∀ σ w, I σ w → Q .normal σ w) : W P r n c Q σ w :=
  h.mono fun e σ w hq => by cases e <;> first | exact k _ _ hq | exact hq
theorem V_region {m : Nat} (hc : kindOf c = .region m false) (h : Rg P r n (rg c) (Q .normal) m 0 σ w) : W P r n c Q σ w := by
  cases c <;> simp [kindOf] at hc
  obtain ⟨hm, hd⟩ := hc
  subst hd
  exact W_region hm h
theorem V_draw {m : Nat} (ps : List Nat) (t : Ord) (D : Nat → Prop) (hc : kindOf c = .region m true) (hm : P.follows .mixedOrders = true) (hs : (Region.noSelect (rg c) && (okB (rg c) (Region.before (rg c)) && canOk (rg c) t m (Array.replicate m false))) = true) (h : ∀ w', Drew w w' → CanE P r n (rg c) ps (Agr D) (Q .normal) t σ w') : W P r n c Q σ w := by
  cases c <;> simp [kindOf] at hc
  obtain ⟨h1, hd⟩ := hc
  subst hd
  rw [Bool.and_eq_true, Bool.and_eq_true] at hs
  exact W_draw t D hm hs.1 hs.2.1 (by rw [show Array.size _ = m from h1]; exact hs.2.2) h
theorem V_block {id : Nat} (hc : kindOf c = .block id) (h : W P r n (inB c) (blkK id Q) σ w) : W P r n c Q σ w := by
  cases c <;> simp [kindOf] at hc
  subst hc
  exact W_block h
theorem V_loop {γ : Type} (hc : kindOf c = .loop) (I : γ → Env → World → Prop) (μ : γ → Nat) (g : γ) (h₀ : I g σ w)
    (round : ∀ g σ w, I g σ w → W P r n (inB c) (thenK (fun σ' w' => ∃ g', I g' σ' w' ∧ μ g' < μ g) Q) σ w) : W P r n c Q σ w := by
  cases c <;> simp [kindOf] at hc
  exact W_loop I μ g h₀ round
theorem V_cond {b : Bool} (hc : kindOf c = .cond) (ho : ev σ (cO c) = .bool b) (ht : b = true → W P r n (cT c) Q σ w) (hf : b = false → W P r n (cF c) Q σ w) : W P r n c Q σ w := by
  cases c <;> simp [kindOf] at hc
  exact W_cond ho ht hf
theorem V_true (hc : kindOf c = .cond) (ho : ev σ (cO c) = .bool true) (h : W P r n (cT c) Q σ w) : W P r n c Q σ w := V_cond hc ho (fun _ => h) (fun h => by cases h)
theorem V_false (hc : kindOf c = .cond) (ho : ev σ (cO c) = .bool false) (h : W P r n (cF c) Q σ w) : W P r n c Q σ w := V_cond hc ho (fun h => by cases h) (fun _ => h)
theorem V_ret (hc : kindOf c = .ret) (h : Q .ret σ w) : W P r n c Q σ w := by
  cases c <;> simp [kindOf] at hc
  exact W_ret h
theorem V_skip (hc : kindOf c = .skip) (h : Q .normal σ w) : W P r n c Q σ w := by
  cases c <;> simp [kindOf] at hc
  exact W_skip h
theorem V_exit {id : Nat} (hc : kindOf c = .exit id) (h : Q (.exit id) σ w) : W P r n c Q σ w := by
  cases c <;> simp [kindOf] at hc
  subst hc
  exact W_exit h
end
theorem calls_of {P : Program} {f : FuncId} {fn : Func} {n : Nat} {l : List Value} {w : World} {R : Value → World → Prop} (hf : P.funcs[f]? = some fn) (hb : fn.body.isSome = true) (hn : fn.ntmps = n) (hl : (Nat.ble l.length n && Nat.ble n 1000000) = true)
    (h : W P none n (bodyOf fn) (endQ P fn R) (argEnv l) w) : Calls P f l.toArray w fun e w' => ∃ v, e = .returned v ∧ R v w' := by
  subst hn
  obtain ⟨c, hc⟩ := Option.isSome_iff_exists.1 hb
  have hb2 : bodyOf fn = c := by simp [bodyOf, hc]
  rw [hb2] at h
  rw [Bool.and_eq_true] at hl
  exact calls_of_W hf hc (Nat.le_of_ble_eq_true hl.1) (Nat.le_of_ble_eq_true hl.2) rfl h
/-- A result that lies in memory. -/
theorem res_cell {P : Program} {fn : Func} {a : Tmp} {T : TypeId} {σ : Env} {w : World} {v : Value} {ad : Addr} (h : fn.results = #[.cell a T]) (ha : ev σ (.tmp a) = .pointer (some ad)) (hv : (loadVar T ad).run P w = .ok v w) : Res P fn σ w v := fun tmps ht => by
  have := ht a
  rw [ha, Array.getD_eq_getD_getElem?] at this
  simp [results, h, this, asAddr, hv]
end Go.Gk
namespace Go.Gk
open Go.RowKit
/-- What can be read: a cell's content by its address. -/
abbrev Rd := Addr → Option Value
def Le (rd rd' : Rd) : Prop := ∀ a v, rd a = some v → rd' a = some v
theorem Le.refl (rd : Rd) : Le rd rd := fun _ _ h => h
theorem Le.trans {a b c : Rd} (h : Le a b) (k : Le b c) : Le a c := fun x v hv => k x v (h x v hv)
/-- A kind of data: how many cells, and what they say. -/
structure Kd (α : Type) where
  sz : Nat
  R : Rd → α → List Value → Prop
  len : ∀ {rd x cs}, R rd x cs → cs.length = sz
  one : ∀ {rd x cs}, R rd x cs → cs.all (·.oneCell') = true
  mono : ∀ {rd rd' x cs}, Le rd rd' → R rd x cs → R rd' x cs
/-- A row of elements. -/
def Row {α : Type} (d : Kd α) (rd : Rd) (A : Option Addr) (xs : List α) : Prop :=
  ∀ i x, xs[i]? = some x → ∃ ad cs, A = some ad ∧ d.R rd x cs ∧ ∀ j u, cs[j]? = some u → rd (ad.add (i * d.sz + j)) = some u
section
variable {α : Type} {d : Kd α} {rd rd' : Rd} {A : Option Addr} {xs : List α}
theorem Row.mono (h : Row d rd A xs) (hl : Le rd rd') : Row d rd' A xs := fun i x hx => by
  obtain ⟨ad, cs, hA, hR, hc⟩ := h i x hx
  exact ⟨ad, cs, hA, d.mono hl hR, fun j u hj => hl _ _ (hc j u hj)⟩
theorem Row.get (h : Row d rd A xs) (i : Int) (h0 : 0 ≤ i) (h1 : i < xs.length) :
    ∃ ad x cs, A = some ad ∧ xs[i.toNat]? = some x ∧ d.R rd x cs ∧ ∀ j u, cs[j]? = some u → rd (ad.add (i.toNat * d.sz + j)) = some u := by
  have hi : i.toNat < xs.length := by omega
  obtain ⟨ad, cs, hA, hR, hc⟩ := h i.toNat xs[i.toNat] (List.getElem?_eq_getElem hi)
  exact ⟨ad, _, cs, hA, List.getElem?_eq_getElem hi, hR, hc⟩
theorem Row.nil (d : Kd α) (rd : Rd) (A : Option Addr) : Row d rd A [] := fun i x h => by simp at h
end
def flat {α : Type} (n : Nat) (enc : α → List Value) (hl : ∀ x, (enc x).length = n) (h1 : ∀ x, (enc x).all (·.oneCell') = true) : Kd α where
  sz := n
  R := fun _ x cs => cs = enc x
  len := fun h => by rw [h]; exact hl _
  one := fun h => by rw [h]; exact h1 _
  mono := fun _ h => h
def kInt : Kd Int := flat 1 (fun x => [.int .i64 x]) (fun _ => rfl) (fun _ => rfl)
def kU16 : Kd Int := flat 1 (fun x => [.int .u16 x]) (fun _ => rfl) (fun _ => rfl)
/-- A slice: a list of data. -/
def kSl {α : Type} (d : Kd α) : Kd (List α) where
  sz := 1
  R := fun rd xs cs => ∃ A c, cs = [.slice A xs.length c] ∧ xs.length ≤ c ∧ c ≤ 9223372036854775807 ∧ Row d rd A xs
  len := fun ⟨A, c, h, _⟩ => by rw [h]; rfl
  one := fun ⟨A, c, h, _⟩ => by rw [h]; rfl
  mono := fun hl ⟨A, c, h, h1, h2, h3⟩ => ⟨A, c, h, h1, h2, h3.mono hl⟩
theorem wantedB {o : Oper} {ops : Array Oper} {σ : Env} {j dd : Nat} {q b : Bool} (hg : o.guard = some (j, q)) (hd : (ops[j]?).bind (·.dst) = some dd) (hs : ev σ (.tmp dd) = .bool b) : Region.wanted o (yld ops σ) = (b == q) := by
  simp [Region.wanted, hg, yld, hd, hs]
theorem wanted_yes {o : Oper} {ops : Array Oper} {σ : Env} {j dd : Nat} {q b : Bool} (hg : o.guard = some (j, q)) (hd : (ops[j]?).bind (·.dst) = some dd) (hs : ev σ (.tmp dd) = .bool b) (hb : b = q) : Region.wanted o (yld ops σ) = true := by
  rw [wantedB hg hd hs, hb]; cases q <;> rfl
theorem wanted_no {o : Oper} {ops : Array Oper} {σ : Env} {j dd : Nat} {q b : Bool} (hg : o.guard = some (j, q)) (hd : (ops[j]?).bind (·.dst) = some dd) (hs : ev σ (.tmp dd) = .bool b) (hb : b = !q) : Region.wanted o (yld ops σ) = false := by
  rw [wantedB hg hd hs, hb]; cases q <;> rfl
end Go.Gk
namespace Go.Gk
open Go.RowKit
open Classical in
/-- What can be read of memory h within F. -/
noncomputable def rdF (F : Nat → Prop) (h : Nat → Option Obj) : Rd := fun a => if F a.block then (match h a.block with
  | some (.cells c _ _) => if a.spot.isSome then none else c[a.off]?
  | _ => none) else none
theorem rdF_le {F F' : Nat → Prop} {h h' : Nat → Option Obj} (hf : ∀ b, F b → F' b ∧ h' b = h b) : Le (rdF F h) (rdF F' h') := fun a v hv => by
  unfold rdF at *
  split at hv
  · rename_i hF
    obtain ⟨h1, h2⟩ := hf _ hF
    rw [if_pos h1, h2]
    exact hv
  · cases hv
theorem rdF_cell {F : Nat → Prop} {w : World} : Le (rdF F (hp w)) w.cell? := fun a v hv => by
  unfold rdF at hv
  split at hv
  · exact hv
  · cases hv
/-- Elements laid one behind the other. -/
def Fl {α : Type} (d : Kd α) (rd : Rd) (xs : List α) (inner : List Value) : Prop :=
  inner.length = xs.length * d.sz ∧ ∀ i x, xs[i]? = some x → ∃ cs, d.R rd x cs ∧ ∀ j u, cs[j]? = some u → inner[i * d.sz + j]? = some u
section
variable {α : Type} {d : Kd α} {rd rd' : Rd} {xs ys : List α} {inner inner' : List Value}
theorem Fl.nil (d : Kd α) (rd : Rd) : Fl d rd [] [] := ⟨by simp, fun i x h => by simp at h⟩
theorem Fl.mono (h : Fl d rd xs inner) (hl : Le rd rd') : Fl d rd' xs inner := ⟨h.1, fun i x hx => by
  obtain ⟨cs, hR, hc⟩ := h.2 i x hx
  exact ⟨cs, d.mono hl hR, hc⟩⟩
theorem Fl.append (h : Fl d rd xs inner) (k : Fl d rd ys inner') : Fl d rd (xs ++ ys) (inner ++ inner') := by
  refine ⟨by rw [List.length_append, List.length_append, h.1, k.1, Nat.add_mul], fun i x hx => ?_⟩
  by_cases hi : i < xs.length
  · rw [List.getElem?_append_left hi] at hx
    obtain ⟨cs, hR, hc⟩ := h.2 i x hx
    refine ⟨cs, hR, fun j u hj => ?_⟩
    have := hc j u hj
    rw [List.getElem?_append_left ((List.getElem?_eq_some_iff.1 this).1)]
    exact this
  · rw [List.getElem?_append_right (by omega)] at hx
    obtain ⟨cs, hR, hc⟩ := k.2 _ x hx
    refine ⟨cs, hR, fun j u hj => ?_⟩
    have h1 := hc j u hj
    have h2 : i * d.sz + j = inner.length + ((i - xs.length) * d.sz + j) := by
      rw [h.1, ← Nat.add_assoc, ← Nat.add_mul]
      congr 2
      omega
    rw [h2, List.getElem?_append_right (by omega), Nat.add_sub_cancel_left]
    exact h1
theorem Fl.one (x : α) (cs : List Value) (h : d.R rd x cs) : Fl d rd [x] cs := by
  refine ⟨by rw [d.len h]; simp, fun i y hy => ?_⟩
  cases i with
  | succ i => simp at hy
  | zero =>
    simp at hy
    subst hy
    exact ⟨cs, h, fun j u hj => by rw [Nat.zero_mul, Nat.zero_add]; exact hj⟩
end
def offA (A : Option Addr) (b : Nat) : Prop := ∀ a, A = some a → a.block ≠ b
/-- A slice of one's own. -/
def SA.own {α : Type} (d : Kd α) (e : TypeId) (A : Option Addr) (c : Nat) (xs : List α) : SA where
  p := fun F h => ∃ inner, Fl d (rdF (fun b => F b ∧ offA A b) h) xs inner ∧ (∀ u ∈ inner, u.oneCell' = true) ∧ ((xs = [] ∧ A = none ∧ c = 0) ∨
    ∃ g cur, A = some ⟨g, 0, none⟩ ∧ F g ∧ h g = some (.cells cur e (0, 0)) ∧ xs.length ≤ c ∧ c ≤ 9223372036854775807 ∧ cur.size = c * d.sz ∧ cur.toList.take (xs.length * d.sz) = inner)
  ext := fun hh ⟨inner, h1, h1', h2⟩ => ⟨inner, h1.mono (rdF_le fun b hb => ⟨hb, hh b hb.1⟩), h1', h2.imp id fun ⟨g, cur, hA, hF, hg, r⟩ => ⟨g, cur, hA, hF, (hh g hF).trans hg, r⟩⟩
  mono := fun hf ⟨inner, h1, h1', h2⟩ => ⟨inner, h1.mono (rdF_le fun b hb => ⟨⟨hf b hb.1, hb.2⟩, rfl⟩), h1', h2.imp id fun ⟨g, cur, hA, hF, r⟩ => ⟨g, cur, hA, hf g hF, r⟩⟩
section
variable {α : Type} {d : Kd α} {e : TypeId} {A : Option Addr} {c : Nat} {xs ys : List α} {n0 : Nat} {w0 w w' : World} {L : List SA}
theorem own_nil (H : Hp n0 w0 w L) (d : Kd α) (e : TypeId) : Hp n0 w0 w (SA.own d e none 0 [] :: L) :=
  ⟨H.below, H.size, fun _ => False, fun _ h => h.elim, ⟨[], Fl.nil _ _, (fun _ h => by cases h), .inl ⟨rfl, rfl, rfl⟩⟩, H.sat.mono fun b hb => ⟨hb, id⟩⟩
/-- What is of one's own can be read. -/
theorem own_row (H : Hp n0 w0 w (SA.own d e A c xs :: L)) : Row d w.cell? A xs ∧ xs.length ≤ c ∧ c ≤ 9223372036854775807 := by
  obtain ⟨F, hF, inner, hfl, _, h⟩ := H.head
  rcases h with ⟨rfl, rfl, rfl⟩ | ⟨g, cur, rfl, hg, hh, h1, h2, h3, h4⟩
  · exact ⟨Row.nil _ _ _, by simp, by omega⟩
  · refine ⟨fun i x hx => ?_, h1, h2⟩
    obtain ⟨cs, hR, hc⟩ := hfl.2 i x hx
    refine ⟨_, cs, rfl, d.mono rdF_cell hR, fun j u hj => ?_⟩
    have h5 := hc j u hj
    rw [← h4, List.getElem?_take] at h5
    split at h5
    · have ha : ∀ k, (⟨g, 0, none⟩ : Addr).add k = ⟨g, k, none⟩ := fun k => by unfold Addr.add; split <;> simp_all
      rw [ha, cell_of hh]
      simpa using h5
    · cases h5
end

section
variable {P : Program} {α : Type} {d : Kd α} {A A2 : Option Addr} {c m c2 : Nat} {xs ys : List α} {n0 : Nat} {w0 w : World} {L : List SA} {t ty : TypeId} {s : SlT}
/-- append(v, ys...): B is what the parts beside the row say of the new elements. -/
theorem run_append {B : SA} (ht : sliceT P t = some s) (hs : s.size = d.sz) (hz : s.zero.cells.size = d.sz) (hp0 : 0 < d.sz) (H : Hp n0 w0 w (SA.own d s.e A c xs :: B :: L)) (news : List Value) (hm : ys.length = m)
    (hnews : ∀ j u, news[j]? = some u → ∃ a, A2 = some a ∧ w.cell? (a.add j) = some u) (h1 : ∀ u ∈ news, u.oneCell' = true) (hB : ∀ F h, B.p F h → Fl d (rdF F h) ys news) (hb : (xs.length + m) * s.bytes ≤ 140737488355328) (hl : xs.length + m ≤ 9223372036854775807) :
    ∃ A' c' w', (Builtin.append_ #[t, t] ty #[.slice A xs.length c, .slice A2 m c2]).run P w = .ok (.slice A' (xs ++ ys).length c') w' ∧ Agr (fun b => ∃ a, A = some a ∧ a.block = b) w w' ∧ Hp n0 w0 w' (SA.own d s.e A' c' (xs ++ ys) :: L) := by
  obtain ⟨ht1, i, hi, hz1, hs1, hby⟩ := sliceT_spec ht
  have H2 := H.join
  obtain ⟨F0, hF0, ⟨F, F2, hFF, hF2, ⟨inner, hfl, hone, hown⟩, hBp⟩, hrest⟩ := H2.sat
  have hflB := hB F2 _ hBp
  have hnl : news.length = m * d.sz := by rw [hflB.1, hm]
  have hrow : w.ownsRow n0 s.e d.sz (.slice A xs.length c) xs.length inner := by
    refine ⟨hfl.1, ?_⟩
    rcases hown with ⟨rfl, rfl, rfl⟩ | ⟨g, cur, rfl, hg, hh, h1, h2, h3, h4⟩
    · exact .inl ⟨rfl, rfl⟩
    · exact .inr ⟨g, c, cur, rfl, (hF0 g (hFF g hg)).1, hh, h1, by simpa [maxLen] using h2, h3, h4⟩
  have hA : ∀ a, A = some a → F a.block := by
    rintro a rfl
    rcases hown with ⟨_, h, _⟩ | ⟨g, cur, h, hg, _⟩
    · cases h
    · injection h with h; subst h; exact hg
  -- the source's address: some, or nothing is new
  obtain ⟨v', w', hr, hown', hgr, hat⟩ : ∃ v' w', (Builtin.append_ #[t, t] ty #[.slice A xs.length c, .slice A2 m c2]).run P w = .ok v' w' ∧ w'.ownsRow n0 s.e d.sz v' (xs.length + m) (inner ++ news) ∧ w.grownBy w' (Value.slice A xs.length c).ownBlock ∧ (v'.ownBlock = (Value.slice A xs.length c).ownBlock ∨ v'.ownBlock = some w.heap.size) := by
    cases A2 with
    | some a =>
      obtain ⟨v', w', hr, h2, h3, _, h5⟩ := run_append_own_at (P := P) w n0 t ty s.e i s.zero d.sz s.bytes ht1 hi hz1 (hs1.trans hs) hby hz hp0 _ _ _ hrow a m c2 news hnl (fun j u hj => by
        obtain ⟨a', e, hc⟩ := hnews j u hj
        injection e with e
        subst e
        exact hc) h1 (by simpa [maxLen] using hl) hb H.size
      exact ⟨v', w', hr, h2, h3, h5⟩
    | none =>
      have hn : news = [] := by
        cases news with
        | nil => rfl
        | cons u r => obtain ⟨a, e, _⟩ := hnews 0 u rfl; cases e
      have hm0 : m = 0 := by
        subst hn
        rcases Nat.eq_zero_or_pos m with h | h
        · exact h
        · have := Nat.mul_pos h hp0; simp at hnl; omega
      subst hn hm0
      refine ⟨.slice A xs.length c, w, ?_, by simpa using hrow, World.grownBy.refl w _, .inl rfl⟩
      rcases hown with ⟨rfl, rfl, rfl⟩ | ⟨g, cur, rfl, hg, hh, hxc, _⟩
      · simp [Builtin.append_, run_underlying ht1, sizeOf, typeInfo, hi, Builtin.lenOf, Builtin.firstCells]
      · simp [Builtin.append_, run_underlying ht1, sizeOf, typeInfo, hi, Builtin.lenOf, Builtin.firstCells, hxc, storeCells]
  -- the new value's form
  have hkeep : ∀ b, b < w.heap.size → (∀ a, A = some a → a.block ≠ b) → w'.heap[b]? = w.heap[b]? := fun b hb hn => hgr.block b hb (by
    cases A with
    | none => simp [Value.ownBlock]
    | some a => simp only [Value.ownBlock]; intro e; injection e with e; exact hn a rfl e.symm)
  have hform : ∃ A' c', v' = .slice A' (xs ++ ys).length c' ∧ ((xs ++ ys = [] ∧ A' = none ∧ c' = 0) ∨ ∃ g cur, A' = some ⟨g, 0, none⟩ ∧ ((∃ a, A = some a ∧ a.block = g) ∨ g = w.heap.size) ∧ w'.heap[g]? = some (.cells cur s.e (0, 0)) ∧ (xs ++ ys).length ≤ c' ∧ c' ≤ 9223372036854775807 ∧ cur.size = c' * d.sz ∧ cur.toList.take ((xs ++ ys).length * d.sz) = inner ++ news) := by
    have hlen : (xs ++ ys).length = xs.length + m := by rw [List.length_append, hm]
    rcases hown'.2 with ⟨rfl, h0⟩ | ⟨g, cap, cur, rfl, hbg, hh, h1, h2, h3, h4⟩
    · refine ⟨none, 0, by rw [hlen, h0], .inl ⟨List.eq_nil_of_length_eq_zero (by rw [hlen, h0]), rfl, rfl⟩⟩
    · refine ⟨_, cap, by rw [hlen], .inr ⟨g, cur, rfl, ?_, hh, by rw [hlen]; exact h1, by simpa [maxLen] using h2, h3, by rw [hlen]; exact h4⟩⟩
      rcases hat with hat | hat
      · cases A with
        | none => simp [Value.ownBlock] at hat
        | some a => simp only [Value.ownBlock] at hat; injection hat with hat; exact .inl ⟨a, rfl, hat.symm⟩
      · simp only [Value.ownBlock] at hat; injection hat with hat; exact .inr hat
  obtain ⟨A', c', rfl, hform⟩ := hform
  refine ⟨A', c', w', hr, ⟨hgr.size, fun b hb hn => hkeep b hb fun a ha e => hn ⟨a, ha, e⟩⟩, ?_⟩
  have hlt : ∀ b, F0 b → b < w.heap.size := fun b hb => (hF0 b hb).2
  refine Hp.done H2.below H2.size hF0 hrest hgr.size hgr.os hgr.tape hgr.output (fun b hb hn => hkeep b hb fun a ha e => hn (by rw [← e]; exact hFF _ (hA a ha))) ?_
  -- the new row
  have hoff : ∀ b, F0 b → (∀ a, A = some a → a.block ≠ b) → offA A' b := by
    intro b hb hn a ha
    rcases hform with ⟨_, h, _⟩ | ⟨g, cur, h, hg, _⟩
    · rw [h] at ha; cases ha
    · rw [h] at ha
      injection ha with ha
      subst ha
      rcases hg with ⟨a, ha, hg⟩ | hg
      · intro e; exact hn a ha (hg.trans e)
      · have := hlt b hb; intro e; simp only at e; omega
  refine ⟨inner ++ news, ?_, ?_, ?_⟩
  · refine Fl.append (hfl.mono (rdF_le fun b hb => ⟨⟨.inl (hFF b hb.1), hoff b (hFF b hb.1) hb.2⟩, hkeep b (hlt b (hFF b hb.1)) hb.2⟩)) (hflB.mono (rdF_le fun b hb => ?_))
    obtain ⟨hb1, hb2⟩ := hF2 b hb
    have hn : ∀ a, A = some a → a.block ≠ b := fun a ha e => hb2 (by rw [← e]; exact hA a ha)
    exact ⟨⟨.inl hb1, hoff b hb1 hn⟩, hkeep b (hlt b hb1) hn⟩
  · intro u hu
    rcases List.mem_append.1 hu with hu | hu
    · exact hone u hu
    · exact h1 u hu
  · rcases hform with h | ⟨g, cur, h, hg, r⟩
    · exact .inl h
    · refine .inr ⟨g, cur, h, ?_, r⟩
      rcases hg with ⟨a, ha, rfl⟩ | rfl
      · exact .inl (hFF _ (hA a ha))
      · exact .inr ⟨Nat.le_refl _, (Array.getElem?_eq_some_iff.1 r.1).1⟩
end
end Go.Gk
namespace Go.Gk
open Go.RowKit
theorem Hp.emp {n0 : Nat} {w0 w : World} {A : SA} {L : List SA} (H : Hp n0 w0 w (A :: L)) : Hp n0 w0 w (A :: SA.emp :: L) := by
  obtain ⟨F1, h1, h2, h3⟩ := H.sat
  exact ⟨H.below, H.size, F1, h1, h2, fun _ => False, fun _ h => h.elim, trivial, h3.mono fun b hb => ⟨hb, id⟩⟩
theorem fl_flat {α : Type} {n : Nat} {enc : α → List Value} {hl : ∀ x, (enc x).length = n} {h1 : ∀ x, (enc x).all (·.oneCell') = true} (rd : Rd) : ∀ (ys : List α), Fl (flat n enc hl h1) rd ys (ys.flatMap enc)
  | [] => Fl.nil _ _
  | y :: ys => by
    have := (Fl.one (d := flat n enc hl h1) (rd := rd) y (enc y) rfl).append (fl_flat rd ys)
    simpa using this
theorem mem_flat {α : Type} {enc : α → List Value} (h1 : ∀ x, (enc x).all (·.oneCell') = true) {ys : List α} : ∀ u ∈ ys.flatMap enc, u.oneCell' = true := by
  intro u hu
  obtain ⟨y, _, hy⟩ := List.mem_flatMap.1 hu
  exact List.all_eq_true.1 (h1 y) u hy
theorem get_flat {α : Type} {n : Nat} {enc : α → List Value} (hl : ∀ x, (enc x).length = n) : ∀ (ys : List α) (j : Nat) (u : Value), (ys.flatMap enc)[j]? = some u → ∃ y, ys[j / n]? = some y ∧ (enc y)[j % n]? = some u
  | [], j, u, h => by simp at h
  | y :: ys, j, u, h => by
    rw [List.flatMap_cons] at h
    by_cases hj : j < n
    · rw [List.getElem?_append_left (by rw [hl]; exact hj)] at h
      exact ⟨y, by rw [Nat.div_eq_of_lt hj]; rfl, by rw [Nat.mod_eq_of_lt hj]; exact h⟩
    · rw [List.getElem?_append_right (by rw [hl]; omega), hl] at h
      obtain ⟨z, h1, h2⟩ := get_flat hl ys (j - n) u h
      have hn : 0 < n := by
        rcases Nat.eq_zero_or_pos n with h0 | h0
        · subst h0
          have := List.eq_nil_of_length_eq_zero (hl z)
          rw [this] at h2; simp at h2
        · exact h0
      have e1 : j / n = (j - n) / n + 1 := by rw [Nat.div_eq_sub_div hn (by omega)]
      exact ⟨z, by rw [e1, List.getElem?_cons_succ]; exact h1, by rw [Nat.mod_eq_sub_mod (by omega)]; exact h2⟩
section
variable {P : Program} {r : Option Nat} {n : Nat} {ops : Array Oper} {K : Env → World → Prop} {σ : Env} {w : World} {d : Option Nat} {t xT yT : TypeId} {p : String} {af : Array Edge} {x y c : Operand} {v u : Value} {n0 : Nat} {w0 : World} {L : List SA} {dd : Nat}
variable {α : Type} {A A2 : Option Addr} {cp cp2 : Nat} {xs ys : List α} {s : SlT}
/-- append(v, ys...), the elements without depth. -/
theorem o_append {ts : Array TypeId} {m : Nat} {enc : α → List Value} {hl : ∀ x, (enc x).length = m} {h1 : ∀ x, (enc x).all (·.oneCell') = true} (hk : opOk n ⟨some dd, .call { callee := .builtin .append, args := #[x, y], argTypes := #[t, t] }, xT, p, af, none⟩ = true)
    (ht : sliceT P t = some s) (hs : (Nat.beq s.size m && Nat.beq s.zero.cells.size m && Nat.blt 0 m) = true) (hx : ev σ x = .slice A xs.length cp) (hy : ev σ y = .slice A2 ys.length cp2) (H : Hp n0 w0 w (SA.own (flat m enc hl h1) s.e A cp xs :: L))
    (hrow : Row (flat m enc hl h1) w.cell? A2 ys) (hb : (xs.length + ys.length) * s.bytes ≤ 140737488355328) (hlen : xs.length + ys.length ≤ 9223372036854775807)
    (h : ∀ A' c' w', Agr (fun b => ∃ a, A = some a ∧ a.block = b) w w' → Hp n0 w0 w' (SA.own (flat m enc hl h1) s.e A' c' (xs ++ ys) :: L) → K (upd σ dd (.slice A' (xs ++ ys).length c')) w') :
    OpW P r n ops ⟨some dd, .call { callee := .builtin .append, args := #[x, y], argTypes := #[t, t] }, xT, p, af, none⟩ K σ w := by
  simp only [Bool.and_eq_true] at hs
  obtain ⟨⟨hs1, hs2⟩, hs3⟩ := hs
  have hm : 0 < m := Nat.le_of_ble_eq_true hs3
  obtain ⟨A', c', w', hr, hag, H'⟩ := run_append (d := flat m enc hl h1) (B := SA.emp) (ys := ys) (ty := xT) (c2 := cp2) (A2 := A2) ht (Nat.eq_of_beq_eq_true hs1) (Nat.eq_of_beq_eq_true hs2) hm H.emp (ys.flatMap enc) rfl
    (fun j u hj => by
      obtain ⟨y, h1, h2⟩ := get_flat hl ys j u hj
      obtain ⟨ad, cs, hA, hR, hc⟩ := hrow _ y h1
      refine ⟨ad, hA, ?_⟩
      have := hc (j % m) u (by rw [show cs = enc y from hR]; exact h2)
      rwa [show j / m * (flat m enc hl ‹_›).sz + j % m = j from by rw [Nat.mul_comm]; exact Nat.div_add_mod j m] at this) (mem_flat h1) (fun F h _ => fl_flat _ ys) hb hlen
  exact o_runs hk (by simp [execOp, resolve, invoke, builtin, hx, hy, hr]) (h A' c' w' hag H')
/-- A literal slice. -/
theorem o_lit {m e : Nat} {ps : Array (Nat × Operand)} {cs : List Value} (hk : opOk n ⟨some dd, .buildSlice t m ps, xT, p, af, none⟩ = true)
    (hr : ∀ W, (Instr.buildSlice t m (ps.map fun (i, x) => (i, ev σ x))).run P W = .ok (.slice (some ⟨W.heap.size, 0, none⟩) m m) (W.alloc (.cells cs.toArray e))) (H : Hp n0 w0 w L)
    (h : ∀ b w', Below w.heap.size w w' → Hp n0 w0 w' (SA.cel b cs.toArray e :: L) → K (upd σ dd (.slice (some ⟨b, 0, none⟩) m m)) w') : OpW P r n ops ⟨some dd, .buildSlice t m ps, xT, p, af, none⟩ K σ w :=
  o_runs hk (by simp [execOp, hr]) (h _ _ (alloc_below w _) (H.alloc _))
theorem row_lit1 {D : Kd α} {b e : Nat} {cs : Array Value} {z : α} (hb : w.heap[b]? = some (.cells cs e (0, 0))) (hR : D.R w.cell? z cs.toList) : Row D w.cell? (some ⟨b, 0, none⟩) [z] := by
  intro i x hx
  cases i with
  | succ i => simp at hx
  | zero =>
    simp at hx
    subst hx
    refine ⟨_, cs.toList, rfl, hR, fun j u hj => ?_⟩
    have ha : (⟨b, 0, none⟩ : Addr).add (0 * D.sz + j) = ⟨b, j, none⟩ := by rw [Nat.zero_mul, Nat.zero_add]; unfold Addr.add; split <;> simp_all
    rw [ha, cell_of hb]
    simpa using hj
/-- An element of one block becomes a row of one's own. -/
theorem own_lit1 {D : Kd α} {b e : Nat} {cs : Array Value} {z : α} (H : Hp n0 w0 w (SA.cel b cs e :: L)) (hsz : cs.size = D.sz) (hR : ∀ rd, D.R rd z cs.toList) : Hp n0 w0 w (SA.own D e (some ⟨b, 0, none⟩) 1 [z] :: L) := by
  refine H.weaken fun F hF ⟨hb, ho⟩ => ⟨cs.toList, Fl.one z _ (hR _), fun u hu => List.all_eq_true.1 (D.one (hR w.cell?)) u hu, .inr ⟨b, cs, rfl, hb, ho, by simp, by omega, by simp [hsz], ?_⟩⟩
  rw [List.take_of_length_le (by simp [hsz])]
/-- An empty literal. -/
theorem own_lit0 {D : Kd α} {b e : Nat} (H : Hp n0 w0 w (SA.cel b #[] e :: L)) : Hp n0 w0 w (SA.own D e (some ⟨b, 0, none⟩) 0 [] :: L) :=
  H.weaken fun F hF ⟨hb, ho⟩ => ⟨[], Fl.nil _ _, (fun _ h => by cases h), .inr ⟨b, #[], rfl, hb, ho, by simp, by omega, by simp, by simp⟩⟩
/-- make([]T, m). -/
theorem o_make {D : Kd α} {z : α} {a : Int} {k : IntKind} (hk : opOk n ⟨some dd, .makeSlice t x x, xT, p, af, none⟩ = true) (ht : sliceT P t = some s) (hs : (Nat.beq s.size D.sz && Nat.beq s.zero.cells.size D.sz && Nat.blt 0 D.sz) = true)
    (hR : ∀ rd, D.R rd z s.zero.cells.toList) (hx : ev σ x = .int k a) (h0 : 0 ≤ a) (hb : (s.bytes : Int) * a ≤ 281474976710656) (ha : a ≤ 9223372036854775807) (H : Hp n0 w0 w L)
    (h : ∀ A' c' w', Below w.heap.size w w' → Hp n0 w0 w' (SA.own D s.e A' c' (List.replicate a.toNat z) :: L) → K (upd σ dd (.slice A' a.toNat c')) w') : OpW P r n ops ⟨some dd, .makeSlice t x x, xT, p, af, none⟩ K σ w := by
  simp only [Bool.and_eq_true] at hs
  obtain ⟨⟨hs1, hs2⟩, hs3⟩ := hs
  have e1 := Nat.eq_of_beq_eq_true hs1
  have e2 := Nat.eq_of_beq_eq_true hs2
  have hp0 : 0 < D.sz := Nat.le_of_ble_eq_true hs3
  obtain ⟨ht1, i, hi, hz1, hsz, hby⟩ := sliceT_spec ht
  have hr := run_make (P := P) w t s.e i s.zero ht1 hi hz1 k k a a h0 (Int.le_refl _) (by rw [hby]; exact hb) ha
  rw [hsz, e1] at hr
  have H2 := H.alloc (.cells (madeCells s.zero.cells (a.toNat * D.sz)) s.e)
  have hget : ∀ (q : Nat) (j : Nat) (u : Value), q < a.toNat → s.zero.cells.toList[j]? = some u → (madeCells s.zero.cells (a.toNat * D.sz)).toList[q * D.sz + j]? = some u := by
    intro q j u hq hj
    have hj2 : j < D.sz := by
      have := (List.getElem?_eq_some_iff.1 hj).1
      simpa [e2] using this
    have hlt : q * D.sz + j < a.toNat * D.sz := by
      have : (q + 1) * D.sz ≤ a.toNat * D.sz := Nat.mul_le_mul_right _ hq
      rw [Nat.add_mul, Nat.one_mul] at this
      omega
    have hmod : (q * D.sz + j) % s.zero.cells.size = j := by rw [e2, Nat.add_comm, Nat.add_mul_mod_self_right, Nat.mod_eq_of_lt hj2]
    have hjs : j < s.zero.cells.size := by rw [e2]; exact hj2
    simp only [madeCells, Array.toList_map, Array.toList_range, List.getElem?_map, List.getElem?_range hlt, Option.map_some, hmod]
    rw [getElem!_pos s.zero.cells j hjs]
    simpa [hjs] using hj
  have hlen : (madeCells s.zero.cells (a.toNat * D.sz)).size = a.toNat * D.sz := size_madeCells _ _
  refine o_runs (v := .slice (some ⟨w.heap.size, 0, none⟩) a.toNat a.toNat) (w' := w.alloc (.cells (madeCells s.zero.cells (a.toNat * D.sz)) s.e)) hk (by simp [execOp, hx, hr]) ?_
  have := h (some ⟨w.heap.size, 0, none⟩) a.toNat _ (alloc_below w _) (H2.weaken fun F hF ⟨hb, ho⟩ => ⟨(madeCells s.zero.cells (a.toNat * D.sz)).toList, ⟨by simp [hlen], fun q x hx => ?_⟩, fun u hu => ?_, .inr ⟨_, _, rfl, hb, ho, by simp, by omega, by rw [hlen], ?_⟩⟩)
  · simpa [updo] using this
  · have hq := (List.getElem?_eq_some_iff.1 hx).1
    simp only [List.length_replicate] at hq
    have : x = z := by rw [List.getElem?_replicate, if_pos hq] at hx; injection hx with hx; exact hx.symm
    subst this
    exact ⟨_, hR _, fun j u hj => hget q j u hq hj⟩
  · simp only [madeCells, Array.toList_map, Array.toList_range, List.mem_map, List.mem_range] at hu
    obtain ⟨q, hq, rfl⟩ := hu
    have hpos : 0 < s.zero.cells.size := by rw [e2]; exact hp0
    have hlt : q % s.zero.cells.size < s.zero.cells.size := Nat.mod_lt _ hpos
    rw [getElem!_pos s.zero.cells _ hlt]
    exact List.all_eq_true.1 (D.one (hR w.cell?)) _ (by simp)
  · rw [List.take_of_length_le (by simp [hlen])]
theorem get_setCells : ∀ (vs : List Value) (cs : Array Value) (off j : Nat), (setCells cs off vs)[j]? = if off ≤ j ∧ j < off + vs.length ∧ j < cs.size then vs[j - off]? else cs[j]?
  | [], cs, off, j => by
    rw [setCells, if_neg]
    simp
    omega
  | v :: vs, cs, off, j => by
    rw [setCells, get_setCells vs]
    simp only [Array.size_setIfInBounds, List.length_cons]
    by_cases h1 : off = j
    · subst h1
      by_cases h2 : off < cs.size
      · rw [if_neg (by omega), if_pos ⟨Nat.le_refl _, by omega, h2⟩, Nat.sub_self]
        simp [h2]
      · rw [if_neg (by omega), if_neg (by omega), Array.getElem?_eq_none (by simp; omega), Array.getElem?_eq_none (by omega)]
    · rw [Array.getElem?_setIfInBounds_ne h1]
      by_cases h2 : off ≤ j ∧ j < off + (vs.length + 1) ∧ j < cs.size
      · rw [if_pos ⟨by omega, by omega, h2.2.2⟩, if_pos h2, show j - off = (j - (off + 1)) + 1 from by omega, List.getElem?_cons_succ]
      · rw [if_neg (by omega), if_neg h2]
def setL (l : List Value) (off : Nat) (vs : List Value) : List Value := l.take off ++ vs ++ l.drop (off + vs.length)
theorem get_setL {l : List Value} {off : Nat} {vs : List Value} (hl : off + vs.length ≤ l.length) {j : Nat} {u : Value} (h : (setL l off vs)[j]? = some u) : (if off ≤ j ∧ j < off + vs.length then vs[j - off]? else l[j]?) = some u := by
  unfold setL at h
  by_cases h1 : j < off
  · rw [if_neg (by omega), ← h, List.append_assoc, List.getElem?_append_left (by simp; omega), List.getElem?_take, if_pos h1]
  · by_cases h2 : j < off + vs.length
    · rw [if_pos ⟨by omega, h2⟩, ← h, List.append_assoc, List.getElem?_append_right (by simp; omega), List.getElem?_append_left (by simp; omega)]
      congr 1
      simp; omega
    · rw [if_neg (by omega), ← h, List.getElem?_append_right (by simp; omega), List.getElem?_drop]
      congr 1
      simp; omega
/-- An element of a row of one's own is written. -/
theorem o_set {m i off : Nat} {enc : α → List Value} {hl : ∀ x, (enc x).length = m} {h1 : ∀ x, (enc x).all (·.oneCell') = true} {e : TypeId} {ad : Addr} {x0 x1 : α} {vs : List Value} (hk : opOk n ⟨none, .store xT x y, t, p, af, none⟩ = true) (hs : tySize P xT = some vs.length)
    (hA : A = some ad) (hx : ev σ x = .pointer (some (ad.add (i * m + off)))) (hy : ev σ y = v) (hv : v.cells = vs.toArray) (ho : vs.all (·.oneCell') = true) (hx0 : xs[i]? = some x0) (hx1 : setL (enc x0) off vs = enc x1) (hfit : Nat.ble (off + vs.length) m = true)
    (H : Hp n0 w0 w (SA.own (flat m enc hl h1) e A cp xs :: L)) (h : ∀ w', Agr (fun b => ad.block = b) w w' → Hp n0 w0 w' (SA.own (flat m enc hl h1) e A cp (xs.set i x1) :: L) → K σ w') : OpW P r n ops ⟨none, .store xT x y, t, p, af, none⟩ K σ w := by
  subst hA
  have hfit := Nat.le_of_ble_eq_true hfit
  obtain ⟨F, hF, ⟨inner, hfl, hone, hown⟩, hrest⟩ := H.sat
  rcases hown with ⟨rfl, _⟩ | ⟨g, cur, hA, hg, hh, hc1, hc2, hc3, hc4⟩
  · simp at hx0
  injection hA with hA
  subst hA
  have hi : i < xs.length := (List.getElem?_eq_some_iff.1 hx0).1
  have hm : (flat m enc hl h1).sz = m := rfl
  rw [hm] at hc3 hc4
  have hle : (i + 1) * m ≤ cp * m := Nat.mul_le_mul_right _ (by omega)
  rw [Nat.add_mul, Nat.one_mul] at hle
  have hadd : (⟨g, 0, none⟩ : Addr).add (i * m + off) = ⟨g, i * m + off, none⟩ := by unfold Addr.add; split <;> simp_all
  obtain ⟨w', hr, hw, e1, e2, e3⟩ := run_store (P := P) (xT := xT) (w := w) (off := i * m + off) hs hv ho hh (by rw [hc3]; omega)
  refine o_does (w' := w') hk (by simp [execOp, hx, hy, Instr.storeAt, Instr.sureAddr, hadd, hr]) (h w' (heap_agr hw |>.mono fun b e => e.symm) ?_)
  have hgl : g < w.heap.size := (hF g hg).2
  have hgne : ∀ b, b ≠ g → w'.heap[b]? = w.heap[b]? := fun b hb => by rw [hw, Array.getElem?_setIfInBounds_ne (fun e => hb e.symm)]
  refine Hp.done H.below H.size hF hrest (by rw [hw]; simp) e1 e2 e3 (fun b _ hn => hgne b (fun e => hn (e ▸ hg))) ⟨(setCells cur (i * m + off) vs).toList.take (xs.length * m), ⟨?_, fun k z hz => ?_⟩, fun u hu => ?_, .inr ⟨g, setCells cur (i * m + off) vs, rfl, .inl hg, by simp [hp, hw, hgl], by simpa using hc1, hc2, by rw [size_setCells]; exact hc3, by simp [hm]⟩⟩
  · have : xs.length * m ≤ cp * m := Nat.mul_le_mul_right _ hc1
    have h9 : (setCells cur (i * m + off) vs).toList.length = cp * m := by simp [size_setCells, hc3]
    rw [List.length_take, h9, List.length_set, hm, Nat.min_eq_left this]
  · have hk2 : k < xs.length := by simpa using (List.getElem?_eq_some_iff.1 hz).1
    refine ⟨enc z, rfl, fun j u hj => ?_⟩
    have hj2 : j < m := by have := (List.getElem?_eq_some_iff.1 hj).1; rwa [hl] at this
    have hkm : k * m + j < xs.length * m := by
      have : (k + 1) * m ≤ xs.length * m := Nat.mul_le_mul_right _ hk2
      rw [Nat.add_mul, Nat.one_mul] at this
      omega
    rw [hm, List.getElem?_take, if_pos hkm, Array.getElem?_toList, get_setCells]
    by_cases hki : k = i
    · subst hki
      have hzz : z = x1 := by rw [List.getElem?_set_self hi] at hz; injection hz with hz; exact hz.symm
      subst hzz
      rw [← hx1] at hj
      have h5 := get_setL (by rw [hl]; exact hfit) hj
      have hcz : k * m + j < cur.size := by rw [hc3]; omega
      by_cases hin : off ≤ j ∧ j < off + vs.length
      · rw [if_pos hin] at h5
        rw [if_pos ⟨by omega, by omega, hcz⟩, ← h5]
        congr 1
        omega
      · rw [if_neg hin] at h5
        rw [if_neg (by omega)]
        obtain ⟨cs, hR, hc⟩ := hfl.2 k x0 hx0
        have h6 := hc j u (by rw [show cs = enc x0 from hR]; exact h5)
        rw [← hc4, List.getElem?_take] at h6
        split at h6
        · simpa [hm] using h6
        · cases h6
    · rw [List.getElem?_set_ne (Ne.symm hki)] at hz
      obtain ⟨cs, hR, hc⟩ := hfl.2 k z hz
      have h6 := hc j u (by rw [show cs = enc z from hR]; exact hj)
      rw [← hc4, List.getElem?_take] at h6
      split at h6
      · rw [if_neg]
        · simpa [hm] using h6
        · rintro ⟨h7, h8, _⟩
          rcases Nat.lt_or_gt_of_ne hki with hlt | hgt
          · have : (k + 1) * m ≤ i * m := Nat.mul_le_mul_right _ hlt
            rw [Nat.add_mul, Nat.one_mul] at this
            omega
          · have : (i + 1) * m ≤ k * m := Nat.mul_le_mul_right _ hgt
            rw [Nat.add_mul, Nat.one_mul] at this
            omega
      · cases h6
  · obtain ⟨j, hj⟩ := List.mem_iff_getElem?.1 hu
    rw [List.getElem?_take] at hj
    split at hj
    · rename_i hjl
      rw [Array.getElem?_toList, get_setCells] at hj
      split at hj
      · exact List.all_eq_true.1 ho u (List.mem_of_getElem? hj)
      · refine hone u (List.mem_of_getElem? (i := j) ?_)
        rw [← hc4, List.getElem?_take, if_pos hjl]
        simpa using hj
    · cases hj
end
end Go.Gk
namespace Go.Gk
open Go.RowKit
/-- The blocks for the deferred calls of loops over functions. -/
def SA.defs (ds : List Nat) : SA := ⟨fun F h => ds.Nodup ∧ ∀ D ∈ ds, F D ∧ h D = some (.deferred (some [])), fun hh ⟨h1, h2⟩ => ⟨h1, fun D hD => ⟨(h2 D hD).1, (hh _ (h2 D hD).1).trans (h2 D hD).2⟩⟩, fun hf ⟨h1, h2⟩ => ⟨h1, fun D hD => ⟨hf _ (h2 D hD).1, (h2 D hD).2⟩⟩⟩
section
variable {n0 : Nat} {w0 w w' : World} {L : List SA} {ds : List Nat} {D : Nat}
theorem defs_nil (H : Hp n0 w0 w L) : Hp n0 w0 w (SA.defs [] :: L) :=
  ⟨H.below, H.size, fun _ => False, fun _ h => h.elim, ⟨List.nodup_nil, fun _ h => by cases h⟩, H.sat.mono fun b hb => ⟨hb, id⟩⟩
theorem defs_cons (H : Hp n0 w0 w (SA.blk D (.deferred (some [])) :: SA.defs ds :: L)) : Hp n0 w0 w (SA.defs (D :: ds) :: L) := by
  have H2 := H.join
  refine H2.weaken fun F hF ⟨F1, F2, h1, h2, ⟨h3, h4⟩, h5, h6⟩ => ⟨List.nodup_cons.2 ⟨fun hD => (h2 D (h6 D hD).1).2 h3, h5⟩, fun E hE => ?_⟩
  rcases List.mem_cons.1 hE with rfl | hE
  · exact ⟨h1 _ h3, h4⟩
  · exact ⟨(h2 E (h6 E hE).1).1, (h6 E hE).2⟩
theorem defs_taken : ∀ (ds : List Nat) {w : World} {L : List SA}, Hp n0 w0 w (SA.defs ds :: L) → ∃ w', Taken ds w w' ∧ Hp n0 w0 w' L
  | [], w, L, H => ⟨w, rfl, H.drop⟩
  | D :: ds, w, L, H => by
    obtain ⟨F, hF, ⟨hn, hall⟩, hrest⟩ := H.sat
    obtain ⟨hnD, hn2⟩ := List.nodup_cons.1 hn
    obtain ⟨hFD, hD⟩ := hall D List.mem_cons_self
    have hb := hF D hFD
    let w1 : World := { w with heap := w.heap.setIfInBounds D (.deferred none) }
    have H1 : Hp n0 w0 w1 (SA.defs ds :: L) := by
      refine Hp.done H.below H.size hF hrest (by simp [w1]) rfl rfl rfl (fun b _ hnb => ?_) ⟨hn2, fun E hE => ?_⟩
      · simp only [w1]
        rw [Array.getElem?_setIfInBounds_ne]
        rintro rfl
        exact hnb hFD
      · obtain ⟨h1, h2⟩ := hall E (List.mem_cons_of_mem _ hE)
        refine ⟨.inl h1, ?_⟩
        simp only [hp, w1]
        rw [Array.getElem?_setIfInBounds_ne]
        · exact h2
        · rintro rfl; exact hnD hE
    obtain ⟨w', ht, H'⟩ := defs_taken ds H1
    exact ⟨w', ⟨hD, ht⟩, H'⟩
end
section
variable {P : Program} {r : Option Nat} {n : Nat} {ops : Array Oper} {K : Env → World → Prop} {σ : Env} {w : World} {xT : TypeId} {p : String} {af : Array Edge} {n0 : Nat} {w0 : World} {L : List SA}
/-- A call of yield, loop l: the round goes on, and K holds. -/
def Yields (P : Program) (l : Nat) (v : Value) (w : World) (K : World → Prop) : Prop :=
  ∃ rec : Loop, w.heap[l]? = some (.loop rec) ∧ rec.params.size = 1 ∧ RoundIn (fence none) 0 P l rec.fn ((rec.params.zip #[v]).foldl (fun tmps (t, a) => tmps.setIfInBounds t a) rec.tmps) rec.assign rec.body w fun e w' => e = .returned (.bool true) ∧ K w'
theorem Yields.mono {l : Nat} {v : Value} {K K' : World → Prop} (h : Yields P l v w K) (hk : ∀ w, K w → K' w) : Yields P l v w K' := by
  obtain ⟨rec, h1, h2, h3⟩ := h
  exact ⟨rec, h1, h2, h3.mono fun e w' ⟨he, hq⟩ => ⟨he, hk _ hq⟩⟩
theorem o_yield {dd l : Nat} {fo x : Operand} {ts : Array TypeId} {v : Value} (hk : opOk n ⟨some dd, .call { callee := .value fo, args := #[x], argTypes := ts }, xT, p, af, none⟩ = true) (hf : ev σ fo = .func (.yield l) #[] #[]) (hx : ev σ x = v)
    (hy : Yields P l v w fun w' => K (upd σ dd (.bool true)) w') : OpW P r n ops ⟨some dd, .call { callee := .value fo, args := #[x], argTypes := ts }, xT, p, af, none⟩ K σ w := by
  obtain ⟨rec, h1, h2, h3⟩ := hy
  have hr : (execOp (ev σ) ⟨some dd, .call { callee := .value fo, args := #[x], argTypes := ts }, xT, p, af, none⟩).run P w = .ok (.round l rec.fn ((rec.params.zip #[v]).foldl (fun tmps (t, a) => tmps.setIfInBounds t a) rec.tmps) rec.assign rec.body) w := by
    simp [execOp, resolve, Deferred.ofValue, hf, hx, invoke, Instr.yield, Instr.getLoop, getObj, Sem.run, h1, h2]
  refine o_run hk ?_
  rw [hr]
  exact h3.mono fun e w' ⟨he, hq⟩ => ⟨_, he, hq⟩
/-- A function that yields xs, one behind the other: whatever the rounds keep (C), beside its own memory (I0, then I1). -/
def IterC {α : Type} (P : Program) (F : FuncId) (fv cap : List Value) (xs : List α) (enc : α → Value) (I0 I1 : SA) : Prop :=
  ∀ (C : List α → SA) (l : Nat) (n0 : Nat) (w0 w : World) (L : List SA),
    (∀ pre x post L w, xs = pre ++ x :: post → Hp n0 w0 w (C pre :: L) → Yields P l (enc x) w fun w' => Hp n0 w0 w' (C (pre ++ [x]) :: L)) →
    Hp n0 w0 w (C [] :: I0 :: L) → Calls P F (fv ++ [Value.func (.yield l) #[] #[]] ++ cap).toArray w fun e w' => ∃ v, e = .returned v ∧ Hp n0 w0 w' (C xs :: I1 :: L)
/-- The same, in one frame. -/
def IterN {α : Type} (P : Program) (F : FuncId) (fv cap : List Value) (xs : List α) (enc : α → Value) (I0 I1 : SA) (n0 : Nat) (w0 : World) : Prop :=
  ∀ (C : List α → SA) (l : Nat) (w : World) (L : List SA),
    (∀ pre x post L w, xs = pre ++ x :: post → Hp n0 w0 w (C pre :: L) → Yields P l (enc x) w fun w' => Hp n0 w0 w' (C (pre ++ [x]) :: L)) →
    Hp n0 w0 w (C [] :: I0 :: L) → Calls P F (fv ++ [Value.func (.yield l) #[] #[]] ++ cap).toArray w fun e w' => ∃ v, e = .returned v ∧ Hp n0 w0 w' (C xs :: I1 :: L)
theorem IterC.at {α : Type} {P : Program} {F : FuncId} {fv cap : List Value} {xs : List α} {enc : α → Value} {I0 I1 : SA} (h : IterC P F fv cap xs enc I0 I1) (n0 : Nat) (w0 : World) : IterN P F fv cap xs enc I0 I1 n0 w0 := fun C l w L => h C l n0 w0 w L
def onlyN (K : Env → World → Prop) : Exit → Env → World → Prop
  | .normal => K
  | _ => fun _ _ => False
theorem W_range {α : Type} {g : Operand} {pt : Nat} {assign body : Code} {F : FuncId} {fv cap : List Value} {xs : List α} {enc : α → Value} {I0 I1 : SA} {ds : List Nat} {Q : Exit → Env → World → Prop} (C : List α → SA) (Ax : α → Env → SA) (hpt : pt < n)
    (hg : ev σ g = .func (.func F) fv.toArray cap.toArray) (hF : callable P F = true) (hds : σ 1000000 = encD ds) (hit : IterN P F fv cap xs enc I0 I1 n0 w0) (H : Hp n0 w0 w (C [] :: I0 :: SA.defs ds :: L))
    (hassign : ∀ l pre x post L w, xs = pre ++ x :: post → Hp n0 w0 w (C pre :: L) → W P (some l) n assign (onlyN fun σ1 w1 => Hp n0 w0 w1 (Ax x σ1 :: C pre :: L) ∧
      ∀ L w2, Hp n0 w0 w2 (Ax x σ1 :: C pre :: L) → W P (some l) n body (onlyN fun _ w3 => Hp n0 w0 w3 (C (pre ++ [x]) :: L)) σ1 w2) (upd (upd σ 1000000 undef) pt (enc x)) w)
    (hQ : ∀ D w', Hp n0 w0 w' (C xs :: I1 :: SA.defs (D :: ds) :: L) → Q .normal (upd σ 1000000 (encD (D :: ds))) w') : W P none n (.rangeFunc g #[pt] assign body) Q σ w := by
  intro a ha
  refine wpIn_rangeFunc fun fn _ => ?_
  let wd := w.alloc (.deferred (some []))
  let rec0 : Loop := { state := .ready, pending := none, fn, tmps := a.tmps, params := #[pt], assign, body, defers := w.heap.size }
  let w1 := wd.alloc (.loop rec0)
  have hsz : wd.heap.size = w.heap.size + 1 := alloc_size _ _
  refine ⟨w.heap.size + 1, [mark w.heap.size], w1, { target := .fn (.func F) cap.toArray, args := fv.toArray ++ #[Value.func (.yield (w.heap.size + 1)) #[] #[]] }, w1, F, (fv ++ [Value.func (.yield (w.heap.size + 1)) #[] #[]] ++ cap).toArray, w1, ?_, ?_, fun _ _ => trivial, ?_, fence_depth none 0, callsIn_fence ?_⟩
  · simp [Instr.enterLoop, fence, Fence.wide, newObj, Sem.run, w1, wd, World.alloc_eq, rec0, mark]
  · rw [ha.eval]; simp [rangeCall, resolve, Deferred.ofValue, hg]; rfl
  · have h1 : fv.toArray ++ #[Value.func (.yield (w.heap.size + 1)) #[] #[]] ++ cap.toArray = (fv ++ [Value.func (.yield (w.heap.size + 1)) #[] #[]] ++ cap).toArray := by simp
    simp only [invoke]
    rw [h1, run_callFunc hF]
  · have Hd : Hp n0 w0 wd (SA.blk w.heap.size (.deferred (some [])) :: C [] :: I0 :: SA.defs ds :: L) := H.alloc _
    have Hl : Hp n0 w0 w1 (SA.blk (w.heap.size + 1) (.loop rec0) :: SA.blk w.heap.size (.deferred (some [])) :: C [] :: I0 :: SA.defs ds :: L) := by
      have := Hd.alloc (.loop rec0)
      rwa [hsz] at this
    -- the iterator sees the loop's record as a part of what the rounds keep
    have H3 : Hp n0 w0 w1 (SA.star (SA.blk (w.heap.size + 1) (.loop rec0)) (C []) :: I0 :: SA.blk w.heap.size (.deferred (some [])) :: SA.defs ds :: L) := by
      have h1 := ((Hl.pull 2 rfl rfl).pull 1 rfl rfl).join
      exact h1.perm (List.Perm.cons _ (List.Perm.swap _ _ _))
    refine (hit (fun pre => SA.star (SA.blk (w.heap.size + 1) (.loop rec0)) (C pre)) (w.heap.size + 1) w1 _ (fun pre x post L' w2 hx H4 => ?_) H3).mono fun e w' ⟨v, he, H5⟩ => ?_
    · -- one round
      have H5 := H4.split
      have hl : w2.heap[w.heap.size + 1]? = some (.loop rec0) := H5.rd 0 rfl
      refine ⟨rec0, hl, rfl, roundIn_of_wpIn trivial ?_⟩
      have H6 : Hp n0 w0 w2 (C pre :: SA.blk (w.heap.size + 1) (.loop rec0) :: L') := H5.pull 1 rfl rfl
      have hat : At n (upd (upd σ 1000000 undef) pt (enc x)) { tmps := a.tmps.setIfInBounds pt (enc x), defers := [] } := by
        have h0 : At n (upd σ 1000000 undef) { tmps := a.tmps, defers := [] } := ⟨ha.size, ha.lt, fun t => by
          rw [ha.get t]
          simp only [ev, upd]
          split <;> rfl, rfl⟩
        exact h0.put (d := some pt) hpt (enc x)
      have hfold : (((rec0.params.zip #[enc x]).foldl (fun tmps (t, a) => tmps.setIfInBounds t a) rec0.tmps)) = a.tmps.setIfInBounds pt (enc x) := by simp [rec0]
      rw [hfold]
      refine wpIn_mono (hassign (w.heap.size + 1) pre x post _ w2 hx H6 _ hat) fun e a3 w3 ⟨σ3, ha3, hq⟩ => ?_
      cases e <;> simp only [onlyN] at hq <;> first | exact hq.elim | skip
      obtain ⟨H7, hbody⟩ := hq
      have H8 : Hp n0 w0 w3 (SA.blk (w.heap.size + 1) (.loop rec0) :: Ax x σ3 :: C pre :: L') := H7.pull 2 rfl rfl
      have hl3 : w3.heap[w.heap.size + 1]? = some (.loop rec0) := H8.rd 0 rfl
      let w4 : World := { w3 with heap := w3.heap.setIfInBounds (w.heap.size + 1) (.loop { rec0 with state := .busy }) }
      have H9 : Hp n0 w0 w4 (SA.blk (w.heap.size + 1) (.loop { rec0 with state := .busy }) :: Ax x σ3 :: C pre :: L') := H8.setBlk rfl rfl rfl rfl
      refine ⟨w4, by simp [Instr.beginRound, Instr.getLoop, getObj, setObj, Sem.run, hl3, w4, rec0], ?_⟩
      have H10 : Hp n0 w0 w4 (Ax x σ3 :: C pre :: SA.blk (w.heap.size + 1) (.loop { rec0 with state := .busy }) :: L') := (H9.pull 2 rfl rfl).pull 2 rfl rfl
      refine wpIn_mono (hbody _ w4 H10 a3 ha3) fun e a5 w5 ⟨σ5, ha5, hq⟩ => ?_
      cases e <;> simp only [onlyN] at hq <;> first | exact hq.elim | skip
      have H11 : Hp n0 w0 w5 (SA.blk (w.heap.size + 1) (.loop { rec0 with state := .busy }) :: C (pre ++ [x]) :: L') := hq.pull 1 rfl rfl
      have hl5 : w5.heap[w.heap.size + 1]? = some (.loop { rec0 with state := .busy }) := H11.rd 0 rfl
      have H12 : Hp n0 w0 { w5 with heap := w5.heap.setIfInBounds (w.heap.size + 1) (.loop rec0) } (SA.blk (w.heap.size + 1) (.loop rec0) :: C (pre ++ [x]) :: L') := H11.setBlk rfl rfl rfl rfl
      exact ⟨.bool true, { w5 with heap := w5.heap.setIfInBounds (w.heap.size + 1) (.loop rec0) }, by simp [Instr.endRound, Instr.getLoop, getObj, setObj, Sem.run, hl5, rec0], rfl, H12.join⟩
    · -- behind it
      subst he
      have H6 := H5.split
      have hl : w'.heap[w.heap.size + 1]? = some (.loop rec0) := H6.rd 0 rfl
      let w4 : World := { w' with heap := w'.heap.setIfInBounds (w.heap.size + 1) (.loop { rec0 with state := .exhausted }) }
      refine ⟨none, w4, by simp [Instr.endLoop, Instr.getLoop, getObj, setObj, Sem.run, hl, w4, rec0], ?_⟩
      have H7 : Hp n0 w0 w4 (SA.blk (w.heap.size + 1) (.loop { rec0 with state := .exhausted }) :: C xs :: I1 :: SA.blk w.heap.size (.deferred (some [])) :: SA.defs ds :: L) := H6.setBlk rfl rfl rfl rfl
      have H8 : Hp n0 w0 w4 (SA.defs (w.heap.size :: ds) :: C xs :: I1 :: L) := defs_cons ((H7.drop.pull 3 rfl rfl).pull 3 rfl rfl)
      have H9 : Hp n0 w0 w4 (C xs :: I1 :: SA.defs (w.heap.size :: ds) :: L) := (H8.pull 2 rfl rfl).pull 2 rfl rfl
      refine ⟨upd σ 1000000 (encD (w.heap.size :: ds)), ⟨ha.size, ha.lt, fun t => ?_, ?_⟩, hQ _ _ H9⟩
      · rw [ha.get t]
        simp only [ev, upd]
        split <;> rfl
      · show [mark w.heap.size] ++ a.defers = (decD (upd σ 1000000 (encD (w.heap.size :: ds)) 1000000)).map mark
        rw [show upd σ 1000000 (encD (w.heap.size :: ds)) 1000000 = encD (w.heap.size :: ds) from if_pos rfl, decD_encD, ha.defers, hds, decD_encD]
        rfl
theorem V_range {α : Type} {c : Code} {pt : Nat} {F : FuncId} {fv cap : List Value} {xs : List α} {enc : α → Value} {I0 I1 : SA} {ds : List Nat} {Q : Exit → Env → World → Prop} (hc : kindOf c = .range #[pt]) (C : List α → SA) (Ax : α → Env → SA) (hpt : Nat.blt pt n = true)
    (hg : ev σ (rfO c) = .func (.func F) fv.toArray cap.toArray) (hF : callable P F = true) (hds : σ 1000000 = encD ds) (hit : IterN P F fv cap xs enc I0 I1 n0 w0) (H : Hp n0 w0 w (C [] :: I0 :: SA.defs ds :: L))
    (hassign : ∀ l pre x post L w, xs = pre ++ x :: post → Hp n0 w0 w (C pre :: L) → W P (some l) n (rfA c) (onlyN fun σ1 w1 => Hp n0 w0 w1 (Ax x σ1 :: C pre :: L) ∧
      ∀ L w2, Hp n0 w0 w2 (Ax x σ1 :: C pre :: L) → W P (some l) n (rfB c) (onlyN fun _ w3 => Hp n0 w0 w3 (C (pre ++ [x]) :: L)) σ1 w2) (upd (upd σ 1000000 undef) pt (enc x)) w)
    (hQ : ∀ D w', Hp n0 w0 w' (C xs :: I1 :: SA.defs (D :: ds) :: L) → Q .normal (upd σ 1000000 (encD (D :: ds))) w') : W P none n c Q σ w := by
  cases c <;> simp [kindOf] at hc
  subst hc
  exact W_range C Ax (Nat.le_of_ble_eq_true hpt) hg hF hds hit H hassign hQ
end
end Go.Gk
namespace Go.Gk
open Go.RowKit
section
variable {P : Program} {r : Option Nat} {n : Nat} {ops : Array Oper} {ps : List Nat} {K : Env → World → Prop} {σ : Env} {w : World} {G : World → World → Prop} {s t u : Ord} {i j k : Nat} {o o' o2 : Oper} {d : Option Nat} {op : Op} {T : TypeId} {p : String} {af : Array Edge} {q : Nat × Bool}
theorem o_g (hw : Region.wanted ⟨d, op, T, p, af, some q⟩ (yld ops σ) = true) (h : OpW P r n ops ⟨d, op, T, p, af, none⟩ K σ w) : OpW P r n ops ⟨d, op, T, p, af, some q⟩ K σ w :=
  ⟨h.1, by
    rw [if_pos hw]
    have := h.2
    rw [if_pos (wanted_none rfl _)] at this
    exact this⟩
theorem c_l2 (ho : ops[i]? = some o) (ho' : ops[j]? = some o') (h : OpW P r n ops o (fun σ' w' => (exempt ops ps i = true ∨ G w w') ∧ CanE P r n ops ps G K s σ' w') σ w) (h' : OpW P r n ops o' (fun σ' w' => (exempt ops ps j = true ∨ G w w') ∧ CanE P r n ops ps G K t σ' w') σ w) :
    CanE P r n ops ps G K (.l2 i j s t) σ w := ⟨⟨o, ho, h⟩, o', ho', h'⟩
theorem c_l3 (ho : ops[i]? = some o) (ho' : ops[j]? = some o') (ho2 : ops[k]? = some o2) (h : OpW P r n ops o (fun σ' w' => (exempt ops ps i = true ∨ G w w') ∧ CanE P r n ops ps G K s σ' w') σ w) (h' : OpW P r n ops o' (fun σ' w' => (exempt ops ps j = true ∨ G w w') ∧ CanE P r n ops ps G K t σ' w') σ w)
    (h2 : OpW P r n ops o2 (fun σ' w' => (exempt ops ps k = true ∨ G w w') ∧ CanE P r n ops ps G K u σ' w') σ w) : CanE P r n ops ps G K (.l3 i j k s t u) σ w := ⟨⟨o, ho, h⟩, ⟨o', ho', h'⟩, o2, ho2, h2⟩
end
theorem o_callp {P : Program} {r : Option Nat} {n : Nat} {ops : Array Oper} {K : Env → World → Prop} {σ : Env} {w : World} {t : TypeId} {p : String} {af : Array Edge} {dd : Nat} {f : FuncId} {ars : Array Operand} {ts : Array TypeId} {fo : Operand} {fv cap xs : List Value} {S : Value → World → Prop} (hk : opOk n ⟨some dd, .call { callee := .value fo, args := ars, argTypes := ts }, t, p, af, none⟩ = true) (hf : ev σ fo = .func (.func f) fv.toArray cap.toArray) (hc : callable P f = true)
    (ha : ars.toList.map (ev σ) = xs) (hC : Calls P f (fv ++ xs ++ cap).toArray w fun e w' => ∃ v, e = .returned v ∧ S v w') (h : ∀ v w', S v w' → K (upd σ dd v) w') : OpW P r n ops ⟨some dd, .call { callee := .value fo, args := ars, argTypes := ts }, t, p, af, none⟩ K σ w :=
  o_call hk hf hc (by rw [ha]) hC h
theorem mapc {σ : Env} {a : Operand} {x : Value} {l : List Operand} {xs : List Value} (h : ev σ a = x) (k : l.map (ev σ) = xs) : (a :: l).map (ev σ) = x :: xs := by rw [List.map_cons, h, k]
theorem res_ct {P : Program} {fn : Func} {a u : Tmp} {T : TypeId} {σ : Env} {w : World} {v x : Value} {ad : Addr} (h : fn.results = #[.cell a T, .tmp u]) (ha : ev σ (.tmp a) = .pointer (some ad)) (hv : (loadVar T ad).run P w = .ok v w) (hx : ev σ (.tmp u) = x) : Res P fn σ w (.tuple #[v, x]) := fun tmps ht => by
  have h1 := ht a
  have h2 := ht u
  rw [ha, Array.getD_eq_getD_getElem?] at h1
  rw [hx, Array.getD_eq_getD_getElem?] at h2
  simp [results, h, h1, h2, asAddr, hv]
theorem row_litF {α : Type} {n : Nat} {enc : α → List Value} {hl : ∀ x, (enc x).length = n} {h1 : ∀ x, (enc x).all (·.oneCell') = true} {w : World} {b e : Nat} {cs : Array Value} {zs : List α} (hb : w.heap[b]? = some (.cells cs e (0, 0))) (hv : cs.toList = zs.flatMap enc) : Row (flat n enc hl h1) w.cell? (some ⟨b, 0, none⟩) zs := by
  intro i x hx
  refine ⟨_, enc x, rfl, rfl, fun j u hj => ?_⟩
  have ha : (⟨b, 0, none⟩ : Addr).add (i * n + j) = ⟨b, i * n + j, none⟩ := by unfold Addr.add; split <;> simp_all
  show w.cell? ((⟨b, 0, none⟩ : Addr).add (i * n + j)) = _
  rw [ha, cell_of hb]
  obtain ⟨cs', hR, hc⟩ := (fl_flat (hl := hl) (h1 := h1) (fun _ => none) zs).2 i x hx
  have := hc j u (by rw [show cs' = enc x from hR]; exact hj)
  rw [← hv] at this
  simpa [flat] using this
end Go.Gk
namespace Go.Gk
open Go.RowKit
theorem add_zero (a : Addr) : a.add 0 = a := by
  obtain ⟨b, o, s⟩ := a
  unfold Addr.add
  cases s <;> simp
/-- Where a slice goes on that is cut at l. -/
def cutA (A : Option Addr) (cap l s : Nat) : Option Addr := if cap = l then A else A.map (·.add (l * s))
theorem cutA_zero (A : Option Addr) (cap s : Nat) : cutA A cap 0 s = A := by
  unfold cutA
  split
  · rfl
  · cases A
    · rfl
    · simp [add_zero]
theorem row_none {α : Type} {d : Kd α} {rd : Rd} {xs : List α} (h : Row d rd none xs) : xs = [] := by
  cases xs with
  | nil => rfl
  | cons x xs => obtain ⟨ad, cs, h1, _⟩ := h 0 x rfl; cases h1
section
variable {P : Program} {r : Option Nat} {n : Nat} {ops : Array Oper} {K : Env → World → Prop} {σ : Env} {w : World} {d : Option Nat} {t xT yT : TypeId} {p : String} {af : Array Edge} {g : Option (Nat × Bool)} {x lo hi mx : Operand} {A : Option Addr} {m cap : Nat} {k k' k2 : IntKind} {s : SlT} {a b c : Int}
theorem ex_sliceL (ht : sliceT P xT = some s) (hx : ev σ x = .slice A m cap) (hl : ev σ lo = .int k a) (h0 : 0 ≤ a) (h1 : a ≤ m) {q : Nat} (hn : q = m - a.toNat) : Ex P σ ⟨d, .slice xT x (some lo) none none, t, p, af, g⟩ w (.slice (cutA A cap a.toNat s.size) q (cap - a.toNat)) := by
  subst hn
  obtain ⟨ht1, i, hi, hz1, hs1, hby⟩ := sliceT_spec ht
  have e : (a.toNat : Int) = a := Int.toNat_of_nonneg h0
  simp [Ex, execOp, hx, hl, Instr.sliceAt, run_underlying ht1, Instr.slice, Instr.sliceBounds, run_sliceBound, sizeOf, typeInfo, hi, hs1, h0, h1, cutA]
theorem ex_sliceH (ht : sliceT P xT = some s) (hx : ev σ x = .slice A m cap) (hh : ev σ hi = .int k b) (h0 : 0 ≤ b) (h1 : b ≤ cap) {q : Nat} (hn : q = b.toNat) : Ex P σ ⟨d, .slice xT x none (some hi) none, t, p, af, g⟩ w (.slice A q cap) := by
  subst hn
  obtain ⟨ht1, i, hi, hz1, hs1, hby⟩ := sliceT_spec ht
  have := cutA_zero A cap s.size
  unfold cutA at this
  simp [Ex, execOp, hx, hh, Instr.sliceAt, run_underlying ht1, Instr.slice, Instr.sliceBounds, run_sliceBound, sizeOf, typeInfo, hi, hs1, h0, h1]
  simpa using this
theorem ex_sliceLH (ht : sliceT P xT = some s) (hx : ev σ x = .slice A m cap) (hl : ev σ lo = .int k a) (hh : ev σ hi = .int k' b) (h0 : 0 ≤ a) (h1 : a ≤ b) (h2 : b ≤ cap) : Ex P σ ⟨d, .slice xT x (some lo) (some hi) none, t, p, af, g⟩ w (.slice (cutA A cap a.toNat s.size) (b.toNat - a.toNat) (cap - a.toNat)) := by
  obtain ⟨ht1, i, hi, hz1, hs1, hby⟩ := sliceT_spec ht
  have e : (b.toNat : Int) = b := Int.toNat_of_nonneg (by omega)
  simp [Ex, execOp, hx, hl, hh, Instr.sliceAt, run_underlying ht1, Instr.slice, Instr.sliceBounds, run_sliceBound, sizeOf, typeInfo, hi, hs1, h0, h1, h2, cutA, (by omega : 0 ≤ b), e]
theorem ex_sliceLHM (ht : sliceT P xT = some s) (hx : ev σ x = .slice A m cap) (hl : ev σ lo = .int k a) (hh : ev σ hi = .int k' b) (hm : ev σ mx = .int k2 c) (h0 : 0 ≤ a) (h1 : a ≤ b) (h2 : b ≤ c) (h3 : c ≤ cap) : Ex P σ ⟨d, .slice xT x (some lo) (some hi) (some mx), t, p, af, g⟩ w (.slice (cutA A c.toNat a.toNat s.size) (b.toNat - a.toNat) (c.toNat - a.toNat)) := by
  obtain ⟨ht1, i, hi, hz1, hs1, hby⟩ := sliceT_spec ht
  have e : (b.toNat : Int) = b := Int.toNat_of_nonneg (by omega)
  have e2 : (c.toNat : Int) = c := Int.toNat_of_nonneg (by omega)
  simp [Ex, execOp, hx, hl, hh, hm, Instr.sliceAt, run_underlying ht1, Instr.slice, Instr.sliceBounds, run_sliceBound, sizeOf, typeInfo, hi, hs1, h0, h1, h2, h3, cutA, (by omega : 0 ≤ b), (by omega : 0 ≤ c), e, e2]
theorem ex_isNil (ht : sliceT P xT = some s) (hx : ev σ x = .slice A m cap) (hy : ev σ lo = .slice none 0 0) : Ex P σ ⟨d, .binOp .eql xT x lo yT, t, p, af, g⟩ w (.bool A.isNone) := by
  obtain ⟨ht1, _⟩ := sliceT_spec ht
  have := run_equal_slice_nil (P := P) w xT s.e A m cap ht1
  have h2 : (binOp .eql xT (.slice A m cap) (.slice none 0 0)).run P w = .ok (.bool A.isNone) w := by simp only [binOp]; simp [this]
  have h3 : (eqGuard .eql xT x lo (.slice A m cap) (.slice none 0 0)).run P w = .ok () w := by simp [eqGuard]
  simp [Ex, execOp, hx, hy, h2, h3]
theorem ex_notNil (ht : sliceT P xT = some s) (hx : ev σ x = .slice A m cap) (hy : ev σ lo = .slice none 0 0) : Ex P σ ⟨d, .binOp .neq xT x lo yT, t, p, af, g⟩ w (.bool (!A.isNone)) := by
  obtain ⟨ht1, _⟩ := sliceT_spec ht
  have := run_equal_slice_nil (P := P) w xT s.e A m cap ht1
  have h2 : (binOp .neq xT (.slice A m cap) (.slice none 0 0)).run P w = .ok (.bool (!A.isNone)) w := by simp only [binOp]; simp [this]
  have h3 : (eqGuard .neq xT x lo (.slice A m cap) (.slice none 0 0)).run P w = .ok () w := by simp [eqGuard]
  simp [Ex, execOp, hx, hy, h2, h3]
end
section
variable {P : Program} {r : Option Nat} {n : Nat} {ops : Array Oper} {K : Env → World → Prop} {σ : Env} {w w0 : World} {d : Option Nat} {t xT yT : TypeId} {p : String} {af : Array Edge} {x y : Operand} {A : Option Addr} {m c cap g off dd n0 : Nat} {s : SlT} {e : TypeId} {L : List SA} {α : Type} {enc : α → List Value} {hl : ∀ x, (enc x).length = m} {h1 : ∀ x, (enc x).all (·.oneCell') = true} {xs : List α} {cur : Array Value} {v : Value}
/-- A row of one's own, laid open: its block. -/
theorem own_open (H : Hp n0 w0 w (SA.own (flat m enc hl h1) e A c xs :: L)) (hx : xs ≠ []) : ∃ g cur, A = some ⟨g, 0, none⟩ ∧ cur.size = c * m ∧ xs.length ≤ c ∧ c ≤ 9223372036854775807 ∧ cur.toList.take (xs.length * m) = xs.flatMap enc ∧ Hp n0 w0 w (SA.cel g cur e :: L) := by
  obtain ⟨F, hF, ⟨inner, hfl, hone, hown⟩, hrest⟩ := H.sat
  rcases hown with ⟨h, _⟩ | ⟨g, cur, hA, hg, hh, hc1, hc2, hc3, hc4⟩
  · exact absurd h hx
  · refine ⟨g, cur, hA, hc3, hc1, hc2, ?_, H.below, H.size, F, hF, ⟨hg, hh⟩, hrest⟩
    rw [show (flat m enc hl h1).sz = m from rfl] at hc4
    rw [hc4]
    have h2 := fl_flat (hl := hl) (h1 := h1) (rdF (fun b => F b ∧ offA A b) (hp w)) xs
    refine List.ext_getElem? fun q => ?_
    rcases Nat.lt_or_ge q (xs.length * m) with hq | hq
    · have hm : 0 < m := by rcases Nat.eq_zero_or_pos m with h0 | h0; · subst h0; omega
                            · exact h0
      have hi : q / m < xs.length := Nat.div_lt_of_lt_mul (by rw [Nat.mul_comm]; exact hq)
      obtain ⟨cs, hR, hc⟩ := hfl.2 (q / m) _ (List.getElem?_eq_getElem hi)
      obtain ⟨cs', hR', hc'⟩ := h2.2 (q / m) _ (List.getElem?_eq_getElem hi)
      have hj : q % m < (enc xs[q / m]).length := by rw [hl]; exact Nat.mod_lt _ hm
      have a1 := hc (q % m) _ (by rw [show cs = _ from hR]; exact List.getElem?_eq_getElem hj)
      have a2 := hc' (q % m) _ (by rw [show cs' = _ from hR']; exact List.getElem?_eq_getElem hj)
      rw [show (flat m enc hl h1).sz = m from rfl, Nat.mul_comm, Nat.div_add_mod] at a1 a2
      rw [a1, a2]
    · rw [List.getElem?_eq_none (by rw [hfl.1]; exact hq), List.getElem?_eq_none (by rw [h2.1]; exact hq)]
/-- .. and shut again. -/
theorem own_shut (H : Hp n0 w0 w (SA.cel g cur e :: L)) (hs : cur.size = c * m) (hc : xs.length ≤ c) (hc2 : c ≤ 9223372036854775807) (hx : cur.toList.take (xs.length * m) = xs.flatMap enc) : Hp n0 w0 w (SA.own (flat m enc hl h1) e (some ⟨g, 0, none⟩) c xs :: L) :=
  H.weaken fun F hF ⟨hb, ho⟩ => ⟨xs.flatMap enc, fl_flat _ xs, mem_flat h1, .inr ⟨g, cur, rfl, hb, ho, hc, hc2, hs, hx⟩⟩
/-- A literal of several elements becomes a row of one's own. -/
theorem own_litF {b : Nat} {cs : Array Value} {zs : List α} {k : Nat} (H : Hp n0 w0 w (SA.cel b cs e :: L)) (hv : cs.toList = zs.flatMap enc) (hk : k = zs.length := by rfl) (hk2 : k ≤ 9223372036854775807 := by decide) : Hp n0 w0 w (SA.own (flat m enc hl h1) e (some ⟨b, 0, none⟩) k zs :: L) := by
  subst hk
  have hlen : cs.toList.length = zs.length * m := by rw [hv]; exact (fl_flat (hl := hl) (h1 := h1) (fun _ => none) zs).1
  exact own_shut H (by simpa using hlen) (Nat.le_refl _) hk2 (by rw [List.take_of_length_le (by omega), hv])
theorem row_own {d : Kd α} {F : Nat → Prop} {h : Nat → Option Obj} (hp : (SA.own d e A c xs).p F h) : Row d (rdF F h) A xs ∧ xs.length ≤ c ∧ c ≤ 9223372036854775807 := by
  obtain ⟨inner, hfl, _, hh⟩ := hp
  rcases hh with ⟨rfl, rfl, rfl⟩ | ⟨g, cur, rfl, hg, hh, h1, h2, h3, h4⟩
  · exact ⟨Row.nil _ _ _, by simp, by omega⟩
  · refine ⟨fun i x hx => ?_, h1, h2⟩
    obtain ⟨cs, hR, hc⟩ := hfl.2 i x hx
    refine ⟨_, cs, rfl, d.mono (rdF_le fun b hb => ⟨hb.1, rfl⟩) hR, fun j u hj => ?_⟩
    have h5 := hc j u hj
    rw [← h4, List.getElem?_take] at h5
    split at h5
    · have ha : ∀ k, (⟨g, 0, none⟩ : Addr).add k = ⟨g, k, none⟩ := fun k => by unfold Addr.add; split <;> simp_all
      rw [ha, rdF, if_pos hg, hh]
      simpa using h5
    · cases h5
theorem own_lo {d : Kd α} (H : Hp n0 w0 w (SA.own d e A c xs :: L)) : ∀ a, A = some a → n0 ≤ a.block := by
  obtain ⟨F, hF, ⟨inner, hfl, _, hh⟩, _⟩ := H.sat
  rintro a rfl
  rcases hh with ⟨_, h, _⟩ | ⟨g, cur, hA, hg, _⟩
  · cases h
  · injection hA with hA
    subst hA
    exact (hF g hg).1
/-- A row of one's own and a block beside it. -/
theorem own_ne {d : Kd α} {b : Nat} {o : Obj} (H : Hp n0 w0 w (SA.own d e A c xs :: SA.blk b o :: L)) : ∀ a, A = some a → a.block ≠ b := by
  obtain ⟨F, hF, ⟨inner, hfl, _, hh⟩, F2, hF2, ⟨hb, _⟩, _⟩ := H.sat
  rintro a rfl
  rcases hh with ⟨_, h, _⟩ | ⟨g, cur, hA, hg, _⟩
  · cases h
  · injection hA with hA
    subst hA
    rintro rfl
    exact (hF2 _ hb).2 hg
theorem nb {b o j k : Nat} (h : ¬ k ≤ b) : ¬ k ≤ ((⟨b, o, none⟩ : Addr).add j).block := by
  unfold Addr.add
  split <;> exact h
theorem nn {w : World} {a : Addr} {v : Value} (h : w.cell? a = some v) : ¬ w.heap.size ≤ a.block := fun hn => by
  have := World.block_lt_of_cell? w a h
  omega
/-- append within the room of a block. -/
theorem o_appendIn {A2 : Option Addr} {i k c2 : Nat} {news : List Value} (hk : opOk n ⟨some dd, .call { callee := .builtin .append, args := #[x, y], argTypes := #[t, t] }, xT, p, af, none⟩ = true) (ht : sliceT P t = some s) (hx : ev σ x = .slice (some ⟨g, 0, none⟩) i cap) (hy : ev σ y = .slice A2 k c2)
    (H : Hp n0 w0 w (SA.cel g cur e :: L)) (hn : news.length = k * s.size) (hnews : ∀ j u, news[j]? = some u → ∃ a, A2 = some a ∧ w.cell? (a.add j) = some u) (h1 : ∀ u ∈ news, u.oneCell' = true) (hroom : i + k ≤ cap) (hs : cur.size = cap * s.size) (hlen : i + k ≤ 9223372036854775807)
    (h : ∀ w', Agr (fun b => b = g) w w' → Hp n0 w0 w' (SA.cel g (setCells cur (i * s.size) news) e :: L) → K (upd σ dd (.slice (some ⟨g, 0, none⟩) (i + k) cap)) w') :
    OpW P r n ops ⟨some dd, .call { callee := .builtin .append, args := #[x, y], argTypes := #[t, t] }, xT, p, af, none⟩ K σ w := by
  obtain ⟨ht1, ti, hi, hz1, hs1, hby⟩ := sliceT_spec ht
  have hb := H.rd 0 rfl
  have hle : (i + k) * s.size ≤ cap * s.size := Nat.mul_le_mul_right _ hroom
  rw [Nat.add_mul] at hle
  obtain ⟨w', hr, hh, e1, e2, e3⟩ := run_storeCells (P := P) news 0 (i * s.size) w cur hb (by rw [hs, hn]; omega) h1
  rw [Nat.add_zero] at hh
  have hf : (Builtin.firstCells s.size k (Value.slice A2 k c2)).run P w = .ok news.toArray w := by
    cases A2 with
    | some a =>
      have := run_loadCells (P := P) (w := w) (a := a) news 0 #[] (fun j u hj => by
        obtain ⟨a', e, hc⟩ := hnews j u hj
        injection e with e
        subst e
        rw [Nat.zero_add]
        exact hc)
      rw [hn] at this
      simpa [Builtin.firstCells, loadCells] using this
    | none =>
      have : news = [] := by
        cases news with
        | nil => rfl
        | cons u r => obtain ⟨a, e, _⟩ := hnews 0 u rfl; cases e
      subst this
      simp [Builtin.firstCells]
  have ha : (⟨g, 0, none⟩ : Addr).add (i * s.size) = ⟨g, i * s.size, none⟩ := by unfold Addr.add; split <;> simp_all
  have hrun : (Builtin.append_ #[t, t] xT #[Value.slice (some ⟨g, 0, none⟩) i cap, Value.slice A2 k c2]).run P w = .ok (.slice (some ⟨g, 0, none⟩) (i + k) cap) w' := by
    simp [Builtin.append_, run_underlying ht1, sizeOf, typeInfo, hi, hs1, Builtin.lenOf, hroom, hf, ha, hr]
  exact o_runs hk (by simp only [execOp, resolve, invoke, builtin, List.map_toArray, List.map_cons, List.map_nil, hx, hy]; simp only [Sem.run_bind, Sem.run_pure, Result.andThen_ok, hrun]) (h w' (heap_agr hh) (H.setBlk hh e1 e2 e3))
theorem o_clear {k c2 : Nat} (hk : opOk n ⟨none, .call { callee := .builtin .clear, args := #[x], argTypes := #[t] }, xT, p, af, none⟩ = true) (ht : sliceT P t = some s) (hx : ev σ x = .slice (some ⟨g, off, none⟩) (k + 1) c2)
    (H : Hp n0 w0 w (SA.cel g cur e :: L)) (h1 : s.zero.cells.all (·.oneCell') = true) (hroom : off + (k + 1) * s.zero.cells.size ≤ cur.size)
    (h : ∀ w', Agr (fun b => b = g) w w' → Hp n0 w0 w' (SA.cel g (setCells cur off (Builtin.zeroCells s.zero.cells (k + 1)).toList) e :: L) → K σ w') :
    OpW P r n ops ⟨none, .call { callee := .builtin .clear, args := #[x], argTypes := #[t] }, xT, p, af, none⟩ K σ w := by
  obtain ⟨ht1, ti, hi, hz1, hs1, hby⟩ := sliceT_spec ht
  have hb := H.rd 0 rfl
  have hsz : (Builtin.zeroCells s.zero.cells (k + 1)).toList.length = (k + 1) * s.zero.cells.size := by simp [Builtin.zeroCells]
  obtain ⟨w', hr, hh, e1, e2, e3⟩ := run_storeCells (P := P) (Builtin.zeroCells s.zero.cells (k + 1)).toList 0 off w cur hb (by rw [hsz]; omega) (fun u hu => by
    simp only [Builtin.zeroCells, Array.toList_map, Array.toList_range, List.mem_map, List.mem_range] at hu
    obtain ⟨q, hq, rfl⟩ := hu
    have hpos : 0 < s.zero.cells.size := by
      rcases Nat.eq_zero_or_pos s.zero.cells.size with h0 | h0
      · rw [h0] at hq; simp at hq
      · exact h0
    rw [getElem!_pos s.zero.cells _ (Nat.mod_lt _ hpos)]
    exact (Array.all_eq_true_iff_forall_mem.1 h1) _ (by simp))
  rw [Nat.add_zero] at hh
  have hzv : (zeroValue s.e).run P w = .ok s.zero w := by simp [zeroValue, typeInfo, hi, hz1]
  have hrun : (Builtin.clear_ #[t] xT #[Value.slice (some ⟨g, off, none⟩) (k + 1) c2]).run P w = .ok (.tuple #[]) w' := by
    simp [Builtin.clear_, run_underlying ht1, hzv, hr]
  refine o_runs (v := .tuple #[]) (w' := w') hk (by simp only [execOp, resolve, invoke, builtin, List.map_toArray, List.map_cons, List.map_nil, hx]; simp only [Sem.run_bind, Sem.run_pure, Result.andThen_ok, hrun]) (h w' (heap_agr hh) (H.setBlk hh e1 e2 e3))
end
end Go.Gk
namespace Go.Gk
open Go.RowKit
theorem len_flat {α : Type} {m : Nat} {enc : α → List Value} (hl : ∀ x, (enc x).length = m) (xs : List α) : (xs.flatMap enc).length = xs.length * m := by
  induction xs with
  | nil => simp
  | cons x xs ih => rw [List.flatMap_cons, List.length_append, ih, hl, List.length_cons, Nat.add_mul, Nat.one_mul, Nat.add_comm]
theorem erase_cells {α : Type} {m : Nat} {enc : α → List Value} (hl : ∀ x, (enc x).length = m) {xs : List α} {i : Nat} (hi : i < xs.length) {cur : Array Value} {c : Nat} (hs : cur.size = c * m) (hc : xs.length ≤ c) (hx : cur.toList.take (xs.length * m) = xs.flatMap enc) (zs : List Value) :
    (setCells (setCells cur (i * m) ((cur.toList.drop ((i + 1) * m)).take ((xs.length - (i + 1)) * m))) ((i + (xs.length - (i + 1))) * m) zs).toList.take ((xs.eraseIdx i).length * m) = (xs.eraseIdx i).flatMap enc := by
  have hlen : (xs.eraseIdx i).length = i + (xs.length - (i + 1)) := by rw [List.length_eraseIdx, if_pos hi]; omega
  have e1 : xs.eraseIdx i = xs.take i ++ xs.drop (i + 1) := List.eraseIdx_eq_take_drop_succ xs i
  have e2 : xs.flatMap enc = (xs.take i).flatMap enc ++ (xs.drop i).flatMap enc := by rw [← List.flatMap_append, List.take_append_drop]
  have e3 : xs.flatMap enc = (xs.take (i + 1)).flatMap enc ++ (xs.drop (i + 1)).flatMap enc := by rw [← List.flatMap_append, List.take_append_drop]
  have l1 : ((xs.take i).flatMap enc).length = i * m := by rw [len_flat hl, List.length_take, Nat.min_eq_left (by omega)]
  have l2 : ((xs.take (i + 1)).flatMap enc).length = (i + 1) * m := by rw [len_flat hl, List.length_take, Nat.min_eq_left (by omega)]
  have l3 : ((xs.drop (i + 1)).flatMap enc).length = (xs.length - (i + 1)) * m := by rw [len_flat hl, List.length_drop]
  have hcm : xs.length * m ≤ c * m := Nat.mul_le_mul_right _ hc
  have a1 : (i + (xs.length - (i + 1))) * m = i * m + (xs.length - (i + 1)) * m := Nat.add_mul _ _ _
  have a2 : xs.length * m = (i + 1) * m + (xs.length - (i + 1)) * m := by rw [← Nat.add_mul]; congr 1; omega
  have a3 : (i + 1) * m = i * m + m := by rw [Nat.add_mul, Nat.one_mul]
  have get : ∀ q, q < xs.length * m → cur[q]? = (xs.flatMap enc)[q]? := fun q hq => by rw [← hx, List.getElem?_take, if_pos hq, Array.getElem?_toList]
  rw [hlen, e1, List.flatMap_append]
  refine List.ext_getElem? fun q => ?_
  rw [List.getElem?_take]
  split
  · rename_i hq
    rw [Array.getElem?_toList, get_setCells, if_neg (by omega), get_setCells]
    by_cases h1 : q < i * m
    · rw [if_neg (by omega), List.getElem?_append_left (by omega), get q (by omega), e2, List.getElem?_append_left (by omega)]
    · have hn : ((cur.toList.drop ((i + 1) * m)).take ((xs.length - (i + 1)) * m)).length = (xs.length - (i + 1)) * m := by
        have hcl : cur.toList.length = cur.size := by simp
        rw [List.length_take, List.length_drop, hcl]; omega
      rw [if_pos ⟨by omega, by rw [hn]; omega, by omega⟩, List.getElem?_append_right (by omega), List.getElem?_take, if_pos (by omega), List.getElem?_drop, Array.getElem?_toList, get _ (by omega), e3, List.getElem?_append_right (by omega), l1, l2]
      congr 1
      omega
  · rename_i hq
    rw [List.getElem?_eq_none]
    rw [List.length_append, l1, l3]
    omega
theorem erase_news {α : Type} {m : Nat} {xs : List α} {i c : Nat} {cur : Array Value} (hs : cur.size = c * m) (hc : xs.length ≤ c) (hi : i < xs.length) : ((cur.toList.drop ((i + 1) * m)).take ((xs.length - (i + 1)) * m)).length = (xs.length - (i + 1)) * m := by
  have hcm : xs.length * m ≤ c * m := Nat.mul_le_mul_right _ hc
  have a2 : xs.length * m = (i + 1) * m + (xs.length - (i + 1)) * m := by rw [← Nat.add_mul]; congr 1; omega
  have hcl : cur.toList.length = cur.size := by simp
  rw [List.length_take, List.length_drop, hcl]
  omega
theorem blk_part {w : World} {b T : Nat} {cur : Array Value} (h : w.heap[b]? = some (.cells cur T (0, 0))) (off n : Nat) : ∀ j u, ((cur.toList.drop off).take n)[j]? = some u → w.cell? ((⟨b, off, none⟩ : Addr).add j) = some u := fun j u hj => by
  rw [List.getElem?_take] at hj
  split at hj
  · have ha : (⟨b, off, none⟩ : Addr).add j = ⟨b, off + j, none⟩ := by unfold Addr.add; split <;> simp_all
    rw [ha, cell_of h]
    rw [List.getElem?_drop] at hj
    simpa using hj
  · cases hj
theorem cut_news {w : World} {g c i n m T : Nat} {cur : Array Value} (h : w.heap[g]? = some (.cells cur T (0, 0))) (hc : n ≤ c) (hi : i < n) : ∀ j u, ((cur.toList.drop ((i + 1) * m)).take ((n - (i + 1)) * m))[j]? = some u → ∃ a, cutA (some ⟨g, 0, none⟩) c (i + 1) m = some a ∧ w.cell? (a.add j) = some u := fun j u hj => by
  unfold cutA
  by_cases e : c = i + 1
  · have : n - (i + 1) = 0 := by omega
    rw [this, Nat.zero_mul, List.take_zero] at hj
    simp at hj
  · rw [if_neg e]
    refine ⟨_, rfl, ?_⟩
    have ha : (⟨g, 0, none⟩ : Addr).add ((i + 1) * m) = ⟨g, (i + 1) * m, none⟩ := by unfold Addr.add; split <;> simp_all
    show w.cell? (((⟨g, 0, none⟩ : Addr).add ((i + 1) * m)).add j) = _
    rw [ha]
    exact blk_part h _ _ j u hj
theorem news_one {α : Type} {m : Nat} {enc : α → List Value} (h1 : ∀ x, (enc x).all (·.oneCell') = true) {xs : List α} {i : Nat} {cur : Array Value} (hi : i < xs.length) (hx : cur.toList.take (xs.length * m) = xs.flatMap enc) : ∀ u ∈ (cur.toList.drop ((i + 1) * m)).take ((xs.length - (i + 1)) * m), u.oneCell' = true := fun u hu => by
  have a2 : xs.length * m = (i + 1) * m + (xs.length - (i + 1)) * m := by rw [← Nat.add_mul]; congr 1; omega
  refine mem_flat h1 (ys := xs) u ?_
  rw [← hx, a2, List.take_add]
  exact List.mem_append_right _ hu
section
variable {P : Program} {σ : Env} {w : World} {d : Option Nat} {t xT yT : TypeId} {p : String} {af : Array Edge} {g : Option (Nat × Bool)} {x y : Operand} {a b : Bool}
theorem run_equalInb (d : Nat) (ht : P.underlying xT = some .bool) (w : World) (a b : Bool) : (Op.equalIn (d + 1) xT (.bool a) (.bool b)).run P w = .ok (a == b) w := by
  simp [Op.equalIn, run_underlying ht]
theorem run_equalb (ht : P.underlying xT = some .bool) (w : World) (a b : Bool) : (Op.equal xT (.bool a) (.bool b)).run P w = .ok (a == b) w := run_equalInb 9999 ht w a b
theorem ex_neqb (ht : P.underlying xT = some .bool) (hx : ev σ x = .bool a) (hy : ev σ y = .bool b) : Ex P σ ⟨d, .binOp .neq xT x y yT, t, p, af, g⟩ w (.bool (a != b)) := by
  have h2 : (binOp .neq xT (.bool a) (.bool b)).run P w = .ok (.bool (a != b)) w := by simp only [binOp]; simp [run_equalb ht, bne]
  have h3 : (eqGuard .neq xT x y (.bool a) (.bool b)).run P w = .ok () w := by simp [eqGuard]
  simp [Ex, execOp, hx, hy, h2, h3]
end
theorem add_blk (g k : Nat) : (⟨g, 0, none⟩ : Addr).add k = ⟨g, k, none⟩ := by unfold Addr.add; split <;> simp_all
end Go.Gk
namespace Go.Proofs.Ytlnogaoihkinbaa
open Go.Gk Go.RowKit
structure Spec where
  Wide : Int
  High : Int
  Room : Int
structure Entry where
  Key : Int
  Mask : Int
  Outs : Int
deriving DecidableEq
structure Way where
  Key : Int
  Source : Int
  Targets : List Int
def kEnt : Kd Entry := flat 3 (fun x => [.int .i64 x.Key, .int .i64 x.Mask, .int .i64 x.Outs]) (fun _ => rfl) (fun _ => rfl)
structure Packet where
  Tick : Int
  Source : Int
  Key : Int
  Class : Int
deriving DecidableEq
def kPkt : Kd Packet := flat 4 (fun x => [.int .i64 x.Tick, .int .i64 x.Source, .int .i64 x.Key, .int .i64 x.Class]) (fun _ => rfl) (fun _ => rfl)
/-- A way: its targets lie elsewhere. -/
def kWay : Kd Way where
  sz := 3
  R := fun rd x cs => ∃ A c, cs = [.int .i64 x.Key, .int .i64 x.Source, .slice A x.Targets.length c] ∧ x.Targets.length ≤ c ∧ c ≤ 9223372036854775807 ∧ Row kInt rd A x.Targets
  len := fun ⟨A, c, h, _⟩ => by rw [h]; rfl
  one := fun ⟨A, c, h, _⟩ => by rw [h]; rfl
  mono := fun hl ⟨A, c, h, h1, h2, h3⟩ => ⟨A, c, h, h1, h2, h3.mono hl⟩
def chk (s : Spec) : Int := if (min (min s.Wide s.High) s.Room < 1 ∨ 8 < max s.Wide s.High) ∨ 64 < s.Room then 3 else 0
theorem chk_ok {s : Spec} (h : chk s = 0) : 1 ≤ s.Wide ∧ s.Wide ≤ 8 ∧ 1 ≤ s.High ∧ s.High ≤ 8 ∧ 1 ≤ s.Room ∧ s.Room ≤ 64 := by
  unfold chk at h
  split at h <;> omega
def known (s : Spec) (xs : List Int) : Int := if chk s ≠ 0 then chk s else if xs.all (fun x => decide (0 ≤ x ∧ x < s.Wide * s.High)) then 0 else 4
theorem take_all {α : Type} {p : α → Prop} {xs : List α} {k : Nat} {x : α} (h : ∀ y ∈ xs.take k, p y) (hx : xs[k]? = some x) (hp : p x) : ∀ y ∈ xs.take (k + 1), p y := by
  intro y hy
  rw [List.take_add_one, hx] at hy
  rcases List.mem_append.1 hy with hy | hy
  · exact h y hy
  · simp at hy; subst hy; exact hp
theorem cellb {s : Spec} (h : chk s = 0) {r : Int} (h0 : 0 ≤ r) (h1 : r < s.Wide * s.High) : 0 ≤ r % s.Wide ∧ r % s.Wide < s.Wide ∧ 0 ≤ r / s.Wide ∧ r / s.Wide < s.High := by
  have := chk_ok h
  refine ⟨Int.emod_nonneg _ (by omega), Int.emod_lt_of_pos _ (by omega), Int.ediv_nonneg h0 (by omega), Int.ediv_lt_of_lt_mul (by omega) (by rw [Int.mul_comm]; exact h1)⟩
theorem mulb {a b : Int} (h : -1000000 ≤ a ∧ a ≤ 1000000) (k : -1000000 ≤ b ∧ b ≤ 1000000) : -1000000000000 ≤ a * b ∧ a * b ≤ 1000000000000 := by
  have h1 : (a.natAbs : Int) * (b.natAbs : Int) ≤ 1000000 * 1000000 := Int.mul_le_mul (by omega) (by omega) (by omega) (by omega)
  have h2 : ((a * b).natAbs : Int) = a.natAbs * b.natAbs := by rw [Int.natAbs_mul]; rfl
  omega
theorem mul64 {s : Spec} (h : chk s = 0) : 1 ≤ s.Wide * s.High ∧ s.Wide * s.High ≤ 64 := by
  have := chk_ok h
  have h1 := Int.mul_le_mul this.2.1 this.2.2.2.1 (by omega) (by omega)
  have h2 := Int.mul_le_mul this.1 this.2.2.1 (by omega) (by omega)
  omega
/-- Where an output leads. -/
def moved (s : Spec) (r o : Int) : Int × Int :=
  if o = 1 then (r % s.Wide + 1, r / s.Wide) else if o = 2 then (r % s.Wide, r / s.Wide + 1) else if o = 4 then (r % s.Wide - 1, r / s.Wide) else if o = 8 then (r % s.Wide, r / s.Wide - 1) else (r % s.Wide, r / s.Wide)
def nextR (s : Spec) (r o : Int) : Int := (moved s r o).2 * s.Wide + (moved s r o).1
def nextB (s : Spec) (r o : Int) : Bool := decide (((0 ≤ (moved s r o).1 ∧ (moved s r o).1 < s.Wide) ∧ 0 ≤ (moved s r o).2) ∧ (moved s r o).2 < s.High)
def turn (s : Spec) (r to : Int) : Int := if r % s.Wide < to % s.Wide then 1 else if to % s.Wide < r % s.Wide then 4 else if r / s.Wide < to / s.Wide then 2 else if to / s.Wide < r / s.Wide then 8 else 16
def dist (s : Spec) (a b : Int) : Int := max (a % s.Wide - b % s.Wide) (b % s.Wide - a % s.Wide) + max (a / s.Wide - b / s.Wide) (b / s.Wide - a / s.Wide)
/-- The document's step over an output: -1 if there is none. -/
def over (s : Spec) (r o : Int) : Int := if o = 1 ∧ r % s.Wide + 1 < s.Wide then r + 1 else if o = 2 ∧ r / s.Wide + 1 < s.High then r + s.Wide else if o = 4 ∧ 0 < r % s.Wide then r - 1 else if o = 8 ∧ 0 < r / s.Wide then r - s.Wide else -1
def inR (s : Spec) (r : Int) : Prop := 0 ≤ r ∧ r < s.Wide * s.High
instance (s : Spec) (r : Int) : Decidable (inR s r) := inferInstanceAs (Decidable (_ ∧ _))
def chkR (s : Spec) : Int := if ((((s.Wide < 1 ∨ 8 < s.Wide) ∨ s.High < 1) ∨ 8 < s.High) ∨ s.Room < 1) ∨ 64 < s.Room then 3 else 0
def two (s : Spec) (a b : Int) : Int := if chkR s ≠ 0 then chkR s else if ¬ inR s a ∨ ¬ inR s b then 4 else 0
def back (o : Int) : Int := if o ≤ 2 then IntKind.i64.wrap (o * 4) else o.fdiv 4
def ent (x : Entry) : Prop := ((((0 ≤ min x.Key x.Mask ∧ x.Mask ≤ 65535) ∧ bAndNot .i64 x.Key x.Mask = 0) ∧ 1 ≤ x.Outs) ∧ x.Outs ≤ 31)
instance (x : Entry) : Decidable (ent x) := by unfold ent; infer_instance
def entR (x : Entry) : Prop := ((((((0 ≤ x.Key ∧ x.Key ≤ 65535) ∧ 0 ≤ x.Mask) ∧ x.Mask ≤ 65535) ∧ bAnd .i64 x.Key x.Mask = x.Key) ∧ 1 ≤ x.Outs) ∧ x.Outs ≤ 31)
instance (x : Entry) : Decidable (entR x) := by unfold entR; infer_instance
def cmp3 (a b : Int) : Int := if a < b then -1 else if b < a then 1 else 0
/-- How many bits are set. -/
def ones1 (x : Int) : Int := IntKind.u64.wrap (bAnd .u64 (x.fdiv (2 ^ min 1 IntKind.u64.bits)) 6148914691236517205 + bAnd .u64 x 6148914691236517205)
def ones2 (x : Int) : Int := IntKind.u64.wrap (bAnd .u64 (x.fdiv (2 ^ min 2 IntKind.u64.bits)) 3689348814741910323 + bAnd .u64 x 3689348814741910323)
def ones3 (x : Int) : Int := bAnd .u64 (IntKind.u64.wrap (x.fdiv (2 ^ min 4 IntKind.u64.bits) + x)) 1085102592571150095
def ones4 (j : Nat) (x : Int) : Int := IntKind.u64.wrap (x + x.fdiv (2 ^ min j IntKind.u64.bits))
def ones (x : Int) : Int := bAnd .i64 (IntKind.i64.wrap (ones4 32 (ones4 16 (ones4 8 (ones3 (ones2 (ones1 x))))))) 127
def diff (x y : Entry) : Int := bXor .i64 x.Key y.Key
def canJoin (x y : Entry) : Bool := decide (x.Mask = y.Mask ∧ x.Outs = y.Outs ∧ ones (IntKind.u64.wrap (diff x y)) = 1)
def joinE (x y : Entry) : Entry := if canJoin x y then ⟨bAndNot .i64 x.Key (diff x y), bAndNot .i64 x.Mask (diff x y), x.Outs⟩ else ⟨0, 0, 0⟩
theorem known2 {s : Spec} {a b : Int} (h : known s [a, b] = 0) : chk s = 0 ∧ 0 ≤ a ∧ a < s.Wide * s.High ∧ 0 ≤ b ∧ b < s.Wide * s.High := by
  unfold known at h
  split at h
  · contradiction
  · split at h
    · rename_i h1 h2
      simp at h2
      omega
    · omega
theorem moved_b {s : Spec} (h : chk s = 0) {r o : Int} (h0 : 0 ≤ r) (h1 : r < s.Wide * s.High) {px py : Int} (hp : moved s r o = (px, py)) : -1 ≤ px ∧ px ≤ s.Wide ∧ -1 ≤ py ∧ py ≤ s.High := by
  have := cellb h h0 h1
  have hx : px = (moved s r o).1 := by rw [hp]
  have hy : py = (moved s r o).2 := by rw [hp]
  unfold moved at hx hy
  by_cases e1 : o = 1
  · simp [e1] at hx hy; omega
  · by_cases e2 : o = 2
    · simp [e2] at hx hy; omega
    · by_cases e3 : o = 4
      · simp [e3] at hx hy; omega
      · by_cases e4 : o = 8
        · simp [e4] at hx hy; omega
        · simp [e1, e2, e3, e4] at hx hy; omega
theorem join_no {x y : Entry} (h : x.Mask ≠ y.Mask ∨ x.Outs ≠ y.Outs ∨ ones (IntKind.u64.wrap (diff x y)) ≠ 1) : canJoin x y = false ∧ joinE x y = ⟨0, 0, 0⟩ := by
  have h1 : canJoin x y = false := decide_eq_false fun ⟨a, b, c⟩ => by rcases h with h | h | h <;> contradiction
  exact ⟨h1, by rw [joinE, h1]; rfl⟩
theorem join_yes {x y : Entry} (h1 : ¬ x.Mask ≠ y.Mask) (h2 : ¬ x.Outs ≠ y.Outs) (h3 : ¬ ones (IntKind.u64.wrap (diff x y)) ≠ 1) : canJoin x y = true ∧ joinE x y = ⟨bAndNot .i64 x.Key (diff x y), bAndNot .i64 x.Mask (diff x y), x.Outs⟩ := by
  have h1 : canJoin x y = true := decide_eq_true ⟨Decidable.of_not_not h1, Decidable.of_not_not h2, Decidable.of_not_not h3⟩
  exact ⟨h1, by rw [joinE, h1]; rfl⟩
/-- Where the first element is of which p holds; -1: nowhere. -/
def idx {α : Type} (p : α → Bool) (xs : List α) : Int := match xs.findIdx? p with
  | some i => i
  | none => -1
theorem idx_at {α : Type} {p : α → Bool} {xs : List α} {k : Nat} {x : α} (hall : ∀ y ∈ xs.take k, p y = false) (hx : xs[k]? = some x) (hp : p x = true) : idx p xs = k := by
  have : xs.findIdx? p = some k := by
    rw [List.findIdx?_eq_some_iff_getElem]
    obtain ⟨hk, he⟩ := List.getElem?_eq_some_iff.1 hx
    refine ⟨hk, by rw [he]; exact hp, fun j hj => ?_⟩
    rw [hall _ (List.mem_iff_getElem?.2 ⟨j, by rw [List.getElem?_take, if_pos hj, List.getElem?_eq_getElem]⟩)]
    decide
  rw [idx, this]
theorem idx_no {α : Type} {p : α → Bool} {xs : List α} (hall : ∀ y ∈ xs, p y = false) : idx p xs = -1 := by
  have : xs.findIdx? p = none := by
    rw [List.findIdx?_eq_none_iff]
    exact hall
  rw [idx, this]
theorem idx_cases {α : Type} (p : α → Bool) (xs : List α) : (idx p xs = -1 ∧ ∀ y ∈ xs, p y = false) ∨ ∃ k x, idx p xs = ((k : Nat) : Int) ∧ xs[k]? = some x ∧ p x = true ∧ ∀ y ∈ xs.take k, p y = false := by
  unfold idx
  cases h : xs.findIdx? p with
  | none => exact .inl ⟨rfl, List.findIdx?_eq_none_iff.1 h⟩
  | some k =>
    obtain ⟨hk, hp, hall⟩ := List.findIdx?_eq_some_iff_getElem.1 h
    refine .inr ⟨k, _, rfl, List.getElem?_eq_getElem hk, hp, fun y hy => ?_⟩
    obtain ⟨j, hj⟩ := List.mem_iff_getElem?.1 hy
    rw [List.getElem?_take] at hj
    split at hj
    · rename_i hjk
      have := hall j hjk
      rw [List.getElem?_eq_getElem (by omega)] at hj
      injection hj with hj
      rw [hj] at this
      simpa using this
    · cases hj
theorem idx_any {α : Type} (p : α → Bool) (xs : List α) : decide (0 ≤ idx p xs) = xs.any p := by
  rcases idx_cases p xs with ⟨h, hall⟩ | ⟨k, x, h, hx, hp, _⟩
  · rw [h, List.any_eq_false.2 (fun y hy => by rw [hall y hy]; decide)]; rfl
  · rw [h, List.any_eq_true.2 ⟨x, List.mem_of_getElem? hx, hp⟩]; simp
def hit (key : Int) (x : Entry) : Bool := decide (bAnd .i64 key x.Mask = x.Key)
/-- What is found for a key. -/
def find (xs : List Entry) (key : Int) : Int × Bool := match xs.find? (hit key) with
  | some x => (x.Outs, true)
  | none => (0, false)
theorem find_at {xs : List Entry} {key : Int} {k : Nat} {x : Entry} (hall : ∀ y ∈ xs.take k, hit key y = false) (hx : xs[k]? = some x) (hp : hit key x = true) : find xs key = (x.Outs, true) := by
  have : xs.find? (hit key) = some x := by
    obtain ⟨hk, he⟩ := List.getElem?_eq_some_iff.1 hx
    rw [List.find?_eq_some_iff_append]
    refine ⟨hp, xs.take k, xs.drop (k + 1), ?_, fun y hy => by rw [hall y hy]; decide⟩
    rw [← he, List.getElem_cons_drop, List.take_append_drop]
  rw [find, this]
theorem find_no {xs : List Entry} {key : Int} (hall : ∀ y ∈ xs, hit key y = false) : find xs key = (0, false) := by
  have : xs.find? (hit key) = none := List.find?_eq_none.2 fun y hy => by rw [hall y hy]; decide
  rw [find, this]
theorem list_eq {α : Type} {xs ys : List α} (hl : xs.length = ys.length) (h : ∀ j : Nat, j < xs.length → xs[j]? = ys[j]?) : xs = ys :=
  List.ext_getElem? fun j => by
    rcases Nat.lt_or_ge j xs.length with hj | hj
    · exact h j hj
    · rw [List.getElem?_eq_none hj, List.getElem?_eq_none (by omega)]
theorem agree_next {α : Type} {xs ys : List α} {k : Nat} {x y : α} (h : ∀ j : Nat, j < k → xs[j]? = ys[j]?) (hx : xs[k]? = some x) (hy : ys[k]? = some y) (he : x = y) : ∀ j : Nat, j < k + 1 → xs[j]? = ys[j]? := fun j hj => by
  rcases Nat.lt_or_ge j k with h1 | h1
  · exact h j h1
  · obtain rfl : j = k := by omega
    rw [hx, hy, he]
/-- The first number that is not 0. -/
def first {α : Type} (f : α → Int) (xs : List α) : Int := match xs.find? (fun x => decide (f x ≠ 0)) with
  | some x => f x
  | none => 0
theorem first_at {α : Type} {f : α → Int} {xs : List α} {k : Nat} {x : α} (hall : ∀ y ∈ xs.take k, f y = 0) (hx : xs[k]? = some x) (hp : f x ≠ 0) : first f xs = f x := by
  have : xs.find? (fun x => decide (f x ≠ 0)) = some x := by
    obtain ⟨hk, he⟩ := List.getElem?_eq_some_iff.1 hx
    rw [List.find?_eq_some_iff_append]
    refine ⟨decide_eq_true hp, xs.take k, xs.drop (k + 1), ?_, fun y hy => by rw [hall y hy]; decide⟩
    rw [← he, List.getElem_cons_drop, List.take_append_drop]
  rw [first, this]
theorem first_no {α : Type} {f : α → Int} {xs : List α} (hall : ∀ y ∈ xs, f y = 0) : first f xs = 0 := by
  have : xs.find? (fun x => decide (f x ≠ 0)) = none := List.find?_eq_none.2 fun y hy => by rw [hall y hy]; decide
  rw [first, this]
theorem first_zero {α : Type} {f : α → Int} {xs : List α} (h : first f xs = 0) : ∀ y ∈ xs, f y = 0 := by
  unfold first at h
  cases hf : xs.find? (fun x => decide (f x ≠ 0)) with
  | none =>
    intro y hy
    have := List.find?_eq_none.1 hf y hy
    simpa using this
  | some x =>
    rw [hf] at h
    have := List.find?_some hf
    simp [h] at this
def tabE (t : List Entry) : Int := if (1024 : Int) < t.length then 9 else if t.any (fun x => !decide (ent x)) = true then 2 else 0
def chkT (s : Spec) (ts : List (List Entry)) : Int := if chk s ≠ 0 then chk s else if ((ts.length : Nat) : Int) ≠ s.Wide * s.High then 13 else first tabE ts
def pktE (s : Spec) (x : Packet) : Int := if x.Tick < 0 ∨ 10000 < x.Tick then 3 else if x.Source < 0 ∨ s.Wide * s.High ≤ x.Source then 4 else if x.Key < 0 ∨ 65535 < x.Key then 3 else if x.Class ≠ 0 ∧ x.Class ≠ 1 then 2 else 0
def chkP (s : Spec) (l : List Packet) : Int := if (1024 : Int) < l.length then 9 else first (pktE s) l
theorem take_full {α : Type} {q : α → Prop} {xs : List α} {k : Nat} (h : ∀ y ∈ xs.take k, q y) (hk : xs.length ≤ k) : ∀ y ∈ xs, q y := fun y hy => h y (by rwa [List.take_of_length_le hk])
theorem take_map {α β : Type} {f : α → β} {xs : List α} {k : Nat} {x : α} (hx : xs[k]? = some x) : (xs.take (k + 1)).map f = (xs.take k).map f ++ [f x] := by
  rw [List.take_add_one, hx]; simp
theorem range_some {β : Type} {f : Nat → Option β} {n k : Nat} {t : β} (hk : k < n) (hf : f k = some t) (h : ∀ i, i < k → f i = none) : (List.range n).findSome? f = some t := by
  have e : List.range n = List.range k ++ (k :: (List.range (n - (k + 1))).map (fun x => k + 1 + x)) := by
    have h1 : List.range n = List.range (k + (1 + (n - (k + 1)))) := by congr 1; omega
    rw [h1, List.range_add, List.range_add]
    simp [List.range_succ, Function.comp_def, Nat.add_assoc]
  rw [e, List.findSome?_append, List.findSome?_eq_none_iff.2 (fun i hi => h i (List.mem_range.1 hi)), List.findSome?_cons, hf]
  rfl
theorem range_none {β : Type} {f : Nat → Option β} {n : Nat} (h : ∀ i, i < n → f i = none) : (List.range n).findSome? f = none := List.findSome?_eq_none_iff.2 fun i hi => h i (List.mem_range.1 hi)
/-- Two entries joined: the later one is taken out. -/
def cand (l : List Entry) (k j : Nat) : Option (List Entry) := match l[k]?, l[j]? with
  | some x, some y => if canJoin x y = true then some ((l.eraseIdx j).set k (joinE x y)) else none
  | _, _ => none
def cand2 (l : List Entry) (same : List Entry → Bool) (k j : Nat) : Option (List Entry) := if k < j then (cand l k j).filter same else none
def rowJ (l : List Entry) (same : List Entry → Bool) (k : Nat) : Option (List Entry) := (List.range l.length).findSome? (cand2 l same k)
def joinedO (l : List Entry) (same : List Entry → Bool) : Option (List Entry) := (List.range l.length).findSome? (rowJ l same)
theorem cand2_le {l : List Entry} {same : List Entry → Bool} {k j : Nat} (h : j < k + 1) : cand2 l same k j = none := if_neg (by omega)
theorem cand_at {l : List Entry} {k j : Nat} {x y : Entry} (hx : l[k]? = some x) (hy : l[j]? = some y) : cand l k j = if canJoin x y = true then some ((l.eraseIdx j).set k (joinE x y)) else none := by simp only [cand, hx, hy]
theorem cand2_no1 {l : List Entry} {same : List Entry → Bool} {k j : Nat} {x y : Entry} (hx : l[k]? = some x) (hy : l[j]? = some y) (h : canJoin x y = false) : cand2 l same k j = none := by
  unfold cand2; rw [cand_at hx hy, h]; split <;> rfl
theorem cand2_no2 {l : List Entry} {same : List Entry → Bool} {k j : Nat} {x y : Entry} (hx : l[k]? = some x) (hy : l[j]? = some y) (h : same ((l.eraseIdx j).set k (joinE x y)) = false) : cand2 l same k j = none := by
  unfold cand2; rw [cand_at hx hy]
  split
  · split
    · simp [Option.filter, h]
    · rfl
  · rfl
theorem cand2_yes {l : List Entry} {same : List Entry → Bool} {k j : Nat} {x y : Entry} (hkj : k < j) (hx : l[k]? = some x) (hy : l[j]? = some y) (hc : canJoin x y = true) (h : same ((l.eraseIdx j).set k (joinE x y)) = true) : cand2 l same k j = some ((l.eraseIdx j).set k (joinE x y)) := by
  unfold cand2; rw [cand_at hx hy, if_pos hkj, if_pos hc]; simp [Option.filter, h]
theorem joined_at {l : List Entry} {same : List Entry → Bool} {k j : Nat} {t : List Entry} (hk : k < l.length) (hj : j < l.length) (h : cand2 l same k j = some t) (h1 : ∀ b, b < j → cand2 l same k b = none) (h2 : ∀ a, a < k → rowJ l same a = none) : joinedO l same = some t := range_some hk (range_some hj h h1) h2
theorem joined_no {l : List Entry} {same : List Entry → Bool} (h2 : ∀ a, a < l.length → rowJ l same a = none) : joinedO l same = none := range_none h2
theorem lt_next {P : Nat → Prop} {k : Nat} (h : ∀ a, a < k → P a) (hk : P k) : ∀ a, a < k + 1 → P a := fun a ha => by
  rcases Nat.lt_or_ge a k with h1 | h1
  · exact h a h1
  · obtain rfl : a = k := by omega
    exact hk
def joinR (l : List Entry) (same : List Entry → Bool) : List Entry := (joinedO l same).getD l
def mergeN (same : List Entry → Bool) : Nat → List Entry → List Entry
  | 0, l => l
  | n + 1, l => match joinedO l same with
    | some t => mergeN same n t
    | none => l
def outsOf (keys : List Int) (t : List Entry) : List Int := keys.map fun k => (find t k).1
def sameW (keys : List Int) (want : List Int) (t : List Entry) : Bool := decide (outsOf keys t = want)
def mergeP (l : List Entry) (keys : List Int) : List Entry × Int :=
  if (1024 : Int) < l.length ∨ (1024 : Int) < keys.length then ([], 9) else if l.any (fun x => !decide (ent x)) = true then ([], 2) else if keys.any (fun x => decide (x < 0 ∨ 65535 < x)) = true then ([], 3) else
  (mergeN (sameW keys (outsOf keys l)) l.length l, 0)
theorem joined_len {l t : List Entry} {same : List Entry → Bool} (h : joinedO l same = some t) : t.length + 1 = l.length := by
  obtain ⟨k, hk, h1⟩ := List.exists_of_findSome?_eq_some h
  obtain ⟨j, hj, h2⟩ := List.exists_of_findSome?_eq_some h1
  have hj := List.mem_range.1 hj
  unfold cand2 at h2
  split at h2
  · have h3 : cand l k j = some t := by
      cases hc : cand l k j with
      | none => rw [hc] at h2; simp at h2
      | some u => rw [hc] at h2; simp [Option.filter] at h2; rw [h2.2]
    unfold cand at h3
    split at h3
    · split at h3
      · injection h3 with h3
        rw [← h3, List.length_set, List.length_eraseIdx, if_pos hj]
        omega
      · cases h3
    · cases h3
  · cases h2
theorem mergeN_none {l : List Entry} {same : List Entry → Bool} (h : joinedO l same = none) : ∀ n, mergeN same n l = l
  | 0 => rfl
  | n + 1 => by rw [mergeN, h]
theorem mergeN_some {l t : List Entry} {same : List Entry → Bool} (h : joinedO l same = some t) : mergeN same t.length t = mergeN same l.length l := by
  rw [← joined_len h, mergeN, h]
/-- The numbers that have come, and zeros behind them. -/
def fill (f : Int → Int) (keys : List Int) (k : Nat) : List Int := (keys.take k).map f ++ List.replicate (keys.length - k) 0
theorem fill_len (f : Int → Int) (keys : List Int) {k : Nat} (h : k ≤ keys.length) : (fill f keys k).length = keys.length := by
  simp [fill]; omega
theorem fill_set (f : Int → Int) {keys : List Int} {k : Nat} {x : Int} (hx : keys[k]? = some x) : (fill f keys k).set k (f x) = fill f keys (k + 1) := by
  have hk := (List.getElem?_eq_some_iff.1 hx).1
  have e : keys.length - k = (keys.length - (k + 1)) + 1 := by omega
  have hl : ((keys.take k).map f).length = k := by simp; omega
  unfold fill
  rw [take_map hx, e, List.replicate_succ, List.set_append_right _ _ (by omega), hl, Nat.sub_self, List.set_cons_zero, List.append_assoc]
  rfl
theorem fill_zero (f : Int → Int) (keys : List Int) : List.replicate keys.length 0 = fill f keys 0 := by simp [fill]
theorem fill_all (f : Int → Int) (keys : List Int) : fill f keys keys.length = keys.map f := by simp [fill]
def fillN (f : Nat → Int) (n k : Nat) : List Int := (List.range k).map f ++ List.replicate (n - k) 0
theorem fillN_len (f : Nat → Int) {n k : Nat} (h : k ≤ n) : (fillN f n k).length = n := by simp [fillN]; omega
theorem fillN_set (f : Nat → Int) {n k : Nat} (hk : k < n) : (fillN f n k).set k (f k) = fillN f n (k + 1) := by
  have e : n - k = (n - (k + 1)) + 1 := by omega
  unfold fillN
  rw [e, List.replicate_succ, List.set_append_right _ _ (by simp), List.length_map, List.length_range, Nat.sub_self, List.set_cons_zero, List.range_succ, List.map_append, List.append_assoc]
  rfl
theorem fillN_zero (f : Nat → Int) (n : Nat) : List.replicate n 0 = fillN f n 0 := by simp [fillN]
theorem fillN_all (f : Nat → Int) (n : Nat) : fillN f n n = (List.range n).map f := by simp [fillN]
/-- The latest report of the first k routers. -/
def bmax (s : Spec) (xs : List Int) : Nat → Int
  | 0 => 0
  | k + 1 => max (bmax s xs k) ((xs[k]?.getD 0) + (k : Int) % s.Wide + (k : Int) / s.Wide)
def tickE (x : Int) : Int := if x < 0 ∨ 10000 < x then 3 else 0
def barAt (s : Spec) (xs : List Int) (r : Nat) : Int := bmax s xs xs.length + (r : Int) % s.Wide + (r : Int) / s.Wide
def barP (s : Spec) (xs : List Int) : List Int × Int := if chk s ≠ 0 then ([], chk s) else if ((xs.length : Nat) : Int) ≠ s.Wide * s.High then ([], 13) else if first tickE xs ≠ 0 then ([], 3) else ((List.range xs.length).map (barAt s xs), 0)
theorem bmax_next {s : Spec} {xs : List Int} {k : Nat} {x : Int} (hx : xs[k]? = some x) : bmax s xs (k + 1) = max (bmax s xs k) (x + (k : Int) % s.Wide + (k : Int) / s.Wide) := by rw [bmax, hx]; rfl
/-- The one bit that is set, or 0. -/
def bitR (d : Int) : Int := match (List.range 16).find? (fun m => decide (d = 2 ^ m)) with
  | some m => 2 ^ m
  | none => 0
def foundOf (keys : List Int) (t : List Entry) : List (Int × Bool) := keys.map (find t)
theorem found_get {keys : List Int} {t : List Entry} {k : Nat} {x : Int} (hx : keys[k]? = some x) : (foundOf keys t)[k]? = some (find t x) := by simp [foundOf, hx]
def noJoin (x y : Entry) : Prop := (x.Mask ≠ y.Mask ∨ x.Outs ≠ y.Outs) ∨ bitR (bXor .i64 x.Key y.Key) = 0
instance (x y : Entry) : Decidable (noJoin x y) := by unfold noJoin; infer_instance
theorem outs_len (keys : List Int) (t : List Entry) : (outsOf keys t).length = keys.length := by simp [outsOf]
theorem outs_get {keys : List Int} {t : List Entry} {k : Nat} {x : Int} (hx : keys[k]? = some x) : (outsOf keys t)[k]? = some (find t x).1 := by simp [outsOf, hx]
theorem merge_len {t : List Entry} {same : List Entry → Bool} {n : Nat} (h : t.length ≤ n) : (joinR t same).length ≤ n := by
  unfold joinR
  cases hj : joinedO t same with
  | none => exact h
  | some u => have := joined_len hj; simp; omega
theorem merge_inv {t l : List Entry} {same : List Entry → Bool} (h : mergeN same t.length t = l) : mergeN same (joinR t same).length (joinR t same) = l := by
  unfold joinR
  cases hj : joinedO t same with
  | none => exact h
  | some u => rw [← h]; exact mergeN_some hj
theorem merge_out {t : List Entry} {same : List Entry → Bool} : (joinedO t same).isSome = false → joinedO (joinR t same) same = none := fun h => by
  unfold joinR
  cases hj : joinedO t same with
  | none => exact hj
  | some u => rw [hj] at h; cases h
theorem merge_less {t : List Entry} {same : List Entry → Bool} {b : Bool} (hb : b = true) : 2 * (joinR t same).length + (if (joinedO t same).isSome = true then 1 else 0) < 2 * t.length + (if b = true then 1 else 0) := by
  unfold joinR
  cases hj : joinedO t same with
  | none => simp [hb]
  | some u => have := joined_len hj; simp [hb]; omega
theorem _root_.Go.RowKit.Below.keep {w w' : World} (h : Below w.heap.size w w') {a : Addr} {v : Value} (hc : w.cell? a = some v) : w'.cell? a = some v := (Below.agr (D := fun _ => False) h).cell hc id
end Go.Proofs.Ytlnogaoihkinbaa
namespace Go.Proofs.Ytlnogaoihkinbaa
open Go.Gk Go.RowKit
theorem mixed : Try.prog.follows .mixedOrders = true := by kernel_rfl
end Go.Proofs.Ytlnogaoihkinbaa
namespace Go.Proofs.Ytlnogaoihkinbaa
open Go.Gk Go.RowKit
theorem ca168 : cellsAgg Try.prog 168 = some (some 2) := by kernel_rfl
theorem ca3 : cellsAgg Try.prog 3 = some none := by kernel_rfl
theorem ca33 : cellsAgg Try.prog 33 = some (some 3) := by kernel_rfl
theorem cl41 : callable Try.prog 41 = true := by kernel_rfl
theorem fo33_0 : fieldOff Try.prog 33 0 = some 0 := by kernel_rfl
theorem fo33_1 : fieldOff Try.prog 33 1 = some 1 := by kernel_rfl
theorem fo33_2 : fieldOff Try.prog 33 2 = some 2 := by kernel_rfl
theorem sl26 : sliceT Try.prog 26 = some ⟨3, 1, 8, .int .i64 0⟩ := by kernel_rfl
theorem ts168 : tySize Try.prog 168 = some 2 := by kernel_rfl
theorem tz168 : tyZero Try.prog 168 = some (.agg #[.int .i64 0, .int .i64 0]) := by kernel_rfl
theorem at_c (s : Spec) (r : Int) (w0 : World) (h0 : 0 < s.Wide) (hr : 0 ≤ r) (hr2 : r ≤ 9223372036854775807) :
    Calls Try.prog 70 #[.agg #[.int .i64 s.Wide, .int .i64 s.High, .int .i64 s.Room], .int .i64 r] w0 fun e w' => ∃ v, e = .returned v ∧ (v = .agg #[.int .i64 (r % s.Wide), .int .i64 (r / s.Wide)] ∧ Below w0.heap.size w0 w') := by
  refine calls_of (n := 14) (l := [.agg #[.int .i64 s.Wide, .int .i64 s.High, .int .i64 s.Room], .int .i64 r]) Try.func70 rfl rfl rfl ?_
  have H := Hp.start w0
  refine V_seq rfl ?_
  refine V_region rfl ?_
  refine Rg_op rfl (o_box (v := .agg #[.int .i64 s.Wide, .int .i64 s.High, .int .i64 s.Room]) rfl rfl H fun b1 w2 hA H => ?_)
  refine Rg_op rfl (o_alloc rfl tz168 H fun b3 w4 hA H => ?_)
  refine Rg_end ?_
  refine V_seq rfl ?_
  refine V_draw [0, 1, 3, 4, 5, 7, 8] (.p 0 (.p 1 (.q 2 (.p 3 (.p 4 (.p 5 (.q 6 (.p 7 (.p 8 (.l 9 .done)))))))))) (fun _ => False) rfl mixed (by kernel_rfl) fun w5 hD => ?_
  have H := H.drew hD
  refine c_p (v := .int .i64 r) (d := 5) rfl rfl rfl (fun w' => ex_move rfl) ?_
  refine c_p (v := .pointer (some ⟨b1, 0, none⟩)) (d := 6) rfl rfl rfl (fun w' => ex_fieldAddr fo33_0 rfl rfl) ?_
  refine c_q (v := .int .i64 s.Wide) (d := 7) rfl rfl rfl (fun w' hG => ex_load ca3 rfl (hG.cell (cell_of (H.rd 1 rfl)) id)) ?_
  refine c_p (v := .int .i64 (r % s.Wide)) (d := 8) rfl rfl rfl (fun w' => ex_rem rfl rfl (by omega) (by omega)) ?_
  refine c_p (v := .int .i64 r) (d := 9) rfl rfl rfl (fun w' => ex_move rfl) ?_
  refine c_p (v := .pointer (some ⟨b1, 0, none⟩)) (d := 10) rfl rfl rfl (fun w' => ex_fieldAddr fo33_0 rfl rfl) ?_
  refine c_q (v := .int .i64 s.Wide) (d := 11) rfl rfl rfl (fun w' hG => ex_load ca3 rfl (hG.cell (cell_of (H.rd 1 rfl)) id)) ?_
  refine c_p (v := .int .i64 (r / s.Wide)) (d := 12) rfl rfl rfl (fun w' => ex_quo rfl rfl (by omega) (by omega) (by omega)) ?_
  refine c_p (v := .agg #[.int .i64 (r % s.Wide), .int .i64 (r / s.Wide)]) (d := 13) rfl rfl rfl (fun w' => ex_eq (by kernel_rfl)) ?_
  refine c_l rfl (o_store (vs := [.int .i64 (r % s.Wide), .int .i64 (r / s.Wide)]) rfl ts168 rfl rfl rfl rfl 0 rfl rfl rfl rfl H fun w6 hA H => ⟨.inl (by kernel_rfl), ?_⟩)
  refine c_done ?_
  refine V_ret rfl (end0 (v := .agg #[.int .i64 (r % s.Wide), .int .i64 (r / s.Wide)]) rfl (res_cell Try.results70 rfl (load_blk (vs := [.int .i64 (r % s.Wide), .int .i64 (r / s.Wide)]) ca168 (H.rd 0 rfl) rfl rfl)) ?_)
  exact ⟨rfl, H.below⟩

theorem check_c (s : Spec) (w0 : World) :
    Calls Try.prog 41 #[.agg #[.int .i64 s.Wide, .int .i64 s.High, .int .i64 s.Room]] w0 fun e w' => ∃ v, e = .returned v ∧ (v = .int .i64 (chk s) ∧ Below w0.heap.size w0 w') := by
  refine calls_of (n := 24) (l := [.agg #[.int .i64 s.Wide, .int .i64 s.High, .int .i64 s.Room]]) Try.func41 rfl rfl rfl ?_
  have H := Hp.start w0
  refine V_seq rfl ?_
  refine V_region rfl ?_
  refine Rg_op rfl (o_box (v := .agg #[.int .i64 s.Wide, .int .i64 s.High, .int .i64 s.Room]) rfl rfl H fun b1 w2 hA H => ?_)
  refine Rg_op rfl (o_val (v := .int .i64 0) (d := 2) rfl rfl (ex_assign rfl) ?_)
  refine Rg_end ?_
  refine V_seq rfl ?_
  refine V_seq rfl ?_
  refine V_join (fun σ w => σ 2 = .int .i64 0 ∧ σ 23 = .bool (decide ((((min (min s.Wide s.High) s.Room) < 1) ∨ (8 < (max s.Wide s.High))) ∨ (64 < s.Room))) ∧ σ 1000000 = undef ∧ Hp w0.heap.size w0 w [SA.cel b1 #[.int .i64 s.Wide, .int .i64 s.High, .int .i64 s.Room] 33]) ?_ (fun σ w hI => ?_)
  · skip
    refine V_region rfl ?_
    refine Rg_op rfl (o_val (v := .pointer (some ⟨b1, 0, none⟩)) (d := 3) rfl rfl (ex_fieldAddr fo33_0 rfl rfl) ?_)
    refine Rg_op rfl (o_val (v := .int .i64 s.Wide) (d := 4) rfl rfl (ex_load ca3 rfl (cell_of (H.rd 0 rfl))) ?_)
    refine Rg_op rfl (o_val (v := .pointer (some ⟨b1, 1, none⟩)) (d := 5) rfl rfl (ex_fieldAddr fo33_1 rfl rfl) ?_)
    refine Rg_op rfl (o_val (v := .int .i64 s.High) (d := 6) rfl rfl (ex_load ca3 rfl (cell_of (H.rd 0 rfl))) ?_)
    refine Rg_op rfl (o_val (v := .pointer (some ⟨b1, 2, none⟩)) (d := 7) rfl rfl (ex_fieldAddr fo33_2 rfl rfl) ?_)
    refine Rg_op rfl (o_val (v := .int .i64 s.Room) (d := 8) rfl rfl (ex_load ca3 rfl (cell_of (H.rd 0 rfl))) ?_)
    refine Rg_op rfl (o_val (v := .int .i64 (min (min s.Wide s.High) s.Room)) (d := 9) rfl rfl (ex_min3 rfl rfl rfl) ?_)
    refine Rg_op rfl (o_val (v := .bool (decide ((min (min s.Wide s.High) s.Room) < 1))) (d := 10) rfl rfl (ex_lss rfl rfl) ?_)
    refine Rg_op rfl (o_val (v := .bool (decide ((min (min s.Wide s.High) s.Room) < 1))) (d := 11) rfl rfl (ex_move rfl) ?_)
    by_cases hg3 : (min (min s.Wide s.High) s.Room) < 1
    · skip
      refine Rg_op rfl (o_skip (d := 12) rfl rfl (wanted_no (b := (decide ((min (min s.Wide s.High) s.Room) < 1))) rfl rfl rfl (decide_eq_true hg3)) ?_)
      refine Rg_op rfl (o_skip (d := 13) rfl rfl (wanted_no (b := (decide ((min (min s.Wide s.High) s.Room) < 1))) rfl rfl rfl (decide_eq_true hg3)) ?_)
      refine Rg_op rfl (o_skip (d := 14) rfl rfl (wanted_no (b := (decide ((min (min s.Wide s.High) s.Room) < 1))) rfl rfl rfl (decide_eq_true hg3)) ?_)
      refine Rg_op rfl (o_skip (d := 15) rfl rfl (wanted_no (b := (decide ((min (min s.Wide s.High) s.Room) < 1))) rfl rfl rfl (decide_eq_true hg3)) ?_)
      refine Rg_op rfl (o_skip (d := 16) rfl rfl (wanted_no (b := (decide ((min (min s.Wide s.High) s.Room) < 1))) rfl rfl rfl (decide_eq_true hg3)) ?_)
      refine Rg_op rfl (o_skip (d := 17) rfl rfl (wanted_no (b := (decide ((min (min s.Wide s.High) s.Room) < 1))) rfl rfl rfl (decide_eq_true hg3)) ?_)
      refine Rg_op rfl (o_val (v := .bool true) (d := 18) rfl rfl (ex_pick (q := (decide ((min (min s.Wide s.High) s.Room) < 1))) rfl (fun h => rfl) (fun h => absurd hg3 (of_decide_eq_false h))) ?_)
      refine Rg_op rfl (o_val (v := .bool true) (d := 19) rfl rfl (ex_move rfl) ?_)
      refine Rg_op rfl (o_skip (d := 20) rfl rfl (wanted_no (b := true) rfl rfl rfl rfl) ?_)
      refine Rg_op rfl (o_skip (d := 21) rfl rfl (wanted_no (b := true) rfl rfl rfl rfl) ?_)
      refine Rg_op rfl (o_skip (d := 22) rfl rfl (wanted_no (b := true) rfl rfl rfl rfl) ?_)
      refine Rg_op rfl (o_val (v := .bool true) (d := 23) rfl rfl (ex_pick (q := true) rfl (fun h => rfl) (fun h => by cases h)) ?_)
      refine Rg_end ?_
      exact ⟨rfl, (show (.bool true : Value) = .bool (decide ((((min (min s.Wide s.High) s.Room) < 1) ∨ (8 < (max s.Wide s.High))) ∨ (64 < s.Room))) from by first | (simp only [hg3, true_or, or_true, false_or, or_false, true_and, and_true, false_and, and_false, decide_true, decide_false, Bool.not_true, Bool.not_false]; done) | (simp [hg3]; done) | (simp [hg3]; rfl)), rfl, H⟩
    · skip
      refine Rg_op rfl (o_valg (v := .pointer (some ⟨b1, 0, none⟩)) (d := 12) rfl rfl (wanted_yes (b := (decide ((min (min s.Wide s.High) s.Room) < 1))) rfl rfl rfl (decide_eq_false hg3)) (ex_fieldAddr fo33_0 rfl rfl) ?_)
      refine Rg_op rfl (o_valg (v := .int .i64 s.Wide) (d := 13) rfl rfl (wanted_yes (b := (decide ((min (min s.Wide s.High) s.Room) < 1))) rfl rfl rfl (decide_eq_false hg3)) (ex_load ca3 rfl (cell_of (H.rd 0 rfl))) ?_)
      refine Rg_op rfl (o_valg (v := .pointer (some ⟨b1, 1, none⟩)) (d := 14) rfl rfl (wanted_yes (b := (decide ((min (min s.Wide s.High) s.Room) < 1))) rfl rfl rfl (decide_eq_false hg3)) (ex_fieldAddr fo33_1 rfl rfl) ?_)
      refine Rg_op rfl (o_valg (v := .int .i64 s.High) (d := 15) rfl rfl (wanted_yes (b := (decide ((min (min s.Wide s.High) s.Room) < 1))) rfl rfl rfl (decide_eq_false hg3)) (ex_load ca3 rfl (cell_of (H.rd 0 rfl))) ?_)
      refine Rg_op rfl (o_valg (v := .int .i64 (max s.Wide s.High)) (d := 16) rfl rfl (wanted_yes (b := (decide ((min (min s.Wide s.High) s.Room) < 1))) rfl rfl rfl (decide_eq_false hg3)) (ex_max2 rfl rfl) ?_)
      refine Rg_op rfl (o_valg (v := .bool (decide (8 < (max s.Wide s.High)))) (d := 17) rfl rfl (wanted_yes (b := (decide ((min (min s.Wide s.High) s.Room) < 1))) rfl rfl rfl (decide_eq_false hg3)) (ex_gtr rfl rfl) ?_)
      refine Rg_op rfl (o_val (v := .bool (decide (8 < (max s.Wide s.High)))) (d := 18) rfl rfl (ex_pick (q := (decide ((min (min s.Wide s.High) s.Room) < 1))) rfl (fun h => absurd (of_decide_eq_true h) hg3) (fun h => rfl)) ?_)
      refine Rg_op rfl (o_val (v := .bool (decide (8 < (max s.Wide s.High)))) (d := 19) rfl rfl (ex_move rfl) ?_)
      by_cases hg4 : 8 < (max s.Wide s.High)
      · skip
        refine Rg_op rfl (o_skip (d := 20) rfl rfl (wanted_no (b := (decide (8 < (max s.Wide s.High)))) rfl rfl rfl (decide_eq_true hg4)) ?_)
        refine Rg_op rfl (o_skip (d := 21) rfl rfl (wanted_no (b := (decide (8 < (max s.Wide s.High)))) rfl rfl rfl (decide_eq_true hg4)) ?_)
        refine Rg_op rfl (o_skip (d := 22) rfl rfl (wanted_no (b := (decide (8 < (max s.Wide s.High)))) rfl rfl rfl (decide_eq_true hg4)) ?_)
        refine Rg_op rfl (o_val (v := .bool true) (d := 23) rfl rfl (ex_pick (q := (decide (8 < (max s.Wide s.High)))) rfl (fun h => rfl) (fun h => absurd hg4 (of_decide_eq_false h))) ?_)
        refine Rg_end ?_
        exact ⟨rfl, (show (.bool true : Value) = .bool (decide ((((min (min s.Wide s.High) s.Room) < 1) ∨ (8 < (max s.Wide s.High))) ∨ (64 < s.Room))) from by first | (simp only [hg3, hg4, true_or, or_true, false_or, or_false, true_and, and_true, false_and, and_false, decide_true, decide_false, Bool.not_true, Bool.not_false]; done) | (simp [hg3, hg4]; done) | (simp [hg3, hg4]; rfl)), rfl, H⟩
      · skip
        refine Rg_op rfl (o_valg (v := .pointer (some ⟨b1, 2, none⟩)) (d := 20) rfl rfl (wanted_yes (b := (decide (8 < (max s.Wide s.High)))) rfl rfl rfl (decide_eq_false hg4)) (ex_fieldAddr fo33_2 rfl rfl) ?_)
        refine Rg_op rfl (o_valg (v := .int .i64 s.Room) (d := 21) rfl rfl (wanted_yes (b := (decide (8 < (max s.Wide s.High)))) rfl rfl rfl (decide_eq_false hg4)) (ex_load ca3 rfl (cell_of (H.rd 0 rfl))) ?_)
        refine Rg_op rfl (o_valg (v := .bool (decide (64 < s.Room))) (d := 22) rfl rfl (wanted_yes (b := (decide (8 < (max s.Wide s.High)))) rfl rfl rfl (decide_eq_false hg4)) (ex_gtr rfl rfl) ?_)
        refine Rg_op rfl (o_val (v := .bool (decide (64 < s.Room))) (d := 23) rfl rfl (ex_pick (q := (decide (8 < (max s.Wide s.High)))) rfl (fun h => absurd (of_decide_eq_true h) hg4) (fun h => rfl)) ?_)
        refine Rg_end ?_
        exact ⟨rfl, (show (.bool (decide (64 < s.Room)) : Value) = .bool (decide ((((min (min s.Wide s.High) s.Room) < 1) ∨ (8 < (max s.Wide s.High))) ∨ (64 < s.Room))) from by first | (simp only [hg3, hg4, true_or, or_true, false_or, or_false, true_and, and_true, false_and, and_false, decide_true, decide_false, Bool.not_true, Bool.not_false]; done) | (simp [hg3, hg4]; done) | (simp [hg3, hg4]; rfl)), rfl, H⟩
  obtain ⟨s2, s23, s1000000, H⟩ := hI
  refine V_cond (b := (decide ((((min (min s.Wide s.High) s.Room) < 1) ∨ (8 < (max s.Wide s.High))) ∨ (64 < s.Room)))) rfl s23 (fun hb5 => ?_) (fun hb5 => ?_)
  · have hb5 : (((min (min s.Wide s.High) s.Room) < 1) ∨ (8 < (max s.Wide s.High))) ∨ (64 < s.Room) := of_decide_eq_true hb5
    refine V_seq rfl ?_
    refine V_region rfl ?_
    refine Rg_op rfl (o_val (v := .int .i64 3) (d := 2) rfl rfl (ex_assign rfl) ?_)
    refine Rg_end ?_
    refine V_ret rfl (end0 (v := .int .i64 3) s1000000 (res_tmp Try.results41 rfl) ?_)
    exact ⟨by simp only [chk]; (repeat' split) <;> first | contradiction | rfl | (simp_all; done) | skip, H.below⟩
  · have hb5 : ¬ ((((min (min s.Wide s.High) s.Room) < 1) ∨ (8 < (max s.Wide s.High))) ∨ (64 < s.Room)) := of_decide_eq_false hb5
    refine V_skip rfl ?_
    refine V_seq rfl ?_
    refine V_region rfl ?_
    refine Rg_op rfl (o_val (v := .int .i64 0) (d := 2) rfl rfl (ex_assign rfl) ?_)
    refine Rg_end ?_
    refine V_ret rfl (end0 (v := .int .i64 0) s1000000 (res_tmp Try.results41 rfl) ?_)
    exact ⟨by simp only [chk]; (repeat' split) <;> first | contradiction | rfl | (simp_all; done) | skip, H.below⟩

theorem known_c (s : Spec) (A : Option Addr) (c : Nat) (xs : List Int) (w0 : World) (hX : Row kInt w0.cell? A xs) (hl : xs.length ≤ 9223372036854775807) :
    Calls Try.prog 68 #[.agg #[.int .i64 s.Wide, .int .i64 s.High, .int .i64 s.Room], .slice A xs.length c] w0 fun e w' => ∃ v, e = .returned v ∧ (v = .int .i64 (known s xs) ∧ Below w0.heap.size w0 w') := by
  refine calls_of (n := 31) (l := [.agg #[.int .i64 s.Wide, .int .i64 s.High, .int .i64 s.Room], .slice A xs.length c]) Try.func68 rfl rfl rfl ?_
  have H := Hp.start w0
  refine V_seq rfl ?_
  refine V_region rfl ?_
  refine Rg_op rfl (o_box (v := .agg #[.int .i64 s.Wide, .int .i64 s.High, .int .i64 s.Room]) rfl rfl H fun b1 w2 hA H => ?_)
  refine Rg_op rfl (o_val (v := .int .i64 0) (d := 4) rfl rfl (ex_assign rfl) ?_)
  refine Rg_end ?_
  refine V_seq rfl ?_
  refine V_seq rfl ?_
  refine V_region rfl ?_
  refine Rg_op rfl (o_val (v := .agg #[.int .i64 s.Wide, .int .i64 s.High, .int .i64 s.Room]) (d := 8) rfl rfl (ex_loadN (vs := [.int .i64 s.Wide, .int .i64 s.High, .int .i64 s.Room]) ca33 rfl rfl (blk_cells (H.rd 0 rfl) rfl)) ?_)
  refine Rg_op rfl (o_call (fv := []) (cap := []) (vs := [.agg #[.int .i64 s.Wide, .int .i64 s.High, .int .i64 s.Room]]) rfl rfl cl41 rfl (check_c s _) fun v w3 hS => ?_)
  obtain ⟨rfl, hB⟩ := hS
  have H := H.keep hB
  refine Rg_op rfl (o_val (v := .int .i64 (chk s)) (d := 5) rfl rfl (ex_assign rfl) ?_)
  refine Rg_end ?_
  refine V_seq rfl ?_
  refine V_region rfl ?_
  refine Rg_op rfl (o_val (v := .int .i64 (chk s)) (d := 10) rfl rfl (ex_move rfl) ?_)
  refine Rg_op rfl (o_val (v := .bool (decide ((chk s) ≠ 0))) (d := 11) rfl rfl (ex_neq rfl rfl) ?_)
  refine Rg_end ?_
  refine V_cond (b := (decide ((chk s) ≠ 0))) rfl rfl (fun hb4 => ?_) (fun hb4 => ?_)
  · have hb4 : (chk s) ≠ 0 := of_decide_eq_true hb4
    refine V_seq rfl ?_
    refine V_region rfl ?_
    refine Rg_op rfl (o_val (v := .int .i64 (chk s)) (d := 12) rfl rfl (ex_move rfl) ?_)
    refine Rg_op rfl (o_val (v := .int .i64 (chk s)) (d := 4) rfl rfl (ex_assign rfl) ?_)
    refine Rg_end ?_
    refine V_ret rfl (end0 (v := .int .i64 (chk s)) rfl (res_tmp Try.results68 rfl) ?_)
    exact ⟨congrArg _ (by simp only [known]; rw [if_pos (by assumption)]), H.below⟩
  · have hb4 : ¬ ((chk s) ≠ 0) := of_decide_eq_false hb4
    obtain ⟨hs1, hs2, hs3, hs4, hs5, hs6⟩ := chk_ok (by omega : chk s = 0)
    obtain ⟨hm1, hm2⟩ := mul64 (by omega : chk s = 0)
    refine V_skip rfl ?_
    refine V_seq rfl ?_
    refine V_seq rfl ?_
    refine V_region rfl ?_
    refine Rg_op rfl (o_val (v := .slice A xs.length c) (d := 13) rfl rfl (ex_move rfl) ?_)
    refine Rg_op rfl (o_val (v := .int .i64 ((xs.length : Nat) : Int)) (d := 14) rfl rfl (ex_len (ts := #[]) sl26 rfl) ?_)
    refine Rg_op rfl (o_val (v := .int .i64 0) (d := 15) rfl rfl (ex_move rfl) ?_)
    refine Rg_end ?_
    refine V_block rfl ?_
    refine V_loop rfl (γ := Nat) (fun k σ w => σ 2 = .pointer (some ⟨b1, 0, none⟩) ∧ σ 4 = .int .i64 0 ∧ σ 13 = .slice A xs.length c ∧ σ 14 = .int .i64 ((xs.length : Nat) : Int) ∧ σ 15 = .int .i64 ((k : Nat) : Int) ∧ σ 1000000 = undef ∧ Hp w0.heap.size w0 w [SA.cel b1 #[.int .i64 s.Wide, .int .i64 s.High, .int .i64 s.Room] 33] ∧ k ≤ xs.length ∧ (∀ x ∈ xs.take k, 0 ≤ x ∧ x < s.Wide * s.High)) (fun k => xs.length - k) (0) ⟨rfl, rfl, rfl, rfl, rfl, rfl, H, by omega, by simp⟩ (fun k σ w hI => ?_)
    obtain ⟨s2, s4, s13, s14, s15, s1000000, H, hk, hall⟩ := hI
    refine V_seq rfl ?_
    refine V_region rfl ?_
    refine Rg_op rfl (o_val (v := .bool (decide (((k : Nat) : Int) < ((xs.length : Nat) : Int)))) (d := 16) rfl rfl (ex_lss s15 s14) ?_)
    refine Rg_end ?_
    refine V_seq rfl ?_
    refine V_cond (b := (decide (((k : Nat) : Int) < ((xs.length : Nat) : Int)))) rfl rfl (fun hb5 => ?_) (fun hb5 => ?_)
    · have hb5 : ((k : Nat) : Int) < ((xs.length : Nat) : Int) := of_decide_eq_true hb5
      refine V_skip rfl ?_
      refine V_seq rfl ?_
      refine V_block rfl ?_
      refine V_seq rfl ?_
      refine V_region rfl ?_
      obtain ⟨ad6, x6, cs6, hA6, hx6, hR6, hc6⟩ := Row.get hX ((k : Nat) : Int) (by omega) (by omega)
      obtain rfl := hR6
      refine Rg_op rfl (o_val (v := .pointer (some (ad6.add ((((k : Nat) : Int)).toNat * 1)))) (d := 17) rfl rfl (ex_indexAddr sl26 s13 hA6 s15 (by omega) (by omega) rfl) ?_)
      refine Rg_op rfl (o_val (v := .int .i64 x6) (d := 18) rfl rfl (ex_load ca3 rfl (H.cell0 (hc6 0 _ rfl))) ?_)
      refine Rg_op rfl (o_val (v := .int .i64 x6) (d := 7) rfl rfl (ex_assign rfl) ?_)
      refine Rg_end ?_
      refine V_seq rfl ?_
      refine V_join (fun σ w => σ 2 = .pointer (some ⟨b1, 0, none⟩) ∧ σ 4 = .int .i64 0 ∧ σ 7 = .int .i64 x6 ∧ σ 13 = .slice A xs.length c ∧ σ 14 = .int .i64 ((xs.length : Nat) : Int) ∧ σ 15 = .int .i64 ((k : Nat) : Int) ∧ σ 16 = .bool (decide (((k : Nat) : Int) < ((xs.length : Nat) : Int))) ∧ σ 17 = .pointer (some (ad6.add ((((k : Nat) : Int)).toNat * 1))) ∧ σ 18 = .int .i64 x6 ∧ σ 19 = .int .i64 x6 ∧ σ 20 = .bool (decide (x6 < 0)) ∧ σ 21 = .bool (decide (x6 < 0)) ∧ σ 29 = .bool (decide ((x6 < 0) ∨ ((s.Wide * s.High) ≤ x6))) ∧ σ 1000000 = undef ∧ Hp w0.heap.size w0 w [SA.cel b1 #[.int .i64 s.Wide, .int .i64 s.High, .int .i64 s.Room] 33]) ?_ (fun σ w hI => ?_)
      · skip
        refine V_region rfl ?_
        refine Rg_op rfl (o_val (v := .int .i64 x6) (d := 19) rfl rfl (ex_move rfl) ?_)
        refine Rg_op rfl (o_val (v := .bool (decide (x6 < 0))) (d := 20) rfl rfl (ex_lss rfl rfl) ?_)
        refine Rg_op rfl (o_val (v := .bool (decide (x6 < 0))) (d := 21) rfl rfl (ex_move rfl) ?_)
        by_cases hg7 : x6 < 0
        · skip
          refine Rg_op rfl (o_skip (d := 22) rfl rfl (wanted_no (b := (decide (x6 < 0))) rfl rfl rfl (decide_eq_true hg7)) ?_)
          refine Rg_op rfl (o_skip (d := 23) rfl rfl (wanted_no (b := (decide (x6 < 0))) rfl rfl rfl (decide_eq_true hg7)) ?_)
          refine Rg_op rfl (o_skip (d := 24) rfl rfl (wanted_no (b := (decide (x6 < 0))) rfl rfl rfl (decide_eq_true hg7)) ?_)
          refine Rg_op rfl (o_skip (d := 25) rfl rfl (wanted_no (b := (decide (x6 < 0))) rfl rfl rfl (decide_eq_true hg7)) ?_)
          refine Rg_op rfl (o_skip (d := 26) rfl rfl (wanted_no (b := (decide (x6 < 0))) rfl rfl rfl (decide_eq_true hg7)) ?_)
          refine Rg_op rfl (o_skip (d := 27) rfl rfl (wanted_no (b := (decide (x6 < 0))) rfl rfl rfl (decide_eq_true hg7)) ?_)
          refine Rg_op rfl (o_skip (d := 28) rfl rfl (wanted_no (b := (decide (x6 < 0))) rfl rfl rfl (decide_eq_true hg7)) ?_)
          refine Rg_op rfl (o_val (v := .bool true) (d := 29) rfl rfl (ex_pick (q := (decide (x6 < 0))) rfl (fun h => rfl) (fun h => absurd hg7 (of_decide_eq_false h))) ?_)
          refine Rg_end ?_
          exact ⟨s2, s4, rfl, s13, s14, s15, rfl, rfl, rfl, rfl, rfl, rfl, (show (.bool true : Value) = .bool (decide ((x6 < 0) ∨ ((s.Wide * s.High) ≤ x6))) from by first | (simp only [hg7, true_or, or_true, false_or, or_false, true_and, and_true, false_and, and_false, decide_true, decide_false, Bool.not_true, Bool.not_false]; done) | (simp [hg7]; done) | (simp [hg7]; rfl)), s1000000, H⟩
        · skip
          refine Rg_op rfl (o_valg (v := .int .i64 x6) (d := 22) rfl rfl (wanted_yes (b := (decide (x6 < 0))) rfl rfl rfl (decide_eq_false hg7)) (ex_move rfl) ?_)
          refine Rg_op rfl (o_valg (v := .pointer (some ⟨b1, 0, none⟩)) (d := 23) rfl rfl (wanted_yes (b := (decide (x6 < 0))) rfl rfl rfl (decide_eq_false hg7)) (ex_fieldAddr fo33_0 s2 rfl) ?_)
          refine Rg_op rfl (o_valg (v := .int .i64 s.Wide) (d := 24) rfl rfl (wanted_yes (b := (decide (x6 < 0))) rfl rfl rfl (decide_eq_false hg7)) (ex_load ca3 rfl (cell_of (H.rd 0 rfl))) ?_)
          refine Rg_op rfl (o_valg (v := .pointer (some ⟨b1, 1, none⟩)) (d := 25) rfl rfl (wanted_yes (b := (decide (x6 < 0))) rfl rfl rfl (decide_eq_false hg7)) (ex_fieldAddr fo33_1 s2 rfl) ?_)
          refine Rg_op rfl (o_valg (v := .int .i64 s.High) (d := 26) rfl rfl (wanted_yes (b := (decide (x6 < 0))) rfl rfl rfl (decide_eq_false hg7)) (ex_load ca3 rfl (cell_of (H.rd 0 rfl))) ?_)
          refine Rg_op rfl (o_valg (v := .int .i64 (s.Wide * s.High)) (d := 27) rfl rfl (wanted_yes (b := (decide (x6 < 0))) rfl rfl rfl (decide_eq_false hg7)) (ex_mul rfl rfl (by omega)) ?_)
          refine Rg_op rfl (o_valg (v := .bool (decide ((s.Wide * s.High) ≤ x6))) (d := 28) rfl rfl (wanted_yes (b := (decide (x6 < 0))) rfl rfl rfl (decide_eq_false hg7)) (ex_geq rfl rfl) ?_)
          refine Rg_op rfl (o_val (v := .bool (decide ((s.Wide * s.High) ≤ x6))) (d := 29) rfl rfl (ex_pick (q := (decide (x6 < 0))) rfl (fun h => absurd (of_decide_eq_true h) hg7) (fun h => rfl)) ?_)
          refine Rg_end ?_
          exact ⟨s2, s4, rfl, s13, s14, s15, rfl, rfl, rfl, rfl, rfl, rfl, (show (.bool (decide ((s.Wide * s.High) ≤ x6)) : Value) = .bool (decide ((x6 < 0) ∨ ((s.Wide * s.High) ≤ x6))) from by first | (simp only [hg7, true_or, or_true, false_or, or_false, true_and, and_true, false_and, and_false, decide_true, decide_false, Bool.not_true, Bool.not_false]; done) | (simp [hg7]; done) | (simp [hg7]; rfl)), s1000000, H⟩
      obtain ⟨s2, s4, s7, s13, s14, s15, s16, s17, s18, s19, s20, s21, s29, s1000000, H⟩ := hI
      refine V_cond (b := (decide ((x6 < 0) ∨ ((s.Wide * s.High) ≤ x6)))) rfl s29 (fun hb8 => ?_) (fun hb8 => ?_)
      · have hb8 : (x6 < 0) ∨ ((s.Wide * s.High) ≤ x6) := of_decide_eq_true hb8
        refine V_seq rfl ?_
        refine V_region rfl ?_
        refine Rg_op rfl (o_val (v := .int .i64 4) (d := 4) rfl rfl (ex_assign rfl) ?_)
        refine Rg_end ?_
        refine V_ret rfl (end0 (v := .int .i64 4) s1000000 (res_tmp Try.results68 rfl) ?_)
        refine ⟨congrArg _ ?_, H.below⟩
        simp only [known]; rw [if_neg (by assumption), if_neg]
        exact fun h => by have := List.all_eq_true.1 h _ (List.mem_of_getElem? hx6); simp only [decide_eq_true_eq] at this; omega
      · have hb8 : ¬ ((x6 < 0) ∨ ((s.Wide * s.High) ≤ x6)) := of_decide_eq_false hb8
        refine V_skip rfl ?_
        refine V_region rfl ?_
        refine Rg_op rfl (o_val (v := .int .i64 (((k : Nat) : Int) + 1)) (d := 30) rfl rfl (ex_add s15 rfl (by omega)) ?_)
        refine Rg_op rfl (o_val (v := .int .i64 (((k : Nat) : Int) + 1)) (d := 15) rfl rfl (ex_move rfl) ?_)
        refine Rg_end ?_
        exact ⟨k + 1, ⟨s2, s4, s13, s14, rfl, s1000000, H, by omega, take_all hall hx6 (by omega)⟩, by omega⟩
    · have hb5 : ¬ (((k : Nat) : Int) < ((xs.length : Nat) : Int)) := of_decide_eq_false hb5
      refine V_exit rfl ?_
      refine V_seq rfl ?_
      refine V_region rfl ?_
      refine Rg_op rfl (o_val (v := .int .i64 0) (d := 4) rfl rfl (ex_assign rfl) ?_)
      refine Rg_end ?_
      refine V_ret rfl (end0 (v := .int .i64 0) s1000000 (res_tmp Try.results68 rfl) ?_)
      refine ⟨congrArg _ ?_, H.below⟩
      simp only [known]; rw [if_neg (by assumption), if_pos]
      refine List.all_eq_true.2 fun x hx => decide_eq_true (hall x ?_)
      rwa [List.take_of_length_le (by omega)]

end Go.Proofs.Ytlnogaoihkinbaa
