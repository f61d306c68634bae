/- Part 2 of the ground of this seat's proofs: rules of a calculus of walks, and what the functions of the lower layers compute; no conditions beyond those that each statement bears. -/
import Derived.Test.YtffhheogdmekdaaGreatDoorBase1
import Derived.RangeFuncRecord
import Derived.RangeFuncSeq
import Derived.OrdersIn
import Derived.TacticsIn
import Derived.Deep.AppendSrc
import Derived.Deep.Upon
import Derived.Laws.CopyRow
import Derived.Stop.BytesEq
import Derived.Lib.IfaceEq
import Derived.Test.YtffhheogdmekdaaGreatDoorProg
import Derived.Lib.SlBytesConst
set_option linter.unusedVariables false
set_option linter.unusedSimpArgs false
set_option linter.unnecessarySimpa false
/- A range over a function: the rounds. -/
namespace Go.X
open Go

def Fe (r : Option Nat) : Fence := { Fence.wide with round := r }
def nd (o : Oper) : Bool := match o.op with
  | .defer _ => false
  | _ => true
theorem nd_spec {o : Oper} (h : nd o = true) : ∀ c, o.op ≠ .defer c := fun c e => by simp [nd, e] at h

section
variable {P : Program} {ops : Array Oper} {n m : Nat} {r : Option Nat} {Q : XPost} {l : Regs} {w : World}

theorem callsFe {f : FuncId} {args : Array Value} {R : Ending → World → Prop} (h : Calls P f args w R) : CallsIn (Fe r) m P f args w R := by
  have h1 : CallsIn Fence.wide m P f args w R := callsIn_wide.2 h
  exact h1
theorem rowsFe {row : String} {args : Array Value} {R : Value → World → Prop} (h : Rows P row args w R) : RowsIn (Fe r) m P row args w R := fun c cs _ =>
  let ⟨v, w', hr, s⟩ := h c cs
  have s1 : StepsIn (Machine.fenced P Fence.wide) P _ _ := stepsIn_wide.2 s
  ⟨v, w', hr, s1⟩

theorem wp_toI {o : Oper} {a : Act} {K : Act → World → Prop} (hd : nd o = true) (h : o.wp P a w K XF) : o.wpIn (Fe r) m P a w K Q := by
  refine ⟨fun _ _ => trivial, ?_⟩
  rw [Oper.semAt_eq _ _ _ (nd_spec hd)]
  unfold Oper.wp at h
  generalize (execOp a.eval o).run P w = res at *
  have hdep : ∀ k : Nat, (Fe r).depth.isSome = true → 1 ≤ k := fun k hk => by simp [Fe, Fence.wide] at hk
  cases res with
  | ok nx w' =>
    cases nx <;> simp only [Oper.upon, Oper.uponIn] at h ⊢ <;>
      first
        | exact h
        | exact ⟨hdep _, callsFe (h.mono fun e w'' he => by
            cases e
            · exact he
            · exact he.elim
            · obtain ⟨_, _, hf⟩ := he; exact hf.elim)⟩
        | exact ⟨hdep _, rowsFe h⟩
        | exact h.elim
  | halt x w' => cases x <;> simp only [Oper.upon, Oper.uponIn] at h ⊢ <;> exact h.elim

def WLI (P : Program) (ops : Array Oper) (n : Nat) (Q : XPost) (r : Option Nat) (m : Nat) : List Oper → Regs → World → Prop
  | [], l, w => WQ n Q .normal l w
  | o :: rest, l, w => ∀ a, Is n l a →
    if Region.wanted o (yielded ops a.tmps) then o.wpIn (Fe r) m P a w (fun a' w' => ∃ l', Is n l' a' ∧ WLI P ops n Q r m rest l' w') Q
    else ∃ l', Is n l' (a.put o.dst undef) ∧ WLI P ops n Q r m rest l' w

theorem WLI.sound : ∀ {rest : List Oper} {l : Regs} {w : World} {a : Act}, WLI P ops n Q r m rest l w → Is n l a → wpListIn (Fe r) m P ops Q rest a w
  | [], _, _, a, h, hi => h a hi
  | o :: rest, l, w, a, h, hi => by
    have h1 := h a hi
    unfold wpListIn
    split
    · rename_i hw
      rw [if_pos hw] at h1
      exact Oper.wpIn_mono (fun a' w' ⟨l', hi', hk⟩ => WLI.sound hk hi') h1
    · rename_i hw
      rw [if_neg hw] at h1
      obtain ⟨l', hi', hk⟩ := h1
      exact ⟨fun _ _ => trivial, WLI.sound hk hi'⟩

/-- an operation as everywhere -/
theorem wi {o : Oper} {rest : List Oper} (hd : nd o = true) (h : WO P ops n o l w (WLI P ops n Q r m rest)) : WLI P ops n Q r m (o :: rest) l w := fun a ha => by
  have h1 := h a ha
  split
  · rename_i hw; rw [if_pos hw] at h1; exact wp_toI hd h1
  · rename_i hw; rw [if_neg hw] at h1; exact h1

def WCI (P : Program) (n : Nat) (Q : XPost) (r : Option Nat) (m : Nat) (c : Code) (l : Regs) (w : World) : Prop := ∀ a, Is n l a → c.wpIn (Fe r) m P Q a w

theorem wci_region {id : Nat} {os : List Oper} (h : WLI P os.toArray n Q r m os l w) : WCI P n Q r m (.region id os.toArray false) l w :=
  fun _ hi => wpIn_region_lit (WLI.sound h hi)
theorem wci_seq {x y : Code} (h : WCI P n (Exit.then (fun a w => y.wpIn (Fe r) m P Q a w) Q) r m x l w) : WCI P n Q r m (.seq x y) l w :=
  fun a hi => wpIn_seq (h a hi)
theorem rgi {id : Nat} {os : List Oper} {y : Code} (h : WLI P os.toArray n (Exit.then (fun a w => y.wpIn (Fe r) m P Q a w) Q) r m os l w) :
    WCI P n Q r m (.seq (.region id os.toArray false) y) l w := wci_seq (wci_region h)
theorem wqi_then {y : Code} (h : WCI P n Q r m y l w) : WQ n (Exit.then (fun a w => y.wpIn (Fe r) m P Q a w) Q) .normal l w := h
theorem wci_skip (h : WQ n Q .normal l w) : WCI P n Q r m .skip l w := fun a hi => wpIn_skip (h a hi)
theorem wci_exit {i : Nat} (h : WQ n Q (.exit i) l w) : WCI P n Q r m (.exit i) l w := fun a hi => wpIn_exit (h a hi)
theorem wci_ret (h : WQ n Q .ret l w) : WCI P n Q r m .ret l w := fun a hi => wpIn_ret (h a hi)
theorem wci_block {i : Nat} {c : Code} (h : WCI P n (Exit.inBlock i Q) r m c l w) : WCI P n Q r m (.block i c) l w := fun a hi => wpIn_block (h a hi)
theorem wci_if_t {c : Operand} {x y : Code} (hc : ev l c = some (.bool true)) (h : WCI P n Q r m x l w) : WCI P n Q r m (.cond c x y) l w :=
  fun a hi => wpIn_cond_true (hi.ev hc) (h a hi)
theorem wci_if_f {c : Operand} {x y : Code} (hc : ev l c = some (.bool false)) (h : WCI P n Q r m y l w) : WCI P n Q r m (.cond c x y) l w :=
  fun a hi => wpIn_cond_false (hi.ev hc) (h a hi)
theorem wci_if {c : Operand} {x y : Code} {b : Bool} (hc : ev l c = some (.bool b)) (ht : b = true → WCI P n Q r m x l w) (hf : b = false → WCI P n Q r m y l w) :
    WCI P n Q r m (.cond c x y) l w :=
  fun a hi => wpIn_cond_split (hi.ev hc) (fun e => ht e a hi) (fun e => hf e a hi)

theorem wpIn_loop_g {σ : Type} {F : Fence} {c : Code} {a : Act} (I : σ → Act → World → Prop) (μ : σ → Nat) (s0 : σ) (h₀ : I s0 a w)
    (round : ∀ s a w, I s a w → c.wpIn F m P (Exit.then (fun a' w' => ∃ s', I s' a' w' ∧ μ s' < μ s) Q) a w) : (Code.loop c).wpIn F m P Q a w := by
  intro b k cs hro hb hr
  have key : ∀ j s a w, μ s = j → I s a w →
      ∃ e a' w', Q e a' w' ∧ ArrivesIn (Machine.fenced P F) P (lone (b.atR a (.code c :: .inLoop c :: k)) cs w) b k cs e a' w' := by
    intro j
    induction j using Nat.strongRecOn with
    | _ j ih =>
      intro s a w hm hI
      obtain ⟨e, a₁, w₁, hq, harr⟩ := round s a w hI b (.inLoop c :: k) cs hro hb hr
      cases e with
      | normal =>
        obtain ⟨s', hI₁, hlt⟩ := hq
        obtain ⟨e₂, a₂, w₂, hq₂, harr₂⟩ := ih (μ s') (hm ▸ hlt) s' a₁ w₁ rfl hI₁
        exact ⟨e₂, a₂, w₂, hq₂, .of_steps (StepsIn.trans harr (.one (fenced_calm (fr := b.atR a₁ (.inLoop c :: k)) hb hr rfl) stepR_inLoop)) harr₂⟩
      | exit id => exact ⟨_, a₁, w₁, hq, .pass (x := .inLoop c) rfl (fun _ _ => .inl (by simp)) harr⟩
      | goto l => exact ⟨_, a₁, w₁, hq, .pass (x := .inLoop c) rfl (fun _ _ => .inl (by simp)) harr⟩
      | ret => exact ⟨_, a₁, w₁, hq, .pass (x := .inLoop c) rfl (fun _ _ => .inl (by simp)) harr⟩
      | panic ch => exact ⟨_, a₁, w₁, hq, .pass (x := .inLoop c) rfl (fun _ _ => .inl (by simp)) harr⟩
      | outgrown => exact ⟨_, a₁, w₁, hq, .pass (x := .inLoop c) rfl (fun _ _ => .inl (by simp)) harr⟩
  obtain ⟨e, a', w', hq, harr⟩ := key _ s0 a w rfl h₀
  exact ⟨e, a', w', hq, .of_steps (.one (fenced_calm (fr := b.atR a (.code (.loop c) :: k)) hb hr rfl) stepR_loop) harr⟩
theorem wci_loop {σ : Type} {c : Code} (lr : σ → Regs) (inv : σ → World → Prop) (μ : σ → Nat) (s0 : σ) (h0 : Sub (lr s0) l) (hi : inv s0 w)
    (round : ∀ s w, inv s w → WCI P n (Exit.then (Again n lr inv μ s) Q) r m c (lr s) w) (hd : dfs (lr s0) = dfs l := by rfl) : WCI P n Q r m (.loop c) l w :=
  fun _ ha => wpIn_loop_g (fun s a w => Is n (lr s) a ∧ inv s w) μ s0 ⟨ha.sub h0 hd, hi⟩ fun s a w ⟨h1, h2⟩ => round s w h2 a h1

/-! a region that draws its order -/
theorem wpOp_toI {i : Nat} {K : Act → World → Prop} {a : Act} (hd : ∀ o, ops[i]? = some o → nd o = true) (h : wpOp P ops XF i K a w) : wpOpIn (Fe r) m P ops Q i K a w := by
  unfold wpOp at h
  unfold wpOpIn
  split
  · rename_i ho; simp only [ho] at h; exact h
  · rename_i o ho
    simp only [ho] at h
    split
    · rename_i hw
      simp only [hw, if_true] at h
      rcases h with h | ⟨_, _, _, hf⟩
      · exact wp_toI (hd o ho) h
      · exact hf.elim
    · rename_i hw
      simp only [hw] at h
      exact ⟨fun _ _ => trivial, h⟩
theorem wpJ_anyI {H : Nat → Bool} {J : World → Prop} (hd : ∀ (i : Nat) o, ops[i]? = some o → nd o = true) : ∀ (fuel : Nat) (listed : Array Bool) (a : Act) (w : World), wpJ P ops H J (Q .normal) fuel listed a w → wpAnyIn (Fe r) m P .any ops Q fuel listed a w
  | 0, _, _, _, h => h
  | fuel + 1, listed, a, w, h => ⟨h.1, fun i hi => wpOpIn_mono (fun a' w' h' => wpJ_anyI hd fuel _ a' w' h'.2) (wpOp_toI (hd i) (h.2 i hi))⟩
theorem all_nd (h : ops.all nd = true) (i : Nat) (o : Oper) (ho : ops[i]? = some o) : nd o = true :=
  Array.all_eq_true_iff_forall_mem.1 h o (Array.mem_of_getElem? ho)
theorem wci_draw {id : Nat} (hm : P.follows .mixedOrders = true) (hd : ops.all nd = true) (t : Nat) (J : World → Prop) (h : DW P ops n Q t J ops.size (Array.replicate ops.size false) l w.drew) : WCI P n Q r m (.region id ops true) l w :=
  fun a ha => wpIn_region_any hm (wpJ_anyI (all_nd hd) _ _ _ _ (h a ha))
theorem rdi {id : Nat} {y : Code} (hm : P.follows .mixedOrders = true) (hd : ops.all nd = true) (t : Nat) (J : World → Prop) (h : DW P ops n (Exit.then (fun a w => y.wpIn (Fe r) m P Q a w) Q) t J ops.size (Array.replicate ops.size false) l w.drew) :
    WCI P n Q r m (.seq (.region id ops true) y) l w := wci_seq (wci_draw hm hd t J h)

/-! the iterator: a function that calls yield -/
theorem enterI {f : FuncId} {fn : Func} {c : Code} {args : List Value} {R : Ending → World → Prop} (hf : P.funcs[f]? = some fn) (hb : fn.body = some c)
    (hn : Nat.ble args.length fn.ntmps = true) (h : WCI P fn.ntmps (bodyPost P fn R) none m c (args.zipIdx.map fun (v, i) => (i, v)) w) (h6 : Nat.ble fn.ntmps 1000000 = true := by rfl) : CallsIn (Fe none) m P f args.toArray w R :=
  callsIn_of_wp hf hb trivial (h _ (is_args (Nat.le_of_ble_eq_true hn) (Nat.le_of_ble_eq_true h6)))

theorem yld {d T : Nat} {ps : String} {af : Array Edge} {g : Option (Nat × Bool)} {f : Operand} {lp : Nat} {xs : List Value} {asx : List Operand} {A : Array Nat} {rest : List Oper} {R : Ending → World → Prop}
    (hg : gval ops l ⟨some d, .call ⟨.value f, asx.toArray, A⟩, T, ps, af, g⟩ = some true) (hd : Nat.blt d n = true) (hf : ev l f = some (.func (.yield lp) #[] #[])) (ha : evs l asx = some xs)
    (hY : YieldAt (Fe r) (m - 1) P lp xs.toArray w R) (k : ∀ e w', R e w' → ∃ v, e = .returned v ∧ WLI P ops n Q r m rest ((d, v) :: l) w') :
    WLI P ops n Q r m (⟨some d, .call ⟨.value f, asx.toArray, A⟩, T, ps, af, g⟩ :: rest) l w := by
  intro a hi
  rw [if_pos (hi.wanted hg)]
  refine ⟨fun _ _ => trivial, ?_⟩
  rw [Oper.semAt_eq _ _ _ (nd_spec rfl)]
  obtain ⟨fn, tmps, assign, body, hy, hR⟩ := hY
  have h2 : asx.toArray.map a.eval = xs.toArray := by simp [← hi.evs ha]
  have e1 : (execOp a.eval ⟨some d, .call ⟨.value f, asx.toArray, A⟩, T, ps, af, g⟩).run P w = .ok (.round lp fn tmps assign body) w := by
    simp [execOp, resolve, h2, hi.ev hf, Deferred.ofValue, invoke, hy]
  rw [e1]
  refine ⟨fun hk => (by simp [Fe, Fence.wide] at hk), hR.mono fun e w' he => ?_⟩
  obtain ⟨v, rfl, hk⟩ := k e w' he
  exact ⟨_, hi.put v (by simpa [Nat.blt_eq] using hd), hk⟩
end

/-! the statement -/
section
variable {P : Program} {n m : Nat} {Q : XPost} {l : Regs} {w w0 : World} {F : List Nat} {L : List (Nat × Obj)}

theorem St.putLoop (hS : St w0 F L w) (i : Nat) {lp : Nat} {o o' : Obj} (hi : L[i]? = some (lp, o)) : St w0 F (L.set i (lp, o')) (w.putObj lp o') :=
  hS.turn i hi rfl rfl rfl (by simp) (World.putObj_heap_same (hS.lt (List.mem_of_getElem? hi))) (fun k hk => World.putObj_heap_other hk)

/-- behind the assignments to the loop variables -/
theorem begin_q {lp : Nat} {r : Loop} {K : Act → World → Prop} (i : Nat) (hS : St w0 F L w) (hi : L[i]? = some (lp, .loop r)) (hr : r.state = .ready)
    (k : ∀ w', St w0 F (L.set i (lp, .loop { r with state := .busy })) w' → WK n K l w') :
    WQ n (Exit.then (fun a w => ∃ w₂, (Instr.beginRound lp).run P w = .ok () w₂ ∧ K a w₂) (fun _ _ _ => False)) .normal l w := fun a ha =>
  ⟨_, run_beginRound (hS.get i hi) hr, k _ (hS.putLoop i hi) a ha⟩
theorem wk_ci {c : Code} {r : Option Nat} (h : WCI P n Q r m c l w) : WK n (fun a w => c.wpIn (Fe r) m P Q a w) l w := h
/-- the end of a round -/
theorem end_q {lp : Nat} {r : Loop} {R : Ending → World → Prop} (i : Nat) (hS : St w0 F L w) (hi : L[i]? = some (lp, .loop { r with state := .busy })) (hr : r.state = .ready) (hp : r.pending = none)
    (k : ∀ w', St w0 F (L.set i (lp, .loop r)) w' → R (.returned (.bool true)) w') : WQ n (roundPost P lp R) .normal l w := fun a ha => by
  refine ⟨_, _, run_endRound none (hS.get i hi), ?_⟩
  have e : ({ ({ r with state := .busy } : Loop) with state := if (none : Option Code).isNone then .ready else .done, pending := none } : Loop) = r := by
    cases r; simp at hr hp; subst hr hp; rfl
  rw [e]
  exact k _ (hS.putLoop i hi)

/-- what a round must come to -/
def RoundR (w0 : World) (F : List Nat) (lp D : Nat) (r : Loop) (J1 : List (Nat × Obj) → Prop) : Ending → World → Prop := fun e W =>
  e = .returned (.bool true) ∧ ∃ L', J1 L' ∧ St w0 F ((lp, .loop r) :: (D, .deferred (some [])) :: L') W

theorem wc_range2 {g : Operand} {p1 p2 : Nat} {assign body : Code} {fg : Nat} {cap : List Value} (y1 y2 : Nat → Value) (cnt : Nat) (HR : World → Prop) (J0 : Nat → List (Nat × Obj) → Prop)
    (hg : ev l g = some (.func (.func fg) #[] cap.toArray)) (hc : Callable P fg) (h1 : Nat.blt p1 n = true) (h2 : Nat.blt p2 n = true) (hS : St w0 F L w) (h0 : J0 0 L)
    (hall : ∀ (lp : Nat) (J : Nat → World → Prop) (W : World), (∀ k W, J k W → HR W) →
      (∀ k W, k < cnt → J k W → YieldAt (Fe none) m P lp #[y1 k, y2 k] W fun e W' => e = .returned (.bool true) ∧ J (k + 1) W') → J 0 W →
      CallsIn (Fe none) (m + 1) P fg (.func (.yield lp) #[] #[] :: cap).toArray W fun e W' => (∃ v, e = .returned v) ∧ J cnt W')
    (hHR : ∀ k L' W, J0 k L' → St w0 F L' W → HR W)
    (round : ∀ (k lp D : Nat) (r : Loop) (L' : List (Nat × Obj)) (W : World), r.state = .ready → r.pending = none → k < cnt → J0 k L' → St w0 F ((lp, .loop r) :: (D, .deferred (some [])) :: L') W →
      WCI P n (Exit.then (fun a w => ∃ w₂, (Instr.beginRound lp).run P w = .ok () w₂ ∧ body.wpIn (Fe (some lp)) m P (roundPost P lp (RoundR w0 F lp D r (J0 (k + 1)))) a w₂) (fun _ _ _ => False)) (some lp) m assign ((p2, y2 k) :: (p1, y1 k) :: l) W)
    (done : ∀ (D : Nat) (L' : List (Nat × Obj)) (W : World), J0 cnt L' → St w0 F ((D, .deferred (some [])) :: L') W → WQ n Q .normal ((1000000, .int .u64 (D : Int)) :: l) W)
    (hd : dfs l = [] := by rfl) : WC P n Q (.rangeFunc g #[p1, p2] assign body) l w := by
  intro a ha
  have h1' : p1 < n := by simpa [Nat.blt_eq] using h1
  have h2' : p2 < n := by simpa [Nat.blt_eq] using h2
  refine wpIn_wide.1 (wpIn_rangeFunc (n := m + 2) fun fn _ => ?_)
  have hS1 := (hS.alloc (.deferred (some [])))
  have hS2 := hS1.alloc (.loop { state := .ready, pending := none, fn, tmps := a.tmps, params := #[p1, p2], assign, body, defers := w.heap.size })
  obtain ⟨r, hrd⟩ : ∃ r : Loop, r = { state := .ready, pending := none, fn, tmps := a.tmps, params := #[p1, p2], assign, body, defers := w.heap.size } := ⟨_, rfl⟩
  rw [← hrd] at hS2
  have hlp : (w.alloc (.deferred (some []))).heap.size = w.heap.size + 1 := by simp
  rw [hlp] at hS2
  have hres : (resolve a.eval (rangeCall g (w.heap.size + 1)) 0).run P ((w.alloc (.deferred (some []))).alloc (.loop r)) = .ok { target := .fn (.func fg) cap.toArray, args := #[.func (.yield (w.heap.size + 1)) #[] #[]] } ((w.alloc (.deferred (some []))).alloc (.loop r)) := by
    have hec : ∀ v, a.eval (.const v) = v := fun _ => rfl
    simp [resolve, ha.ev hg, Deferred.ofValue, hec]
  refine ⟨w.heap.size + 1, [{ target := .collected w.heap.size, args := #[] }], (w.alloc (.deferred (some []))).alloc (.loop r), _, _, fg, (.func (.yield (w.heap.size + 1)) #[] #[] :: cap).toArray, (w.alloc (.deferred (some []))).alloc (.loop r), ?_, hres, fun _ _ => trivial, ?_, fun hk => (by simp [Fence.wide] at hk), ?_⟩
  · rw [hrd]; exact run_enterLoop_outer fn a.tmps #[p1, p2] assign body
  · have := run_callFunc hc (.func (.yield (w.heap.size + 1)) #[] #[] :: cap).toArray ((w.alloc (.deferred (some []))).alloc (.loop r))
    simpa [invoke] using this
  · have hrs : r.state = .ready := by rw [hrd]
    have hrp : r.pending = none := by rw [hrd]
    refine CallsIn.mono (hall (w.heap.size + 1) (fun k W => ∃ L', J0 k L' ∧ St w0 F ((w.heap.size + 1, .loop r) :: (w.heap.size, .deferred (some [])) :: L') W) _ ?_ ?_ ⟨L, h0, hS2⟩) ?_
    · rintro k W ⟨L', hJ, hS'⟩
      exact hHR k L' W hJ hS'.tl.tl
    · rintro k W hk ⟨L', hJ, hS'⟩
      refine ⟨_, _, _, _, run_yield (hS'.get 0 rfl) (by rw [hrd]; rfl), ?_⟩
      refine RoundIn.mono (roundIn_of_wpIn trivial ?_) (R := RoundR w0 F (w.heap.size + 1) w.heap.size r (J0 (k + 1))) (fun e W' he => he)
      have hw := round k (w.heap.size + 1) w.heap.size r L' W hrs hrp hk hJ hS'
      have hb : r.body = body := by rw [hrd]
      have hasg : r.assign = assign := by rw [hrd]
      rw [hb, hasg]
      refine hw _ ?_
      have hi1 := (ha.put (y1 k) h1').put (y2 k) h2'
      refine ⟨?_, ha.small, ?_, ?_⟩
      · rw [hrd]; simp [ha.size]
      · rw [dfs_cons _ _ (Nat.lt_of_lt_of_le h2' ha.small), dfs_cons _ _ (Nat.lt_of_lt_of_le h1' ha.small), hd]
      · intro t v ht
        have := hi1.val t v ht
        rw [hrd]
        simpa [Act.put] using this
    · rintro e W' ⟨⟨v, rfl⟩, L', hJ, hS'⟩
      refine ⟨none, _, (run_endLoop (hS'.get 0 rfl) (by rw [hrs]; exact fun h => by cases h)).trans (by rw [hrp]), ?_⟩
      refine done w.heap.size L' _ hJ (hS'.putLoop 0 rfl).tl _ ⟨ha.size, ha.small, ?_, ?_⟩
      · have := ha.defers; rw [hd] at this
        simp [this, dfs, mk]
      · intro t u ht
        have hlt := look_lt ht
        have e : (1000000 : Nat) ≠ t := by omega
        rw [look_cons_ne l _ e] at ht
        exact ha.val t u ht

/-! a function with such a loop leaves with the mark -/
theorem enterM {f : FuncId} {fn : Func} {c : Code} {args : List Value} {R : Ending → World → Prop} (hf : P.funcs[f]? = some fn) (hb : fn.body = some c)
    (hn : Nat.ble args.length fn.ntmps = true) (h : WC P fn.ntmps (bodyPostM Fence.wide 0 P fn R) c (args.zipIdx.map fun (v, i) => (i, v)) w) (h6 : Nat.ble fn.ntmps 1000000 = true := by rfl) : Calls P f args.toArray w R :=
  callsIn_wide.1 (callsIn_of_wp_marks hf hb trivial (wpIn_wide.2 (h _ (is_args (Nat.le_of_ble_eq_true hn) (Nat.le_of_ble_eq_true h6)))))
theorem finM {fn : Func} {R : Ending → World → Prop} {D : Nat} {v : Value} (i : Nat) (hS : St w0 F L w) (hi : L[i]? = some (D, .deferred (some []))) (hd : dfs l = [{ target := .collected D, args := #[] }])
    (hv : ∀ a w', Is n l a → St w0 F (L.set i (D, .deferred none)) w' → (results fn a.tmps).run P w' = .ok v w') (hR : ∀ w', St w0 F (L.set i (D, .deferred none)) w' → R (.returned v) w') :
    WQ n (bodyPostM Fence.wide 0 P fn R) .ret l w := fun a ha => by
  show LeavesInM Fence.wide 0 P fn a.tmps R a.defers .returning w
  rw [ha.defers, hd]
  have h1 := hS.putLoop i hi (o' := .deferred none)
  exact ⟨by simp, .inl ⟨D, _, rfl, run_takeDeferred (hS.get i hi), v, hv a _ ha h1, hR _ h1⟩⟩
theorem finM1 {fn : Func} {R : Ending → World → Prop} {D : Nat} {q : ResultVar} {v : Value} (i : Nat) (hS : St w0 F L w) (hi : L[i]? = some (D, .deferred (some []))) (hd : dfs l = [{ target := .collected D, args := #[] }]) (hr : fn.results = #[q])
    (h1 : ∀ w', St w0 F (L.set i (D, .deferred none)) w' → Res1 P l w' q v) (hR : ∀ w', St w0 F (L.set i (D, .deferred none)) w' → R (.returned v) w') :
    WQ n (bodyPostM Fence.wide 0 P fn R) .ret l w := finM i hS hi hd (fun a w' ha hS' => by
  have e1 := res_run ha (h1 w' hS')
  simp [results_eq, hr, e1]) hR
theorem finM3 {fn : Func} {R : Ending → World → Prop} {D : Nat} {q s t : ResultVar} {v u x : Value} (i : Nat) (hS : St w0 F L w) (hi : L[i]? = some (D, .deferred (some []))) (hd : dfs l = [{ target := .collected D, args := #[] }]) (hr : fn.results = #[q, s, t])
    (h1 : ∀ w', St w0 F (L.set i (D, .deferred none)) w' → Res1 P l w' q v) (h2 : ∀ w', St w0 F (L.set i (D, .deferred none)) w' → Res1 P l w' s u) (h3 : ∀ w', St w0 F (L.set i (D, .deferred none)) w' → Res1 P l w' t x)
    (hR : ∀ w', St w0 F (L.set i (D, .deferred none)) w' → R (.returned (.tuple #[v, u, x])) w') :
    WQ n (bodyPostM Fence.wide 0 P fn R) .ret l w := finM i hS hi hd (fun a w' ha hS' => by
  have e1 := res_run ha (h1 w' hS')
  have e2 := res_run ha (h2 w' hS')
  have e3 := res_run ha (h3 w' hS')
  simp [results_eq, hr, e1, e2, e3]) hR
end
end Go.X

/- append, copy, and what else the slices of the call's own need. -/
namespace Go.X
open Go

/-- a slice of the call's own making: nil, or the head of a block that nobody else knows -/
def Own (sz : Nat) (a : Option Addr) (n cap : Nat) (xs : List Value) (X : List (Nat × Obj)) : Prop :=
  xs.length = n * sz ∧ n ≤ cap ∧ cap ≤ maxLen ∧
  ((a = none ∧ n = 0 ∧ cap = 0 ∧ X = []) ∨
   ∃ b cur E, a = some ⟨b, 0, none⟩ ∧ X = [(b, .cells cur E (0, 0))] ∧ cur.size = cap * sz ∧ cur.toList.take (n * sz) = xs)

section
variable {a : Option Addr} {n cap sz : Nat} {xs : List Value} {X A R L : List (Nat × Obj)} {w w0 : World} {F : List Nat}
theorem Own.nil (sz : Nat) : Own sz none 0 0 [] [] := ⟨by simp, by omega, by simp [maxLen], .inl ⟨rfl, rfl, rfl, rfl⟩⟩
theorem Own.cel (h : Own sz a n cap xs X) (hS : St w0 F L w) (hx : ∀ p ∈ X, p ∈ L) : Cel w a xs := by
  rcases h.2.2.2 with ⟨rfl, rfl, rfl, rfl⟩ | ⟨b, cur, E, rfl, rfl, hsz, ht⟩
  · have : xs = [] := List.eq_nil_of_length_eq_zero (by simpa using h.1)
    subst this; exact Cel.nil _ _
  · have hb := hS.own (b, .cells cur E (0, 0)) (hx _ (by simp))
    refine Cel.row hb.2 fun j v hj => ?_
    rw [← ht, List.getElem?_take] at hj
    split at hj
    · simpa using hj
    · cases hj
theorem Own.len (h : Own sz a n cap xs X) : xs.length = n * sz := h.1
theorem Own.len8 {bs : List UInt8} (h : Own 1 a n cap (c8 bs) X) : bs.length = n := by have := h.1; rw [c8_len] at this; omega
theorem Own.le (h : Own sz a n cap xs X) : n ≤ cap := h.2.1
/-- a shorter slice of the same block -/
theorem Own.shrink (h : Own sz a n cap xs X) (k : Nat) (hk : k ≤ n) : Own sz a k cap (xs.take (k * sz)) X := by
  refine ⟨?_, by have := h.2.1; omega, h.2.2.1, ?_⟩
  · rw [List.length_take, h.1]
    have := Nat.mul_le_mul_right sz hk
    omega
  · rcases h.2.2.2 with ⟨h1, h2, h3, h4⟩ | ⟨b, cur, E, h1, h2, h3, h4⟩
    · exact .inl ⟨h1, by omega, h3, h4⟩
    · refine .inr ⟨b, cur, E, h1, h2, h3, ?_⟩
      rw [← h4, List.take_take]
      congr 1
      have := Nat.mul_le_mul_right sz hk
      omega
/-- a block of the call's own, all of it -/
theorem Own.blk {b E : Nat} {cs : Array Value} (hn : cs.size = n) (hm : n ≤ maxLen) : Own 1 (some ⟨b, 0, none⟩) n n cs.toList [(b, .cells cs E (0, 0))] := by
  refine ⟨by simp [hn], Nat.le_refl _, hm, .inr ⟨b, cs, E, rfl, rfl, by simp [hn], ?_⟩⟩
  rw [Nat.mul_one, List.take_of_length_le (by simp [hn])]
theorem St.tailin (h : St w0 F (X ++ L) w) (A R : List (Nat × Obj)) (hL : L = A ++ R) : St w0 F (A ++ (X ++ R)) w :=
  h.perm (by rw [hL, ← List.append_assoc, ← List.append_assoc]; exact List.Perm.append_right R List.perm_append_comm)
theorem St.untail (h : St w0 F (A ++ (X ++ R)) w) : St w0 F (A ++ R) w := h.sublist (List.Sublist.append (List.Sublist.refl A) (List.sublist_append_right X R))
theorem St.napp (h : St w0 F A w) : St w0 F (A ++ []) w := by simpa using h
theorem St.anil (h : St w0 F A w) : St w0 F (A ++ ([] ++ [])) w := by simpa using h
theorem St.toend (h : St w0 F (A ++ R) w) (i : Nat) {p : Nat × Obj} (hp : A[i]? = some p) : St w0 F (A.eraseIdx i ++ ([p] ++ R)) w := by
  refine h.perm ?_
  have hlt : i < A.length := (List.getElem?_eq_some_iff.1 hp).1
  have he : A[i] = p := (List.getElem?_eq_some_iff.1 hp).2
  have h1 : (p :: A.eraseIdx i).Perm A := by
    rw [List.eraseIdx_eq_take_drop_succ]
    have h3 : A = A.take i ++ p :: A.drop (i + 1) := by
      rw [← he, List.getElem_cons_drop hlt, List.take_append_drop]
    refine List.Perm.trans List.perm_middle.symm ?_
    rw [← h3]
  have h2 : (A.eraseIdx i ++ ([p] ++ R)).Perm ((p :: A.eraseIdx i) ++ R) := by
    simp [List.perm_middle]
  exact h2.trans (List.Perm.append_right R h1)
theorem BV_toList {n : Nat} (v : V8 n) : (BV v).toList = c8 v.toList := by simp [BV, c8, Vector.toList]
theorem LB_toList (l : List UInt8) : (LB l).toList = c8 l := by simp [LB]
theorem mem_tail {p : Nat × Obj} (A R : List (Nat × Obj)) (hp : p ∈ X) : p ∈ A ++ (X ++ R) := by simp [hp]
end

section
variable {P : Program} {w : World}
theorem run_append_row (t tx ty e : TypeId) (i : TypeInfo) (ht : P.underlying t = some (.slice e)) (hi : P.info? e = some i) (b sLen sCap : Nat) (x : Value) (m : Nat) (news : List Value) (hs : Src P i.size tx x m news w)
    (hroom : sLen + m ≤ sCap) (cur : Array Value) (E : TypeId) (hb : w.heap[b]? = some (.cells cur E (0, 0))) (hsz : cur.size = sCap * i.size) :
    (Builtin.append_ #[t, tx] ty #[.slice (some ⟨b, 0, none⟩) sLen sCap, x]).run P w = .ok (.slice (some ⟨b, 0, none⟩) (sLen + m) sCap) (w.setRow b (putAt cur (sLen * i.size) news.toArray)) := by
  have hle : sLen * i.size + news.length ≤ cur.size := by
    rw [hsz, hs.newsLen, ← Nat.add_mul]; exact Nat.mul_le_mul_right _ hroom
  have hst := run_storeCells_at P b (sLen * i.size) E news 0 cur w hb (by simpa using hle) hs.one
  simp only [Nat.add_zero] at hst
  rcases hs.kind with ⟨e', hk⟩ | hk <;> simp [Builtin.append_, run_underlying ht, run_underlying hk, sizeOf, typeInfo, hi, hs.len, hroom, hs.cells, Addr.add_lit, hst, putAt]

theorem src8 {tx e' : TypeId} (hk : P.underlying tx = some (.slice e')) {a : Option Addr} {bs : List UInt8} {m : Nat} (c : Nat) (h : Cel w a (c8 bs)) (hm : bs.length = m) : Src P 1 tx (.slice a m c) m (c8 bs) w := by
  subst hm
  cases a with
  | none =>
    have : bs = [] := by
      cases bs with
      | nil => rfl
      | cons x r => have := (h 0 (U8 x) (by simp [c8])).1; cases this
    subst this
    exact Src.ofNil w hk c
  | some a =>
    refine Src.ofSlice w hk a bs.length c (c8 bs) (by simp [c8_len]) (fun j u hj => ?_) (c8_one bs)
    have := (h j u hj).2
    simpa [adr] using this
/-- of elements of one cell each -/
theorem srcv {tx e' : TypeId} (hk : P.underlying tx = some (.slice e')) {a : Option Addr} {sz : Nat} {vs : List Value} {m : Nat} (c : Nat) (h : Cel w a vs) (hm : vs.length = m * sz) (h0 : a = none → m = 0) (h1 : ∀ u ∈ vs, u.oneCell' = true) : Src P sz tx (.slice a m c) m vs w := by
  cases a with
  | none =>
    have hm0 := h0 rfl
    subst hm0
    have : vs = [] := List.eq_nil_of_length_eq_zero (by simpa using hm)
    subst this
    exact Src.ofNil w hk c
  | some a =>
    refine Src.ofSlice w hk a m c vs hm (fun j u hj => ?_) h1
    have := (h j u hj).2
    simpa [adr] using this
end

section
variable {P : Program} {ops : Array Oper} {n : Nat} {l : Regs} {w w0 : World} {K : Regs → World → Prop} {F : List Nat} {L A R X : List (Nat × Obj)}
variable {d T S S2 : Nat} {ps : String} {af : Array Edge} {g : Option (Nat × Bool)} {x y : Operand} {v u : Value} {a : Option Addr} {m cap sz e : Nat} {xs news : List Value}

theorem put_take (cur : Array Value) (o : Nat) (news : List Value) (h : o + news.length ≤ cur.size) : (putAt cur o news.toArray).toList.take (o + news.length) = cur.toList.take o ++ news := by
  have e : (cur.toList.take o ++ news).length = o + news.length := by simp; omega
  exact List.take_left' e

theorem maxin {p q : Int} {kd : IntKind} {A : Array Nat} (j : Nat) (h : max p q = (j : Int)) (hg : gval ops l ⟨some d, .call ⟨.builtin .max, #[x, y], A⟩, T, ps, af, g⟩ = some true) (hd : Nat.blt d n = true) (hx : ev l x = some (.int kd p)) (hy : ev l y = some (.int kd q)) (k : K ((d, .int kd (j : Int)) :: l) w) :
    WO P ops n ⟨some d, .call ⟨.builtin .max, #[x, y], A⟩, T, ps, af, g⟩ l w K := maxi hg hd hx hy (by rw [h]; exact k)
theorem minin {p q : Int} {kd : IntKind} {A : Array Nat} (j : Nat) (h : min p q = (j : Int)) (hg : gval ops l ⟨some d, .call ⟨.builtin .min, #[x, y], A⟩, T, ps, af, g⟩ = some true) (hd : Nat.blt d n = true) (hx : ev l x = some (.int kd p)) (hy : ev l y = some (.int kd q)) (k : K ((d, .int kd (j : Int)) :: l) w) :
    WO P ops n ⟨some d, .call ⟨.builtin .min, #[x, y], A⟩, T, ps, af, g⟩ l w K := mini hg hd hx hy (by rw [h]; exact k)
theorem isn {b c q : Nat} {kd : IntKind} {p : Int} (j : Nat) (hT : P.underlying S = some (.slice e)) (he : Sz P e 1) (hg : gval ops l ⟨some d, .indexAddr S x y, T, ps, af, g⟩ = some true) (hd : Nat.blt d n = true) (hx : ev l x = some (.slice (some ⟨b, 0, none⟩) q c)) (hy : ev l y = some (.int kd p))
    (hp : p = (j : Int)) (h2 : j < q) (k : K ((d, Ptr b j) :: l) w) : WO P ops n ⟨some d, .indexAddr S x y, T, ps, af, g⟩ l w K :=
  isl hT he hg hd hx hy (by omega) (by omega) (by subst hp; simpa using k)
/-- append to a slice of the call's own -/
theorem app {by_ q : Nat} {z : Value} (hT : SlT P S e sz by_ z) (hO : Own sz a m cap xs X) (hS : St w0 F (A ++ (X ++ R)) w) (hg : gval ops l ⟨some d, .call ⟨.builtin .append, #[x, y], #[S, S2]⟩, T, ps, af, g⟩ = some true) (hd : Nat.blt d n = true)
    (hx : ev l x = some (.slice a m cap)) (hy : ev l y = some u) (hsrc : Src P sz S2 u q news w) (hb : (m + q) * by_ ≤ 140737488355328) (h63 : m + q ≤ 140737488355328)
    (k : ∀ a' c' X' w', Own sz a' (m + q) c' (xs ++ news) X' → St w0 F (A ++ (X' ++ R)) w' → K ((d, .slice a' (m + q) c') :: l) w') : WO P ops n ⟨some d, .call ⟨.builtin .append, #[x, y], #[S, S2]⟩, T, ps, af, g⟩ l w K := by
  obtain ⟨hu, i, hi, hz, hsz, hby, hzz⟩ := hT
  subst hsz
  have hrun : ∃ a' c' X' w', (Builtin.append_ #[S, S2] T #[.slice a m cap, u]).run P w = .ok (.slice a' (m + q) c') w' ∧ Own i.size a' (m + q) c' (xs ++ news) X' ∧ St w0 F (A ++ (X' ++ R)) w' := by
    have hl : (xs ++ news).length = (m + q) * i.size := by rw [List.length_append, hO.1, hsrc.newsLen, Nat.add_mul]
    by_cases hroom : m + q ≤ cap
    · rcases hO.2.2.2 with ⟨rfl, rfl, rfl, rfl⟩ | ⟨b, cur, E, rfl, rfl, hcs, ht⟩
      · have hq : q = 0 := by omega
        subst hq
        have hn : news = [] := List.eq_nil_of_length_eq_zero (by simpa using hsrc.newsLen)
        subst hn
        have := run_append_nothing (P := P) w S S2 T e i hu hi none 0 0 (by omega) u hsrc
        exact ⟨none, 0, [], w, this, by simpa using hO, hS⟩
      · have hmem : (b, Obj.cells cur E (0, 0)) ∈ A ++ ([(b, .cells cur E (0, 0))] ++ R) := by simp
        have hbh := (hS.own _ hmem).2
        have hr := run_append_row (P := P) S S2 T e i hu hi b m cap u q news hsrc hroom cur E hbh hcs
        have hle : m * i.size + news.length ≤ cur.size := by
          rw [hcs, hsrc.newsLen, ← Nat.add_mul]; exact Nat.mul_le_mul_right _ hroom
        refine ⟨_, cap, [(b, .cells (putAt cur (m * i.size) news.toArray) E (0, 0))], _, hr, ⟨hl, hroom, hO.2.2.1, .inr ⟨b, _, E, rfl, rfl, ?_, ?_⟩⟩, ?_⟩
        · rw [putAt_size _ _ _ (by simpa using hle), hcs]
        · have := put_take cur (m * i.size) news hle
          rw [Nat.add_mul, ← hsrc.newsLen, this, ht]
        · have hS' := hS.setRow A.length (b := b) (cs := cur) (cs' := putAt cur (m * i.size) news.toArray) (T := E) (fz := (0, 0)) (by simp)
          have e2 : (A ++ ([(b, Obj.cells cur E (0, 0))] ++ R)).set A.length (b, .cells (putAt cur (m * i.size) news.toArray) E (0, 0)) = A ++ ([(b, .cells (putAt cur (m * i.size) news.toArray) E (0, 0))] ++ R) := by
            simp [List.set_append]
          rw [e2] at hS'; exact hS'
    · have hg' : cap < m + q := by omega
      have hfit : Builtin.nextslicecap (m + q) cap * i.bytes ≤ 281474976710656 := by
        have h1 := nextslicecap_le hg'
        have h2 := Nat.mul_le_mul_right i.bytes h1
        rw [hby] at h2 ⊢
        rw [Nat.mul_assoc] at h2
        omega
      have hold : (Builtin.firstCells i.size m (.slice a m cap)).run P w.drew = .ok xs.toArray w.drew := by
        have hcel := hO.cel hS (fun p hp => mem_tail A R hp)
        cases a with
        | none =>
          rcases hO.2.2.2 with ⟨_, rfl, rfl, rfl⟩ | ⟨b, cur, E, h, _⟩
          · have : xs = [] := List.eq_nil_of_length_eq_zero (by simpa using hO.1)
            subst this; exact run_firstCells_none w.drew _ _ _ _
          · cases h
        | some a =>
          refine run_firstCells_some w.drew i.size m a m cap xs hO.1 (fun j v hj => ?_)
          have := (hcel j v hj).2
          simpa [adr] using this
      have hr := run_append_grow_src (P := P) w S S2 T e i z hu hi hz a m cap xs hold u q news hsrc hg' (by omega) hfit
      have hge := grownCap_ge w (m + q) cap e
      have hcm : grownCap w (m + q) cap e ≤ maxLen := grownCap_le_maxLen w (m + q) cap e (by unfold maxLen; omega)
      have hzc : (Builtin.zeroCells z.cells (grownCap w (m + q) cap e - (m + q))).size = (grownCap w (m + q) cap e - (m + q)) * i.size := by
        simp [Builtin.zeroCells, hzz]
      refine ⟨_, _, [(w.heap.size, .cells ((xs ++ news).toArray ++ Builtin.zeroCells z.cells (grownCap w (m + q) cap e - (m + q))) e)], _, hr, ⟨hl, hge, hcm, .inr ⟨_, _, e, rfl, rfl, ?_, ?_⟩⟩, ?_⟩
      · rw [Array.size_append, hzc]
        simp only [List.size_toArray, hl]
        rw [← Nat.add_mul]; congr 1; omega
      · rw [Array.toList_append]; exact List.take_left' hl
      · have hd' : St w0 F (A ++ (X ++ R)) w.drew := hS.drew
        have ha := hd'.alloc (.cells ((xs ++ news).toArray ++ Builtin.zeroCells z.cells (grownCap w (m + q) cap e - (m + q))) e)
        have hsz' : w.drew.heap.size = w.heap.size := rfl
        rw [hsz'] at ha
        have h5 := ha.sublist (List.Sublist.cons_cons _ (List.Sublist.append (List.Sublist.refl A) (List.sublist_append_right X R)))
        exact h5.perm List.perm_middle
  obtain ⟨a', c', X', w', hr, ho, hs'⟩ := hrun
  intro act ha
  rw [if_pos (ha.wanted hg)]
  have e1 : (execOp act.eval ⟨some d, .call ⟨.builtin .append, #[x, y], #[S, S2]⟩, T, ps, af, g⟩).run P w = .ok (.value (.slice a' (m + q) c')) w' := by
    simp [execOp, resolve, ha.ev hx, ha.ev hy, invoke, builtin, hr]
  simp only [Oper.wp, e1, Oper.upon]
  exact ⟨_, ha.put _ (by simpa [Nat.blt_eq] using hd), k a' c' X' w' ho hs'⟩

/-- copy into a block of the call's own, out of bytes -/
theorem cpy {b off dl dc E sl sc q : Nat} {a : Option Addr} {bs : List UInt8} {cs cs' : Array Value} {z : Value} {by_ : Nat} (i : Nat) (hT : SlT P S e 1 by_ z) (hS : St w0 F L w) (hg : gval ops l ⟨some d, .call ⟨.builtin .copy, #[x, y], #[S, S2]⟩, T, ps, af, g⟩ = some true) (hd : Nat.blt d n = true)
    (hx : ev l x = some (.slice (some ⟨b, off, none⟩) dl dc)) (hy : ev l y = some (.slice a sl sc)) (hi : L[i]? = some (b, .cells cs E (0, 0))) (hc : Cel w a (c8 bs)) (hn : bs.length = sl) (hq : q = Nat.min sl dl) (hfit : off + q ≤ cs.size)
    (hcs : putAt cs off (c8 (bs.take q)).toArray = cs') (k : ∀ w', St w0 F (L.set i (b, .cells cs' E (0, 0))) w' → K ((d, I (q : Int)) :: l) w') : WO P ops n ⟨some d, .call ⟨.builtin .copy, #[x, y], #[S, S2]⟩, T, ps, af, g⟩ l w K := by
  obtain ⟨hu, ti, hti, hz, hsz, hby, hzz⟩ := hT
  have hlq : (c8 (bs.take q)).length = q := by
    rw [c8_len, List.length_take, hn, hq]; exact Nat.min_eq_left (Nat.min_le_left _ _)
  have hbh := hS.get i hi
  have hrun : (Builtin.copy_ #[S, S2] T #[.slice (some ⟨b, off, none⟩) dl dc, .slice a sl sc]).run P w = .ok (I (q : Int)) (w.setRow b cs') := by
    cases a with
    | none =>
      have : bs = [] := by
        cases bs with
        | nil => rfl
        | cons x r => have := (hc 0 (U8 x) (by simp [c8])).1; cases this
      subst this
      have h0 : sl = 0 := by simpa using hn.symm
      subst h0
      have hq0 : q = 0 := by rw [hq]; exact Nat.zero_min _
      subst hq0
      have hput : putAt cs off (c8 (([] : List UInt8).take 0)).toArray = cs := by simp [putAt, c8]
      rw [hput] at hcs
      subst hcs
      have hrow : w.setRow b cs = w := by
        have hh : (w.setRow b cs).heap = w.heap := by
          refine Array.ext_getElem? fun jj => ?_
          by_cases hk : jj = b
          · rw [hk, setRow_heap w b cs cs E (0, 0) hbh, hbh]
          · exact setRow_other w b jj cs hk
        cases w
        simp only [World.setRow] at hh ⊢
        rw [hh]
      rw [hrow]
      by_cases hdl : dl = 0
      · subst hdl; simp [Builtin.copy_, run_underlying hu, Builtin.lenOf, Builtin.firstCells, sizeOf, typeInfo, hti, hsz, storeCells, goInt]
      · simp [Builtin.copy_, run_underlying hu, Builtin.lenOf, Builtin.firstCells, sizeOf, typeInfo, hti, hsz, storeCells, goInt]
    | some ad =>
      have hr := run_copy_row (P := P) w S S2 T e b off dl dc ad sl sc cs E (c8 (bs.take q)) hu (by simp [hti, hsz]) hbh (by rw [hlq, hq]) (fun j v hj => by
        have h1 := (hc.take8 q) j v hj
        simpa [adr] using h1.2) (by rw [hlq]; exact hfit) (c8_one _)
      rw [hr, hlq]
      have : (cs.toList.take off ++ c8 (bs.take q) ++ cs.toList.drop (off + q)).toArray = cs' := by
        rw [← hcs]; simp [putAt, hlq]
      rw [this]; simp [goInt]
  intro act ha
  rw [if_pos (ha.wanted hg)]
  have e1 : (execOp act.eval ⟨some d, .call ⟨.builtin .copy, #[x, y], #[S, S2]⟩, T, ps, af, g⟩).run P w = .ok (.value (I (q : Int))) (w.setRow b cs') := by
    simp [execOp, resolve, ha.ev hx, ha.ev hy, invoke, builtin, hrun]
  simp only [Oper.wp, e1, Oper.upon]
  exact ⟨_, ha.put _ (by simpa [Nat.blt_eq] using hd), k _ (hS.setRow i hi)⟩

theorem negu64 {p : UInt64} (hg : gval ops l ⟨some d, .unOp .neg S x, T, ps, af, g⟩ = some true) (hd : Nat.blt d n = true) (hx : ev l x = some (U64 p)) (k : K ((d, U64 (-p)) :: l) w) :
    WO P ops n ⟨some d, .unOp .neg S x, T, ps, af, g⟩ l w K :=
  WO.val hg hd (fun a ha => by
    have e : (IntKind.u64.wrap (-(p.toNat : Int))) = ((-p).toNat : Int) := by
      rw [UInt64.toNat_neg]
      have := p.toNat_lt
      simp only [IntKind.wrap, IntKind.signed, IntKind.bits]
      simp [UInt64.size]
      omega
    simp [execOp, ha.ev hx, Op.unary, Op.intArith, e, -UInt64.toNat_neg]) k
/-- a head of an array, its capacity cut -/
theorem a_hm {z : Operand} {b off q : Nat} {kd kd2 : IntKind} {p p2 : Int} (j c : Nat) (hT : P.underlying S = some (.array q e)) (he : ∃ z, Sz P e z) (hg : gval ops l ⟨some d, .slice S x none (some y) (some z), T, ps, af, g⟩ = some true) (hd : Nat.blt d n = true) (hx : ev l x = some (Ptr b off)) (hy : ev l y = some (.int kd p)) (hz : ev l z = some (.int kd2 p2))
    (hp : p = (j : Int)) (hp2 : p2 = (c : Int)) (h1 : j ≤ c) (h2 : c ≤ q) (h3 : 0 < c) (k : K ((d, .slice (some ⟨b, off, none⟩) j c) :: l) w) : WO P ops n ⟨some d, .slice S x none (some y) (some z), T, ps, af, g⟩ l w K :=
  WO.val hg hd (fun r hr => by
    obtain ⟨z, he⟩ := he
    subst hp hp2
    have h4 : ¬ c = 0 := by omega
    simp [execOp, hr.ev hx, hr.ev hy, hr.ev hz, Instr.sliceAt, run_underlying hT, Instr.sureAddr, Instr.sliceBounds, Instr.sliceBound, asIntOf, h1, h2, he.run w, Addr.add]) k

/-- zeros appended to nil -/
theorem app0n {by_ q : Nat} {z : Value} {kd : IntKind} {p : Int} (hT : SlT P S e sz by_ z) (hI : ∃ kd2, P.underlying S2 = some (.int kd2)) (hS : St w0 F (A ++ R) w) (hg : gval ops l ⟨some d, .call ⟨.builtin .append, #[x, y], #[S, S2]⟩, T, ps, af, g⟩ = some true) (hd : Nat.blt d n = true)
    (hx : ev l x = some (.slice none 0 0)) (hy : ev l y = some (.int kd p)) (hp : p = (q : Int)) (h0 : 0 < q) (h0s : 0 < sz) (hb : q * by_ ≤ 140737488355328) (h63 : q ≤ 140737488355328)
    (k : ∀ a' c' xs X' w', Own sz a' q c' xs X' → St w0 F (A ++ (X' ++ R)) w' → K ((d, .slice a' q c') :: l) w') : WO P ops n ⟨some d, .call ⟨.builtin .append, #[x, y], #[S, S2]⟩, T, ps, af, g⟩ l w K := by
  obtain ⟨hu, i, hi, hz, hsz, hby, hzz⟩ := hT
  obtain ⟨kd2, hI⟩ := hI
  subst hsz hp
  have hg' : 0 < q := h0
  have hge := grownCap_ge w q 0 e
  have hcm : grownCap w q 0 e ≤ maxLen := grownCap_le_maxLen w q 0 e (by unfold maxLen; omega)
  have hfit : ¬ (281474976710656 < Builtin.nextslicecap q 0 * i.bytes) := by
    have h1 := nextslicecap_le hg'
    have h2 := Nat.mul_le_mul_right i.bytes h1
    rw [hby] at h2 ⊢
    rw [Nat.mul_assoc] at h2
    omega
  have hw : IntKind.i64.wrap (q : Int) = (q : Int) := by
    simp only [IntKind.wrap, IntKind.signed, IntKind.bits]
    simp
    omega
  have hbb : ¬ (281474976710656 : Int) < (q : Int) * (i.bytes : Int) := by
    rw [hby]; have : ((q * by_ : Nat) : Int) ≤ 140737488355328 := by omega
    simp only [Int.natCast_mul] at this; omega
  have hr : (Builtin.append_ #[S, S2] T #[.slice none 0 0, .int kd (q : Int)]).run P w = .ok (.slice (some ⟨w.heap.size, 0, none⟩) q (grownCap w q 0 e))
      (w.drew.alloc (.cells (Builtin.zeroCells z.cells q ++ Builtin.zeroCells z.cells (grownCap w q 0 e - q)) e)) := by
    have h63' : ¬ (9223372036854775807 < (q : Int)) := by omega
    have hq0 : ¬ q = 0 := by omega
    have hqs : ¬ q * i.size = 0 := fun h => by rcases Nat.mul_eq_zero.1 h with h | h <;> omega
    have hneg : ¬ (q : Int) < 0 := by omega
    simp [Builtin.append_, run_underlying hu, run_underlying hI, sizeOf, typeInfo, zeroValue, hi, hz, asInt, asIntOf, hw, hbb, h63', hfit, hq0, hqs, hneg, Question.forced, newRow, grownCap, Builtin.firstCells]
  have hc1 : ∀ q : Nat, (Builtin.zeroCells z.cells q).size = q * i.size := fun q => by simp [Builtin.zeroCells, hzz]
  have hd' : St w0 F (A ++ R) w.drew := hS.drew
  have ha' := (hd'.alloc (.cells (Builtin.zeroCells z.cells q ++ Builtin.zeroCells z.cells (grownCap w q 0 e - q)) e)).tailin (X := [(w.heap.size, .cells (Builtin.zeroCells z.cells q ++ Builtin.zeroCells z.cells (grownCap w q 0 e - q)) e)]) A R rfl
  intro act ha
  rw [if_pos (ha.wanted hg)]
  have e1 : (execOp act.eval ⟨some d, .call ⟨.builtin .append, #[x, y], #[S, S2]⟩, T, ps, af, g⟩).run P w = .ok (.value (.slice (some ⟨w.heap.size, 0, none⟩) q (grownCap w q 0 e))) (w.drew.alloc (.cells (Builtin.zeroCells z.cells q ++ Builtin.zeroCells z.cells (grownCap w q 0 e - q)) e)) := by
    simp [execOp, resolve, ha.ev hx, ha.ev hy, invoke, builtin, hr]
  simp only [Oper.wp, e1, Oper.upon]
  refine ⟨_, ha.put _ (by simpa [Nat.blt_eq] using hd), k _ _ (Builtin.zeroCells z.cells q).toList _ _ ⟨by simp [hc1], hge, hcm, .inr ⟨_, _, e, rfl, rfl, ?_, ?_⟩⟩ ha'⟩
  · rw [Array.size_append, hc1, hc1, ← Nat.add_mul]; congr 1; omega
  · rw [Array.toList_append]; exact List.take_left' (by simp [hc1])
end

/-! closed facts, in a form that the kernel reckons fast -/
section
variable {P : Program}
theorem BV_rep (n : Nat) : BV (Vector.replicate n 0 : V8 n) = (List.replicate n (U8 0)).toArray := by
  apply Array.ext'; simp [BV]
theorem WV_rep (n : Nat) : WV (Vector.replicate n 0 : V32 n) = (List.replicate n (U32 0)).toArray := by
  apply Array.ext'; simp [WV]
theorem DV_rep (n : Nat) : DV (Vector.replicate n 0 : V64 n) = (List.replicate n (U64 0)).toArray := by
  apply Array.ext'; simp [DV]
theorem tol_app (a b : List Value) : a.toArray ++ b.toArray = (a ++ b).toArray := by simp
theorem zr_of {T : Nat} {cs : Array Value} {l : List Value} (e : cs = l.toArray) (h : (P.info? T).bind (·.zero) = some (.agg l.toArray)) : Zr P T (.agg cs) := by rw [e]; exact h
theorem bu_s {T : Nat} {fs : Array Field} {places : List (Nat × Nat)} {cells : Array Value} (hz : Zr P T (.agg cells)) (hu : P.underlying T = some (.struct fs)) (hp : fs.toList.mapM (fun f => (P.info? f.type).map fun i => (f.offset, i.size)) = some places) (parts : List (Nat × Value)) :
    P.built T parts = Instr.fill (fun i => places.toArray[i]?) cells parts := by
  unfold Zr at hz
  cases hq : P.info? T with
  | none => simp [hq] at hz
  | some i =>
    simp only [hq, Option.bind_some] at hz
    simp only [Program.built, hq, hu, hz, hp]
    rfl
theorem bu_a {T n e sz : Nat} {cells : Array Value} (hz : Zr P T (.agg cells)) (hu : P.underlying T = some (.array n e)) (he : Sz P e sz) (parts : List (Nat × Value)) :
    P.built T parts = Instr.fill (fun i => some (i * sz, sz)) cells parts := by
  unfold Zr at hz
  unfold Sz at he
  cases hq : P.info? T with
  | none => simp [hq] at hz
  | some i =>
    cases hr : P.info? e with
    | none => simp [hr] at he
    | some ie =>
      simp only [hq, Option.bind_some] at hz
      simp [hr] at he
      simp only [Program.built, hq, hu, hz, hr, he]
      rfl
end
end Go.X

/- What the functions of block, bits, table, offset compute. -/
namespace Go.X
open Go

theorem bk_mid {key : V8 16} {k b T : Nat} {w0 w : World} {F : List Nat} {L : List (Nat × Obj)} {A R : Array Value} (h : St w0 F ((b, .cells (A ++ (WV (put32 (fwK key k) (k * 4) (wds (seg8 16 (expand key) (k * 16)))) ++ (WV (put32 (bkK key k) ((10 - k) * 4) (wds (unmix (seg8 16 (expand key) (k * 16))))) ++ R))) T) :: L) w) (hk : 0 < k ∧ k < 10) :
    St w0 F ((b, .cells (A ++ (WV (fwK key (k + 1)) ++ (WV (bkK key (k + 1)) ++ R))) T) :: L) w := by simp only [fwK, bkK, bkB]; rw [if_pos hk]; exact h
theorem bk_out {key : V8 16} {k b T : Nat} {w0 w : World} {F : List Nat} {L : List (Nat × Obj)} {A R : Array Value} (h : St w0 F ((b, .cells (A ++ (WV (put32 (fwK key k) (k * 4) (wds (seg8 16 (expand key) (k * 16)))) ++ (WV (put32 (bkK key k) ((10 - k) * 4) (wds (seg8 16 (expand key) (k * 16)))) ++ R))) T) :: L) w) (hk : ¬ (0 < k ∧ k < 10)) :
    St w0 F ((b, .cells (A ++ (WV (fwK key (k + 1)) ++ (WV (bkK key (k + 1)) ++ R))) T) :: L) w := by simp only [fwK, bkK, bkB]; rw [if_neg hk]; exact h
theorem ci_fw (key : V8 16) (o i : Nat) (ho : o = 1 + i) (hi : i < 44) : (cipherC key)[o]? = some (U32 (gw (fwK key 11) i)) :=
  cat_r (o' := i) rfl ho (cat_l (WV_size _) hi (WV_get _ i hi))
theorem ci_bk (key : V8 16) (o i : Nat) (ho : o = 45 + i) (hi : i < 44) : (cipherC key)[o]? = some (U32 (gw (bkK key 11) i)) :=
  cat_r (a := 1) (o' := 44 + i) rfl (by omega) (cat_r (o' := i) (WV_size _) rfl (cat_l (WV_size _) hi (WV_get _ i hi)))
theorem ci_t (key : V8 16) (o i : Nat) (ho : o = 105 + i) (hi : i < 256) : (cipherC key)[o]? = some (U32 (gw fwdT i)) :=
  cat_r (a := 1) (o' := 104 + i) rfl (by omega) (cat_r (o' := 60 + i) (WV_size _) (by omega) (cat_r (o' := 16 + i) (WV_size _) (by omega) (cat_r (o' := i) (BV_size _) rfl (cat_l (WV_size _) hi (WV_get _ i hi)))))
theorem ci_u (key : V8 16) (o i : Nat) (ho : o = 361 + i) (hi : i < 256) : (cipherC key)[o]? = some (U32 (gw bckT i)) :=
  cat_r (a := 1) (o' := 360 + i) rfl (by omega) (cat_r (o' := 316 + i) (WV_size _) (by omega) (cat_r (o' := 272 + i) (WV_size _) (by omega) (cat_r (o' := 256 + i) (BV_size _) (by omega) (cat_r (o' := i) (WV_size _) rfl (WV_get _ i hi)))))

/-! block -/
def xorV (a b : V8 16) : V8 16 := Vector.ofFn fun i => gv a i.val ^^^ gv b i.val
def dblf (b : V8 16) (i : Nat) : UInt8 := if i + 1 < 16 then shl8 (gv b i) 1 ||| shr8 (gv b (i + 1)) 7 else shl8 (gv b i) 1
def top7 (b : V8 16) : UInt8 := toU8 (Int.fdiv (IntKind.i8.wrap ((gv b 0).toNat : Int)) (2 ^ 7)) &&& 135
def dblB (b : V8 16) : V8 16 := (Vector.ofFn fun i => dblf b i.val : V8 16).setIfInBounds 15 (gv (Vector.ofFn fun i => dblf b i.val : V8 16) 15 ^^^ top7 b)
theorem gv_set_set {n : Nat} (v : V8 n) (c : Nat) (x y : UInt8) : (v.setIfInBounds c x).setIfInBounds c y = v.setIfInBounds c y := by
  apply Vector.ext; intro i h
  rw [Vector.getElem_setIfInBounds h, Vector.getElem_setIfInBounds h, Vector.getElem_setIfInBounds h]
  by_cases e : c = i <;> simp [e]
theorem dbl_t {b z : V8 16} {k : Nat} (h : k + 1 < 16) : ((fill8 16 (dblf b) z k).setIfInBounds k (shl8 (gv b k) 1)).setIfInBounds k (gv ((fill8 16 (dblf b) z k).setIfInBounds k (shl8 (gv b k) 1)) k ||| shr8 (gv b (k + 1)) 7) = fill8 16 (dblf b) z (k + 1) := by
  rw [gv_set_set, gv_set_eq _ _ _ (by omega), ← fill8_succ]; simp only [dblf]; rw [if_pos h]
theorem dbl_f {b z : V8 16} {k : Nat} (h : ¬ k + 1 < 16) : (fill8 16 (dblf b) z k).setIfInBounds k (shl8 (gv b k) 1) = fill8 16 (dblf b) z (k + 1) := by
  rw [← fill8_succ]; simp only [dblf]; rw [if_neg h]
theorem dbl_end {b z : V8 16} {k c T : Nat} {w0 w : World} {F : List Nat} {L : List (Nat × Obj)} (h : St w0 F ((c, .cells (BV ((fill8 16 (dblf b) z k).setIfInBounds k (shl8 (gv b k) 1))) T) :: L) w) (hk : ¬ k + 1 < 16) :
    St w0 F ((c, .cells (BV (fill8 16 (dblf b) z (k + 1))) T) :: L) w := by rw [← dbl_f hk]; exact h
def shiftf (b : V8 24) (n i : Nat) : UInt8 := if 0 < n % 8 then shl8 (gv b (i + n / 8)) (n % 8) ||| shr8 (gv b (i + n / 8 + 1)) (8 - n % 8) else shl8 (gv b (i + n / 8)) (n % 8)
def shiftV (b : V8 24) (n : Nat) : V8 16 := Vector.ofFn fun i => shiftf b n i.val
theorem toU64_nat (n : Nat) (h : n < 18446744073709551616) : (toU64 (n : Int)).toNat = n := by
  simp only [toU64, UInt64.toNat_ofNat']; omega
theorem sub8_nat (n : Nat) (h : n < 8) : (8 - toU64 (n : Int)).toNat = 8 - n := by
  have e := toU64_nat n (by omega)
  rw [UInt64.toNat_sub, e]
  simp; omega
theorem sh_t {b : V8 24} {z : V8 16} {k n : Nat} (hn : 0 < n % 8) (hk : k < 16) : ((fill8 16 (shiftf b n) z k).setIfInBounds k (shl8 (gv b (k + n / 8)) (toU64 ((n % 8 : Nat) : Int)).toNat)).setIfInBounds k
      (gv ((fill8 16 (shiftf b n) z k).setIfInBounds k (shl8 (gv b (k + n / 8)) (toU64 ((n % 8 : Nat) : Int)).toNat)) k ||| shr8 (gv b (k + n / 8 + 1)) (8 - toU64 ((n % 8 : Nat) : Int)).toNat) = fill8 16 (shiftf b n) z (k + 1) := by
  rw [gv_set_set, gv_set_eq _ _ _ hk, ← fill8_succ, toU64_nat _ (by omega), sub8_nat _ (by omega)]; simp only [shiftf]; rw [if_pos hn]
theorem sh_end {b : V8 24} {z : V8 16} {k c T n : Nat} {w0 w : World} {F : List Nat} {L : List (Nat × Obj)} (h : St w0 F ((c, .cells (BV ((fill8 16 (shiftf b n) z k).setIfInBounds k (shl8 (gv b (k + n / 8)) (toU64 ((n % 8 : Nat) : Int)).toNat))) T) :: L) w) (hn : ¬ 0 < n % 8) :
    St w0 F ((c, .cells (BV (fill8 16 (shiftf b n) z (k + 1))) T) :: L) w := by
  rw [← fill8_succ]
  rw [toU64_nat _ (by omega)] at h
  simp only [shiftf]; rw [if_neg hn]; exact h

/-- a rest, padded -/
def padV (bs : List UInt8) : V8 16 := (ofl 16 bs).setIfInBounds bs.length 128
theorem c8_get' (l : List UInt8) (j : Nat) : (c8 l)[j]? = if j < l.length then some (U8 (gl l j)) else none := by
  by_cases h : j < l.length
  · rw [c8_get l j h, if_pos h]
  · rw [if_neg h]; exact List.getElem?_eq_none (by rw [c8_len]; omega)
/-- bytes put into a vector -/
def putL {n : Nat} (v : V8 n) (o : Nat) (bs : List UInt8) : V8 n := Vector.ofFn fun i => if o ≤ i.val ∧ i.val < o + bs.length then gl bs (i.val - o) else gv v i.val
theorem BV_putL {n : Nat} (v : V8 n) (o : Nat) (bs : List UInt8) (h : o + bs.length ≤ n) : putAt (BV v) o (c8 bs).toArray = BV (putL v o bs) := by
  apply arr_ext; intro i
  rw [putAt_get _ _ _ _ (by rw [BV_size]; simpa [c8_len] using h), BV_get', BV_get']
  simp only [List.size_toArray, c8_len]
  by_cases h1 : o ≤ i ∧ i < o + bs.length
  · rw [if_pos h1, if_pos (show i < n by omega), List.getElem?_toArray, c8_get', if_pos (show i - o < bs.length by omega), putL, gv_ofFn _ _ (by omega)]
    simp [h1]
  · rw [if_neg h1]
    by_cases h2 : i < n
    · rw [if_pos h2, if_pos h2, putL, gv_ofFn _ _ h2]; simp only [h1, if_false]
    · rw [if_neg h2, if_neg h2]
theorem gl_ge {l : List UInt8} {i : Nat} (h : l.length ≤ i) : gl l i = 0 := by simp [gl, List.getElem?_eq_none h]
theorem gv_rep (n i : Nat) : gv (Vector.replicate n 0 : V8 n) i = 0 := by
  by_cases h : i < n <;> simp [gv, h]
theorem putL_zero {n : Nat} (bs : List UInt8) : putL (Vector.replicate n 0 : V8 n) 0 bs = ofl n bs := by
  apply Vector.ext; intro i h
  simp only [putL, ofl, Vector.getElem_ofFn, gv_rep, Nat.zero_le, true_and, Nat.zero_add, Nat.sub_zero]
  by_cases h1 : i < bs.length
  · rw [if_pos h1]
  · rw [if_neg h1, gl_ge (by omega)]
theorem pad_put (bs : List UInt8) (q : Nat) (hq : q = bs.length) (h : bs.length ≤ 16) : putAt (BV (Vector.replicate 16 0 : V8 16)) 0 (c8 (bs.take q)).toArray = BV (ofl 16 bs) := by
  subst hq; rw [List.take_length, BV_putL _ _ _ (by omega), putL_zero]

/-! bits -/
/-- a list that is filled from its beginning -/
def flL (n : Nat) (f : Nat → UInt8) (k : Nat) : List UInt8 := (List.range n).map fun i => if i < k then f i else 0
theorem flL_len (n : Nat) (f : Nat → UInt8) (k : Nat) : (flL n f k).length = n := by simp [flL]
theorem flL_0 (n : Nat) (f : Nat → UInt8) : List.replicate n 0 = flL n f 0 := by
  apply List.ext_getElem?; intro i
  simp [flL, List.getElem?_replicate]
  by_cases h : i < n <;> simp [h]
theorem flL_succ (n : Nat) (f : Nat → UInt8) (k : Nat) : (flL n f k).set k (f k) = flL n f (k + 1) := by
  apply List.ext_getElem?; intro i
  rw [List.getElem?_set]
  by_cases e : k = i
  · subst e
    by_cases h : k < n
    · simp [flL, h]
    · simp [flL, h]
  · simp only [e, if_false, flL, List.getElem?_map]
    by_cases h : i < n
    · have e1 : (i < k + 1) = (i < k) := by simp; omega
      simp [h, e1]
    · simp [h]
theorem flL_n (n : Nat) (f : Nat → UInt8) : flL n f n = (List.range n).map f := by
  apply List.map_congr_left; intro i hi; simp at hi; simp [hi]
theorem gl_flL_ge (n : Nat) (f : Nat → UInt8) {i k : Nat} (h : k ≤ i) : gl (flL n f k) i = 0 := by
  by_cases hn : i < n
  · simp [gl, flL, hn]; omega
  · exact gl_ge (by rw [flL_len]; omega)
def xorb (a b : List UInt8) : List UInt8 := (List.range (min a.length b.length)).map fun i => gl a i ^^^ gl b i
theorem xorb_len (a b : List UInt8) : (xorb a b).length = min a.length b.length := by simp [xorb]
def orl (l : List UInt8) : UInt8 := l.foldl (· ||| ·) 0
theorem orl_take (l : List UInt8) (k : Nat) (h : k < l.length) : orl (l.take k) ||| gl l k = orl (l.take (k + 1)) := by
  simp only [orl, List.take_add_one, List.foldl_append, gl]
  rw [List.getElem?_eq_getElem h]; simp [h]
def eqB (a b : List UInt8) : Bool := if orl (xorb a b) = 0 then decide (a.length = b.length) else false
def num (l : List UInt8) : UInt64 := l.foldl (fun x c => shl64 x 8 ||| toU64 (c.toNat : Int)) 0
theorem num_take (l : List UInt8) (k : Nat) (h : k < l.length) : shl64 (num (l.take k)) 8 ||| toU64 ((gl l k).toNat : Int) = num (l.take (k + 1)) := by
  simp only [num, List.take_add_one, List.foldl_append, gl]
  rw [List.getElem?_eq_getElem h]; simp [h]
def number (l : List UInt8) : UInt64 := num (l.drop (l.length - 8))
def bytf (x : UInt64) (n i : Nat) : UInt8 := toU8 ((shr64 x (8 * (n - 1 - i))).toNat : Int)
def bytesL (x : UInt64) (n : Nat) : List UInt8 := (List.range n).map fun i => bytf x n i
@[simp] theorem bytesL_len (x : UInt64) (n : Nat) : (bytesL x n).length = n := by simp [bytesL]

/-! the number of zeros at a number's end -/
def deBl : List UInt8 := [0, 1, 56, 2, 57, 49, 28, 3, 61, 58, 42, 50, 38, 29, 17, 4, 62, 47, 59, 36, 45, 43, 51, 22, 53, 39, 33, 30, 24, 18, 12, 5, 63, 55, 48, 27, 60, 41, 37, 16, 46, 35, 44, 21, 52, 32, 23, 11, 54, 26, 40, 15, 34, 20, 31, 10, 25, 14, 19, 9, 13, 8, 7, 6]
def Gl (g : Nat) (w : World) : Prop := Cel w (some ⟨g, 0, none⟩) (c8 deBl)
theorem Gl.st {g : Nat} {w0 w : World} {L : List (Nat × Obj)} (h : Gl g w0) (hS : St w0 [] L w) : Gl g w := Cel.st h hS
theorem gl_load {g j : Nat} {w : World} (h : Gl g w) (hj : j < 64) : w.cell? ⟨g, j, none⟩ = some (U8 (gl deBl j)) := by
  have := Cel.c8 h (j := j) hj
  simpa [adr_some] using this
def ctzi (x : UInt64) : Nat := (shr64 ((x &&& -x) * 285870213051353865) 58).toNat
theorem ctzi_lt (x : UInt64) : ctzi x < 64 := by
  simp only [ctzi, shr64, UInt64.toNat_ofNat']
  have := ((x &&& -x) * 285870213051353865).toNat_lt
  omega
def ctz (x : UInt64) : Nat := if x = 0 then 64 else (gl deBl (ctzi x)).toNat
theorem ctz_lt (x : UInt64) (h : x ≠ 0) : ctz x < 64 := by
  rw [ctz, if_neg h]
  have : ∀ n : Fin 64, (gl deBl n.val).toNat < 64 := by decide +kernel
  exact this ⟨ctzi x, ctzi_lt x⟩

theorem beqn (a b : Nat) : (((a : Int)) == (b : Int)) = decide (a = b) := by
  by_cases h : a = b
  · subst h; simp
  · have : ¬ (a : Int) = (b : Int) := by omega
    simp [h, this]

/-! the table -/
def star (key : V8 16) : V8 16 := enc key (Vector.replicate 16 0)
def lastL (key : V8 16) : Nat → V8 16
  | 0 => dblB (star key)
  | k + 1 => dblB (lastL key k)
def blkL (key : V8 16) : Nat → V8 1024
  | 0 => Vector.replicate 1024 0
  | k + 1 => put8 (blkL key k) (k * 16) (lastL key (k + 1))
/-- the cells of a table -/
def tableC (c : Nat) (key : V8 16) : Array Value := #[Ptr c 0] ++ (BV (star key) ++ (BV (lastL key 0) ++ BV (blkL key 64)))
/-- a table of a cipher of a key lies there -/
def TabAt (w : World) (t c : Nat) (key : V8 16) : Prop := (∃ T, w.heap[t]? = some (.cells (tableC c key) T)) ∧ ∃ E, w.heap[c]? = some (.cells (cipherC key) E)
theorem TabAt.st {w0 w : World} {L : List (Nat × Obj)} {t c : Nat} {key : V8 16} (h : TabAt w0 t c key) (hS : St w0 [] L w) : TabAt w t c key := by
  obtain ⟨⟨T, h1⟩, E, h2⟩ := h
  exact ⟨⟨T, hS.old h1 List.not_mem_nil⟩, E, hS.old h2 List.not_mem_nil⟩
def blkAt (key : V8 16) (i : Nat) : V8 16 := seg8 16 (blkL key 64) (i * 16)
def forN (key : V8 16) (x : UInt64) : V8 16 := blkAt key (ctz x)
end Go.X

/- What the functions of offset, nonce, hash and the mode compute. -/
namespace Go.X
open Go

theorem cp_all {n : Nat} (v : V8 n) (o q : Nat) (bs : List UInt8) (hq : q = bs.length) (h : o + bs.length ≤ n) : putAt (BV v) o (c8 (bs.take q)).toArray = BV (putL v o bs) := by
  subst hq; rw [List.take_length]; exact BV_putL v o bs h
def wholeV (nonce : V8 12) : V8 16 := putL ((Vector.replicate 16 0 : V8 16).setIfInBounds 3 1) 4 nonce.toList
def topB (nonce : V8 12) : V8 16 := (wholeV nonce).setIfInBounds 15 (gv (wholeV nonce) 15 &&& ~~~63)
def topV (key : V8 16) (nonce : V8 12) : V8 16 := enc key (topB nonce)
def strL (b : V8 16) : Nat → V8 24
  | 0 => putL (Vector.replicate 24 0) 0 b.toList
  | k + 1 => (strL b k).setIfInBounds (16 + k) (gv b k ^^^ gv b (k + 1))
def botN (nonce : V8 12) : Nat := (gv nonce 11 &&& 63).toNat
theorem botN_lt (nonce : V8 12) : botN nonce < 64 := by
  simp only [botN, UInt8.toNat_and]
  have : (63 : UInt8).toNat = 63 := rfl
  rw [this]
  have := Nat.and_le_right (n := (gv nonce 11).toNat) (m := 63)
  omega
def startV (key : V8 16) (nonce : V8 12) : V8 16 := shiftV (strL (topV key nonce) 8) (botN nonce)
def nextO (key : V8 16) (last : V8 16) (x : UInt64) : V8 16 := xorV last (forN key x)
/-- block k of bytes (from 0) -/
def blk (bs : List UInt8) (k : Nat) : V8 16 := ofl 16 (bs.drop (k * 16))
end Go.X

/- Comparing arrays of words; errors that are codes. -/
namespace Go.X
open Go

theorem all_range_eq64 : ∀ (xs ys : List UInt64), xs.length = ys.length → ((List.range xs.length).all fun i => xs.getD i 0 == ys.getD i 0) = (xs == ys)
  | [], [], _ => rfl
  | x :: xs, y :: ys, h => by
    have ih := all_range_eq64 xs ys (by simpa using h)
    rw [List.length_cons, List.range_succ_eq_map, List.all_cons, List.all_map]
    simp only [List.getD_cons_zero, Function.comp_def, List.getD_cons_succ, ih]
    simp [List.cons_beq_cons]
  | [], _ :: _, h => by simp at h
  | _ :: _, [], h => by simp at h

section
variable {P : Program} (w : World)
theorem run_equalIn_u64s (d : Nat) (t e : TypeId) (n : Nat) (ht : P.underlying t = some (.array n e)) (he : P.underlying e = some (.int .u64)) (hsz : ∀ w, (sizeOf e).run P w = .ok 1 w)
    (xs ys : List UInt64) (hx : xs.length = n) (hy : ys.length = n) :
    (Op.equalIn (d + 2) t (.agg (xs.map fun x => U64 x).toArray) (.agg (ys.map fun x => U64 x).toArray)).run P w = .ok (xs == ys) w := by
  rw [← all_range_eq64 xs ys (hx.trans hy.symm), hx, List.range_eq_range', Op.equalIn]
  simp only [Sem.run_bind, run_underlying ht, Result.andThen_ok, hsz, Std.Legacy.Range.forIn_eq_forIn_range', Std.Legacy.Range.size, Nat.sub_zero, Nat.add_sub_cancel, Nat.div_one]
  have hl : ∀ i ∈ List.range' 0 n 1, i < n := fun i hi => by simpa using (List.mem_range'_1.1 hi).2
  generalize List.range' 0 n 1 = l at hl ⊢
  induction l with
  | nil => simp
  | cons i l ih =>
    have hi : i < n := hl i (by simp)
    have px : (part e (xs.map fun x => U64 x).toArray (i * 1)).run P w = .ok (U64 (xs.getD i 0)) w := by
      simp [part, isAgg, run_underlying he, List.getD, List.getElem?_eq_getElem (show i < xs.length by omega)]
    have py : (part e (ys.map fun x => U64 x).toArray (i * 1)).run P w = .ok (U64 (ys.getD i 0)) w := by
      simp [part, isAgg, run_underlying he, List.getD, List.getElem?_eq_getElem (show i < ys.length by omega)]
    have pe : (Op.equalIn (d + 1) e (U64 (xs.getD i 0)) (U64 (ys.getD i 0))).run P w = .ok (xs.getD i 0 == ys.getD i 0) w := by
      rw [run_equalIn_int w d e .u64 .u64 _ _ he]
      congr 1
      rw [Bool.eq_iff_iff]
      simp [← UInt64.toNat_inj]
      omega
    simp only [List.forIn_cons, Sem.run_bind, px, py, pe, Result.andThen_ok, List.all_cons]
    cases hb : (xs.getD i 0 == ys.getD i 0)
    · simp
    · simp only [Bool.not_true, Bool.false_eq_true, if_false, Sem.run_pure, Result.andThen_ok, Bool.true_and]
      exact ih fun j hj => hl j (by simp [hj])
end

section
variable {P : Program} {ops : Array Oper} {n : Nat} {l : Regs} {w w0 : World} {K : Regs → World → Prop}
variable {d T S : Nat} {ps : String} {af : Array Edge} {g : Option (Nat × Bool)} {x y : Operand}
theorem eqdv {m e R : Nat} {a b : V64 m} (hT : P.underlying S = some (.array m e)) (he : P.underlying e = some (.int .u64)) (hz : Sz P e 1) (hgu : P.eqGuardType P.depth S = false) (hg : gval ops l ⟨some d, .binOp .eql S x y R, T, ps, af, g⟩ = some true) (hd : Nat.blt d n = true)
    (hx : ev l x = some (.agg (DV a))) (hy : ev l y = some (.agg (DV b))) (k : K ((d, .bool (decide (a = b))) :: l) w) : WO P ops n ⟨some d, .binOp .eql S x y R, T, ps, af, g⟩ l w K :=
  WO.val hg hd (fun act ha => by
    have e1 : DV a = (a.toList.map fun x => U64 x).toArray := by apply Array.ext'; simp [DV, Vector.toList]
    have e2 : DV b = (b.toList.map fun x => U64 x).toArray := by apply Array.ext'; simp [DV, Vector.toList]
    have hr : ∀ w : World, (Op.equalIn 10000 S (.agg (DV a)) (.agg (DV b))).run P w = .ok (a.toList == b.toList) w := fun w => by
      rw [e1, e2]; exact run_equalIn_u64s w 9998 S e m hT he (fun w => hz.run w) _ _ (by simp) (by simp)
    have e3 : (a.toList == b.toList) = decide (a = b) := by
      rw [Bool.eq_iff_iff]; simp [Vector.toList_inj]
    simp only [execOp, ha.ev hx, ha.ev hy, Sem.run_bind]
    simp [eqGuard, hgu, run_eql_struct, hr, e3]) k

/-- an error that is a code of type C (0: none) -/
def errV (C : Nat) (c : Nat) : Value := if c = 0 then .nilIface else .iface C (I (c : Int))
theorem errV_0 (C : Nat) : errV C 0 = .nilIface := rfl
theorem errV_s (C c : Nat) (h : c ≠ 0) : errV C c = .iface C (I (c : Int)) := by simp [errV, h]
theorem eqE {C c R : Nat} {ms : Array (String × TypeId)} (hu : P.underlying S = some (.interface ms)) (hg : gval ops l ⟨some d, .binOp .eql S x (.const .nilIface) R, T, ps, af, g⟩ = some true) (hd : Nat.blt d n = true) (hx : ev l x = some (errV C c)) (k : K ((d, .bool (decide (c = 0))) :: l) w) :
    WO P ops n ⟨some d, .binOp .eql S x (.const .nilIface) R, T, ps, af, g⟩ l w K := by
  by_cases h : c = 0
  · subst h; exact eqnn (s := 0) hu hg hd hx rfl (by simpa using k)
  · rw [errV_s C c h] at hx; exact eqin hu hg hd hx rfl (by simpa [h] using k)
theorem neE {C c R : Nat} {ms : Array (String × TypeId)} (hu : P.underlying S = some (.interface ms)) (hg : gval ops l ⟨some d, .binOp .neq S x (.const .nilIface) R, T, ps, af, g⟩ = some true) (hd : Nat.blt d n = true) (hx : ev l x = some (errV C c)) (k : K ((d, .bool (decide (c ≠ 0))) :: l) w) :
    WO P ops n ⟨some d, .binOp .neq S x (.const .nilIface) R, T, ps, af, g⟩ l w K := by
  by_cases h : c = 0
  · subst h; exact nenn (s := 0) hu hg hd hx rfl (by simpa using k)
  · rw [errV_s C c h] at hx; exact nein hu hg hd hx rfl (by simpa [h] using k)
end
end Go.X

/- Comparing errors that are codes. -/
namespace Go.X
open Go
def Ec (P : Program) (C : Nat) : Prop := (P.info? C).map (·.comparable) = some true ∧ ∃ q, P.underlying C = some (.int q)
section
variable {P : Program} {ops : Array Oper} {n : Nat} {l : Regs} {w : World} {K : Regs → World → Prop}
variable {d T S : Nat} {ps : String} {af : Array Edge} {g : Option (Nat × Bool)} {x y : Operand} {v u : Value}
theorem eqGuard_iface (op : BinOp) (t : TypeId) (s : TypeId) : eqGuard op t x y (.iface s v) u = pure () := by cases op <;> cases u <;> rfl
theorem eqGuard_nili (op : BinOp) (t : TypeId) (s : TypeId) : eqGuard op t x y .nilIface (.iface s v) = pure () := by cases op <;> rfl
theorem eqEE {C c R : Nat} {k : Int} {ms : Array (String × TypeId)} (hu : P.underlying S = some (.interface ms)) (hE : Ec P C) (hg : gval ops l ⟨some d, .binOp .eql S x y R, T, ps, af, g⟩ = some true) (hd : Nat.blt d n = true)
    (hx : ev l x = some (errV C c)) (hy : ev l y = some (.iface C (I k))) (hk : K ((d, .bool (decide ((c : Int) = k ∧ c ≠ 0))) :: l) w) : WO P ops n ⟨some d, .binOp .eql S x y R, T, ps, af, g⟩ l w K := by
  obtain ⟨hc, q, hq⟩ := hE
  by_cases h : c = 0
  · subst h
    refine WO.val hg hd (v := .bool false) (fun a ha => ?_) (by simpa using hk)
    have h1 := ha.ev hx; rw [errV_0] at h1
    simp only [execOp, h1, ha.ev hy, Sem.run_bind, eqGuard_nili]
    simp [run_eql_iface_nil_left w C (I k) hu]
  · refine WO.val hg hd (v := .bool ((c : Int) == k)) (w' := w) (fun a ha => ?_) ?_
    · have h1 := ha.ev hx; rw [errV_s C c h] at h1
      simp only [execOp, h1, ha.ev hy, Sem.run_bind, eqGuard_iface]
      simp [Go.Lib.run_eql_iface_int w (c : Int) k hu hc hq]
    · have e : ((c : Int) == k) = decide ((c : Int) = k ∧ c ≠ 0) := by
        rw [Bool.eq_iff_iff]; simp [h]
      rw [e]; exact hk
end
end Go.X

/- walks -/
namespace Go.Proofs.XZ
open Go Go.X Go.Proofs
theorem mo : Tryz.prog.follows .mixedOrders = true := by kernel_rfl
set_option maxRecDepth 1000000 in
theorem cf70 : Callable Tryz.prog 70 := ⟨_, Tryz.func70, by kernel_rfl, rfl⟩
set_option maxRecDepth 1000000 in
theorem cf51 : Callable Tryz.prog 51 := ⟨_, Tryz.func51, by kernel_rfl, rfl⟩
set_option maxRecDepth 1000000 in
theorem cf135 : Callable Tryz.prog 135 := ⟨_, Tryz.func135, by kernel_rfl, rfl⟩
set_option maxRecDepth 1000000 in
theorem zr46 : Zr Tryz.prog 46 (.agg (BV (Vector.replicate 256 0))) := zr_of (l := List.replicate 256 (U8 0)) (by simp only [BV_rep, WV_rep, DV_rep, tol_app]) (by kernel_rfl)
set_option maxRecDepth 1000000 in
theorem ag46 : Ag Tryz.prog 46 256 := ⟨⟨_, Tryz.underlying46, rfl⟩, by kernel_rfl⟩
set_option maxRecDepth 1000000 in
theorem cf69 : Callable Tryz.prog 69 := ⟨_, Tryz.func69, by kernel_rfl, rfl⟩
set_option maxRecDepth 1000000 in
theorem sz5 : Sz Tryz.prog 5 1 := by unfold Sz; kernel_rfl
set_option maxRecDepth 1000000 in
theorem sc5 : Sc Tryz.prog 5 := ⟨_, Tryz.underlying5, rfl⟩
set_option maxRecDepth 1000000 in
theorem cf48 : Callable Tryz.prog 48 := ⟨_, Tryz.func48, by kernel_rfl, rfl⟩
set_option maxRecDepth 1000000 in
theorem sl25 : SlT Tryz.prog 25 5 1 1 (U8 (0)) := ⟨Tryz.underlying25, _, rfl, rfl, by kernel_rfl, by kernel_rfl, rfl⟩
set_option maxRecDepth 1000000 in
theorem cf103 : Callable Tryz.prog 103 := ⟨_, Tryz.func103, by kernel_rfl, rfl⟩
set_option maxRecDepth 1000000 in
theorem zr67 : Zr Tryz.prog 67 (.agg (WV (Vector.replicate 4 0))) := zr_of (l := List.replicate 4 (U32 0)) (by simp only [BV_rep, WV_rep, DV_rep, tol_app]) (by kernel_rfl)
set_option maxRecDepth 1000000 in
theorem cf102 : Callable Tryz.prog 102 := ⟨_, Tryz.func102, by kernel_rfl, rfl⟩
set_option maxRecDepth 1000000 in
theorem sz62 : Sz Tryz.prog 62 1 := by unfold Sz; kernel_rfl
set_option maxRecDepth 1000000 in
theorem ag67 : Ag Tryz.prog 67 4 := ⟨⟨_, Tryz.underlying67, rfl⟩, by kernel_rfl⟩
set_option maxRecDepth 1000000 in
theorem zr22 : Zr Tryz.prog 22 (.agg (BV (Vector.replicate 16 0))) := zr_of (l := List.replicate 16 (U8 0)) (by simp only [BV_rep, WV_rep, DV_rep, tol_app]) (by kernel_rfl)
set_option maxRecDepth 1000000 in
theorem sc62 : Sc Tryz.prog 62 := ⟨_, Tryz.underlying62, rfl⟩
set_option maxRecDepth 1000000 in
theorem ag22 : Ag Tryz.prog 22 16 := ⟨⟨_, Tryz.underlying22, rfl⟩, by kernel_rfl⟩
set_option maxRecDepth 1000000 in
theorem cf130 : Callable Tryz.prog 130 := ⟨_, Tryz.func130, by kernel_rfl, rfl⟩
set_option maxRecDepth 1000000 in
theorem cf129 : Callable Tryz.prog 129 := ⟨_, Tryz.func129, by kernel_rfl, rfl⟩
set_option maxRecDepth 1000000 in
theorem cf131 : Callable Tryz.prog 131 := ⟨_, Tryz.func131, by kernel_rfl, rfl⟩
set_option maxRecDepth 1000000 in
theorem cf101 : Callable Tryz.prog 101 := ⟨_, Tryz.func101, by kernel_rfl, rfl⟩
set_option maxRecDepth 1000000 in
theorem cf73 : Callable Tryz.prog 73 := ⟨_, Tryz.func73, by kernel_rfl, rfl⟩
set_option maxRecDepth 1000000 in
theorem cf72 : Callable Tryz.prog 72 := ⟨_, Tryz.func72, by kernel_rfl, rfl⟩
set_option maxRecDepth 1000000 in
theorem cf71 : Callable Tryz.prog 71 := ⟨_, Tryz.func71, by kernel_rfl, rfl⟩
set_option maxRecDepth 1000000 in
theorem zr45 : Zr Tryz.prog 45 (.agg (BV (Vector.replicate 176 0))) := zr_of (l := List.replicate 176 (U8 0)) (by simp only [BV_rep, WV_rep, DV_rep, tol_app]) (by kernel_rfl)
set_option maxRecDepth 1000000 in
theorem ag45 : Ag Tryz.prog 45 176 := ⟨⟨_, Tryz.underlying45, rfl⟩, by kernel_rfl⟩
set_option maxRecDepth 1000000 in
theorem sz22 : Sz Tryz.prog 22 16 := by unfold Sz; kernel_rfl
set_option maxRecDepth 1000000 in
theorem cf52 : Callable Tryz.prog 52 := ⟨_, Tryz.func52, by kernel_rfl, rfl⟩
set_option maxRecDepth 1000000 in
theorem zr107 : Zr Tryz.prog 107 (.agg (BV (Vector.replicate 4 0))) := zr_of (l := List.replicate 4 (U8 0)) (by simp only [BV_rep, WV_rep, DV_rep, tol_app]) (by kernel_rfl)
set_option maxRecDepth 1000000 in
theorem ag107 : Ag Tryz.prog 107 4 := ⟨⟨_, Tryz.underlying107, rfl⟩, by kernel_rfl⟩
set_option maxRecDepth 1000000 in
theorem cf76 : Callable Tryz.prog 76 := ⟨_, Tryz.func76, by kernel_rfl, rfl⟩
set_option maxRecDepth 1000000 in
theorem cf75 : Callable Tryz.prog 75 := ⟨_, Tryz.func75, by kernel_rfl, rfl⟩
set_option maxRecDepth 1000000 in
theorem cf74 : Callable Tryz.prog 74 := ⟨_, Tryz.func74, by kernel_rfl, rfl⟩
set_option maxRecDepth 1000000 in
theorem cf53 : Callable Tryz.prog 53 := ⟨_, Tryz.func53, by kernel_rfl, rfl⟩
set_option maxRecDepth 1000000 in
theorem cf50 : Callable Tryz.prog 50 := ⟨_, Tryz.func50, by kernel_rfl, rfl⟩
set_option maxRecDepth 1000000 in
theorem zr65 : Zr Tryz.prog 65 (.agg (WV (Vector.replicate 256 0) ++ WV (Vector.replicate 256 0))) := zr_of (l := List.replicate 256 (U32 0) ++ (List.replicate 256 (U32 0))) (by simp only [BV_rep, WV_rep, DV_rep, tol_app]) (by kernel_rfl)
set_option maxRecDepth 1000000 in
theorem cf49 : Callable Tryz.prog 49 := ⟨_, Tryz.func49, by kernel_rfl, rfl⟩
set_option maxRecDepth 1000000 in
theorem sz63 : Sz Tryz.prog 63 256 := by unfold Sz; kernel_rfl
set_option maxRecDepth 1000000 in
theorem ag65 : Ag Tryz.prog 65 512 := ⟨⟨_, Tryz.underlying65, rfl⟩, by kernel_rfl⟩
set_option maxRecDepth 1000000 in
theorem sc3 : Sc Tryz.prog 3 := ⟨_, Tryz.underlying3, rfl⟩
set_option maxRecDepth 1000000 in
theorem cf25 : Callable Tryz.prog 25 := ⟨_, Tryz.func25, by kernel_rfl, rfl⟩
set_option maxRecDepth 1000000 in
theorem sz67 : Sz Tryz.prog 67 4 := by unfold Sz; kernel_rfl
set_option maxRecDepth 1000000 in
theorem cf67 : Callable Tryz.prog 67 := ⟨_, Tryz.func67, by kernel_rfl, rfl⟩
set_option maxRecDepth 1000000 in
theorem cf68 : Callable Tryz.prog 68 := ⟨_, Tryz.func68, by kernel_rfl, rfl⟩
set_option maxRecDepth 1000000 in
theorem cf23 : Callable Tryz.prog 23 := ⟨_, Tryz.func23, by kernel_rfl, rfl⟩
set_option maxRecDepth 1000000 in
theorem cf24 : Callable Tryz.prog 24 := ⟨_, Tryz.func24, by kernel_rfl, rfl⟩
set_option maxRecDepth 1000000 in
theorem sz68 : Sz Tryz.prog 68 44 := by unfold Sz; kernel_rfl
set_option maxRecDepth 1000000 in
theorem cf26 : Callable Tryz.prog 26 := ⟨_, Tryz.func26, by kernel_rfl, rfl⟩
set_option maxRecDepth 1000000 in
theorem sz4 : Sz Tryz.prog 4 1 := by unfold Sz; kernel_rfl
set_option maxRecDepth 1000000 in
theorem sc4 : Sc Tryz.prog 4 := ⟨_, Tryz.underlying4, rfl⟩
set_option maxRecDepth 1000000 in
theorem cf46 : Callable Tryz.prog 46 := ⟨_, Tryz.func46, by kernel_rfl, rfl⟩
set_option maxRecDepth 1000000 in
theorem sz65 : Sz Tryz.prog 65 512 := by unfold Sz; kernel_rfl
set_option maxRecDepth 1000000 in
theorem cf47 : Callable Tryz.prog 47 := ⟨_, Tryz.func47, by kernel_rfl, rfl⟩
set_option maxRecDepth 1000000 in
theorem cf89 : Callable Tryz.prog 89 := ⟨_, Tryz.func89, by kernel_rfl, rfl⟩
set_option maxRecDepth 1000000 in
theorem cf21 : Callable Tryz.prog 21 := ⟨_, Tryz.func21, by kernel_rfl, rfl⟩
set_option maxRecDepth 1000000 in
theorem cf22 : Callable Tryz.prog 22 := ⟨_, Tryz.func22, by kernel_rfl, rfl⟩
set_option maxRecDepth 1000000 in
theorem sz59 : Sz Tryz.prog 59 1024 := by unfold Sz; kernel_rfl
set_option maxRecDepth 1000000 in
theorem sz32 : Sz Tryz.prog 32 1 := by unfold Sz; kernel_rfl
set_option maxRecDepth 1000000 in
theorem sc32 : Sc Tryz.prog 32 := ⟨_, Tryz.underlying32, rfl⟩
set_option maxRecDepth 1000000 in
theorem cf110 : Callable Tryz.prog 110 := ⟨_, Tryz.func110, by kernel_rfl, rfl⟩
set_option maxRecDepth 1000000 in
theorem cf136 : Callable Tryz.prog 136 := ⟨_, Tryz.func136, by kernel_rfl, rfl⟩
set_option maxRecDepth 1000000 in
theorem cf134 : Callable Tryz.prog 134 := ⟨_, Tryz.func134, by kernel_rfl, rfl⟩
set_option maxRecDepth 1000000 in
theorem cf133 : Callable Tryz.prog 133 := ⟨_, Tryz.func133, by kernel_rfl, rfl⟩
set_option maxRecDepth 1000000 in
theorem cf109 : Callable Tryz.prog 109 := ⟨_, Tryz.func109, by kernel_rfl, rfl⟩
set_option maxRecDepth 1000000 in
theorem cf81 : Callable Tryz.prog 81 := ⟨_, Tryz.func81, by kernel_rfl, rfl⟩
set_option maxRecDepth 1000000 in
theorem ag81 : Ag Tryz.prog 81 12 := ⟨⟨_, Tryz.underlying81, rfl⟩, by kernel_rfl⟩
set_option maxRecDepth 1000000 in
theorem cf132 : Callable Tryz.prog 132 := ⟨_, Tryz.func132, by kernel_rfl, rfl⟩
set_option maxRecDepth 1000000 in
theorem cf82 : Callable Tryz.prog 82 := ⟨_, Tryz.func82, by kernel_rfl, rfl⟩
set_option maxRecDepth 1000000 in
theorem zr151 : Zr Tryz.prog 151 (.agg (BV (Vector.replicate 24 0))) := zr_of (l := List.replicate 24 (U8 0)) (by simp only [BV_rep, WV_rep, DV_rep, tol_app]) (by kernel_rfl)
set_option maxRecDepth 1000000 in
theorem ag151 : Ag Tryz.prog 151 24 := ⟨⟨_, Tryz.underlying151, rfl⟩, by kernel_rfl⟩
set_option maxRecDepth 1000000 in
theorem cf106 : Callable Tryz.prog 106 := ⟨_, Tryz.func106, by kernel_rfl, rfl⟩
set_option maxRecDepth 1000000 in
theorem cf105 : Callable Tryz.prog 105 := ⟨_, Tryz.func105, by kernel_rfl, rfl⟩
set_option maxRecDepth 1000000 in
theorem cf107 : Callable Tryz.prog 107 := ⟨_, Tryz.func107, by kernel_rfl, rfl⟩
set_option maxRecDepth 1000000 in
theorem cf104 : Callable Tryz.prog 104 := ⟨_, Tryz.func104, by kernel_rfl, rfl⟩
set_option maxRecDepth 1000000 in
theorem zr74 : Zr Tryz.prog 74 (.agg (BV (Vector.replicate 8 0))) := zr_of (l := List.replicate 8 (U8 0)) (by simp only [BV_rep, WV_rep, DV_rep, tol_app]) (by kernel_rfl)
set_option maxRecDepth 1000000 in
theorem cf30 : Callable Tryz.prog 30 := ⟨_, Tryz.func30, by kernel_rfl, rfl⟩
set_option maxRecDepth 1000000 in
theorem ag74 : Ag Tryz.prog 74 8 := ⟨⟨_, Tryz.underlying74, rfl⟩, by kernel_rfl⟩
set_option maxRecDepth 1000000 in
theorem cf36 : Callable Tryz.prog 36 := ⟨_, Tryz.func36, by kernel_rfl, rfl⟩
set_option maxRecDepth 1000000 in
theorem zr81 : Zr Tryz.prog 81 (.agg (BV (Vector.replicate 12 0))) := zr_of (l := List.replicate 12 (U8 0)) (by simp only [BV_rep, WV_rep, DV_rep, tol_app]) (by kernel_rfl)
set_option maxRecDepth 1000000 in
theorem cf65 : Callable Tryz.prog 65 := ⟨_, Tryz.func65, by kernel_rfl, rfl⟩
set_option maxRecDepth 1000000 in
theorem sz3 : Sz Tryz.prog 3 1 := by unfold Sz; kernel_rfl
set_option maxRecDepth 1000000 in
theorem cc40 : Tryz.prog.concrete 40 = true := by kernel_rfl
set_option maxRecDepth 1000000 in
theorem sz23 : Sz Tryz.prog 23 1 := by unfold Sz; kernel_rfl
set_option maxRecDepth 1000000 in
theorem sc23 : Sc Tryz.prog 23 := ⟨_, Tryz.underlying23, rfl⟩
set_option maxRecDepth 1000000 in
theorem sz25 : Sz Tryz.prog 25 1 := by unfold Sz; kernel_rfl
set_option maxRecDepth 1000000 in
theorem sc25 : Sc Tryz.prog 25 := ⟨_, Tryz.underlying25, rfl⟩
set_option maxRecDepth 1000000 in
theorem ag27 : Ag Tryz.prog 27 5 := ⟨⟨_, Tryz.underlying27, rfl⟩, by kernel_rfl⟩
set_option maxRecDepth 1000000 in
theorem cf27 : Callable Tryz.prog 27 := ⟨_, Tryz.func27, by kernel_rfl, rfl⟩
set_option maxRecDepth 1000000 in
theorem zr94 : Zr Tryz.prog 94 (.agg (DV (Vector.replicate 4 0))) := zr_of (l := List.replicate 4 (U64 0)) (by simp only [BV_rep, WV_rep, DV_rep, tol_app]) (by kernel_rfl)
set_option maxRecDepth 1000000 in
theorem sz24 : Sz Tryz.prog 24 1 := by unfold Sz; kernel_rfl
set_option maxRecDepth 1000000 in
theorem sc24 : Sc Tryz.prog 24 := ⟨_, Tryz.underlying24, rfl⟩
set_option maxRecDepth 1000000 in
theorem ag94 : Ag Tryz.prog 94 4 := ⟨⟨_, Tryz.underlying94, rfl⟩, by kernel_rfl⟩
set_option maxRecDepth 1000000 in
theorem cf44 : Callable Tryz.prog 44 := ⟨_, Tryz.func44, by kernel_rfl, rfl⟩
set_option maxRecDepth 1000000 in
theorem eg94 : Tryz.prog.eqGuardType Tryz.prog.depth 94 = false := by kernel_rfl
set_option maxRecDepth 1000000 in
theorem cf45 : Callable Tryz.prog 45 := ⟨_, Tryz.func45, by kernel_rfl, rfl⟩
set_option maxRecDepth 1000000 in
theorem cf13 : Callable Tryz.prog 13 := ⟨_, Tryz.func13, by kernel_rfl, rfl⟩
set_option maxRecDepth 1000000 in
theorem cf33 : Callable Tryz.prog 33 := ⟨_, Tryz.func33, by kernel_rfl, rfl⟩
set_option maxRecDepth 1000000 in
theorem cf35 : Callable Tryz.prog 35 := ⟨_, Tryz.func35, by kernel_rfl, rfl⟩
set_option maxRecDepth 1000000 in
theorem zr158 : Zr Tryz.prog 158 (.agg (BV (Vector.replicate 16 0) ++ BV (Vector.replicate 16 0))) := zr_of (l := List.replicate 16 (U8 0) ++ (List.replicate 16 (U8 0))) (by simp only [BV_rep, WV_rep, DV_rep, tol_app]) (by kernel_rfl)
set_option maxRecDepth 1000000 in
theorem cf80 : Callable Tryz.prog 80 := ⟨_, Tryz.func80, by kernel_rfl, rfl⟩
set_option maxRecDepth 1000000 in
theorem ag158 : Ag Tryz.prog 158 32 := ⟨⟨_, Tryz.underlying158, rfl⟩, by kernel_rfl⟩
set_option maxRecDepth 1000000 in
theorem cf84 : Callable Tryz.prog 84 := ⟨_, Tryz.func84, by kernel_rfl, rfl⟩
set_option maxRecDepth 1000000 in
theorem cf83 : Callable Tryz.prog 83 := ⟨_, Tryz.func83, by kernel_rfl, rfl⟩
set_option maxRecDepth 1000000 in
theorem zr3 : Zr Tryz.prog 3 (I (0)) := by unfold Zr; kernel_rfl
set_option maxRecDepth 1000000 in
theorem cf79 : Callable Tryz.prog 79 := ⟨_, Tryz.func79, by kernel_rfl, rfl⟩
set_option maxRecDepth 1000000 in
theorem cf108 : Callable Tryz.prog 108 := ⟨_, Tryz.func108, by kernel_rfl, rfl⟩
set_option maxRecDepth 1000000 in
theorem sc30 : Sc Tryz.prog 30 := ⟨_, Tryz.underlying30, rfl⟩
set_option maxRecDepth 1000000 in
theorem cf111 : Callable Tryz.prog 111 := ⟨_, Tryz.func111, by kernel_rfl, rfl⟩
set_option maxRecDepth 1000000 in
theorem cf112 : Callable Tryz.prog 112 := ⟨_, Tryz.func112, by kernel_rfl, rfl⟩
set_option maxRecDepth 1000000 in
theorem cf85 : Callable Tryz.prog 85 := ⟨_, Tryz.func85, by kernel_rfl, rfl⟩
set_option maxRecDepth 1000000 in
theorem cf86 : Callable Tryz.prog 86 := ⟨_, Tryz.func86, by kernel_rfl, rfl⟩
set_option maxRecDepth 1000000 in
theorem zr25 : Zr Tryz.prog 25 ((.slice none 0 0)) := by unfold Zr; kernel_rfl
set_option maxRecDepth 1000000 in
theorem cf77 : Callable Tryz.prog 77 := ⟨_, Tryz.func77, by kernel_rfl, rfl⟩
set_option maxRecDepth 1000000 in
theorem zr128 : Zr Tryz.prog 128 (.nilFunc) := by unfold Zr; kernel_rfl
set_option maxRecDepth 1000000 in
theorem sz128 : Sz Tryz.prog 128 1 := by unfold Sz; kernel_rfl
set_option maxRecDepth 1000000 in
theorem sc128 : Sc Tryz.prog 128 := ⟨_, Tryz.underlying128, rfl⟩
set_option maxRecDepth 1000000 in
theorem cf78 : Callable Tryz.prog 78 := ⟨_, Tryz.func78, by kernel_rfl, rfl⟩
set_option maxRecDepth 1000000 in
theorem cf55 : Callable Tryz.prog 55 := ⟨_, Tryz.func55, by kernel_rfl, rfl⟩
set_option maxRecDepth 1000000 in
theorem cf56 : Callable Tryz.prog 56 := ⟨_, Tryz.func56, by kernel_rfl, rfl⟩
set_option maxRecDepth 1000000 in
theorem zr137 : Zr Tryz.prog 137 (.nilFunc) := by unfold Zr; kernel_rfl
set_option maxRecDepth 1000000 in
theorem sz137 : Sz Tryz.prog 137 1 := by unfold Sz; kernel_rfl
set_option maxRecDepth 1000000 in
theorem cf88 : Callable Tryz.prog 88 := ⟨_, Tryz.func88, by kernel_rfl, rfl⟩
set_option maxRecDepth 1000000 in
theorem sc137 : Sc Tryz.prog 137 := ⟨_, Tryz.underlying137, rfl⟩
set_option maxRecDepth 1000000 in
theorem cf87 : Callable Tryz.prog 87 := ⟨_, Tryz.func87, by kernel_rfl, rfl⟩
set_option maxRecDepth 1000000 in
theorem cf57 : Callable Tryz.prog 57 := ⟨_, Tryz.func57, by kernel_rfl, rfl⟩
set_option maxRecDepth 1000000 in
theorem cf58 : Callable Tryz.prog 58 := ⟨_, Tryz.func58, by kernel_rfl, rfl⟩
set_option maxRecDepth 1000000 in
theorem cf54 : Callable Tryz.prog 54 := ⟨_, Tryz.func54, by kernel_rfl, rfl⟩
set_option maxRecDepth 1000000 in
theorem cf28 : Callable Tryz.prog 28 := ⟨_, Tryz.func28, by kernel_rfl, rfl⟩
set_option maxRecDepth 1000000 in
theorem sl108 : SlT Tryz.prog 108 25 1 24 ((.slice none 0 0)) := ⟨Tryz.underlying108, _, rfl, rfl, by kernel_rfl, by kernel_rfl, rfl⟩
set_option maxRecDepth 1000000 in
theorem cf29 : Callable Tryz.prog 29 := ⟨_, Tryz.func29, by kernel_rfl, rfl⟩
set_option maxRecDepth 1000000 in
theorem cf32 : Callable Tryz.prog 32 := ⟨_, Tryz.func32, by kernel_rfl, rfl⟩
set_option maxRecDepth 1000000 in
theorem cf31 : Callable Tryz.prog 31 := ⟨_, Tryz.func31, by kernel_rfl, rfl⟩
set_option maxRecDepth 1000000 in
theorem zr27 : Zr Tryz.prog 27 (.agg (#[I (0), U64 (0), U16 (0), U16 (0), (.slice none 0 0)])) := zr_of (l := [I (0), U64 (0), U16 (0), U16 (0), (.slice none 0 0)]) (rfl) (by kernel_rfl)
set_option maxRecDepth 1000000 in
theorem cf34 : Callable Tryz.prog 34 := ⟨_, Tryz.func34, by kernel_rfl, rfl⟩
set_option maxRecDepth 1000000 in
theorem cf8 : Callable Tryz.prog 8 := ⟨_, Tryz.func8, by kernel_rfl, rfl⟩
set_option maxRecDepth 1000000 in
theorem cf7 : Callable Tryz.prog 7 := ⟨_, Tryz.func7, by kernel_rfl, rfl⟩
set_option maxRecDepth 1000000 in
theorem cf9 : Callable Tryz.prog 9 := ⟨_, Tryz.func9, by kernel_rfl, rfl⟩
set_option maxRecDepth 1000000 in
theorem cf12 : Callable Tryz.prog 12 := ⟨_, Tryz.func12, by kernel_rfl, rfl⟩
set_option maxRecDepth 1000000 in
theorem cf18 : Callable Tryz.prog 18 := ⟨_, Tryz.func18, by kernel_rfl, rfl⟩
set_option maxRecDepth 1000000 in
theorem cf16 : Callable Tryz.prog 16 := ⟨_, Tryz.func16, by kernel_rfl, rfl⟩
set_option maxRecDepth 1000000 in
theorem ec40 : Ec Tryz.prog 40 := ⟨by kernel_rfl, _, Tryz.underlying40⟩
set_option maxRecDepth 1000000 in
theorem cf19 : Callable Tryz.prog 19 := ⟨_, Tryz.func19, by kernel_rfl, rfl⟩
set_option maxRecDepth 1000000 in
theorem cf11 : Callable Tryz.prog 11 := ⟨_, Tryz.func11, by kernel_rfl, rfl⟩
set_option maxRecDepth 1000000 in
theorem cf20 : Callable Tryz.prog 20 := ⟨_, Tryz.func20, by kernel_rfl, rfl⟩
set_option maxRecDepth 1000000 in
theorem zr70 : Zr Tryz.prog 70 (.agg (#[.bool (false)] ++ (WV (Vector.replicate 44 0) ++ (WV (Vector.replicate 44 0) ++ (BV (Vector.replicate 16 0) ++ (WV (Vector.replicate 256 0) ++ WV (Vector.replicate 256 0))))))) := zr_of (l := [.bool (false)] ++ (List.replicate 44 (U32 0) ++ (List.replicate 44 (U32 0) ++ (List.replicate 16 (U8 0) ++ (List.replicate 256 (U32 0) ++ (List.replicate 256 (U32 0))))))) (by simp only [BV_rep, WV_rep, DV_rep, tol_app]) (by kernel_rfl)
set_option maxRecDepth 1000000 in
theorem zr61 : Zr Tryz.prog 61 (.agg (#[(.pointer none)] ++ (BV (Vector.replicate 16 0) ++ (BV (Vector.replicate 16 0) ++ BV (Vector.replicate 1024 0))))) := zr_of (l := [(.pointer none)] ++ (List.replicate 16 (U8 0) ++ (List.replicate 16 (U8 0) ++ (List.replicate 1024 (U8 0))))) (by simp only [BV_rep, WV_rep, DV_rep, tol_app]) (by kernel_rfl)
set_option maxRecDepth 1000000 in
theorem bu45 (parts : List (Nat × Value)) : Tryz.prog.built 45 parts = Instr.fill (fun i => some (i * 16, 16)) (BV (Vector.replicate 176 0)) parts := bu_a zr45 Tryz.underlying45 sz22 parts
set_option maxRecDepth 1000000 in
theorem bu70 (parts : List (Nat × Value)) : Tryz.prog.built 70 parts = Instr.fill (fun i => ([(0, 1), (1, 44), (45, 44), (89, 16), (105, 512)] : List (Nat × Nat)).toArray[i]?) (#[.bool (false)] ++ (WV (Vector.replicate 44 0) ++ (WV (Vector.replicate 44 0) ++ (BV (Vector.replicate 16 0) ++ (WV (Vector.replicate 256 0) ++ WV (Vector.replicate 256 0)))))) parts := bu_s zr70 Tryz.underlying70 (by kernel_rfl) parts
set_option maxRecDepth 1000000 in
theorem bu61 (parts : List (Nat × Value)) : Tryz.prog.built 61 parts = Instr.fill (fun i => ([(0, 1), (1, 16), (17, 16), (33, 1024)] : List (Nat × Nat)).toArray[i]?) (#[(.pointer none)] ++ (BV (Vector.replicate 16 0) ++ (BV (Vector.replicate 16 0) ++ BV (Vector.replicate 1024 0)))) parts := bu_s zr61 Tryz.underlying61 (by kernel_rfl) parts
set_option maxRecDepth 1000000 in
theorem bu22 (parts : List (Nat × Value)) : Tryz.prog.built 22 parts = Instr.fill (fun i => some (i * 1, 1)) (BV (Vector.replicate 16 0)) parts := bu_a zr22 Tryz.underlying22 sz5 parts
end Go.Proofs.XZ

/- What the functions of packet, and the small ones of the reference, compute. -/
namespace Go.X
open Go

theorem ofl_bytes (bs : List UInt8) (n : Nat) (h : bs.length = n) : (ofl n bs).toList = bs := by
  apply List.ext_getElem?; intro i
  by_cases hi : i < n
  · simp [ofl, gl, hi, show i < bs.length by omega]
  · rw [List.getElem?_eq_none (by simp; omega), List.getElem?_eq_none (by omega)]
/-- the head of a direction and a number -/
def headV (d : Nat) (s : UInt64) : V8 8 := ofl 8 (bytesL (shl64 (toU64 (d : Int)) 63 ||| s) 8)
def headD (bs : List UInt8) : Nat := (shr64 (number (bs.take 8)) 63).toNat
theorem shr63_lt (x : UInt64) : (shr64 x 63).toNat < 2 := by
  simp only [shr64, UInt64.toNat_ofNat']
  have := x.toNat_lt
  omega
def headS (bs : List UInt8) : UInt64 := number (bs.take 8) &&& 9223372036854775807
def nonceV (h : V8 8) : V8 12 := ofl 12 ((Vector.replicate 4 0 : V8 4).toList ++ h.toList)
/-- the code of the error of a packet -/
def chk (d : Int) (s : UInt64) (n : Nat) : Nat := if d ≠ 0 ∧ d ≠ 1 then 8 else if 9223372036854775807 < s.toNat then 5 else if 1200 < n then 2 else 0
def lng (n : Nat) : Nat := if n < 28 then 1 else if 1228 < n then 2 else 0
/-- the number of bytes, the reference's way -/
def num2 (l : List UInt8) : UInt64 := l.foldl (fun x c => x * 256 + toU64 (c.toNat : Int)) 0
theorem num2_take (l : List UInt8) (k : Nat) (h : k < l.length) : num2 (l.take k) * 256 + toU64 ((gl l k).toNat : Int) = num2 (l.take (k + 1)) := by
  simp only [num2, List.take_add_one, List.foldl_append, gl]
  rw [List.getElem?_eq_getElem h]; simp [h]
def headD2 (bs : List UInt8) : Nat := if 9223372036854775808 ≤ (num2 (bs.take 8)).toNat then 1 else 0
def headS2 (bs : List UInt8) : UInt64 := if 9223372036854775808 ≤ (num2 (bs.take 8)).toNat then num2 (bs.take 8) - 9223372036854775808 else num2 (bs.take 8)
theorem take_ne {a b : List UInt8} {k : Nat} (h : ¬ gl a k = gl b k) : ¬ a = b := fun e => h (by rw [e])
theorem take_step {a b : List UInt8} {k : Nat} (ha : k < a.length) (hb : k < b.length) (h : a.take k = b.take k) (e : gl a k = gl b k) : a.take (k + 1) = b.take (k + 1) := by
  rw [List.take_add_one, List.take_add_one, h]
  simp only [gl, List.getD, ha, hb, List.getElem?_eq_getElem, Option.getD_some] at e
  rw [List.getElem?_eq_getElem ha, List.getElem?_eq_getElem hb, e]
def restV (d : Int) (s : UInt64) (t e : UInt16) : V64 4 := #v[toU64 d, s, toU64 (t.toNat : Int), toU64 (e.toNat : Int)]
/-- the numbers that the reference spreads a seed into -/
def sprX (x : UInt64) : Nat → UInt64
  | 0 => x
  | k + 1 => sprX x k * 6364136223846793005 + 1442695040888963407
def sprL (x : UInt64) (n : Nat) : List UInt8 := (List.range n).map fun k => toU8 ((shr64 (sprX x (k + 1)) 33).toNat : Int)
theorem sprL_succ (x : UInt64) (k : Nat) : sprL x k ++ [toU8 ((shr64 (sprX x k * 6364136223846793005 + 1442695040888963407) 33).toNat : Int)] = sprL x (k + 1) := by
  simp [sprL, List.range_succ, sprX]
def sameV (r r2 : V64 4) (bs bs2 : List UInt8) : Bool := if r = r2 then decide (bs = bs2) else false
theorem sameV_t {r r2 : V64 4} {bs bs2 : List UInt8} (h : r = r2) : sameV r r2 bs bs2 = decide (bs = bs2) := by simp [sameV, h]
theorem sameV_f {r r2 : V64 4} {bs bs2 : List UInt8} (h : ¬ r = r2) : sameV r r2 bs bs2 = false := by simp [sameV, h]
def sameR (d d2 : Int) (s s2 : UInt64) (t t2 e e2 : UInt16) (bs bs2 : List UInt8) : Bool :=
  if d = d2 then if s.toNat = s2.toNat then if t.toNat = t2.toNat then if e.toNat = e2.toNat then decide (bs = bs2) else false else false else false else false
def peekD (bs : List UInt8) : Nat := if lng bs.length = 0 then headD bs else 0
def peekS (bs : List UInt8) : UInt64 := if lng bs.length = 0 then headS bs else 0
theorem lng_0 {n : Nat} (h : lng n = 0) : 28 ≤ n ∧ n ≤ 1228 := by
  simp only [lng] at h
  split at h
  · cases h
  · split at h
    · cases h
    · omega
/-! hash -/
def toU64k (k : Nat) : UInt64 := toU64 (k : Int)
theorem toU64_ne (k : Nat) (h0 : 0 < k) (h : k < 1000000) : toU64 (k : Int) ≠ 0 := fun e => by
  have := toU64_nat k (by omega)
  rw [e] at this; simp at this; omega
def addO (key : V8 16) (off : V8 16) (k : Nat) : V8 16 := nextO key off (toU64 (k : Int))
def addS (key : V8 16) (sum off part : V8 16) (k : Nat) : V8 16 := xorV sum (enc key (xorV part (addO key off k)))
def restB (key : V8 16) (off : V8 16) (rest : List UInt8) : V8 16 := if rest.length = 0 then Vector.replicate 16 0 else enc key (xorV (padV rest) (xorV off (star key)))
def sumL (key : V8 16) (bs : List UInt8) : Nat → V8 16 × V8 16
  | 0 => (Vector.replicate 16 0, Vector.replicate 16 0)
  | k + 1 => (addS key (sumL key bs k).1 (sumL key bs k).2 (blk bs k) (k + 1), addO key (sumL key bs k).2 (k + 1))
def hashV (key : V8 16) (bs : List UInt8) : V8 16 := xorV (sumL key bs (bs.length / 16)).1 (restB key (sumL key bs (bs.length / 16)).2 (bs.drop (bs.length / 16 * 16)))
def tagV (key ck off : V8 16) (data : List UInt8) : V8 16 := xorV (enc key (xorV ck (xorV off (lastL key 0)))) (hashV key data)
end Go.X

/- A block that has been encrypted is decrypted to itself: plain Lean, no program in sight. -/
namespace Go.X
open Go

/-! bytes of words -/
theorem byt_nat (w : UInt32) (r : Nat) : (byt w r).toNat = w.toNat / 2 ^ (24 - 8 * r) % 256 := by
  have h : w.toNat / 2 ^ (24 - 8 * r) ≤ w.toNat := Nat.div_le_self _ _
  have := w.toNat_lt
  simp only [byt, toU8, shr32, UInt8.toNat_ofNat', UInt32.toNat_ofNat']
  rw [Nat.mod_eq_of_lt (a := w.toNat / _) (by omega)]
  omega
theorem byt_xor (x y : UInt32) (r : Nat) : byt (x ^^^ y) r = byt x r ^^^ byt y r := by
  apply UInt8.toNat_inj.1
  have e : 256 = 2 ^ 8 := rfl
  rw [UInt8.toNat_xor, byt_nat, byt_nat, byt_nat, UInt32.toNat_xor, Nat.xor_div_two_pow, e, Nat.xor_mod_two_pow]
theorem or_add (a b i : Nat) (h : b < 2 ^ i) : (a * 2 ^ i) ||| b = a * 2 ^ i + b := by
  have := Nat.two_pow_add_eq_or_of_lt h a
  rw [Nat.mul_comm a]; exact this.symm
theorem u8n (a : UInt8) : ((toU32 (a.toNat : Int))).toNat = a.toNat := by
  have := a.toNat_lt
  simp only [toU32, UInt32.toNat_ofNat']; omega
theorem shl_nat (a : UInt8) (m : Nat) (h : m ≤ 24) : (shl32 (toU32 (a.toNat : Int)) m).toNat = a.toNat * 2 ^ m := by
  have h1 := a.toNat_lt
  have h2 : 2 ^ m ≤ 2 ^ 24 := Nat.pow_le_pow_right (by omega) h
  have h3 : a.toNat * 2 ^ m < 256 * 2 ^ 24 := Nat.lt_of_lt_of_le (Nat.mul_lt_mul_of_pos_right h1 (Nat.two_pow_pos m)) (Nat.mul_le_mul_left _ h2)
  simp only [shl32, UInt32.toNat_ofNat', u8n]
  exact Nat.mod_eq_of_lt (by omega)
theorem col_nat (a b c d : UInt8) : (col a b c d).toNat = a.toNat * 2 ^ 24 + (b.toNat * 2 ^ 16 + (c.toNat * 2 ^ 8 + d.toNat)) := by
  have ha := a.toNat_lt; have hb := b.toNat_lt; have hc := c.toNat_lt; have hd := d.toNat_lt
  simp only [col, UInt32.toNat_or, shl_nat _ _ (show 24 ≤ 24 by omega), shl_nat _ _ (show 16 ≤ 24 by omega), shl_nat _ _ (show 8 ≤ 24 by omega), u8n]
  rw [Nat.or_assoc, Nat.or_assoc, or_add _ d.toNat 8 (by omega), or_add _ _ 16 (by omega), or_add _ _ 24 (by omega)]
theorem byt_col0 (a b c d : UInt8) : byt (col a b c d) 0 = a := by
  have ha := a.toNat_lt; have hb := b.toNat_lt; have hc := c.toNat_lt; have hd := d.toNat_lt
  apply UInt8.toNat_inj.1; rw [byt_nat, col_nat]; omega
theorem byt_col1 (a b c d : UInt8) : byt (col a b c d) 1 = b := by
  have ha := a.toNat_lt; have hb := b.toNat_lt; have hc := c.toNat_lt; have hd := d.toNat_lt
  apply UInt8.toNat_inj.1; rw [byt_nat, col_nat]; omega
theorem byt_col2 (a b c d : UInt8) : byt (col a b c d) 2 = c := by
  have ha := a.toNat_lt; have hb := b.toNat_lt; have hc := c.toNat_lt; have hd := d.toNat_lt
  apply UInt8.toNat_inj.1; rw [byt_nat, col_nat]; omega
theorem byt_col3 (a b c d : UInt8) : byt (col a b c d) 3 = d := by
  have ha := a.toNat_lt; have hb := b.toNat_lt; have hc := c.toNat_lt; have hd := d.toNat_lt
  apply UInt8.toNat_inj.1; rw [byt_nat, col_nat]; omega
theorem rotr_nat (w : UInt32) (q : Nat) (h0 : 0 < q) (h : q < 4) : (rotr w q).toNat = w.toNat % 2 ^ (8 * q) * 2 ^ (32 - 8 * q) + w.toNat / 2 ^ (8 * q) := by
  have hw := w.toNat_lt
  have hq : q = 1 ∨ q = 2 ∨ q = 3 := by omega
  have e1 : (shr32 w (8 * q)).toNat = w.toNat / 2 ^ (8 * q) := by
    have h : w.toNat / 2 ^ (8 * q) ≤ w.toNat := Nat.div_le_self _ _
    simp only [shr32, UInt32.toNat_ofNat']
    exact Nat.mod_eq_of_lt (by omega)
  have e2 : (shl32 w ((32 - 8 * q) % 32)).toNat = w.toNat % 2 ^ (8 * q) * 2 ^ (32 - 8 * q) := by
    simp only [shl32, UInt32.toNat_ofNat']
    rcases hq with rfl | rfl | rfl
    · show w.toNat * 2 ^ 24 % 2 ^ 32 = w.toNat % 2 ^ 8 * 2 ^ 24; omega
    · show w.toNat * 2 ^ 16 % 2 ^ 32 = w.toNat % 2 ^ 16 * 2 ^ 16; omega
    · show w.toNat * 2 ^ 8 % 2 ^ 32 = w.toNat % 2 ^ 24 * 2 ^ 8; omega
  rw [rotr, UInt32.toNat_or, e1, e2, Nat.or_comm, or_add]
  rcases hq with rfl | rfl | rfl <;> omega
theorem four (x : Nat) (h : x < 4294967296) : ∃ a b c d, a < 256 ∧ b < 256 ∧ c < 256 ∧ d < 256 ∧ x = 16777216 * a + 65536 * b + 256 * c + d :=
  ⟨x / 16777216, x / 65536 % 256, x / 256 % 256, x % 256, by omega, by omega, by omega, by omega, by omega⟩
theorem four_b {w : UInt32} {a b c d : Nat} (ha : a < 256) (hb : b < 256) (hc : c < 256) (hd : d < 256) (h : w.toNat = 16777216 * a + 65536 * b + 256 * c + d) : (byt w 0).toNat = a ∧ (byt w 1).toNat = b ∧ (byt w 2).toNat = c ∧ (byt w 3).toNat = d := by
  rw [byt_nat, byt_nat, byt_nat, byt_nat, h]
  have e0 : (16777216 * a + 65536 * b + 256 * c + d) / 16777216 = a := by omega
  have e1 : (16777216 * a + 65536 * b + 256 * c + d) / 65536 = 256 * a + b := by omega
  have e2 : (16777216 * a + 65536 * b + 256 * c + d) / 256 = 65536 * a + 256 * b + c := by omega
  simp only [Nat.reduceMul, Nat.reduceSub, Nat.reducePow, Nat.div_one, e0, e1, e2]
  omega
theorem byt_rotr (w : UInt32) (q r : Nat) (h0 : 0 < q) (h : q < 4) (hr : r < 4) : byt (rotr w q) r = byt w ((r + 4 - q) % 4) := by
  obtain ⟨a, b, c, d, ha, hb, hc, hd, hx⟩ := four w.toNat w.toNat_lt
  have h1 := four_b ha hb hc hd hx
  have hq : q = 1 ∨ q = 2 ∨ q = 3 := by omega
  have hr' : r = 0 ∨ r = 1 ∨ r = 2 ∨ r = 3 := by omega
  apply UInt8.toNat_inj.1
  rcases hq with rfl | rfl | rfl
  · have h2 := rotr_nat w 1 h0 h
    rw [hx] at h2
    have e1 : (16777216 * a + 65536 * b + 256 * c + d) % 256 = d := by omega
    have e2 : (16777216 * a + 65536 * b + 256 * c + d) / 256 = 65536 * a + 256 * b + c := by omega
    simp only [Nat.reduceSub, Nat.reduceMul, Nat.reducePow, e1, e2] at h2
    have h3 := four_b hd ha hb hc (w := rotr w 1) (by omega)
    rcases hr' with rfl | rfl | rfl | rfl <;> simp only [Nat.reduceAdd, Nat.reduceSub, Nat.reduceMod, h1, h3]
  · have h2 := rotr_nat w 2 h0 h
    rw [hx] at h2
    have e1 : (16777216 * a + 65536 * b + 256 * c + d) % 65536 = 256 * c + d := by omega
    have e2 : (16777216 * a + 65536 * b + 256 * c + d) / 65536 = 256 * a + b := by omega
    simp only [Nat.reduceSub, Nat.reduceMul, Nat.reducePow, e1, e2] at h2
    have h3 := four_b hc hd ha hb (w := rotr w 2) (by omega)
    rcases hr' with rfl | rfl | rfl | rfl <;> simp only [Nat.reduceAdd, Nat.reduceSub, Nat.reduceMod, h1, h3]
  · have h2 := rotr_nat w 3 h0 h
    rw [hx] at h2
    have e1 : (16777216 * a + 65536 * b + 256 * c + d) % 16777216 = 65536 * b + 256 * c + d := by omega
    have e2 : (16777216 * a + 65536 * b + 256 * c + d) / 16777216 = a := by omega
    simp only [Nat.reduceSub, Nat.reduceMul, Nat.reducePow, e1, e2] at h2
    have h3 := four_b hb hc hd ha (w := rotr w 3) (by omega)
    rcases hr' with rfl | rfl | rfl | rfl <;> simp only [Nat.reduceAdd, Nat.reduceSub, Nat.reduceMod, h1, h3]

/-! the field -/
theorem dbl_x (a : UInt8) : dbl a = (a <<< 1) ^^^ ((a >>> 7) * 27) := by
  revert a; refine all_u8 ?_; decide +kernel
theorem top_01 (a : UInt8) : a >>> 7 = 0 ∨ a >>> 7 = 1 := by
  revert a; refine all_u8 ?_; decide +kernel
theorem dbl_xor (a b : UInt8) : dbl (a ^^^ b) = dbl a ^^^ dbl b := by
  have e1 : (a ^^^ b) <<< 1 = (a <<< 1) ^^^ (b <<< 1) := by
    apply UInt8.toBitVec_inj.1; simp [BitVec.shiftLeft_xor_distrib]
  have e2 : (a ^^^ b) >>> 7 = (a >>> 7) ^^^ (b >>> 7) := by
    apply UInt8.toBitVec_inj.1; simp [BitVec.ushiftRight_xor_distrib]
  have e3 : ((a >>> 7) ^^^ (b >>> 7)) * (27 : UInt8) = ((a >>> 7) * (27 : UInt8)) ^^^ ((b >>> 7) * (27 : UInt8)) := by
    rcases top_01 a with h | h <;> rcases top_01 b with h' | h' <;> rw [h, h'] <;> decide
  rw [dbl_x, dbl_x, dbl_x, e1, e2, e3]
  simp only [UInt8.xor_assoc]
  congr 1
  rw [← UInt8.xor_assoc, UInt8.xor_comm (b <<< 1), UInt8.xor_assoc]
def m2 (a : UInt8) : UInt8 := dbl a
def m3 (a : UInt8) : UInt8 := dbl a ^^^ a
def m9 (a : UInt8) : UInt8 := dbl (dbl (dbl a)) ^^^ a
def m11 (a : UInt8) : UInt8 := dbl (dbl (dbl a)) ^^^ dbl a ^^^ a
def m13 (a : UInt8) : UInt8 := dbl (dbl (dbl a)) ^^^ dbl (dbl a) ^^^ a
def m14 (a : UInt8) : UInt8 := dbl (dbl (dbl a)) ^^^ dbl (dbl a) ^^^ dbl a
theorem mul_2 (a : UInt8) : mul a 2 = m2 a := by revert a; refine all_u8 ?_; decide +kernel
theorem mul_3 (a : UInt8) : mul a 3 = m3 a := by revert a; refine all_u8 ?_; decide +kernel
theorem mul_9 (a : UInt8) : mul a 9 = m9 a := by revert a; refine all_u8 ?_; decide +kernel
theorem mul_11 (a : UInt8) : mul a 11 = m11 a := by revert a; refine all_u8 ?_; decide +kernel
theorem mul_13 (a : UInt8) : mul a 13 = m13 a := by revert a; refine all_u8 ?_; decide +kernel
theorem mul_14 (a : UInt8) : mul a 14 = m14 a := by revert a; refine all_u8 ?_; decide +kernel
theorem mul9 (a : UInt8) : mul 9 a = m9 a := by revert a; refine all_u8 ?_; decide +kernel
theorem mul11 (a : UInt8) : mul 11 a = m11 a := by revert a; refine all_u8 ?_; decide +kernel
theorem mul13 (a : UInt8) : mul 13 a = m13 a := by revert a; refine all_u8 ?_; decide +kernel
theorem mul14 (a : UInt8) : mul 14 a = m14 a := by revert a; refine all_u8 ?_; decide +kernel
theorem x4 (a b c d : UInt8) : (a ^^^ b) ^^^ (c ^^^ d) = (a ^^^ c) ^^^ (b ^^^ d) := by
  rw [UInt8.xor_assoc, UInt8.xor_assoc]; congr 1
  rw [← UInt8.xor_assoc, UInt8.xor_comm b, UInt8.xor_assoc]
theorem x6 (p q r s t u : UInt8) : (p ^^^ q) ^^^ (r ^^^ s) ^^^ (t ^^^ u) = (p ^^^ r ^^^ t) ^^^ (q ^^^ s ^^^ u) := by rw [x4 p q r s, x4]
theorem m9_xor (a b : UInt8) : m9 (a ^^^ b) = m9 a ^^^ m9 b := by simp only [m9, dbl_xor]; rw [x4]
theorem m11_xor (a b : UInt8) : m11 (a ^^^ b) = m11 a ^^^ m11 b := by simp only [m11, dbl_xor]; rw [x6]
theorem m13_xor (a b : UInt8) : m13 (a ^^^ b) = m13 a ^^^ m13 b := by simp only [m13, dbl_xor]; rw [x6]
theorem m14_xor (a b : UInt8) : m14 (a ^^^ b) = m14 a ^^^ m14 b := by simp only [m14, dbl_xor]; rw [x6]

/-! columns -/
def mc (r : Nat) (a b c d : UInt8) : UInt8 :=
  if r = 0 then m2 a ^^^ m3 b ^^^ c ^^^ d else if r = 1 then a ^^^ m2 b ^^^ m3 c ^^^ d else if r = 2 then a ^^^ b ^^^ m2 c ^^^ m3 d else m3 a ^^^ b ^^^ c ^^^ m2 d
def imc (r : Nat) (a b c d : UInt8) : UInt8 :=
  if r = 0 then m14 a ^^^ m11 b ^^^ m13 c ^^^ m9 d else if r = 1 then m9 a ^^^ m14 b ^^^ m11 c ^^^ m13 d else if r = 2 then m13 a ^^^ m9 b ^^^ m14 c ^^^ m11 d else m11 a ^^^ m13 b ^^^ m9 c ^^^ m14 d
theorem x8 (a b c d a' b' c' d' : UInt8) : (a ^^^ b ^^^ c ^^^ d) ^^^ (a' ^^^ b' ^^^ c' ^^^ d') = (a ^^^ a') ^^^ (b ^^^ b') ^^^ (c ^^^ c') ^^^ (d ^^^ d') := by
  rw [x4, x4 (a ^^^ b), x4 a]
theorem imc_xor (r : Nat) (a b c d a' b' c' d' : UInt8) : imc r (a ^^^ a') (b ^^^ b') (c ^^^ c') (d ^^^ d') = imc r a b c d ^^^ imc r a' b' c' d' := by
  simp only [imc]
  split
  · rw [m14_xor, m11_xor, m13_xor, m9_xor, x8]
  split
  · rw [m9_xor, m14_xor, m11_xor, m13_xor, x8]
  split
  · rw [m13_xor, m9_xor, m14_xor, m11_xor, x8]
  · rw [m11_xor, m13_xor, m9_xor, m14_xor, x8]
/-- one column's part of a product -/
theorem one_a (a : UInt8) : m14 (m2 a) ^^^ m11 a ^^^ m13 a ^^^ m9 (m3 a) = a ∧ m9 (m2 a) ^^^ m14 a ^^^ m11 a ^^^ m13 (m3 a) = 0 ∧ m13 (m2 a) ^^^ m9 a ^^^ m14 a ^^^ m11 (m3 a) = 0 ∧ m11 (m2 a) ^^^ m13 a ^^^ m9 a ^^^ m14 (m3 a) = 0 := by
  revert a; refine all_u8 ?_; decide +kernel
theorem one_b (a : UInt8) : m14 (m3 a) ^^^ m11 (m2 a) ^^^ m13 a ^^^ m9 a = 0 ∧ m9 (m3 a) ^^^ m14 (m2 a) ^^^ m11 a ^^^ m13 a = a ∧ m13 (m3 a) ^^^ m9 (m2 a) ^^^ m14 a ^^^ m11 a = 0 ∧ m11 (m3 a) ^^^ m13 (m2 a) ^^^ m9 a ^^^ m14 a = 0 := by
  revert a; refine all_u8 ?_; decide +kernel
theorem one_c (a : UInt8) : m14 a ^^^ m11 (m3 a) ^^^ m13 (m2 a) ^^^ m9 a = 0 ∧ m9 a ^^^ m14 (m3 a) ^^^ m11 (m2 a) ^^^ m13 a = 0 ∧ m13 a ^^^ m9 (m3 a) ^^^ m14 (m2 a) ^^^ m11 a = a ∧ m11 a ^^^ m13 (m3 a) ^^^ m9 (m2 a) ^^^ m14 a = 0 := by
  revert a; refine all_u8 ?_; decide +kernel
theorem one_d (a : UInt8) : m14 a ^^^ m11 a ^^^ m13 (m3 a) ^^^ m9 (m2 a) = 0 ∧ m9 a ^^^ m14 a ^^^ m11 (m3 a) ^^^ m13 (m2 a) = 0 ∧ m13 a ^^^ m9 a ^^^ m14 (m3 a) ^^^ m11 (m2 a) = 0 ∧ m11 a ^^^ m13 a ^^^ m9 (m3 a) ^^^ m14 (m2 a) = a := by
  revert a; refine all_u8 ?_; decide +kernel
theorem mc_split (r : Nat) (a b c d : UInt8) : mc r a b c d = mc r a 0 0 0 ^^^ mc r 0 b 0 0 ^^^ mc r 0 0 c 0 ^^^ mc r 0 0 0 d := by
  have e2 : m2 0 = 0 := by decide
  have e3 : m3 0 = 0 := by decide
  simp only [mc]
  split
  · simp [e2, e3]
  split
  · simp [e2, e3]
  split
  · simp [e2, e3]
  · simp [e2, e3]
theorem imc_mc (r : Nat) (hr : r < 4) (a b c d : UInt8) : imc r (mc 0 a b c d) (mc 1 a b c d) (mc 2 a b c d) (mc 3 a b c d) = if r = 0 then a else if r = 1 then b else if r = 2 then c else d := by
  have e2 : m2 0 = 0 := by decide
  have e3 : m3 0 = 0 := by decide
  rw [mc_split 0, mc_split 1, mc_split 2, mc_split 3, imc_xor, imc_xor, imc_xor]
  have ha := one_a a; have hb := one_b b; have hc := one_c c; have hd := one_d d
  have h4 : r = 0 ∨ r = 1 ∨ r = 2 ∨ r = 3 := by omega
  rcases h4 with rfl | rfl | rfl | rfl <;> simp [imc, mc, e2, e3, ha, hb, hc, hd]

/-! the table of bytes and its inverse -/
def sbl : List UInt8 := [99, 124, 119, 123, 242, 107, 111, 197, 48, 1, 103, 43, 254, 215, 171, 118, 202, 130, 201, 125, 250, 89, 71, 240, 173, 212, 162, 175, 156, 164, 114, 192, 183, 253, 147, 38, 54, 63, 247, 204, 52, 165, 229, 241, 113, 216, 49, 21, 4, 199, 35, 195, 24, 150, 5, 154, 7, 18, 128, 226, 235, 39, 178, 117, 9, 131, 44, 26, 27, 110, 90, 160, 82, 59, 214, 179, 41, 227, 47, 132, 83, 209, 0, 237, 32, 252, 177, 91, 106, 203, 190, 57, 74, 76, 88, 207, 208, 239, 170, 251, 67, 77, 51, 133, 69, 249, 2, 127, 80, 60, 159, 168, 81, 163, 64, 143, 146, 157, 56, 245, 188, 182, 218, 33, 16, 255, 243, 210, 205, 12, 19, 236, 95, 151, 68, 23, 196, 167, 126, 61, 100, 93, 25, 115, 96, 129, 79, 220, 34, 42, 144, 136, 70, 238, 184, 20, 222, 94, 11, 219, 224, 50, 58, 10, 73, 6, 36, 92, 194, 211, 172, 98, 145, 149, 228, 121, 231, 200, 55, 109, 141, 213, 78, 169, 108, 86, 244, 234, 101, 122, 174, 8, 186, 120, 37, 46, 28, 166, 180, 198, 232, 221, 116, 31, 75, 189, 139, 138, 112, 62, 181, 102, 72, 3, 246, 14, 97, 53, 87, 185, 134, 193, 29, 158, 225, 248, 152, 17, 105, 217, 142, 148, 155, 30, 135, 233, 206, 85, 40, 223, 140, 161, 137, 13, 191, 230, 66, 104, 65, 153, 45, 15, 176, 84, 187, 22]
def ibl : List UInt8 := [82, 9, 106, 213, 48, 54, 165, 56, 191, 64, 163, 158, 129, 243, 215, 251, 124, 227, 57, 130, 155, 47, 255, 135, 52, 142, 67, 68, 196, 222, 233, 203, 84, 123, 148, 50, 166, 194, 35, 61, 238, 76, 149, 11, 66, 250, 195, 78, 8, 46, 161, 102, 40, 217, 36, 178, 118, 91, 162, 73, 109, 139, 209, 37, 114, 248, 246, 100, 134, 104, 152, 22, 212, 164, 92, 204, 93, 101, 182, 146, 108, 112, 72, 80, 253, 237, 185, 218, 94, 21, 70, 87, 167, 141, 157, 132, 144, 216, 171, 0, 140, 188, 211, 10, 247, 228, 88, 5, 184, 179, 69, 6, 208, 44, 30, 143, 202, 63, 15, 2, 193, 175, 189, 3, 1, 19, 138, 107, 58, 145, 17, 65, 79, 103, 220, 234, 151, 242, 207, 206, 240, 180, 230, 115, 150, 172, 116, 34, 231, 173, 53, 133, 226, 249, 55, 232, 28, 117, 223, 110, 71, 241, 26, 113, 29, 41, 197, 137, 111, 183, 98, 14, 170, 24, 190, 27, 252, 86, 62, 75, 198, 210, 121, 32, 154, 219, 192, 254, 120, 205, 90, 244, 31, 221, 168, 51, 136, 7, 199, 49, 177, 18, 16, 89, 39, 128, 236, 95, 96, 81, 127, 169, 25, 181, 74, 13, 45, 229, 122, 159, 147, 201, 156, 239, 160, 224, 59, 77, 174, 42, 245, 176, 200, 235, 187, 60, 131, 83, 153, 97, 23, 43, 4, 126, 186, 119, 214, 38, 225, 105, 20, 99, 85, 33, 12, 125]
theorem sbox_lit : ∀ n : Fin 256, sbox (UInt8.ofNat n.val) = gl sbl n.val := by decide +kernel
theorem ibl_lit : ∀ n : Fin 256, gl ibl (gl sbl n.val).toNat = UInt8.ofNat n.val := by decide +kernel
theorem ibl_sbox (a : UInt8) : gl ibl (sbox a).toNat = a := by
  have h1 := sbox_lit ⟨a.toNat, a.toNat_lt⟩
  have h2 := ibl_lit ⟨a.toNat, a.toNat_lt⟩
  simp only [UInt8.ofNat_toNat] at h1 h2
  rw [h1, h2]
theorem sbox_inj {a b : UInt8} (h : sbox a = sbox b) : a = b := by rw [← ibl_sbox a, ← ibl_sbox b, h]
theorem backL_sbox (a : UInt8) : ∀ f k, k ≤ a.toNat → a.toNat < k + f → backL (sbox a) f k = a
  | 0, k, h1, h2 => by omega
  | f + 1, k, h1, h2 => by
    have hk : k < 256 := Nat.lt_of_le_of_lt h1 a.toNat_lt
    rw [backL, sboxV_get k hk]
    split
    · rename_i h; exact sbox_inj h
    · rename_i h
      refine backL_sbox a f (k + 1) ?_ (by omega)
      have : k ≠ a.toNat := fun e => h (by subst e; simp)
      omega
theorem back_sbox (a : UInt8) : back (sbox a) = a := backL_sbox a 256 0 (by omega) (by have := a.toNat_lt; omega)

/-! keys -/
theorem byt_wds (b : V8 16) (c r : Nat) (hc : c < 4) (hr : r < 4) : byt (gw (wds b) c) r = gv b (4 * c + r) := by
  rw [wds, gw_ofFn _ _ hc, wdf]
  have h4 : r = 0 ∨ r = 1 ∨ r = 2 ∨ r = 3 := by omega
  rcases h4 with rfl | rfl | rfl | rfl
  · rw [byt_col0]; rfl
  · rw [byt_col1]
  · rw [byt_col2]
  · rw [byt_col3]
def rk (key : V8 16) (r : Nat) : V8 16 := seg8 16 (expand key) (r * 16)
theorem gw_fwK (key : V8 16) (r c : Nat) (hc : c < 4) : ∀ m, r < m → m ≤ 11 → gw (fwK key m) (r * 4 + c) = gw (wds (rk key r)) c
  | 0, h, _ => by omega
  | m + 1, h, hm => by
    rw [fwK, gw_put32 _ _ _ _ (by omega)]
    by_cases e : r = m
    · subst e
      rw [if_pos (by omega)]
      have : r * 4 + c - r * 4 = c := by omega
      rw [this]; rfl
    · rw [if_neg (by omega)]
      exact gw_fwK key r c hc m (by omega) (by omega)
theorem gw_bkK (key : V8 16) (r c : Nat) (hc : c < 4) : ∀ m, r < m → m ≤ 11 → gw (bkK key m) ((10 - r) * 4 + c) = gw (wds (bkB key r)) c
  | 0, h, _ => by omega
  | m + 1, h, hm => by
    rw [bkK, gw_put32 _ _ _ _ (by omega)]
    by_cases e : r = m
    · subst e
      rw [if_pos (by omega)]
      have : (10 - r) * 4 + c - (10 - r) * 4 = c := by omega
      rw [this]
    · rw [if_neg (by omega)]
      exact gw_bkK key r c hc m (by omega) (by omega)

/-! a round -/
def By (s : V32 4) (c r : Nat) : UInt8 := byt (gw s c) r
theorem By_round (kv : V32 44) (tv : V32 256) (step : Nat) (s : V32 4) (n c r : Nat) (hc : c < 4) (hr : r < 4) :
    By (roundf kv tv step s n) c r = byt (gw kv (n * 4 + c)) r ^^^ byt (gw tv (By s (c % 4) 0).toNat) r ^^^ byt (gw tv (By s ((c + step) % 4) 1).toNat) ((r + 3) % 4) ^^^ byt (gw tv (By s ((c + 2 * step) % 4) 2).toNat) ((r + 2) % 4) ^^^ byt (gw tv (By s ((c + 3 * step) % 4) 3).toNat) ((r + 1) % 4) := by
  have e0 : (c + 0 * step) % 4 = c % 4 := by simp
  have e1 : (c + 1 * step) % 4 = (c + step) % 4 := by simp
  have f3 : (r + 4 - 1) = r + 3 := by omega
  have f2 : (r + 4 - 2) = r + 2 := by omega
  have f1 : (r + 4 - 3) = r + 1 := by omega
  simp only [By, roundf, pick]
  rw [gw_ofFn _ _ hc]
  simp only [rowL, pick, Nat.lt_irrefl, if_false, Nat.zero_lt_succ, if_true, e0, e1, show (0 : Nat) < 1 by omega, show (0 : Nat) < 2 by omega, show (0 : Nat) < 3 by omega]
  rw [byt_xor, byt_xor, byt_xor, byt_xor, byt_rotr _ 1 r (by omega) (by omega) hr, byt_rotr _ 2 r (by omega) (by omega) hr, byt_rotr _ 3 r (by omega) (by omega) hr, f3, f2, f1]
theorem gw_fwdT (a : UInt8) : gw fwdT a.toNat = col (m2 (sbox a)) (sbox a) (sbox a) (m3 (sbox a)) := by
  rw [fwdT, gw_ofFn _ _ a.toNat_lt, fwdTf]; simp [mul_2, mul_3]
theorem gw_bckT (a : UInt8) : gw bckT a.toNat = col (m14 (back a)) (m9 (back a)) (m13 (back a)) (m11 (back a)) := by
  rw [bckT, gw_ofFn _ _ a.toNat_lt, bckTf]; simp [mul_14, mul_9, mul_13, mul_11]
theorem By_enc (key : V8 16) (s : V32 4) (n c r : Nat) (hn : n ≤ 10) (hc : c < 4) (hr : r < 4) :
    By (roundf (fwK key 11) fwdT 1 s n) c r = gv (rk key n) (4 * c + r) ^^^ mc r (sbox (By s (c % 4) 0)) (sbox (By s ((c + 1) % 4) 1)) (sbox (By s ((c + 2) % 4) 2)) (sbox (By s ((c + 3) % 4) 3)) := by
  rw [By_round _ _ _ _ _ _ _ hc hr, gw_fwK key n c hc 11 (by omega) (by omega), byt_wds _ _ _ hc hr]
  simp only [gw_fwdT, Nat.mul_one]
  have h4 : r = 0 ∨ r = 1 ∨ r = 2 ∨ r = 3 := by omega
  rcases h4 with rfl | rfl | rfl | rfl <;> simp [mc, byt_col0, byt_col1, byt_col2, byt_col3, UInt8.xor_assoc]
theorem By_dec (key : V8 16) (s : V32 4) (n c r : Nat) (hn : n ≤ 10) (hc : c < 4) (hr : r < 4) :
    By (roundf (bkK key 11) bckT 3 s n) c r = gv (bkB key (10 - n)) (4 * c + r) ^^^ imc r (back (By s (c % 4) 0)) (back (By s ((c + 3) % 4) 1)) (back (By s ((c + 6) % 4) 2)) (back (By s ((c + 9) % 4) 3)) := by
  have e : n * 4 + c = (10 - (10 - n)) * 4 + c := by omega
  rw [By_round _ _ _ _ _ _ _ hc hr, e, gw_bkK key (10 - n) c hc 11 (by omega) (by omega), byt_wds _ _ _ hc hr]
  simp only [gw_bckT]
  have h4 : r = 0 ∨ r = 1 ∨ r = 2 ∨ r = 3 := by omega
  rcases h4 with rfl | rfl | rfl | rfl <;> simp [imc, byt_col0, byt_col1, byt_col2, byt_col3, UInt8.xor_assoc]
theorem seg_gv (b : V8 16) (o i : Nat) (h : i < 4) : gv (seg8 4 b o) i = gv b (o + i) := by rw [seg8, gv_ofFn _ _ h]
theorem unmix_get (b : V8 16) (c r : Nat) (hc : c < 4) (hr : r < 4) : gv (unmix b) (4 * c + r) = imc r (gv b (4 * c)) (gv b (4 * c + 1)) (gv b (4 * c + 2)) (gv b (4 * c + 3)) := by
  rw [unmix, cols, gv_ofFn _ _ (by omega)]
  have e1 : 4 * c + r - (4 * c + r) % 4 = 4 * c := by omega
  have e2 : (4 * c + r) % 4 = r := by omega
  simp only [colf, e1, e2, dot, xorl, seg_gv _ _ _ (show 0 < 4 by omega), seg_gv _ _ _ (show 1 < 4 by omega), seg_gv _ _ _ (show 2 < 4 by omega), seg_gv _ _ _ (show 3 < 4 by omega)]
  have h4 : r = 0 ∨ r = 1 ∨ r = 2 ∨ r = 3 := by omega
  rcases h4 with rfl | rfl | rfl | rfl <;> simp [imc, gv, mul9, mul11, mul13, mul14]
/-- the state of the encryption, by bytes -/
def Se (key b : V8 16) (n c r : Nat) : UInt8 := By (stL (fwK key 11) fwdT 1 b n) c r
theorem Se_0 (key b : V8 16) (c r : Nat) (hc : c < 4) (hr : r < 4) : Se key b 0 c r = gv b (4 * c + r) ^^^ gv (rk key 0) (4 * c + r) := by
  have e : c = 0 * 4 + c := by omega
  simp only [Se, By, stL]
  rw [gw_ofFn _ _ hc, byt_xor, byt_wds _ _ _ hc hr]
  simp only []
  have := gw_fwK key 0 c hc 11 (by omega) (by omega)
  rw [← e] at this
  rw [this, byt_wds _ _ _ hc hr]
theorem Se_s (key b : V8 16) (n c r : Nat) (hn : n < 10) (hc : c < 4) (hr : r < 4) : Se key b (n + 1) c r = gv (rk key (n + 1)) (4 * c + r) ^^^ mc r (sbox (Se key b n (c % 4) 0)) (sbox (Se key b n ((c + 1) % 4) 1)) (sbox (Se key b n ((c + 2) % 4) 2)) (sbox (Se key b n ((c + 3) % 4) 3)) := by
  rw [Se, stL, By_enc _ _ _ _ _ (by omega) hc hr]; rfl
theorem enc_get (key b : V8 16) (c r : Nat) (hc : c < 4) (hr : r < 4) : gv (enc key b) (4 * c + r) = sbox (Se key b 9 ((c + r) % 4) r) ^^^ gv (rk key 10) (4 * c + r) := by
  have e1 : (4 * c + r) / 4 = c := by omega
  have e2 : (4 * c + r) % 4 = r := by omega
  rw [enc, runf, gv_ofFn _ _ (by omega)]
  simp only [lastf, e1, e2, pick, Nat.mul_one]
  have := gw_fwK key 10 c hc 11 (by omega) (by omega)
  rw [show 40 + c = 10 * 4 + c by omega, this, byt_wds _ _ _ hc hr]; rfl
/-- the state of the decryption of what has been encrypted -/
theorem Sd (key b : V8 16) : ∀ n, n ≤ 9 → ∀ c r, c < 4 → r < 4 → By (stL (bkK key 11) bckT 3 (enc key b) n) c r = sbox (Se key b (9 - n) ((c + r) % 4) r)
  | 0, _, c, r, hc, hr => by
    have e : c = (10 - 10) * 4 + c := by omega
    have h := gw_bkK key 10 c hc 11 (by omega) (by omega)
    rw [← e] at h
    have hb : bkB key 10 = rk key 10 := by simp [bkB, rk]
    simp only [By, stL]
    rw [gw_ofFn _ _ hc, byt_xor, byt_wds _ _ _ hc hr]
    simp only []
    rw [h, byt_wds _ _ _ hc hr, enc_get _ _ _ _ hc hr, hb, UInt8.xor_assoc, UInt8.xor_self, UInt8.xor_zero]
  | n + 1, hn, c, r, hc, hr => by
    have ih := Sd key b n (by omega)
    rw [stL, By_dec _ _ _ _ _ (by omega) hc hr, ih _ 0 (by omega) (by omega), ih _ 1 (by omega) (by omega), ih _ 2 (by omega) (by omega), ih _ 3 (by omega) (by omega), back_sbox, back_sbox, back_sbox, back_sbox]
    have e0 : (c % 4 + 0) % 4 = c := by omega
    have e1 : ((c + 3) % 4 + 1) % 4 = c := by omega
    have e2 : ((c + 6) % 4 + 2) % 4 = c := by omega
    have e3 : ((c + 9) % 4 + 3) % 4 = c := by omega
    have em : 9 - n = (8 - n) + 1 := by omega
    have ek : 10 - (n + 1) = (8 - n) + 1 := by omega
    have hb : bkB key (8 - n + 1) = unmix (rk key (8 - n + 1)) := by
      rw [bkB, if_pos (by omega)]; rfl
    have ez : 9 - (n + 1) = 8 - n := by omega
    have c0 : 4 * c + 0 = 4 * c := by omega
    rw [e0, e1, e2, e3, em, ek, hb, unmix_get _ _ _ hc hr, Se_s _ _ _ _ 0 (by omega) hc (by omega), Se_s _ _ _ _ 1 (by omega) hc (by omega), Se_s _ _ _ _ 2 (by omega) hc (by omega), Se_s _ _ _ _ 3 (by omega) hc (by omega), imc_xor, c0, ← UInt8.xor_assoc, UInt8.xor_self, UInt8.zero_xor, imc_mc _ hr, ez]
    have h4 : r = 0 ∨ r = 1 ∨ r = 2 ∨ r = 3 := by omega
    rcases h4 with rfl | rfl | rfl | rfl <;> simp
theorem dec_enc (key b : V8 16) : dec key (enc key b) = b := by
  apply Vector.ext; intro i hi
  have hc : i / 4 < 4 := by omega
  have hr : i % 4 < 4 := by omega
  have ei : 4 * (i / 4) + i % 4 = i := by omega
  rw [← gv_eq _ _ hi, ← gv_eq _ _ hi]
  rw [dec, runf, gv_ofFn _ _ hi]
  simp only [lastf, pick]
  have h := gw_bkK key 0 (i / 4) hc 11 (by omega) (by omega)
  have hb : bkB key 0 = rk key 0 := by simp [bkB, rk]
  have es : ((i / 4 + i % 4 * 3) % 4 + i % 4) % 4 = i / 4 := by omega
  have hs := Sd key b 9 (by omega) ((i / 4 + i % 4 * 3) % 4) (i % 4) (by omega) hr
  simp only [By] at hs
  rw [hs, back_sbox, es, show 40 + i / 4 = (10 - 0) * 4 + i / 4 by omega, h, byt_wds _ _ _ hc hr, hb, Nat.sub_self, Se_0 _ _ _ _ hc hr, ei, UInt8.xor_assoc, UInt8.xor_self, UInt8.xor_zero]
end Go.X

/- What sealing and opening compute, and that the one undoes the other: plain Lean, no program in sight. -/
namespace Go.X
open Go

/-- the offset behind k blocks -/
def crO (key : V8 16) (nonce : V8 12) : Nat → V8 16
  | 0 => startV key nonce
  | k + 1 => addO key (crO key nonce k) (k + 1)
/-- the checksum of k blocks -/
def crC (bs : List UInt8) : Nat → V8 16
  | 0 => Vector.replicate 16 0
  | k + 1 => xorV (crC bs k) (blk bs k)
def crB (key : V8 16) (nonce : V8 12) (bs : List UInt8) (k : Nat) : V8 16 := xorV (crO key nonce (k + 1)) (enc key (xorV (blk bs k) (crO key nonce (k + 1))))
def crT (key : V8 16) (nonce : V8 12) (bs : List UInt8) : Nat → List UInt8
  | 0 => []
  | k + 1 => crT key nonce bs k ++ (crB key nonce bs k).toList
def deB (key : V8 16) (nonce : V8 12) (bs : List UInt8) (k : Nat) : V8 16 := xorV (crO key nonce (k + 1)) (dec key (xorV (blk bs k) (crO key nonce (k + 1))))
def deT (key : V8 16) (nonce : V8 12) (bs : List UInt8) : Nat → List UInt8
  | 0 => []
  | k + 1 => deT key nonce bs k ++ (deB key nonce bs k).toList
def deC (key : V8 16) (nonce : V8 12) (bs : List UInt8) : Nat → V8 16
  | 0 => Vector.replicate 16 0
  | k + 1 => xorV (deC key nonce bs k) (deB key nonce bs k)
def resL (bs : List UInt8) : List UInt8 := bs.drop (bs.length / 16 * 16)
def lasO (key : V8 16) (nonce : V8 12) (n : Nat) : V8 16 := xorV (crO key nonce (n / 16)) (star key)
/-- what Crypt returns -/
def cryT (key : V8 16) (nonce : V8 12) (bs : List UInt8) : List UInt8 :=
  if (resL bs).length = 0 then crT key nonce bs (bs.length / 16) else crT key nonce bs (bs.length / 16) ++ (xorV (padV (resL bs)) (enc key (lasO key nonce bs.length))).toList.take (resL bs).length
def cryC (bs : List UInt8) : V8 16 := if (resL bs).length = 0 then crC bs (bs.length / 16) else xorV (crC bs (bs.length / 16)) (padV (resL bs))
def cryO (key : V8 16) (nonce : V8 12) (n : Nat) : V8 16 := if n % 16 = 0 then crO key nonce (n / 16) else lasO key nonce n
/-- what Decrypt returns -/
def resP (key : V8 16) (nonce : V8 12) (bs : List UInt8) : List UInt8 := xorb (resL bs) (enc key (lasO key nonce bs.length)).toList
def decT (key : V8 16) (nonce : V8 12) (bs : List UInt8) : List UInt8 :=
  if (resL bs).length = 0 then deT key nonce bs (bs.length / 16) else deT key nonce bs (bs.length / 16) ++ resP key nonce bs
def decC (key : V8 16) (nonce : V8 12) (bs : List UInt8) : V8 16 :=
  if (resL bs).length = 0 then deC key nonce bs (bs.length / 16) else xorV (deC key nonce bs (bs.length / 16)) (padV (resP key nonce bs))
def sealV (key : V8 16) (nonce : V8 12) (data bs : List UInt8) : List UInt8 := cryT key nonce bs ++ (tagV key (cryC bs) (cryO key nonce bs.length) data).toList
/-- the code of Open's error -/
def opnE (key : V8 16) (nonce : V8 12) (data bs : List UInt8) : Nat :=
  if bs.length < 16 then 1 else
    if eqB (tagV key (decC key nonce (bs.take (bs.length - 16))) (cryO key nonce (bs.length - 16)) data).toList (bs.drop (bs.length - 16)) then 0 else 3
def opnT (key : V8 16) (nonce : V8 12) (bs : List UInt8) : List UInt8 := decT key nonce (bs.take (bs.length - 16))

/-! lengths -/
theorem resL_len (bs : List UInt8) : (resL bs).length = bs.length % 16 := by simp [resL]; omega
@[simp] theorem crT_len (key : V8 16) (nonce : V8 12) (bs : List UInt8) (k : Nat) : (crT key nonce bs k).length = k * 16 := by
  induction k with
  | zero => rfl
  | succ k ih => simp [crT, ih]; omega
@[simp] theorem deT_len (key : V8 16) (nonce : V8 12) (bs : List UInt8) (k : Nat) : (deT key nonce bs k).length = k * 16 := by
  induction k with
  | zero => rfl
  | succ k ih => simp [deT, ih]; omega
@[simp] theorem cryT_len (key : V8 16) (nonce : V8 12) (bs : List UInt8) : (cryT key nonce bs).length = bs.length := by
  simp only [cryT]
  have := resL_len bs
  split
  · rw [crT_len]; omega
  · simp; omega
@[simp] theorem decT_len (key : V8 16) (nonce : V8 12) (bs : List UInt8) : (decT key nonce bs).length = bs.length := by
  simp only [decT]
  have := resL_len bs
  split
  · rw [deT_len]; omega
  · simp [resP, xorb_len]; omega
@[simp] theorem sealV_len (key : V8 16) (nonce : V8 12) (data bs : List UInt8) : (sealV key nonce data bs).length = bs.length + 16 := by simp [sealV]

/-! there and back -/
theorem xorV_get (a b : V8 16) (i : Nat) (h : i < 16) : gv (xorV a b) i = gv a i ^^^ gv b i := by rw [xorV, gv_ofFn _ _ h]
theorem v_ext {n : Nat} {a b : V8 n} (h : ∀ i, i < n → gv a i = gv b i) : a = b := by
  apply Vector.ext; intro i hi
  rw [← gv_eq _ _ hi, ← gv_eq _ _ hi]; exact h i hi
theorem xorV_cancel (a b : V8 16) : xorV (xorV a b) a = b := by
  apply v_ext; intro i h
  rw [xorV_get _ _ _ h, xorV_get _ _ _ h, UInt8.xor_comm (gv a i), UInt8.xor_assoc, UInt8.xor_self, UInt8.xor_zero]
theorem xorV_comm (a b : V8 16) : xorV a b = xorV b a := by
  apply v_ext; intro i h
  rw [xorV_get _ _ _ h, xorV_get _ _ _ h, UInt8.xor_comm]
theorem xorV_cancel2 (a b : V8 16) : xorV a (xorV b a) = b := by
  rw [xorV_comm, xorV_comm b, xorV_cancel]
theorem blk_app (x : List UInt8) (v : V8 16) (y : List UInt8) (k : Nat) (h : x.length = k * 16) : blk (x ++ v.toList ++ y) k = v := by
  rw [blk, List.append_assoc, ← h, List.drop_left]
  apply v_ext; intro i hi
  rw [gv_ofl _ _ _ hi, gl_app_lt (by simpa using hi)]
  simp [gl, gv]
theorem blk_crT (key : V8 16) (nonce : V8 12) (bs : List UInt8) (k m : Nat) (h : k < m) (y : List UInt8) : blk (crT key nonce bs m ++ y) k = crB key nonce bs k := by
  induction m generalizing y with
  | zero => omega
  | succ m ih =>
    by_cases e : k = m
    · subst e; rw [crT]; exact blk_app _ _ _ _ (crT_len ..)
    · rw [crT, List.append_assoc]; exact ih (by omega) _
theorem deB_crT (key : V8 16) (nonce : V8 12) (bs : List UInt8) (k m : Nat) (h : k < m) (y : List UInt8) : deB key nonce (crT key nonce bs m ++ y) k = blk bs k := by
  rw [deB, blk_crT _ _ _ _ _ h, crB, xorV_cancel, dec_enc, xorV_cancel2]
theorem blk_list (bs : List UInt8) (k : Nat) (h : k * 16 + 16 ≤ bs.length) : (blk bs k).toList = (bs.drop (k * 16)).take 16 := by
  apply List.ext_getElem?; intro i
  by_cases hi : i < 16
  · have e : k * 16 + i < bs.length := by omega
    simp [blk, ofl, hi, gl, e]
  · rw [List.getElem?_eq_none (by simp; omega), List.getElem?_eq_none (by simp; omega)]
theorem deT_crT (key : V8 16) (nonce : V8 12) (bs : List UInt8) (m : Nat) (y : List UInt8) (hm : m * 16 ≤ bs.length) : ∀ k, k ≤ m → deT key nonce (crT key nonce bs m ++ y) k = bs.take (k * 16)
  | 0, _ => by simp [deT]
  | k + 1, hk => by
    rw [deT, deT_crT key nonce bs m y hm k (by omega), deB_crT _ _ _ _ _ (by omega), blk_list _ _ (by omega)]
    have e : (k + 1) * 16 = k * 16 + 16 := by omega
    rw [e, List.take_add]
theorem deC_crT (key : V8 16) (nonce : V8 12) (bs : List UInt8) (m : Nat) (y : List UInt8) : ∀ k, k ≤ m → deC key nonce (crT key nonce bs m ++ y) k = crC bs k
  | 0, _ => rfl
  | k + 1, hk => by rw [deC, crC, deC_crT key nonce bs m y k (by omega), deB_crT _ _ _ _ _ (by omega)]
theorem padV_get (bs : List UInt8) (i : Nat) (h : i < bs.length) (h2 : bs.length < 16) : gv (padV bs) i = gl bs i := by
  have h3 : i < 16 := by omega
  rw [padV, gv_eq _ _ h3, Vector.getElem_setIfInBounds h3, if_neg (by omega), ofl_get]
theorem l_ext {a b : List UInt8} (h : a.length = b.length) (h2 : ∀ i, i < a.length → gl a i = gl b i) : a = b := by
  apply List.ext_getElem h; intro i h3 h4
  have := h2 i h3
  simpa [gl, h3, h4] using this
theorem gl_toList {n : Nat} (v : V8 n) (i : Nat) : gl v.toList i = gv v i := by simp [gl, gv]
theorem gl_xorb (a b : List UInt8) (i : Nat) (h : i < a.length) (h2 : i < b.length) : gl (xorb a b) i = gl a i ^^^ gl b i := by
  have : i < min a.length b.length := by omega
  simp [gl, xorb, this, h, h2]
theorem rest_back (r : List UInt8) (p : V8 16) (h : r.length < 16) : xorb ((xorV (padV r) p).toList.take r.length) p.toList = r := by
  apply l_ext
  · rw [xorb_len]; simp; omega
  · intro i hi
    rw [xorb_len] at hi
    simp at hi
    rw [gl_xorb _ _ _ (by simp; omega) (by simp; omega), gl_take (by omega), gl_toList, gl_toList, xorV_get _ _ _ (by omega), padV_get _ _ (by omega) h, UInt8.xor_assoc, UInt8.xor_self, UInt8.xor_zero]
theorem resL_cryT (key : V8 16) (nonce : V8 12) (bs : List UInt8) : resL (cryT key nonce bs) = (cryT key nonce bs).drop (bs.length / 16 * 16) := by rw [resL, cryT_len]
theorem resL_0 {bs : List UInt8} (h : (resL bs).length = 0) : bs.take (bs.length / 16 * 16) = bs := by
  rw [resL_len] at h
  exact List.take_of_length_le (by omega)
theorem dec_cry (key : V8 16) (nonce : V8 12) (bs : List UInt8) : decT key nonce (cryT key nonce bs) = bs ∧ decC key nonce (cryT key nonce bs) = cryC bs := by
  have hl := cryT_len key nonce bs
  have h1 := resL_len bs
  have h2 : (resL (cryT key nonce bs)).length = bs.length % 16 := by rw [resL_len, hl]
  by_cases h : (resL bs).length = 0
  · have e : cryT key nonce bs = crT key nonce bs (bs.length / 16) ++ [] := by rw [cryT, if_pos h, List.append_nil]
    rw [decT, decC, cryC, if_pos (by omega), if_pos (by omega), if_pos h, hl, e]
    refine ⟨?_, deC_crT _ _ _ _ _ _ (Nat.le_refl _)⟩
    rw [deT_crT _ _ _ _ _ (by omega) _ (Nat.le_refl _), resL_0 h]
  · have e : cryT key nonce bs = crT key nonce bs (bs.length / 16) ++ (xorV (padV (resL bs)) (enc key (lasO key nonce bs.length))).toList.take (resL bs).length := by rw [cryT, if_neg h]
    have er : resL (cryT key nonce bs) = (xorV (padV (resL bs)) (enc key (lasO key nonce bs.length))).toList.take (resL bs).length := by
      rw [resL_cryT, e]; exact List.drop_left' (crT_len ..)
    have ep : resP key nonce (cryT key nonce bs) = resL bs := by
      rw [resP, er, hl]; exact rest_back _ _ (by omega)
    rw [decT, decC, cryC, if_neg (by omega), if_neg (by omega), if_neg h, ep, hl, e, deC_crT _ _ _ _ _ _ (Nat.le_refl _), deT_crT _ _ _ _ _ (by omega) _ (Nat.le_refl _)]
    exact ⟨List.take_append_drop _ _, rfl⟩
theorem orl_xorb_self (a : List UInt8) : orl (xorb a a) = 0 := by
  have h : ∀ l : List UInt8, (∀ x ∈ l, x = 0) → ∀ o : UInt8, l.foldl (· ||| ·) o = o := by
    intro l
    induction l with
    | nil => intro _ o; rfl
    | cons x r ih =>
      intro h o
      rw [List.foldl_cons, h x (by simp), UInt8.or_zero]
      exact ih (fun y hy => h y (by simp [hy])) o
  refine h _ ?_ 0
  intro x hx
  simp [xorb] at hx
  obtain ⟨i, hi, rfl⟩ := hx
  rfl
theorem eqB_self (a : List UInt8) : eqB a a = true := by rw [eqB, if_pos (orl_xorb_self a)]; simp
theorem opn_seal (key : V8 16) (nonce : V8 12) (data bs : List UInt8) : opnE key nonce data (sealV key nonce data bs) = 0 ∧ opnT key nonce (sealV key nonce data bs) = bs := by
  have hl := sealV_len key nonce data bs
  have hn : (sealV key nonce data bs).length - 16 = bs.length := by omega
  have e1 : (sealV key nonce data bs).take bs.length = cryT key nonce bs := by rw [sealV]; exact List.take_left' (cryT_len ..)
  have e2 : (sealV key nonce data bs).drop bs.length = (tagV key (cryC bs) (cryO key nonce bs.length) data).toList := by rw [sealV]; exact List.drop_left' (cryT_len ..)
  have h := dec_cry key nonce bs
  rw [opnE, opnT, if_neg (by omega), hn, e1, e2, h.1, h.2, eqB_self]
  exact ⟨by simp, rfl⟩
end Go.X

/- Calls that turn blocks of their caller; what Crypt, Decrypt, Seal, Open return, as the walks meet it. -/
namespace Go.X
open Go

section
variable {w0 w w' : World} {F : List Nat} {L L' M R A X X' : List (Nat × Obj)}
/-- the blocks M of a call's own were handed to a callee, who turned them -/
theorem St.callG (h : St w0 F L w) (hp : L.Perm (M ++ R)) (hc : St w (M.map Prod.fst) L' w') : St w0 F (L' ++ R) w' := by
  have h1 := h.perm hp.symm
  have hnd := h1.nodup
  rw [List.map_append, List.nodup_append] at hnd
  refine (h1.sublist (List.sublist_append_right M R)).call hc (fun p hp hg => ?_) (fun g hg => ?_) (fun p hp => (hc.own p hp).1)
  · exact hnd.2.2 _ hg _ (List.mem_map.2 ⟨p, hp, rfl⟩) rfl
  · obtain ⟨q, hq, rfl⟩ := List.mem_map.1 hg
    exact (h1.own q (List.mem_append_left R hq)).1
theorem perm_out {i b : Nat} {o : Obj} (hi : A[i]? = some (b, o)) : (A ++ (X ++ R)).Perm (((b, o) :: X) ++ (A.eraseIdx i ++ R)) := by
  have hlt : i < A.length := (List.getElem?_eq_some_iff.1 hi).1
  have he : A[i] = (b, o) := (List.getElem?_eq_some_iff.1 hi).2
  have h1 : A.Perm ((b, o) :: A.eraseIdx i) := by
    rw [List.eraseIdx_eq_take_drop_succ]
    have h3 : A = A.take i ++ (b, o) :: A.drop (i + 1) := by rw [← he, List.getElem_cons_drop hlt, List.take_append_drop]
    refine List.Perm.trans ?_ List.perm_middle
    rw [← h3]
  refine (List.Perm.append_right _ h1).trans ?_
  simp only [List.cons_append]
  refine List.Perm.cons _ ?_
  rw [← List.append_assoc, ← List.append_assoc]
  exact List.Perm.append_right _ List.perm_append_comm
theorem perm_in {i b : Nat} {o o' : Obj} (hi : A[i]? = some (b, o)) : (((b, o') :: X') ++ (A.eraseIdx i ++ R)).Perm (A.set i (b, o') ++ (X' ++ R)) := by
  have hlt : i < A.length := (List.getElem?_eq_some_iff.1 hi).1
  have h := perm_out (A := A.set i (b, o')) (X := X') (R := R) (i := i) (b := b) (o := o') (by simp [hlt])
  have e : (A.set i (b, o')).eraseIdx i = A.eraseIdx i := by
    rw [List.eraseIdx_eq_take_drop_succ, List.eraseIdx_eq_take_drop_succ, List.set_eq_take_append_cons_drop, if_pos hlt]
    have hl : (A.take i).length = i := by simp; omega
    congr 1
    · rw [List.take_append_of_le_length (by omega), List.take_of_length_le (by omega)]
    · rw [List.drop_append, hl]
      have : i + 1 - i = 0 + 1 := by omega
      rw [this, List.drop_of_length_le (by omega)]
      simp
  rw [e] at h
  exact h.symm
/-- a cell that holds a slice of one's own, and the slice's block, were handed out -/
theorem St.call_out {i b : Nat} {o o' : Obj} (h : St w0 F (A ++ (X ++ R)) w) (hi : A[i]? = some (b, o)) (hc : St w (b :: X.map Prod.fst) ((b, o') :: (X' ++ [])) w') : St w0 F (A.set i (b, o') ++ (X' ++ R)) w' := by
  have := h.callG (M := (b, o) :: X) (perm_out hi) hc
  refine this.perm ?_
  have h2 := perm_in (A := A) (X' := X') (R := R) (o := o) (o' := o') hi
  simp only [List.append_nil, List.cons_append] at h2 ⊢
  exact h2.symm
theorem St.nd {i b : Nat} {o : Obj} (h : St w0 F (A ++ (X ++ R)) w) (hi : A[i]? = some (b, o)) : (b :: X.map Prod.fst).Nodup := by
  have h1 := (h.perm (perm_out hi).symm).nodup
  rw [List.map_append, List.nodup_append] at h1
  exact h1.1
/-- two such cells -/
theorem perm_out2 {i j b c : Nat} {o u : Obj} (hi : A[i]? = some (b, o)) (hj : (A.eraseIdx i)[j]? = some (c, u)) : (A ++ (X ++ R)).Perm (((b, o) :: (c, u) :: X) ++ ((A.eraseIdx i).eraseIdx j ++ R)) := by
  refine (perm_out hi).trans ?_
  simp only [List.cons_append]
  refine List.Perm.cons _ ?_
  have h := perm_out (X := X) (R := R) hj
  refine List.Perm.trans ?_ h
  rw [← List.append_assoc, ← List.append_assoc]
  exact List.Perm.append_right _ List.perm_append_comm
theorem St.call_out2 {A2 : List (Nat × Obj)} {i j b c : Nat} {o o' u u' : Obj} (h : St w0 F (A ++ (X ++ R)) w) (hi : A[i]? = some (b, o)) (hj : (A.eraseIdx i)[j]? = some (c, u)) (hi2 : A2[i]? = some (b, o')) (hj2 : (A2.eraseIdx i)[j]? = some (c, u')) (hr : (A2.eraseIdx i).eraseIdx j = (A.eraseIdx i).eraseIdx j)
    (hc : St w (b :: c :: X.map Prod.fst) ((b, o') :: (c, u') :: (X' ++ [])) w') : St w0 F (A2 ++ (X' ++ R)) w' := by
  have := h.callG (M := (b, o) :: (c, u) :: X) (perm_out2 hi hj) hc
  refine this.perm ((perm_out2 hi2 hj2).trans ?_)
  rw [hr]
  simp
theorem St.same2 {p q r : Nat × Obj} (h : St w0 (q.1 :: r.1 :: X.map Prod.fst) ([p, q, r] ++ (X ++ [])) w) (hq : w0.heap[q.1]? = some q.2) (hr : w0.heap[r.1]? = some r.2) (hX : ∀ p ∈ X, w0.heap[p.1]? = some p.2) : St w0 [] [p] w := by
  have hw : ∀ s ∈ q :: r :: X, w0.heap[s.1]? = some s.2 ∧ w.heap[s.1]? = some s.2 := by
    intro s hs
    refine ⟨?_, (h.own s (by simp at hs ⊢; exact .inr hs)).2⟩
    rcases List.mem_cons.1 hs with rfl | hs
    · exact hq
    rcases List.mem_cons.1 hs with rfl | hs
    · exact hr
    · exact hX s hs
  have hp := h.own p (by simp)
  have hnd := h.nodup
  refine ⟨h.os, h.tape, h.output, h.size, fun k hk _ => ?_, fun s hs => ?_, by simp⟩
  · by_cases hF : k ∈ q.1 :: r.1 :: X.map Prod.fst
    · have : k ∈ (q :: r :: X).map Prod.fst := by simpa using hF
      obtain ⟨s, hs, rfl⟩ := List.mem_map.1 this
      rw [(hw s hs).1, (hw s hs).2]
    · exact h.frame k hk hF
  · have : s = p := by simpa using hs
    subst this
    refine ⟨.inr ?_, hp.2⟩
    rcases hp.1 with hm | hm
    · simp only [List.cons_append, List.nil_append, List.append_nil, List.map_cons, List.nodup_cons] at hnd
      exact absurd hm (by simpa using hnd.1)
    · exact hm
theorem St.nd2 {i j b c : Nat} {o u : Obj} (h : St w0 F (A ++ (X ++ R)) w) (hi : A[i]? = some (b, o)) (hj : (A.eraseIdx i)[j]? = some (c, u)) : (b :: c :: X.map Prod.fst).Nodup := by
  have h1 := (h.perm (perm_out2 hi hj).symm).nodup
  rw [List.map_append, List.nodup_append] at h1
  exact h1.1
end

section
variable {key : V8 16} {nonce : V8 12} {bs : List UInt8} {n c : Nat} {a : Option Addr} {X : List (Nat × Obj)}
theorem cry_z1 (hn : bs.length = n) (hz : n / 16 * 16 = n) : (.tuple #[.slice a (n / 16 * 16) c, .agg (BV (crC bs (n / 16))), .agg (BV (crO key nonce (n / 16)))] : Value) = .tuple #[.slice a n c, .agg (BV (cryC bs)), .agg (BV (cryO key nonce n))] := by
  rw [cryC, if_pos (by rw [resL_len]; omega), cryO, if_pos (by omega), hz, hn]
theorem cry_z2 (hn : bs.length = n) (hz : n / 16 * 16 = n) (h : Own 1 a (n / 16 * 16) c (c8 (crT key nonce bs (n / 16))) X) : Own 1 a n c (c8 (cryT key nonce bs)) X := by
  rw [cryT, if_pos (by rw [resL_len]; omega), hn]; rw [hz] at h; exact h
theorem cry_r1 (hn : bs.length = n) (hz : ¬ n / 16 * 16 = n) (m : Nat) (hm : m = n) : (.tuple #[.slice a m c, .agg (BV (xorV (crC bs (n / 16)) (padV (bs.drop (n / 16 * 16))))), .agg (BV (xorV (crO key nonce (n / 16)) (star key)))] : Value) = .tuple #[.slice a n c, .agg (BV (cryC bs)), .agg (BV (cryO key nonce n))] := by
  rw [cryC, if_neg (by rw [resL_len]; omega), cryO, if_neg (by omega), hm, resL, hn]; rfl
theorem cry_r2 (hn : bs.length = n) (hz : ¬ n / 16 * 16 = n) (m : Nat) (hm : m = n) (h : Own 1 a m c (c8 (crT key nonce bs (n / 16) ++ (xorV (padV (bs.drop (n / 16 * 16))) (enc key (xorV (crO key nonce (n / 16)) (star key)))).toList.take (n - n / 16 * 16))) X) : Own 1 a n c (c8 (cryT key nonce bs)) X := by
  subst hm
  rw [cryT, if_neg (by rw [resL_len]; omega), resL_len, resL, hn]
  have e : m - m / 16 * 16 = m % 16 := by omega
  rw [e] at h; exact h
theorem dec_z1 (hn : bs.length = n) (hz : n / 16 * 16 = n) : (.tuple #[.slice a (n / 16 * 16) c, .agg (BV (deC key nonce bs (n / 16))), .agg (BV (crO key nonce (n / 16)))] : Value) = .tuple #[.slice a n c, .agg (BV (decC key nonce bs)), .agg (BV (cryO key nonce n))] := by
  rw [decC, if_pos (by rw [resL_len]; omega), cryO, if_pos (by omega), hz, hn]
theorem dec_z2 (hn : bs.length = n) (hz : n / 16 * 16 = n) (h : Own 1 a (n / 16 * 16) c (c8 (deT key nonce bs (n / 16))) X) : Own 1 a n c (c8 (decT key nonce bs)) X := by
  rw [decT, if_pos (by rw [resL_len]; omega), hn]; rw [hz] at h; exact h
theorem dec_r1 (hn : bs.length = n) (hz : ¬ n / 16 * 16 = n) (m : Nat) (hm : m = n) : (.tuple #[.slice a m c, .agg (BV (xorV (deC key nonce bs (n / 16)) (padV (xorb (bs.drop (n / 16 * 16)) (enc key (xorV (crO key nonce (n / 16)) (star key))).toList)))), .agg (BV (xorV (crO key nonce (n / 16)) (star key)))] : Value) = .tuple #[.slice a n c, .agg (BV (decC key nonce bs)), .agg (BV (cryO key nonce n))] := by
  rw [decC, if_neg (by rw [resL_len]; omega), cryO, if_neg (by omega), hm, resP, resL, hn]; rfl
theorem dec_r2 (hn : bs.length = n) (hz : ¬ n / 16 * 16 = n) (m : Nat) (hm : m = n) (h : Own 1 a m c (c8 (deT key nonce bs (n / 16) ++ xorb (bs.drop (n / 16 * 16)) (enc key (xorV (crO key nonce (n / 16)) (star key))).toList)) X) : Own 1 a n c (c8 (decT key nonce bs)) X := by
  subst hm
  rw [decT, if_neg (by rw [resL_len]; omega), resP, resL, hn]; exact h
variable {data : List UInt8} {C : Nat}
theorem opnE_s (hn : bs.length = n) (h : n < 16) : opnE key nonce data bs = 1 := by rw [opnE, if_pos (by omega)]
theorem opnE_f (hn : bs.length = n) (h : ¬ n < 16) (he : eqB (tagV key (decC key nonce (bs.take (n - 16))) (cryO key nonce (n - 16)) data).toList (bs.drop (n - 16)) = false) : opnE key nonce data bs = 3 := by
  subst hn; rw [opnE, if_neg h, he]; rfl
theorem opnE_t (hn : bs.length = n) (h : ¬ n < 16) (he : eqB (tagV key (decC key nonce (bs.take (n - 16))) (cryO key nonce (n - 16)) data).toList (bs.drop (n - 16)) = true) : opnE key nonce data bs = 0 := by
  subst hn; rw [opnE, if_neg h, he]; rfl
theorem opn_e {e : Nat} (h0 : e ≠ 0) (he : opnE key nonce data bs = e) : (.tuple #[.slice none 0 0, .iface C (I (e : Int))] : Value) = .tuple #[.slice none 0 0, errV C (opnE key nonce data bs)] := by rw [he, errV_s C e h0]
theorem opn_o {e : Nat} (h0 : e ≠ 0) (he : opnE key nonce data bs = e) : Own 1 none 0 0 (c8 (if opnE key nonce data bs = 0 then opnT key nonce bs else [])) [] := by rw [he, if_neg h0]; exact Own.nil 1
theorem opn_e0 {m c : Nat} (he : opnE key nonce data bs = 0) : (.tuple #[.slice a m c, .nilIface] : Value) = .tuple #[.slice a m c, errV C (opnE key nonce data bs)] := by rw [he, errV_0]
theorem opn_o0 {m c : Nat} (hn : bs.length = n) (he : opnE key nonce data bs = 0) (h : Own 1 a m c (c8 (decT key nonce (bs.take (n - 16)))) X) : Own 1 a m c (c8 (if opnE key nonce data bs = 0 then opnT key nonce bs else [])) X := by
  rw [he, if_pos rfl, opnT, hn]; exact h
end
def sumN (f : Nat → Nat) : Nat → Nat
  | 0 => 0
  | k + 1 => sumN f k + f k
def catN (f : Nat → List UInt8) : Nat → List UInt8
  | 0 => []
  | k + 1 => catN f k ++ f k
def two {α : Type} (x y : α) (k : Nat) : α := if k = 0 then x else y
theorem two_0 {α : Type} (x y : α) : two x y 0 = x := rfl
theorem two_1 {α : Type} (x y : α) : two x y 1 = y := rfl
theorem two_all {α : Type} {p : α → Prop} {x y : α} (hx : p x) (hy : p y) (k : Nat) : p (two x y k) := by unfold two; split <;> assumption
end Go.X

/- What Encode and Decode return: plain Lean. -/
namespace Go.X
open Go

theorem chk_0 {d : Int} {s : UInt64} {n : Nat} (h : chk d s n = 0) : (∃ dn : Nat, d = (dn : Int) ∧ dn ≤ 1) ∧ s.toNat ≤ 9223372036854775807 ∧ n ≤ 1200 := by
  simp only [chk] at h
  split at h
  · cases h
  split at h
  · cases h
  split at h
  · cases h
  exact ⟨⟨d.toNat, by omega, by omega⟩, by omega, by omega⟩
def tmV (t e : UInt16) : UInt64 := shl64 (toU64 (t.toNat : Int)) 16 ||| toU64 (e.toNat : Int)
def encV (key : V8 16) (d : Nat) (s : UInt64) (t e : UInt16) (bs : List UInt8) : List UInt8 :=
  (headV d s).toList ++ sealV key (nonceV (headV d s)) [] (bytesL (tmV t e) 4 ++ bs)
def encP (key : V8 16) (d : Int) (s : UInt64) (t e : UInt16) (bs : List UInt8) : List UInt8 := if chk d s bs.length = 0 then encV key d.toNat s t e bs else []
@[simp] theorem encV_len (key : V8 16) (d : Nat) (s : UInt64) (t e : UInt16) (bs : List UInt8) : (encV key d s t e bs).length = bs.length + 28 := by simp [encV]; omega
/-- the code of Decode's error -/
def dcdE (key : V8 16) (bs : List UInt8) : Nat := if lng bs.length ≠ 0 then lng bs.length else opnE key (nonceV (ofl 8 bs)) [] (bs.drop 8)
def dcdX (key : V8 16) (bs : List UInt8) : List UInt8 := opnT key (nonceV (ofl 8 bs)) (bs.drop 8)
def dcdD (key : V8 16) (bs : List UInt8) : Nat := if dcdE key bs = 0 then headD bs else 0
def dcdS (key : V8 16) (bs : List UInt8) : UInt64 := if dcdE key bs = 0 then headS bs else 0
def dcdT (key : V8 16) (bs : List UInt8) : UInt16 := if dcdE key bs = 0 then toU16 ((shr64 (number ((dcdX key bs).take 4)) 16).toNat : Int) else 0
def dcdM (key : V8 16) (bs : List UInt8) : UInt16 := if dcdE key bs = 0 then toU16 ((number ((dcdX key bs).take 4)).toNat : Int) else 0
def dcdP (key : V8 16) (bs : List UInt8) : List UInt8 := if dcdE key bs = 0 then (dcdX key bs).drop 4 else []
/-- bytes can be read there, as long as the blocks X stand -/
def Rd (a : Option Addr) (bs : List UInt8) (X : List (Nat × Obj)) : Prop := ∀ (w0 : World) (F : List Nat) (L : List (Nat × Obj)) (w : World), St w0 F L w → (∀ p ∈ X, p ∈ L) → Cel w a (c8 bs)
theorem opnT_len (key : V8 16) (nonce : V8 12) (bs : List UInt8) : (opnT key nonce bs).length = bs.length - 16 := by simp [opnT]
theorem dcdX_len (key : V8 16) (bs : List UInt8) : (dcdX key bs).length = bs.length - 24 := by simp [dcdX, opnT_len]; omega

section
variable {key : V8 16} {d : Int} {dn : Nat} {s : UInt64} {t e : UInt16} {bs : List UInt8} {n m c C : Nat} {a : Option Addr} {X : List (Nat × Obj)}
theorem enc_bad (hn : bs.length = n) (h : chk d s n ≠ 0) : Own 1 none 0 0 (c8 (encP key d s t e bs)) [] := by rw [encP, hn, if_neg h]; exact Own.nil 1
theorem enc_ok (hn : bs.length = n) (h : chk d s n = 0) (hd : d = (dn : Int)) (ho : Own 1 a m c (c8 ((headV dn s).toList ++ sealV key (nonceV (headV dn s)) [] (bytesL (tmV t e) 4 ++ bs))) X) : Own 1 a m c (c8 (encP key d s t e bs)) X := by
  rw [encP, hn, if_pos h, hd]; exact ho
theorem enc_e0 (h : chk d s n = 0) : (.tuple #[.slice a m c, .nilIface] : Value) = .tuple #[.slice a m c, errV C (chk d s n)] := by rw [h, errV_0]
def pkV (D : Nat) (S : UInt64) (T M : UInt16) (a : Option Addr) (n c : Nat) : Value := .agg #[I (D : Int), U64 S, U16 T, U16 M, .slice a n c]
/-- what Decode returns -/
def DecR (key : V8 16) (bs : List UInt8) (C : Nat) (v : Value) (X : List (Nat × Obj)) : Prop :=
  ∃ a n c, v = .tuple #[.agg #[I ((dcdD key bs : Nat) : Int), U64 (dcdS key bs), U16 (dcdT key bs), U16 (dcdM key bs), .slice a n c], errV C (dcdE key bs)] ∧ (dcdP key bs).length = n ∧ n ≤ 1000000 ∧ n ≤ c ∧ Rd a (dcdP key bs) X
theorem dec_bad (h : dcdE key bs ≠ 0) : DecR key bs C (.tuple #[.agg #[I 0, U64 0, U16 0, U16 0, .slice none 0 0], errV C (dcdE key bs)]) [] :=
  ⟨none, 0, 0, by rw [dcdD, dcdS, dcdT, dcdM, if_neg h, if_neg h, if_neg h, if_neg h]; rfl, by rw [dcdP, if_neg h]; rfl, by omega, by omega, fun _ _ _ w _ _ => by rw [dcdP, if_neg h]; exact Cel.nil w none⟩
theorem dec_ok (h : dcdE key bs = 0) (hN : bs.length ≤ 1000000) (hm : (dcdX key bs).length = m) (h4 : 4 ≤ m) (hO : Own 1 a m c (c8 (dcdX key bs)) X) :
    DecR key bs C (.tuple #[.agg #[I ((headD bs : Nat) : Int), U64 (headS bs), U16 (toU16 ((shr64 (number ((dcdX key bs).take 4)) 16).toNat : Int)), U16 (toU16 ((number ((dcdX key bs).take 4)).toNat : Int)), .slice (sla a 4 c) (m - 4) (c - 4)], .nilIface]) X :=
  ⟨_, _, _, by rw [dcdD, dcdS, dcdT, dcdM, if_pos h, if_pos h, if_pos h, if_pos h, h, errV_0], by rw [dcdP, if_pos h, List.length_drop, hm], by rw [dcdX_len] at hm; omega, by have := hO.le; omega,
    fun _ _ _ w hS hX => by rw [dcdP, if_pos h]; exact (hO.cel hS hX).drop8 (lo := 4) (cap := c) (by have := hO.le; omega)⟩
theorem dcdE_1 (hn : bs.length = n) (h : lng n ≠ 0) : dcdE key bs = lng n := by rw [dcdE, hn, if_pos h]
theorem dcdE_2 (hn : bs.length = n) (h : lng n = 0) : dcdE key bs = opnE key (nonceV (ofl 8 bs)) [] (bs.drop 8) := by rw [dcdE, hn, if_neg (by omega)]
end
end Go.X

/- Packets there and back; heads; comparing packets: plain Lean, no program in sight. -/
namespace Go.X
open Go

/-! numbers in bytes -/
def valN (l : List UInt8) : Nat := l.foldl (fun x c => x * 256 + c.toNat) 0
theorem num_step (x : UInt64) (y : Nat) (c : UInt8) (h : x.toNat = y) (hy : y < 256 ^ 7) : (shl64 x 8 ||| toU64 (c.toNat : Int)).toNat = y * 256 + c.toNat := by
  have hc := c.toNat_lt
  have e1 : (toU64 (c.toNat : Int)).toNat = c.toNat := by simp only [toU64, UInt64.toNat_ofNat']; omega
  have e2 : (shl64 x 8).toNat = y * 2 ^ 8 := by
    simp only [shl64, UInt64.toNat_ofNat', h]
    exact Nat.mod_eq_of_lt (by omega)
  rw [UInt64.toNat_or, e1, e2, or_add _ _ 8 (by omega)]
theorem num2_step (x : UInt64) (y : Nat) (c : UInt8) (h : x.toNat = y) (hy : y < 256 ^ 7) : (x * 256 + toU64 (c.toNat : Int)).toNat = y * 256 + c.toNat := by
  have hc := c.toNat_lt
  have e1 : (toU64 (c.toNat : Int)).toNat = c.toNat := by simp only [toU64, UInt64.toNat_ofNat']; omega
  rw [UInt64.toNat_add, UInt64.toNat_mul, e1, h]
  have : (256 : UInt64).toNat = 256 := rfl
  rw [this]; omega
theorem fold_nat (f : UInt64 → UInt8 → UInt64) (hf : ∀ (x : UInt64) (y : Nat) (c : UInt8), x.toNat = y → y < 256 ^ 7 → (f x c).toNat = y * 256 + c.toNat) :
    ∀ (l : List UInt8) (k : Nat) (x : UInt64) (y : Nat), x.toNat = y → y < 256 ^ k → k + l.length ≤ 8 → (l.foldl f x).toNat = l.foldl (fun x c => x * 256 + c.toNat) y
  | [], _, _, _, h, _, _ => h
  | c :: l, k, x, y, h, hy, hk => by
    simp only [List.length_cons] at hk
    have h7 : 256 ^ k ≤ 256 ^ 7 := Nat.pow_le_pow_right (by omega) (by omega)
    have hc := c.toNat_lt
    have hy' : y * 256 + c.toNat < 256 ^ (k + 1) := by rw [Nat.pow_succ]; omega
    exact fold_nat f hf l (k + 1) _ _ (hf x y c h (by omega)) hy' (by omega)
theorem num_nat (l : List UInt8) (h : l.length ≤ 8) : (num l).toNat = valN l := fold_nat _ num_step l 0 0 0 rfl (by decide) (by omega)
theorem num2_nat (l : List UInt8) (h : l.length ≤ 8) : (num2 l).toNat = valN l := fold_nat _ num2_step l 0 0 0 rfl (by decide) (by omega)
theorem num2_eq (l : List UInt8) (h : l.length ≤ 8) : num2 l = num l := UInt64.toNat_inj.1 (by rw [num_nat l h, num2_nat l h])
theorem number_8 (l : List UInt8) (h : l.length ≤ 8) : number l = num l := by
  have e : l.length - 8 = 0 := by omega
  rw [number, e, List.drop_zero]
theorem valN_fold (l : List UInt8) (y : Nat) : l.foldl (fun x c => x * 256 + c.toNat) y = y * 256 ^ l.length + valN l := by
  induction l generalizing y with
  | nil => simp [valN]
  | cons c l ih =>
    have e : valN (c :: l) = c.toNat * 256 ^ l.length + valN l := by
      show List.foldl _ (0 * 256 + c.toNat) l = _
      rw [ih, Nat.zero_mul, Nat.zero_add]
    rw [List.foldl_cons, ih, e, List.length_cons, Nat.pow_succ, Nat.add_mul, Nat.mul_assoc, Nat.mul_comm 256, Nat.add_assoc]
theorem bytesL_succ (x : UInt64) (n : Nat) : bytesL x (n + 1) = bytf x (n + 1) 0 :: bytesL x n := by
  rw [bytesL, List.range_succ_eq_map, List.map_cons, List.map_map]
  congr 1
  apply List.map_congr_left; intro i _
  have e : n + 1 - 1 - (i + 1) = n - 1 - i := by omega
  simp only [Function.comp_apply, bytf, Nat.succ_eq_add_one, e]
theorem bytf_0 (x : UInt64) (n : Nat) : (bytf x (n + 1) 0).toNat = x.toNat / 256 ^ n % 256 := by
  have e : 8 * (n + 1 - 1 - 0) = 8 * n := by omega
  have e2 : (256 : Nat) ^ n = 2 ^ (8 * n) := by rw [Nat.pow_mul]
  have h : x.toNat / 2 ^ (8 * n) ≤ x.toNat := Nat.div_le_self _ _
  have := x.toNat_lt
  simp only [bytf, e, toU8, shr64, UInt8.toNat_ofNat', UInt64.toNat_ofNat', e2]
  rw [Nat.mod_eq_of_lt (a := x.toNat / _) (by omega)]
  omega
theorem bytesL_val (x : UInt64) (n : Nat) : valN (bytesL x n) = x.toNat % 256 ^ n := by
  induction n with
  | zero => simp [bytesL, valN, Nat.mod_one]
  | succ n ih =>
    rw [bytesL_succ, valN, List.foldl_cons, valN_fold, ih, bytesL_len, bytf_0, Nat.pow_succ, Nat.zero_mul, Nat.zero_add, Nat.mod_mul]
    rw [Nat.mul_comm, Nat.add_comm]
theorem number_bytes (x : UInt64) (n : Nat) (hn : n ≤ 8) (h : x.toNat < 256 ^ n) : number (bytesL x n) = x := by
  rw [number_8 _ (by simpa using hn)]
  apply UInt64.toNat_inj.1
  rw [num_nat _ (by simpa using hn), bytesL_val, Nat.mod_eq_of_lt h]

/-! heads -/
theorem and63 (x : UInt64) : (x &&& 9223372036854775807).toNat = x.toNat % 2 ^ 63 := by
  rw [UInt64.toNat_and]
  have e : (9223372036854775807 : UInt64).toNat = 2 ^ 63 - 1 := rfl
  rw [e, Nat.and_two_pow_sub_one_eq_mod]
theorem shr63 (x : UInt64) : (shr64 x 63).toNat = x.toNat / 2 ^ 63 := by
  have := x.toNat_lt
  simp only [shr64, UInt64.toNat_ofNat']
  exact Nat.mod_eq_of_lt (by omega)
def hdW (d : Nat) (s : UInt64) : UInt64 := shl64 (toU64 (d : Int)) 63 ||| s
theorem hdW_nat (d : Nat) (s : UInt64) (hd : d ≤ 1) (hs : s.toNat ≤ 9223372036854775807) : (hdW d s).toNat = d * 2 ^ 63 + s.toNat := by
  have e1 : (shl64 (toU64 (d : Int)) 63).toNat = d * 2 ^ 63 := by
    simp only [shl64, toU64, UInt64.toNat_ofNat']; omega
  rw [hdW, UInt64.toNat_or, e1, or_add _ _ 63 (by omega)]
theorem headV_list (d : Nat) (s : UInt64) : (headV d s).toList = bytesL (hdW d s) 8 := ofl_bytes _ _ (by simp)
theorem take_head (d : Nat) (s : UInt64) (r : List UInt8) : ((headV d s).toList ++ r).take 8 = bytesL (hdW d s) 8 := by
  rw [headV_list]; exact List.take_left' (by simp)
theorem headD_head (d : Nat) (s : UInt64) (r : List UInt8) (hd : d ≤ 1) (hs : s.toNat ≤ 9223372036854775807) : headD ((headV d s).toList ++ r) = d := by
  have h := hdW_nat d s hd hs
  rw [headD, take_head, number_bytes _ 8 (by omega) (hdW d s).toNat_lt, shr63, h]; omega
theorem headS_head (d : Nat) (s : UInt64) (r : List UInt8) (hd : d ≤ 1) (hs : s.toNat ≤ 9223372036854775807) : headS ((headV d s).toList ++ r) = s := by
  have h := hdW_nat d s hd hs
  apply UInt64.toNat_inj.1
  rw [headS, take_head, number_bytes _ 8 (by omega) (hdW d s).toNat_lt, and63, h]; omega
theorem ofl_head (d : Nat) (s : UInt64) (r : List UInt8) : ofl 8 ((headV d s).toList ++ r) = headV d s := by
  apply v_ext; intro i hi
  rw [gv_ofl _ _ _ hi, gl_app_lt (by simpa using hi), gl_toList]
theorem headD_2 (bs : List UInt8) : headD2 bs = headD bs := by
  have h8 : (bs.take 8).length ≤ 8 := by simp; omega
  rw [headD2, headD, num2_eq _ h8, number_8 _ h8, shr63]
  have := (num (bs.take 8)).toNat_lt
  split <;> omega
theorem headS_2 (bs : List UInt8) : headS2 bs = headS bs := by
  have h8 : (bs.take 8).length ≤ 8 := by simp; omega
  apply UInt64.toNat_inj.1
  rw [headS2, headS, num2_eq _ h8, number_8 _ h8, and63]
  have h2 := (num (bs.take 8)).toNat_lt
  split
  · rename_i h
    have e : (9223372036854775808 : UInt64).toNat = 9223372036854775808 := rfl
    rw [UInt64.toNat_sub_of_le _ _ (by rw [UInt64.le_iff_toNat_le, e]; exact h), e]
    omega
  · omega

/-! there and back -/
theorem tm_nat (t e : UInt16) : (tmV t e).toNat = t.toNat * 65536 + e.toNat := by
  have ht := t.toNat_lt; have he := e.toNat_lt
  have e1 : (shl64 (toU64 (t.toNat : Int)) 16).toNat = t.toNat * 2 ^ 16 := by
    simp only [shl64, toU64, UInt64.toNat_ofNat']; omega
  have e2 : (toU64 (e.toNat : Int)).toNat = e.toNat := by simp only [toU64, UInt64.toNat_ofNat']; omega
  rw [tmV, UInt64.toNat_or, e1, e2, or_add _ _ 16 (by omega)]
theorem tm_t (t e : UInt16) : toU16 ((shr64 (tmV t e) 16).toNat : Int) = t := by
  have ht := t.toNat_lt; have he := e.toNat_lt
  apply UInt16.toNat_inj.1
  simp only [toU16, shr64, UInt16.toNat_ofNat', UInt64.toNat_ofNat', tm_nat]; omega
theorem tm_e (t e : UInt16) : toU16 ((tmV t e).toNat : Int) = e := by
  have ht := t.toNat_lt; have he := e.toNat_lt
  apply UInt16.toNat_inj.1
  simp only [toU16, UInt16.toNat_ofNat', tm_nat]; omega
theorem lng_ok {n : Nat} (h : 28 ≤ n) (h2 : n ≤ 1228) : lng n = 0 := by
  rw [lng, if_neg (by omega), if_neg (by omega)]
/-- a packet's datagram leads back to it -/
theorem dcd_enc (key : V8 16) (d : Nat) (s : UInt64) (t e : UInt16) (bs : List UInt8) (hd : d ≤ 1) (hs : s.toNat ≤ 9223372036854775807) (hl : bs.length ≤ 1200) :
    dcdE key (encV key d s t e bs) = 0 ∧ dcdD key (encV key d s t e bs) = d ∧ dcdS key (encV key d s t e bs) = s ∧ dcdT key (encV key d s t e bs) = t ∧ dcdM key (encV key d s t e bs) = e ∧ dcdP key (encV key d s t e bs) = bs := by
  have h0 : lng (encV key d s t e bs).length = 0 := lng_ok (by simp) (by simp; omega)
  have h1 : ofl 8 (encV key d s t e bs) = headV d s := ofl_head d s _
  have h2 : (encV key d s t e bs).drop 8 = sealV key (nonceV (headV d s)) [] (bytesL (tmV t e) 4 ++ bs) := by
    rw [encV]; exact List.drop_left' (by simp)
  have h3 := opn_seal key (nonceV (headV d s)) [] (bytesL (tmV t e) 4 ++ bs)
  have hE : dcdE key (encV key d s t e bs) = 0 := by rw [dcdE, h0, if_neg (by omega), h1, h2, h3.1]
  have hX : dcdX key (encV key d s t e bs) = bytesL (tmV t e) 4 ++ bs := by rw [dcdX, h1, h2, h3.2]
  have ht : (dcdX key (encV key d s t e bs)).take 4 = bytesL (tmV t e) 4 := by rw [hX]; exact List.take_left' (by simp)
  have hr : (dcdX key (encV key d s t e bs)).drop 4 = bs := by rw [hX]; exact List.drop_left' (by simp)
  have hn : number (bytesL (tmV t e) 4) = tmV t e := number_bytes _ 4 (by omega) (by
    have ht := t.toNat_lt; have he := e.toNat_lt
    rw [tm_nat]; omega)
  refine ⟨hE, ?_, ?_, ?_, ?_, ?_⟩
  · rw [dcdD, if_pos hE, encV]; exact headD_head d s _ hd hs
  · rw [dcdS, if_pos hE, encV]; exact headS_head d s _ hd hs
  · rw [dcdT, if_pos hE, ht, hn, tm_t]
  · rw [dcdM, if_pos hE, ht, hn, tm_e]
  · rw [dcdP, if_pos hE, hr]

/-! comparing -/
theorem sameR_self (d : Int) (s : UInt64) (t e : UInt16) (bs : List UInt8) : sameR d d s s t t e e bs bs = true := by simp [sameR]
theorem sameV_self (r : V64 4) (bs : List UInt8) : sameV r r bs bs = true := by simp [sameV]
end Go.X
namespace Go.X
open Go
/-! the example of the documentation -/
theorem aw_enc : encP (Vector.replicate 16 0) 1 7 258 3 [104, 101, 108, 108, 111] = encV (Vector.replicate 16 0) 1 7 258 3 [104, 101, 108, 108, 111] := by
  rw [encP, if_pos (by decide)]; rfl
theorem aw_all : dcdE (Vector.replicate 16 0) (encV (Vector.replicate 16 0) 1 7 258 3 [104, 101, 108, 108, 111]) = 0 ∧ dcdD (Vector.replicate 16 0) (encV (Vector.replicate 16 0) 1 7 258 3 [104, 101, 108, 108, 111]) = 1 ∧ dcdS (Vector.replicate 16 0) (encV (Vector.replicate 16 0) 1 7 258 3 [104, 101, 108, 108, 111]) = 7 ∧ dcdT (Vector.replicate 16 0) (encV (Vector.replicate 16 0) 1 7 258 3 [104, 101, 108, 108, 111]) = 258 ∧ dcdM (Vector.replicate 16 0) (encV (Vector.replicate 16 0) 1 7 258 3 [104, 101, 108, 108, 111]) = 3 ∧ dcdP (Vector.replicate 16 0) (encV (Vector.replicate 16 0) 1 7 258 3 [104, 101, 108, 108, 111]) = [104, 101, 108, 108, 111] := dcd_enc (Vector.replicate 16 0) 1 7 258 3 [104, 101, 108, 108, 111] (by decide) (by decide) (by decide)
theorem aw_len : (encP (Vector.replicate 16 0) 1 7 258 3 [104, 101, 108, 108, 111]).length = 33 := by rw [aw_enc, encV_len]; rfl
theorem aw_E : dcdE (Vector.replicate 16 0) (encP (Vector.replicate 16 0) 1 7 258 3 [104, 101, 108, 108, 111]) = 0 := by rw [aw_enc]; exact aw_all.1
theorem aw_same : sameR ((dcdD (Vector.replicate 16 0) (encP (Vector.replicate 16 0) 1 7 258 3 [104, 101, 108, 108, 111]) : Nat) : Int) 1 (dcdS (Vector.replicate 16 0) (encP (Vector.replicate 16 0) 1 7 258 3 [104, 101, 108, 108, 111])) 7
    (dcdT (Vector.replicate 16 0) (encP (Vector.replicate 16 0) 1 7 258 3 [104, 101, 108, 108, 111])) 258 (dcdM (Vector.replicate 16 0) (encP (Vector.replicate 16 0) 1 7 258 3 [104, 101, 108, 108, 111])) 3
    (dcdP (Vector.replicate 16 0) (encP (Vector.replicate 16 0) 1 7 258 3 [104, 101, 108, 108, 111])) [104, 101, 108, 108, 111] = true := by
  rw [aw_enc]
  obtain ⟨_, h1, h2, h3, h4, h5⟩ := aw_all
  rw [h1, h2, h3, h4, h5]; exact sameR_self _ _ _ _ _
theorem dcdE_nil (key : V8 16) : dcdE key [] = 1 := by rw [dcdE, if_pos (by decide)]; rfl
theorem aw_pd : peekD (encP (Vector.replicate 16 0) 1 7 258 3 [104, 101, 108, 108, 111]) = 1 := by
  rw [peekD, aw_len, if_pos (by decide), aw_enc, encV]; exact headD_head _ _ _ (by decide) (by decide)
theorem aw_ps : peekS (encP (Vector.replicate 16 0) 1 7 258 3 [104, 101, 108, 108, 111]) = 7 := by
  rw [peekS, aw_len, if_pos (by decide), aw_enc, encV]; exact headS_head _ _ _ (by decide) (by decide)
end Go.X
namespace Go.X
open Go
theorem aw_facts {P : List UInt8} (hP : P = encP (Vector.replicate 16 0) 1 7 258 3 [104, 101, 108, 108, 111]) : P.length = 33 ∧ dcdE (Vector.replicate 16 0) P = 0 ∧
    sameR ((dcdD (Vector.replicate 16 0) P : Nat) : Int) 1 (dcdS (Vector.replicate 16 0) P) 7 (dcdT (Vector.replicate 16 0) P) 258 (dcdM (Vector.replicate 16 0) P) 3 (dcdP (Vector.replicate 16 0) P) [104, 101, 108, 108, 111] = true ∧ peekD P = 1 ∧ peekS P = 7 := by
  rw [hP]; exact ⟨aw_len, aw_E, aw_same, aw_pd, aw_ps⟩
end Go.X
namespace Go.X
open Go
theorem toU64_inj {a b : Int} (ha : -9223372036854775808 ≤ a ∧ a < 9223372036854775808) (hb : -9223372036854775808 ≤ b ∧ b < 9223372036854775808) (h : toU64 a = toU64 b) : a = b := by
  have := congrArg UInt64.toNat h
  simp only [toU64, UInt64.toNat_ofNat'] at this
  omega
theorem toU64_u16 {a b : UInt16} (h : toU64 (a.toNat : Int) = toU64 (b.toNat : Int)) : a.toNat = b.toNat := by
  have ha := a.toNat_lt; have hb := b.toNat_lt
  have := toU64_inj (by omega) (by omega) h
  omega
theorem same_eq {d d2 : Int} (s s2 : UInt64) (t t2 e e2 : UInt16) (bs bs2 : List UInt8) (hd : -9223372036854775808 ≤ d ∧ d < 9223372036854775808) (hd2 : -9223372036854775808 ≤ d2 ∧ d2 < 9223372036854775808) :
    sameV (restV d s t e) (restV d2 s2 t2 e2) bs bs2 = sameR d d2 s s2 t t2 e e2 bs bs2 := by
  by_cases h : restV d s t e = restV d2 s2 t2 e2
  · have h' := congrArg Vector.toList h
    simp only [restV, Vector.toList_mk, List.cons.injEq] at h'
    obtain ⟨h1, h2, h3, h4, _⟩ := h'
    rw [sameV_t h, sameR, if_pos (toU64_inj hd hd2 h1), if_pos (by rw [h2]), if_pos (toU64_u16 h3), if_pos (toU64_u16 h4)]
  · rw [sameV_f h, sameR]
    split
    · rename_i h1
      split
      · rename_i h2
        split
        · rename_i h3
          split
          · rename_i h4
            exfalso; apply h
            rw [h1, UInt64.toNat_inj.1 h2, UInt16.toNat_inj.1 h3, UInt16.toNat_inj.1 h4]
          · rfl
        · rfl
      · rfl
    · rfl
theorem lng_bad {n : Nat} (h : n < 28 ∨ 1228 < n) : lng n ≠ 0 := by
  rw [lng]; split
  · decide
  · split
    · decide
    · omega
theorem peek_bad {bs : List UInt8} {n : Nat} (hn : bs.length = n) (h : lng n ≠ 0) : peekD bs = 0 ∧ peekS bs = 0 := by rw [peekD, peekS, hn, if_neg h, if_neg h]; exact ⟨rfl, rfl⟩
theorem peek_ok {bs : List UInt8} {n : Nat} (hn : bs.length = n) (h : lng n = 0) : peekD bs = headD2 bs ∧ peekS bs = headS2 bs := by rw [peekD, peekS, hn, if_pos h, if_pos h, headD_2, headS_2]; exact ⟨rfl, rfl⟩
end Go.X
namespace Go.X
open Go
theorem pl_big {d : Int} {s : UInt64} {k : Nat} (hd : d = 0 ∨ d = 1) (hs : s.toNat < 9223372036854775808) (hk : 1200 < k) : chk d s k = 2 := by
  rw [chk, if_neg (by omega), if_neg (by omega), if_pos hk]
theorem pl_ok {d : Int} {s : UInt64} {k : Nat} (hd : d = 0 ∨ d = 1) (hs : s.toNat < 9223372036854775808) (hk : k ≤ 1200) : chk d s k = 0 := by
  rw [chk, if_neg (by omega), if_neg (by omega), if_neg (by omega)]
theorem encP_bad {key : V8 16} {d : Int} {s : UInt64} {t e : UInt16} {bs : List UInt8} {n : Nat} (hn : bs.length = n) (h : chk d s n ≠ 0) : (encP key d s t e bs).length = 0 := by rw [encP, hn, if_neg h]; rfl
theorem enc_all {key : V8 16} {d : Int} {s : UInt64} {t e : UInt16} {bs : List UInt8} {n : Nat} (hn : bs.length = n) (h : chk d s n = 0) :
    (encP key d s t e bs).length = n + 28 ∧ dcdE key (encP key d s t e bs) = 0 ∧
    sameR ((dcdD key (encP key d s t e bs) : Nat) : Int) d (dcdS key (encP key d s t e bs)) s (dcdT key (encP key d s t e bs)) t (dcdM key (encP key d s t e bs)) e (dcdP key (encP key d s t e bs)) bs = true := by
  obtain ⟨⟨dn, rfl, hd⟩, hs, hl⟩ := chk_0 h
  have e1 : encP key (dn : Int) s t e bs = encV key dn s t e bs := by rw [encP, hn, if_pos h]; rfl
  obtain ⟨h0, h1, h2, h3, h4, h5⟩ := dcd_enc key dn s t e bs hd hs (by omega)
  rw [e1, encV_len, h0, h1, h2, h3, h4, h5, hn]
  exact ⟨rfl, rfl, sameR_self _ _ _ _ _⟩
theorem dcd_long {key : V8 16} {bs : List UInt8} (h : 1228 < bs.length) : dcdE key bs = 2 := by
  have e : lng bs.length = 2 := by rw [lng, if_neg (by omega), if_pos h]
  rw [dcdE, e, if_pos (by decide)]
end Go.X

/- []byte of a constant string: a row of one's own gets the mark behind its last cell. -/
namespace Go.X
open Go
section
variable {P : Program} {ops : Array Oper} {n : Nat} {l : Regs} {w w0 : World} {K : Regs → World → Prop} {F : List Nat} {L : List (Nat × Obj)}
variable {d T S : Nat} {ps : String} {af : Array Edge} {g : Option (Nat × Bool)} {x : Operand}
theorem freeze_heap (w : World) (b k E : Nat) (cs : Array Value) (h : w.heap[b]? = some (.cells cs E (0, 0))) :
    (w.freeze ⟨b, k, none⟩ 1).heap[b]? = some (.cells cs E (k, k + 1)) ∧ (∀ j, j ≠ b → (w.freeze ⟨b, k, none⟩ 1).heap[j]? = w.heap[j]?) ∧ (w.freeze ⟨b, k, none⟩ 1).heap.size = w.heap.size := by
  unfold World.freeze
  rw [if_neg (by decide)]
  refine ⟨?_, fun j hj => ?_, by simp⟩
  · simp [Array.getElem?_modify, h]
  · simp [Array.getElem?_modify, hj.symm]
theorem cvb {b m c E e : Nat} {cs : Array Value} (i : Nat) (hu : P.underlying S = some (.slice e)) (he : P.underlying e = some (.int .u8)) (hS : St w0 F L w) (hg : gval ops l ⟨some d, .convert S S x, T, ps, af, g⟩ = some true) (hd : Nat.blt d n = true)
    (hx : ev l x = some (.slice (some ⟨b, 0, none⟩) m c)) (hi : L[i]? = some (b, .cells cs E (0, 0))) (k : ∀ w', St w0 F (L.set i (b, .cells cs E (cs.size, cs.size + 1))) w' → K ((d, .slice (some ⟨b, 0, none⟩) m c) :: l) w') :
    WO P ops n ⟨some d, .convert S S x, T, ps, af, g⟩ l w K := by
  have hb := hS.get i hi
  obtain ⟨h1, h2, h3⟩ := freeze_heap w b cs.size E cs hb
  have hsh : w.shape? b = some (E, cs.size) := by unfold World.shape?; rw [hb]
  have hos : (w.freeze ⟨b, cs.size, none⟩ 1).os = w.os := by unfold World.freeze; split <;> rfl
  have htp : (w.freeze ⟨b, cs.size, none⟩ 1).tape = w.tape := by unfold World.freeze; split <;> rfl
  have hou : (w.freeze ⟨b, cs.size, none⟩ 1).output = w.output := by unfold World.freeze; split <;> rfl
  refine WO.val hg hd (w' := w.freeze ⟨b, cs.size, none⟩ 1) (fun a ha => ?_) (k _ (hS.turn i hi hos htp hou h3 h1 h2))
  simp only [execOp, ha.ev hx, Sem.run_bind]
  simp [convert, run_underlying hu, run_underlying he, markStringish, hsh]
end
end Go.X

/- walks -/
namespace Go.Proofs.XZ
open Go Go.X Go.Proofs
set_option maxRecDepth 100000 in
theorem sp_keys_load_1 (i b E : Nat) (v : V8 16) (i_ : Int) (w0 : World) (hi_ : i_ = (i : Int)) (hi : i < 13) (hb : w0.heap[b]? = some (.cells (BV v) E)) : Calls Tryz.prog 102 #[I i_, Ptr b 0] w0 (Ret w0 (U32 (col (gv v i) (gv v (i + 1)) (gv v (i + 2)) (gv v (i + 3))))) := by
  subst hi_
  refine enter (args := [I (i : Int), Ptr b 0]) Tryz.func102 rfl rfl ?_
  refine startw fun w hS => ?_
  refine rg ?_
  refine asg rfl rfl rfl ?_
  refine wq_then ?_
  refine rd mo 25 (fun w => St w0 [] [] w) ?_
  have hS := hS.drew
  refine dq 0 rfl (by kernel_rfl) (by kernel_rfl) (by kernel_rfl) rfl rfl (fun w hS => mv rfl rfl rfl ⟨rfl, rfl⟩) hS ?_
  refine dq 1 rfl (by kernel_rfl) (by kernel_rfl) (by kernel_rfl) rfl rfl (fun w hS => ian (i) (i) Tryz.underlying22 sz5 rfl rfl rfl rfl (by omega) (by omega) (by omega) ⟨rfl, rfl⟩) hS ?_
  refine dq 2 rfl (by kernel_rfl) (by kernel_rfl) (by kernel_rfl) rfl rfl (fun w hS => lod hb List.not_mem_nil sc5 hS rfl rfl rfl (BV_get _ i (by omega)) ⟨rfl, rfl⟩) hS ?_
  refine dq 3 rfl (by kernel_rfl) (by kernel_rfl) (by kernel_rfl) rfl rfl (fun w hS => cvu32 Tryz.underlying62 ⟨_, Tryz.underlying5⟩ rfl rfl rfl ⟨rfl, rfl⟩) hS ?_
  refine dq 4 rfl (by kernel_rfl) (by kernel_rfl) (by kernel_rfl) rfl rfl (fun w hS => shln32 (24) (by omega) rfl rfl rfl rfl ⟨rfl, rfl⟩) hS ?_
  refine dq 5 rfl (by kernel_rfl) (by kernel_rfl) (by kernel_rfl) rfl rfl (fun w hS => mv rfl rfl rfl ⟨rfl, rfl⟩) hS ?_
  refine dq 6 rfl (by kernel_rfl) (by kernel_rfl) (by kernel_rfl) rfl rfl (fun w hS => addi (by omega) (by omega) rfl rfl rfl rfl ⟨rfl, rfl⟩) hS ?_
  refine dq 7 rfl (by kernel_rfl) (by kernel_rfl) (by kernel_rfl) rfl rfl (fun w hS => ian (i + 1) ((i + 1)) Tryz.underlying22 sz5 rfl rfl rfl rfl (by omega) (by omega) (by omega) ⟨rfl, rfl⟩) hS ?_
  refine dq 8 rfl (by kernel_rfl) (by kernel_rfl) (by kernel_rfl) rfl rfl (fun w hS => lod hb List.not_mem_nil sc5 hS rfl rfl rfl (BV_get _ (i + 1) (by omega)) ⟨rfl, rfl⟩) hS ?_
  refine dq 9 rfl (by kernel_rfl) (by kernel_rfl) (by kernel_rfl) rfl rfl (fun w hS => cvu32 Tryz.underlying62 ⟨_, Tryz.underlying5⟩ rfl rfl rfl ⟨rfl, rfl⟩) hS ?_
  refine dq 10 rfl (by kernel_rfl) (by kernel_rfl) (by kernel_rfl) rfl rfl (fun w hS => shln32 (16) (by omega) rfl rfl rfl rfl ⟨rfl, rfl⟩) hS ?_
  refine dq 11 rfl (by kernel_rfl) (by kernel_rfl) (by kernel_rfl) rfl rfl (fun w hS => or32 rfl rfl rfl rfl ⟨rfl, rfl⟩) hS ?_
  refine dq 12 rfl (by kernel_rfl) (by kernel_rfl) (by kernel_rfl) rfl rfl (fun w hS => mv rfl rfl rfl ⟨rfl, rfl⟩) hS ?_
  refine dq 13 rfl (by kernel_rfl) (by kernel_rfl) (by kernel_rfl) rfl rfl (fun w hS => addi (by omega) (by omega) rfl rfl rfl rfl ⟨rfl, rfl⟩) hS ?_
  refine dq 14 rfl (by kernel_rfl) (by kernel_rfl) (by kernel_rfl) rfl rfl (fun w hS => ian (i + 2) ((i + 2)) Tryz.underlying22 sz5 rfl rfl rfl rfl (by omega) (by omega) (by omega) ⟨rfl, rfl⟩) hS ?_
  refine dq 15 rfl (by kernel_rfl) (by kernel_rfl) (by kernel_rfl) rfl rfl (fun w hS => lod hb List.not_mem_nil sc5 hS rfl rfl rfl (BV_get _ (i + 2) (by omega)) ⟨rfl, rfl⟩) hS ?_
  refine dq 16 rfl (by kernel_rfl) (by kernel_rfl) (by kernel_rfl) rfl rfl (fun w hS => cvu32 Tryz.underlying62 ⟨_, Tryz.underlying5⟩ rfl rfl rfl ⟨rfl, rfl⟩) hS ?_
  refine dq 17 rfl (by kernel_rfl) (by kernel_rfl) (by kernel_rfl) rfl rfl (fun w hS => shln32 (8) (by omega) rfl rfl rfl rfl ⟨rfl, rfl⟩) hS ?_
  refine dq 18 rfl (by kernel_rfl) (by kernel_rfl) (by kernel_rfl) rfl rfl (fun w hS => or32 rfl rfl rfl rfl ⟨rfl, rfl⟩) hS ?_
  refine dq 19 rfl (by kernel_rfl) (by kernel_rfl) (by kernel_rfl) rfl rfl (fun w hS => mv rfl rfl rfl ⟨rfl, rfl⟩) hS ?_
  refine dq 20 rfl (by kernel_rfl) (by kernel_rfl) (by kernel_rfl) rfl rfl (fun w hS => addi (by omega) (by omega) rfl rfl rfl rfl ⟨rfl, rfl⟩) hS ?_
  refine dq 21 rfl (by kernel_rfl) (by kernel_rfl) (by kernel_rfl) rfl rfl (fun w hS => ian (i + 3) ((i + 3)) Tryz.underlying22 sz5 rfl rfl rfl rfl (by omega) (by omega) (by omega) ⟨rfl, rfl⟩) hS ?_
  refine dq 22 rfl (by kernel_rfl) (by kernel_rfl) (by kernel_rfl) rfl rfl (fun w hS => lod hb List.not_mem_nil sc5 hS rfl rfl rfl (BV_get _ (i + 3) (by omega)) ⟨rfl, rfl⟩) hS ?_
  refine dq 23 rfl (by kernel_rfl) (by kernel_rfl) (by kernel_rfl) rfl rfl (fun w hS => cvu32 Tryz.underlying62 ⟨_, Tryz.underlying5⟩ rfl rfl rfl ⟨rfl, rfl⟩) hS ?_
  refine dq 24 rfl (by kernel_rfl) (by kernel_rfl) (by kernel_rfl) rfl rfl (fun w hS => or32 rfl rfl rfl rfl ⟨rfl, rfl⟩) hS ?_
  refine dl 25 rfl (by kernel_rfl) ?_
  refine asg rfl rfl rfl ?_
  refine ⟨fun h => (by cases h), ?_⟩
  refine de (by kernel_rfl) ?_
  refine wq_then ?_
  refine wc_ret ?_
  refine fin1 (v := U32 ((((shl32 (toU32 (((gv v i).toNat : Int))) 24) ||| (shl32 (toU32 (((gv v (i + 1)).toNat : Int))) 16)) ||| (shl32 (toU32 (((gv v (i + 2)).toNat : Int))) 8)) ||| (toU32 (((gv v (i + 3)).toNat : Int))))) rfl rfl ?_
  exact ⟨rfl, hS.drop⟩
end Go.Proofs.XZ

/- walks -/
namespace Go.Proofs.XZ
open Go Go.X Go.Proofs
set_option maxRecDepth 100000 in
theorem sp_keys_load (b : V8 16) (w0 : World) : Calls Tryz.prog 73 #[.agg (BV b)] w0 (Ret w0 (.agg (WV (wds b)))) := by
  refine enter (args := [.agg (BV b)]) Tryz.func73 rfl rfl ?_
  refine startw fun w hS => ?_
  refine rg ?_
  refine bxa hS rfl rfl rfl ?_
  intro b1 w hb1 hS
  refine ala zr67 hS rfl rfl ?_
  intro b2 w hb2 hS
  refine wq_then ?_
  refine rg ?_
  refine ala zr67 hS rfl rfl ?_
  intro b3 w hb3 hS
  refine wq_then ?_
  refine rg ?_
  refine mkf rfl rfl rfl ?_
  refine asg rfl rfl rfl ?_
  refine wq_then ?_
  refine wc_seq ?_
  refine rg ?_
  refine mv rfl rfl rfl ?_
  refine wq_then ?_
  refine wc_block ?_
  refine wc_loop (σ := Nat) (fun k => [(2, Ptr b2 0), (3, Ptr b3 0), (4, .func (.func 102) #[] #[Ptr b1 0]), (7, I ((k : Int)))])
    (fun k w => (k ≤ 4) ∧ St w0 [] [(b3, .cells (WV (fill32 4 (wdf b) (Vector.replicate 4 0) k)) 67), (b2, .cells (WV (Vector.replicate 4 0)) 67), (b1, .cells (BV b) 22)] w) (fun k => 4 - k) 0 ⟨rfl, rfl, rfl, rfl, trivial⟩ ⟨by omega, (by simp only [Nat.zero_mul, Nat.add_zero, fill8_0, fill32_0]; exact hS)⟩ ?_
  rintro k w ⟨hk, hS⟩
  refine rg ?_
  refine lss rfl rfl rfl rfl ?_
  refine wq_then ?_
  refine wc_seq ?_
  refine wc_if rfl (fun hc1 => ?_) (fun hc1 => ?_)
  · skip
    try simp only [SB] at hc1
    refine wc_skip ?_
    refine wq_then ?_
    refine wc_seq ?_
    refine wc_block ?_
    refine rg ?_
    refine mv rfl rfl rfl ?_
    refine asg rfl rfl rfl ?_
    refine wq_then ?_
    refine wc_region ?_
    refine mv rfl rfl rfl ?_
    refine mv rfl rfl rfl ?_
    refine mv rfl rfl rfl ?_
    refine muli (by omega) (by omega) rfl rfl rfl rfl ?_
    refine cv cf102 hS rfl rfl rfl rfl rfl (sp_keys_load_1 ((4 * k)) (b1) (_) (b) _ _ (by omega) (by omega) (hS.get 2 rfl)) ?_
    intro w hS
    refine ian (k) (k) Tryz.underlying67 sz62 rfl rfl rfl rfl (by omega) (by omega) (by omega) ?_
    refine st (cs' := WV (fill32 4 (wdf b) (Vector.replicate 4 0) (k + 1))) 0 sz62 hS rfl rfl rfl rfl rfl rfl (by rw [WV_size]; omega) (by rw [WV_set]; exact congrArg WV (fill32_succ (wdf b) (Vector.replicate 4 0) k)) ?_
    intro w hS
    refine q_block_norm ?_
    refine wq_then ?_
    refine wc_region ?_
    refine addi (by omega) (by omega) rfl rfl rfl rfl ?_
    refine mv rfl rfl rfl ?_
    refine again_q (k + 1) ⟨rfl, rfl, rfl, lkI rfl (by first | omega | rfl), trivial⟩ ⟨by omega, hS⟩ (by omega)
  · skip
    try simp only [SB] at hc1
    refine wc_exit ?_
    refine q_then_exit ?_
    refine q_then_exit ?_
    refine q_block_hit ?_
    refine wq_then ?_
    refine rg ?_
    refine la 0 ag67 hS rfl rfl rfl rfl (WV_size _) ?_
    refine sa 1 ag67 hS rfl rfl rfl (WV_one _) rfl (WV_size _) (WV_size _) ?_
    intro w hS
    refine wq_then ?_
    refine wc_ret ?_
    refine fin1 (v := .agg (WV (fill32 4 (wdf b) (Vector.replicate 4 0) k))) rfl ⟨_, rfl, lv_a ag67 (hS.get 1 rfl) (WV_size _)⟩ ?_
    refine ⟨?_, hS.drop⟩
    have hk4 : k = 4 := by omega
    subst hk4; rw [fill32_n]; rfl
end Go.Proofs.XZ

/- walks -/
namespace Go.Proofs.XZ
open Go Go.X Go.Proofs
set_option maxRecDepth 100000 in
theorem sp_keys_store (l : V32 4) (w0 : World) : Calls Tryz.prog 71 #[.agg (WV l)] w0 (Ret w0 (.agg (BV (unw l)))) := by
  refine enter (args := [.agg (WV l)]) Tryz.func71 rfl rfl ?_
  refine startw fun w hS => ?_
  refine rg ?_
  refine bxa hS rfl rfl rfl ?_
  intro b1 w hb1 hS
  refine ala zr22 hS rfl rfl ?_
  intro b2 w hb2 hS
  refine wq_then ?_
  refine rg ?_
  refine ala zr22 hS rfl rfl ?_
  intro b3 w hb3 hS
  refine wq_then ?_
  refine wc_seq ?_
  refine rg ?_
  refine la 2 ag67 hS rfl rfl rfl rfl (WV_size _) ?_
  refine mv rfl rfl rfl ?_
  refine wq_then ?_
  refine wc_block ?_
  refine wc_loop (σ := Nat) (fun k => [(2, Ptr b2 0), (3, Ptr b3 0), (7, .agg (WV l)), (8, I ((k : Int)))])
    (fun k w => (k ≤ 4) ∧ St w0 [] [(b3, .cells (BV (fill8 16 (unwf l) (Vector.replicate 16 0) (k * 4))) 22), (b2, .cells (BV (Vector.replicate 16 0)) 22), (b1, .cells (WV l) 67)] w) (fun k => 4 - k) 0 ⟨rfl, rfl, rfl, rfl, trivial⟩ ⟨by omega, (by simp only [Nat.zero_mul, Nat.add_zero, fill8_0, fill32_0]; exact hS)⟩ ?_
  rintro k w ⟨hk, hS⟩
  refine rg ?_
  refine lss rfl rfl rfl rfl ?_
  refine wq_then ?_
  refine wc_seq ?_
  refine wc_if rfl (fun hc1 => ?_) (fun hc1 => ?_)
  · skip
    try simp only [SB] at hc1
    refine wc_skip ?_
    refine wq_then ?_
    refine wc_seq ?_
    refine wc_block ?_
    refine rg ?_
    refine mv rfl rfl rfl ?_
    refine ixn (k) Tryz.underlying67 sz62 sc62 rfl rfl rfl rfl (by omega) (by omega) (WV_get _ k (by omega)) ?_
    refine asg rfl rfl rfl ?_
    refine asg rfl rfl rfl ?_
    refine wq_then ?_
    refine rg ?_
    refine mv rfl rfl rfl ?_
    refine wq_then ?_
    refine wc_block ?_
    refine wc_loop (σ := Nat) (fun j => [(2, Ptr b2 0), (3, Ptr b3 0), (4, I ((k : Int))), (5, U32 (gw l k)), (7, .agg (WV l)), (8, I ((k : Int))), (12, I ((j : Int)))])
      (fun j w => (j ≤ 4) ∧ St w0 [] [(b3, .cells (BV (fill8 16 (unwf l) (Vector.replicate 16 0) (k * 4 + j))) 22), (b2, .cells (BV (Vector.replicate 16 0)) 22), (b1, .cells (WV l) 67)] w) (fun j => 4 - j) 0 ⟨rfl, rfl, rfl, rfl, rfl, rfl, rfl, trivial⟩ ⟨by omega, (by simp only [Nat.zero_mul, Nat.add_zero, fill8_0, fill32_0]; exact hS)⟩ ?_
    rintro j w ⟨hj, hS⟩
    refine rg ?_
    refine lss rfl rfl rfl rfl ?_
    refine wq_then ?_
    refine wc_seq ?_
    refine wc_if rfl (fun hc2 => ?_) (fun hc2 => ?_)
    · skip
      try simp only [SB] at hc2
      refine wc_skip ?_
      refine wq_then ?_
      refine wc_seq ?_
      refine wc_block ?_
      refine rg ?_
      refine mv rfl rfl rfl ?_
      refine asg rfl rfl rfl ?_
      refine wq_then ?_
      refine wc_region ?_
      refine mv rfl rfl rfl ?_
      refine muli (by omega) (by omega) rfl rfl rfl rfl ?_
      refine mv rfl rfl rfl ?_
      refine addi (by omega) (by omega) rfl rfl rfl rfl ?_
      refine mv rfl rfl rfl ?_
      refine mv rfl rfl rfl ?_
      refine muli (by omega) (by omega) rfl rfl rfl rfl ?_
      refine subi (by omega) (by omega) rfl rfl rfl rfl ?_
      refine shrn32 (24 - (8 * j)) (by omega) rfl rfl rfl rfl ?_
      refine cvu8 Tryz.underlying5 ⟨_, Tryz.underlying62⟩ rfl rfl rfl ?_
      refine ian ((4 * k) + j) (((4 * k) + j)) Tryz.underlying22 sz5 rfl rfl rfl rfl (by omega) (by omega) (by omega) ?_
      refine st (cs' := BV (fill8 16 (unwf l) (Vector.replicate 16 0) (k * 4 + (j + 1)))) 0 sz5 hS rfl rfl rfl rfl rfl rfl (by rw [BV_size]; omega) (by rw [BV_set]; exact congrArg BV (store_step l _ k j (by omega))) ?_
      intro w hS
      refine q_block_norm ?_
      refine wq_then ?_
      refine wc_region ?_
      refine addi (by omega) (by omega) rfl rfl rfl rfl ?_
      refine mv rfl rfl rfl ?_
      refine again_q (j + 1) ⟨rfl, rfl, rfl, rfl, rfl, rfl, lkI rfl (by first | omega | rfl), trivial⟩ ⟨by omega, hS⟩ (by omega)
    · skip
      try simp only [SB] at hc2
      refine wc_exit ?_
      refine q_then_exit ?_
      refine q_then_exit ?_
      refine q_block_hit ?_
      refine q_block_norm ?_
      refine wq_then ?_
      refine wc_region ?_
      refine addi (by omega) (by omega) rfl rfl rfl rfl ?_
      refine mv rfl rfl rfl ?_
      refine again_q (k + 1) ⟨rfl, rfl, rfl, lkI rfl (by first | omega | rfl), trivial⟩ ⟨by omega, (store_end hS (by omega))⟩ (by omega)
  · skip
    try simp only [SB] at hc1
    refine wc_exit ?_
    refine q_then_exit ?_
    refine q_then_exit ?_
    refine q_block_hit ?_
    refine wq_then ?_
    refine rg ?_
    refine la 0 ag22 hS rfl rfl rfl rfl (BV_size _) ?_
    refine sa 1 ag22 hS rfl rfl rfl (BV_one _) rfl (BV_size _) (BV_size _) ?_
    intro w hS
    refine wq_then ?_
    refine wc_ret ?_
    refine fin1 (v := .agg (BV (fill8 16 (unwf l) (Vector.replicate 16 0) (k * 4)))) rfl ⟨_, rfl, lv_a ag22 (hS.get 1 rfl) (BV_size _)⟩ ?_
    refine ⟨?_, hS.drop⟩
    have hk4 : k = 4 := by omega
    subst hk4; rw [fill8_n]; rfl
end Go.Proofs.XZ

/- walks -/
namespace Go.Proofs.XZ
open Go Go.X Go.Proofs
set_option maxRecDepth 100000 in
theorem sp_sbox_table (w0 : World) : Calls Tryz.prog 69 #[] w0 (Ret w0 (.agg (BV sboxV))) := by
  refine enter (args := []) Tryz.func69 rfl rfl ?_
  refine startw fun w hS => ?_
  refine rg ?_
  refine ala zr46 hS rfl rfl ?_
  intro b0 w hb0 hS
  refine wq_then ?_
  refine rg ?_
  refine bd (cs := BV sboxV) rfl rfl rfl (by kernel_rfl) ?_
  refine sa 0 ag46 hS rfl rfl rfl (BV_one _) rfl (BV_size _) (BV_size _) ?_
  intro w hS
  refine wq_then ?_
  refine wc_ret ?_
  refine fin1 (v := .agg (BV sboxV)) rfl ⟨_, rfl, lv_a ag46 (hS.get 0 rfl) (BV_size _)⟩ ?_
  exact ⟨rfl, hS.drop⟩
end Go.Proofs.XZ

/- walks -/
namespace Go.Proofs.XZ
open Go Go.X Go.Proofs
set_option maxRecDepth 100000 in
theorem sp_sbox_S (a : UInt8) (w0 : World) : Calls Tryz.prog 48 #[U8 a] w0 (Ret w0 (U8 (sbox a))) := by
  refine enter (args := [U8 a]) Tryz.func48 rfl rfl ?_
  refine startw fun w hS => ?_
  have ha := a.toNat_lt
  refine rg ?_
  refine asg rfl rfl rfl ?_
  refine wq_then ?_
  refine rg ?_
  refine cv cf69 hS rfl rfl rfl rfl rfl (sp_sbox_table _) ?_
  intro w hS
  refine mv rfl rfl rfl ?_
  refine ixn ((a).toNat) Tryz.underlying46 sz5 sc5 rfl rfl rfl rfl (by omega) (by omega) (BV_get _ ((a).toNat) (by omega)) ?_
  refine asg rfl rfl rfl ?_
  refine wq_then ?_
  refine wc_ret ?_
  refine fin1 (v := U8 (gv sboxV ((a).toNat))) rfl rfl ?_
  refine ⟨?_, hS.drop⟩
  rw [gv_sbox]
end Go.Proofs.XZ

/- walks -/
namespace Go.Proofs.XZ
open Go Go.X Go.Proofs
set_option maxRecDepth 100000 in
theorem sp_sbox_Word (a : UInt32) (w0 : World) : Calls Tryz.prog 129 #[U32 a] w0 (Ret w0 (U32 (sword a))) := by
  refine enter (args := [U32 a]) Tryz.func129 rfl rfl ?_
  refine startw fun w hS => ?_
  refine rg ?_
  refine asg rfl rfl rfl ?_
  refine wq_then ?_
  refine rg ?_
  refine asg rfl rfl rfl ?_
  refine wq_then ?_
  refine wc_seq ?_
  refine rg ?_
  refine asg rfl rfl rfl ?_
  refine wq_then ?_
  refine wc_block ?_
  refine wc_loop (σ := Nat) (fun k => [(0, U32 (a)), (2, U32 (0)), (3, U32 (swordL a k)), (4, I (24 - 8 * (k : Int)))])
    (fun k w => (k ≤ 4) ∧ St w0 [] [] w) (fun k => 4 - k) 0 ⟨rfl, rfl, rfl, rfl, trivial⟩ ⟨by omega, hS⟩ ?_
  rintro k w ⟨hk, hS⟩
  refine wc_seq ?_
  refine rg ?_
  refine mv rfl rfl rfl ?_
  refine geq rfl rfl rfl rfl ?_
  refine wq_then ?_
  refine wc_if rfl (fun hc1 => ?_) (fun hc1 => ?_)
  · skip
    try simp only [SB] at hc1
    have hk5 : k < 4 := by omega
    refine wc_skip ?_
    refine wq_then ?_
    refine wc_seq ?_
    refine wc_block ?_
    refine wc_region ?_
    refine mv rfl rfl rfl ?_
    refine shln32 (8) (by omega) rfl rfl rfl rfl ?_
    refine mv rfl rfl rfl ?_
    refine mv rfl rfl rfl ?_
    refine shrn32 (24 - 8 * k) (by omega) rfl rfl rfl rfl ?_
    refine cvu8 Tryz.underlying5 ⟨_, Tryz.underlying62⟩ rfl rfl rfl ?_
    refine cv cf48 hS rfl rfl rfl rfl rfl (sp_sbox_S ((toU8 (((shr32 a (24 - 8 * k)).toNat : Int)))) _) ?_
    intro w hS
    refine cvu32 Tryz.underlying62 ⟨_, Tryz.underlying5⟩ rfl rfl rfl ?_
    refine or32 rfl rfl rfl rfl ?_
    refine asg rfl rfl rfl ?_
    refine q_block_norm ?_
    refine wq_then ?_
    refine wc_region ?_
    refine mv rfl rfl rfl ?_
    refine subi (by omega) (by omega) rfl rfl rfl rfl ?_
    refine asg rfl rfl rfl ?_
    refine again_q (k + 1) ⟨rfl, rfl, rfl, lkI rfl (by first | omega | rfl), trivial⟩ ⟨by omega, hS⟩ (by omega)
  · skip
    try simp only [SB] at hc1
    have hk4 : k = 4 := by omega
    refine wc_exit ?_
    refine q_then_exit ?_
    refine q_then_exit ?_
    refine q_block_hit ?_
    refine wq_then ?_
    refine rg ?_
    refine mv rfl rfl rfl ?_
    refine asg rfl rfl rfl ?_
    refine wq_then ?_
    refine wc_ret ?_
    refine fin1 (v := U32 (swordL a k)) rfl rfl ?_
    refine ⟨?_, hS.drop⟩
    rw [hk4, swordL_4]
end Go.Proofs.XZ

/- walks -/
namespace Go.Proofs.XZ
open Go Go.X Go.Proofs
set_option maxRecDepth 100000 in
theorem sp_math_bits_RotateLeft32 (a : UInt32) (w0 : World) : Calls Tryz.prog 130 #[U32 a, I 8] w0 (Ret w0 (U32 (rotl8 a))) := by
  refine enter (args := [U32 a, I 8]) Tryz.func130 rfl rfl ?_
  refine startw fun w hS => ?_
  refine rg ?_
  refine asg rfl rfl rfl ?_
  refine wq_then ?_
  refine rg ?_
  refine mv rfl rfl rfl ?_
  refine cvu64 Tryz.underlying79 ⟨_, Tryz.underlying3⟩ rfl rfl rfl ?_
  refine and64 (q := (31 : UInt64)) rfl rfl rfl rfl ?_
  refine asg rfl rfl rfl ?_
  refine wq_then ?_
  refine rg ?_
  refine mv rfl rfl rfl ?_
  refine mv rfl rfl rfl ?_
  refine shln32 (((toU64 (8)) &&& 31).toNat) (by omega) rfl rfl rfl rfl ?_
  refine mv rfl rfl rfl ?_
  refine mv rfl rfl rfl ?_
  refine sub64 (p := (32 : UInt64)) rfl rfl rfl rfl ?_
  refine shrn32 ((32 - ((toU64 (8)) &&& 31)).toNat) (by omega) rfl rfl rfl rfl ?_
  refine or32 rfl rfl rfl rfl ?_
  refine asg rfl rfl rfl ?_
  refine wq_then ?_
  refine wc_ret ?_
  refine fin1 (v := U32 ((shl32 a (((toU64 (8)) &&& 31).toNat)) ||| (shr32 a ((32 - ((toU64 (8)) &&& 31)).toNat)))) rfl rfl ?_
  refine ⟨?_, hS.drop⟩
  rw [rotl8_eq]
end Go.Proofs.XZ

/- walks -/
namespace Go.Proofs.XZ
open Go Go.X Go.Proofs
set_option maxRecDepth 100000 in
theorem sp_field_Double (a : UInt8) (w0 : World) : Calls Tryz.prog 70 #[U8 a] w0 (Ret w0 (U8 (dbl a))) := by
  refine enter (args := [U8 a]) Tryz.func70 rfl rfl ?_
  refine startw fun w hS => ?_
  refine rg ?_
  refine asg rfl rfl rfl ?_
  refine wq_then ?_
  refine rg ?_
  refine mv rfl rfl rfl ?_
  refine shln8 (1) (by omega) rfl rfl rfl rfl ?_
  refine mv rfl rfl rfl ?_
  refine cvk (q := IntKind.i8.wrap ((a).toNat : Int)) Tryz.underlying101 ⟨_, Tryz.underlying5⟩ rfl rfl rfl rfl ?_
  refine shrk (q := Int.fdiv (IntKind.i8.wrap ((a).toNat : Int)) (2 ^ 7)) (m := 7) (by decide) rfl rfl rfl rfl rfl ?_
  refine cvu8 Tryz.underlying5 ⟨_, Tryz.underlying101⟩ rfl rfl rfl ?_
  refine and8 (q := (27 : UInt8)) rfl rfl rfl rfl ?_
  refine xor8 rfl rfl rfl rfl ?_
  refine asg rfl rfl rfl ?_
  refine wq_then ?_
  refine wc_ret ?_
  refine fin1 (v := U8 ((shl8 a 1) ^^^ ((toU8 ((Int.fdiv (IntKind.i8.wrap ((a).toNat : Int)) (2 ^ 7)))) &&& 27))) rfl rfl ?_
  refine ⟨?_, hS.drop⟩
  rw [dbl_eq]
end Go.Proofs.XZ

/- walks -/
namespace Go.Proofs.XZ
open Go Go.X Go.Proofs
set_option maxRecDepth 100000 in
theorem sp_field_Mul (a b : UInt8) (w0 : World) : Calls Tryz.prog 51 #[U8 a, U8 b] w0 (Ret w0 (U8 (mul a b))) := by
  refine enter (args := [U8 a, U8 b]) Tryz.func51 rfl rfl ?_
  refine startw fun w hS => ?_
  refine rg ?_
  refine asg rfl rfl rfl ?_
  refine wq_then ?_
  refine wc_scope ?_
  refine rg ?_
  refine asg rfl rfl rfl ?_
  refine wq_then ?_
  refine wc_seq ?_
  refine wc_label ?_
  refine wq_then ?_
  refine wc_seq ?_
  refine wc_block ?_
  refine wc_loop (σ := (UInt8 × UInt8 × UInt8 × Nat)) (fun s => [(0, U8 (s.1)), (1, U8 (s.2.1)), (4, U8 (0)), (5, U8 (s.2.2.1))])
    (fun s w => (s.2.1.toNat < 2 ^ s.2.2.2 ∧ mulL s.2.2.2 s.1 s.2.1 s.2.2.1 = mul a b) ∧ St w0 [] [] w) (fun s => s.2.2.2) (a, b, 0, 8) ⟨rfl, rfl, rfl, rfl, trivial⟩ ⟨⟨b.toNat_lt, rfl⟩, hS⟩ ?_
  rintro s w ⟨⟨hk1, hk2⟩, hS⟩
  refine wc_block ?_
  refine wc_seq ?_
  refine wc_block ?_
  refine rg ?_
  refine mv rfl rfl rfl ?_
  refine eqi rfl rfl rfl rfl ?_
  refine asg rfl rfl rfl ?_
  refine wq_then ?_
  refine wc_if rfl (fun hc1 => ?_) (fun hc1 => ?_)
  · skip
    try simp only [SB] at hc1
    have hz : s.2.1 = 0 := UInt8.toNat_inj.1 (by simpa using hc1)
    refine wc_exit ?_
    refine q_block_miss rfl ?_
    refine q_then_exit ?_
    refine q_block_miss rfl ?_
    refine q_then_exit ?_
    refine q_block_hit ?_
    refine wq_then ?_
    refine rg ?_
    refine mv rfl rfl rfl ?_
    refine asg rfl rfl rfl ?_
    refine wq_then ?_
    refine wc_ret ?_
    refine q_scope_ret ?_
    refine fin1 (v := U8 (s.2.2.1)) rfl rfl ?_
    refine ⟨?_, hS.drop⟩
    rw [hz, mulL_zero] at hk2
    rw [hk2]
  · skip
    try simp only [SB] at hc1
    have hz : ¬ s.2.1 = 0 := fun e => hc1 (by rw [e]; rfl)
    obtain ⟨m, hm⟩ : ∃ m, s.2.2.2 = m + 1 := ⟨s.2.2.2 - 1, by have : s.2.2.2 ≠ 0 := (fun e => hz (UInt8.toNat_inj.1 (by rw [e] at hk1; simpa using hk1))); omega⟩
    have hdec : s.2.2.2 - 1 < s.2.2.2 := by omega
    rw [hm] at hk1 hk2
    simp only [mulL, if_neg hz] at hk2
    refine rg ?_
    refine mv rfl rfl rfl ?_
    refine and8 (q := (1 : UInt8)) rfl rfl rfl rfl ?_
    refine eqi rfl rfl rfl rfl ?_
    refine asg rfl rfl rfl ?_
    refine wq_then ?_
    refine wc_if rfl (fun hc2 => ?_) (fun hc2 => ?_)
    · skip
      try simp only [SB] at hc2
      have ho : s.2.1 &&& 1 = 1 := UInt8.toNat_inj.1 (by have := hc2; simp only [UInt8.toNat_and] at this ⊢; simp at this ⊢; omega)
      rw [if_pos ho] at hk2
      have hnext : (shr8 s.2.1 1).toNat < 2 ^ (s.2.2.2 - 1) ∧ mulL (s.2.2.2 - 1) (dbl s.1) (shr8 s.2.1 1) (s.2.2.1 ^^^ s.1) = mul a b := by rw [hm]; exact ⟨shr8_lt hk1, hk2⟩
      refine wc_region ?_
      refine mv rfl rfl rfl ?_
      refine mv rfl rfl rfl ?_
      refine xor8 rfl rfl rfl rfl ?_
      refine asg rfl rfl rfl ?_
      refine q_block_norm ?_
      refine wq_then ?_
      refine wc_region ?_
      refine mv rfl rfl rfl ?_
      refine cv cf70 hS rfl rfl rfl rfl rfl (sp_field_Double (s.1) _) ?_
      intro w hS
      refine mv rfl rfl rfl ?_
      refine shrn8 (1) (by omega) rfl rfl rfl rfl ?_
      refine asg rfl rfl rfl ?_
      refine asg rfl rfl rfl ?_
      refine q_block_norm ?_
      refine again_q (dbl s.1, shr8 s.2.1 1, s.2.2.1 ^^^ s.1, s.2.2.2 - 1) ⟨rfl, rfl, rfl, rfl, trivial⟩ ⟨hnext, hS⟩ hdec
    · skip
      try simp only [SB] at hc2
      have ho : ¬ s.2.1 &&& 1 = 1 := fun e => hc2 (by rw [e]; rfl)
      rw [if_neg ho] at hk2
      have hnext : (shr8 s.2.1 1).toNat < 2 ^ (s.2.2.2 - 1) ∧ mulL (s.2.2.2 - 1) (dbl s.1) (shr8 s.2.1 1) s.2.2.1 = mul a b := by rw [hm]; exact ⟨shr8_lt hk1, hk2⟩
      refine wc_skip ?_
      refine q_block_norm ?_
      refine wq_then ?_
      refine wc_region ?_
      refine mv rfl rfl rfl ?_
      refine cv cf70 hS rfl rfl rfl rfl rfl (sp_field_Double (s.1) _) ?_
      intro w hS
      refine mv rfl rfl rfl ?_
      refine shrn8 (1) (by omega) rfl rfl rfl rfl ?_
      refine asg rfl rfl rfl ?_
      refine asg rfl rfl rfl ?_
      refine q_block_norm ?_
      refine again_q (dbl s.1, shr8 s.2.1 1, s.2.2.1, s.2.2.2 - 1) ⟨rfl, rfl, rfl, rfl, trivial⟩ ⟨hnext, hS⟩ hdec
end Go.Proofs.XZ

/- walks -/
namespace Go.Proofs.XZ
open Go Go.X Go.Proofs
set_option maxRecDepth 100000 in
theorem sp_field_Power (a : UInt8) (k0 : Nat) (k0_ : Int) (w0 : World) (hk0_ : k0_ = (k0 : Int)) (hk0 : k0 < 1000000) : Calls Tryz.prog 135 #[U8 a, I k0_] w0 (Ret w0 (U8 (pow a k0))) := by
  subst hk0_
  refine enter (args := [U8 a, I (k0 : Int)]) Tryz.func135 rfl rfl ?_
  refine startw fun w hS => ?_
  refine rg ?_
  refine asg rfl rfl rfl ?_
  refine wq_then ?_
  refine wc_seq ?_
  refine rg ?_
  refine mv rfl rfl rfl ?_
  refine lss rfl rfl rfl rfl ?_
  refine wq_then ?_
  refine wc_if rfl (fun hc1 => ?_) (fun hc1 => ?_)
  · skip
    try simp only [SB] at hc1
    exfalso; omega
  · skip
    try simp only [SB] at hc1
    refine wc_skip ?_
    refine wq_then ?_
    refine rg ?_
    refine asg rfl rfl rfl ?_
    refine wq_then ?_
    refine wc_seq ?_
    refine wc_block ?_
    refine wc_loop (σ := (UInt8 × Nat × UInt8 × Nat)) (fun s => [(0, U8 (s.1)), (1, I ((s.2.1 : Int))), (4, U8 (0)), (5, U8 (s.2.2.1))])
      (fun s w => (s.2.1 < 2 ^ s.2.2.2 ∧ s.2.1 < 1000000 ∧ powL s.2.2.2 s.1 s.2.1 s.2.2.1 = pow a k0) ∧ St w0 [] [] w) (fun s => s.2.2.2) (a, k0, 1, 64) ⟨rfl, rfl, rfl, rfl, trivial⟩ ⟨⟨by show k0 < 2 ^ 64; omega, hk0, rfl⟩, hS⟩ ?_
    rintro s w ⟨⟨hk1, hk3, hk2⟩, hS⟩
    refine wc_seq ?_
    refine rg ?_
    refine mv rfl rfl rfl ?_
    refine gtr rfl rfl rfl rfl ?_
    refine wq_then ?_
    refine wc_if rfl (fun hc2 => ?_) (fun hc2 => ?_)
    · skip
      try simp only [SB] at hc2
      have hz : ¬ s.2.1 = 0 := by omega
      obtain ⟨m, hm⟩ : ∃ m, s.2.2.2 = m + 1 := ⟨s.2.2.2 - 1, by have : s.2.2.2 ≠ 0 := (fun e => hz (by rw [e] at hk1; simpa using hk1)); omega⟩
      have hdec : s.2.2.2 - 1 < s.2.2.2 := by omega
      have hh : s.2.1 / 2 < 2 ^ (s.2.2.2 - 1) := by rw [hm] at hk1 ⊢; have := hk1; rw [Nat.pow_succ] at this; show _ < 2 ^ m; omega
      rw [hm] at hk2
      simp only [powL, if_neg hz] at hk2
      refine wc_skip ?_
      refine wq_then ?_
      refine wc_seq ?_
      refine wc_block ?_
      refine wc_seq ?_
      refine rg ?_
      refine mv rfl rfl rfl ?_
      refine andi (D := 2) 1 (by decide) (by decide) (by decide) rfl rfl rfl rfl ?_
      refine eqi rfl rfl rfl rfl ?_
      refine wq_then ?_
      refine wc_if rfl (fun hc3 => ?_) (fun hc3 => ?_)
      · skip
        try simp only [SB] at hc3
        have ho : s.2.1 % 2 = 1 := by omega
        rw [if_pos ho] at hk2
        have hnext : s.2.1 / 2 < 2 ^ (s.2.2.2 - 1) ∧ s.2.1 / 2 < 1000000 ∧ powL (s.2.2.2 - 1) (mul s.1 s.1) (s.2.1 / 2) (mul s.2.2.1 s.1) = pow a k0 := ⟨hh, by omega, by rw [hm]; exact hk2⟩
        refine wc_region ?_
        refine mv rfl rfl rfl ?_
        refine mv rfl rfl rfl ?_
        refine cv cf51 hS rfl rfl rfl rfl rfl (sp_field_Mul (s.2.2.1) (s.1) _) ?_
        intro w hS
        refine asg rfl rfl rfl ?_
        refine wq_then ?_
        refine wc_region ?_
        refine mv rfl rfl rfl ?_
        refine mv rfl rfl rfl ?_
        refine cv cf51 hS rfl rfl rfl rfl rfl (sp_field_Mul (s.1) (s.1) _) ?_
        intro w hS
        refine asg rfl rfl rfl ?_
        refine q_block_norm ?_
        refine wq_then ?_
        refine wc_region ?_
        refine mv rfl rfl rfl ?_
        refine shri (D := 2) (by decide) (by decide) (by decide) rfl rfl rfl rfl ?_
        refine asg rfl rfl rfl ?_
        refine again_q (mul s.1 s.1, s.2.1 / 2, mul s.2.2.1 s.1, s.2.2.2 - 1) ⟨rfl, lkI rfl (by first | omega | rfl), rfl, rfl, trivial⟩ ⟨hnext, hS⟩ hdec
      · skip
        try simp only [SB] at hc3
        have ho : ¬ s.2.1 % 2 = 1 := by omega
        rw [if_neg ho] at hk2
        have hnext : s.2.1 / 2 < 2 ^ (s.2.2.2 - 1) ∧ s.2.1 / 2 < 1000000 ∧ powL (s.2.2.2 - 1) (mul s.1 s.1) (s.2.1 / 2) s.2.2.1 = pow a k0 := ⟨hh, by omega, by rw [hm]; exact hk2⟩
        refine wc_skip ?_
        refine wq_then ?_
        refine wc_region ?_
        refine mv rfl rfl rfl ?_
        refine mv rfl rfl rfl ?_
        refine cv cf51 hS rfl rfl rfl rfl rfl (sp_field_Mul (s.1) (s.1) _) ?_
        intro w hS
        refine asg rfl rfl rfl ?_
        refine q_block_norm ?_
        refine wq_then ?_
        refine wc_region ?_
        refine mv rfl rfl rfl ?_
        refine shri (D := 2) (by decide) (by decide) (by decide) rfl rfl rfl rfl ?_
        refine asg rfl rfl rfl ?_
        refine again_q (mul s.1 s.1, s.2.1 / 2, s.2.2.1, s.2.2.2 - 1) ⟨rfl, lkI rfl (by first | omega | rfl), rfl, rfl, trivial⟩ ⟨hnext, hS⟩ hdec
    · skip
      try simp only [SB] at hc2
      have hz : s.2.1 = 0 := by omega
      refine wc_exit ?_
      refine q_then_exit ?_
      refine q_then_exit ?_
      refine q_block_hit ?_
      refine wq_then ?_
      refine rg ?_
      refine mv rfl rfl rfl ?_
      refine asg rfl rfl rfl ?_
      refine wq_then ?_
      refine wc_ret ?_
      refine fin1 (v := U8 (s.2.2.1)) rfl rfl ?_
      refine ⟨?_, hS.drop⟩
      rw [hz, powL_zero] at hk2
      rw [hk2]
end Go.Proofs.XZ

/- walks -/
namespace Go.Proofs.XZ
open Go Go.X Go.Proofs
set_option maxRecDepth 100000 in
theorem sp_keys_Constant (r : Nat) (r_ : Int) (w0 : World) (hr_ : r_ = (r : Int)) (h1 : 1 ≤ r) (h2 : r ≤ 10) : Calls Tryz.prog 131 #[I r_] w0 (Ret w0 (U8 (pow 2 (r - 1)))) := by
  subst hr_
  refine enter (args := [I (r : Int)]) Tryz.func131 rfl rfl ?_
  refine startw fun w hS => ?_
  refine rg ?_
  refine asg rfl rfl rfl ?_
  refine wq_then ?_
  refine wc_seq ?_
  refine rg ?_
  refine mv rfl rfl rfl ?_
  refine lss rfl rfl rfl rfl ?_
  refine mv rfl rfl rfl ?_
  refine spl 5 rfl (fun hb1 => ?_) (fun hb1 => ?_)
  · skip
    try simp only [SB] at hb1
    exfalso; omega
  · skip
    try simp only [SB] at hb1
    refine mv rfl rfl rfl ?_
    refine gtr rfl rfl rfl rfl ?_
    refine pk_f rfl rfl rfl rfl ?_
    refine wq_then ?_
    refine wc_if rfl (fun hc1 => ?_) (fun hc1 => ?_)
    · skip
      try simp only [SB] at hc1
      exfalso; omega
    · skip
      try simp only [SB] at hc1
      refine wc_skip ?_
      refine wq_then ?_
      refine rg ?_
      refine mv rfl rfl rfl ?_
      refine subi (by omega) (by omega) rfl rfl rfl rfl ?_
      refine cv cf135 hS rfl rfl rfl rfl rfl (sp_field_Power (2) ((r - 1)) _ _ (by omega) (by omega)) ?_
      intro w hS
      refine asg rfl rfl rfl ?_
      refine wq_then ?_
      refine wc_ret ?_
      refine fin1 (v := U8 (pow 2 (r - 1))) rfl rfl ?_
      exact ⟨rfl, hS.drop⟩
end Go.Proofs.XZ

/- walks -/
namespace Go.Proofs.XZ
open Go Go.X Go.Proofs
set_option maxRecDepth 100000 in
theorem sp_keys_turned (a : UInt32) (r : Nat) (r_ : Int) (w0 : World) (hr_ : r_ = (r : Int)) (h1 : 1 ≤ r) (h2 : r ≤ 10) : Calls Tryz.prog 101 #[U32 a, I r_] w0 (Ret w0 (U32 (turned a r))) := by
  subst hr_
  refine enter (args := [U32 a, I (r : Int)]) Tryz.func101 rfl rfl ?_
  refine startw fun w hS => ?_
  refine rg ?_
  refine asg rfl rfl rfl ?_
  refine wq_then ?_
  refine rg ?_
  refine mv rfl rfl rfl ?_
  refine cv cf130 hS rfl rfl rfl rfl rfl (sp_math_bits_RotateLeft32 (a) _) ?_
  intro w hS
  refine cv cf129 hS rfl rfl rfl rfl rfl (sp_sbox_Word ((rotl8 a)) _) ?_
  intro w hS
  refine mv rfl rfl rfl ?_
  refine cv cf131 hS rfl rfl rfl rfl rfl (sp_keys_Constant (r) _ _ (by omega) (by omega) (by omega)) ?_
  intro w hS
  refine cvu32 Tryz.underlying62 ⟨_, Tryz.underlying5⟩ rfl rfl rfl ?_
  refine shln32 (24) (by omega) rfl rfl rfl rfl ?_
  refine xor32 rfl rfl rfl rfl ?_
  refine asg rfl rfl rfl ?_
  refine wq_then ?_
  refine wc_ret ?_
  refine fin1 (v := U32 ((sword (rotl8 a)) ^^^ (shl32 (toU32 (((pow 2 (r - 1)).toNat : Int))) 24))) rfl rfl ?_
  exact ⟨rfl, hS.drop⟩
end Go.Proofs.XZ

/- walks -/
namespace Go.Proofs.XZ
open Go Go.X Go.Proofs
set_option maxRecDepth 100000 in
theorem sp_keys_forward (l : V32 4) (r : Nat) (r_ : Int) (w0 : World) (hr_ : r_ = (r : Int)) (hr : r < 10) : Calls Tryz.prog 72 #[.agg (WV l), I r_] w0 (Ret w0 (.agg (WV (fwd l r)))) := by
  subst hr_
  refine enter (args := [.agg (WV l), I (r : Int)]) Tryz.func72 rfl rfl ?_
  refine startw fun w hS => ?_
  refine rg ?_
  refine bxa hS rfl rfl rfl ?_
  intro b2 w hb2 hS
  refine ala zr67 hS rfl rfl ?_
  intro b4 w hb4 hS
  refine wq_then ?_
  refine rg ?_
  refine ian (3) (3) Tryz.underlying67 sz62 rfl rfl rfl rfl (by omega) (by omega) (by omega) ?_
  refine lo 1 sc62 hS rfl rfl rfl rfl (WV_get _ 3 (by omega)) ?_
  refine mv rfl rfl rfl ?_
  refine addi (by omega) (by omega) rfl rfl rfl rfl ?_
  refine cv cf101 hS rfl rfl rfl rfl rfl (sp_keys_turned ((gw l 3)) ((r + 1)) _ _ (by omega) (by omega) (by omega)) ?_
  intro w hS
  refine asg rfl rfl rfl ?_
  refine wq_then ?_
  refine wc_seq ?_
  refine rg ?_
  refine mv rfl rfl rfl ?_
  refine wq_then ?_
  refine wc_block ?_
  refine wc_loop (σ := Nat) (fun k => [(2, Ptr b2 0), (4, Ptr b4 0), (5, U32 ((fwdL l (turned (gw l 3) (r + 1)) k).2)), (12, I ((k : Int)))])
    (fun k w => (k ≤ 4) ∧ St w0 [] [(b4, .cells (WV (Vector.replicate 4 0)) 67), (b2, .cells (WV ((fwdL l (turned (gw l 3) (r + 1)) k).1)) 67)] w) (fun k => 4 - k) 0 ⟨rfl, rfl, rfl, rfl, trivial⟩ ⟨by omega, hS⟩ ?_
  rintro k w ⟨hk, hS⟩
  refine rg ?_
  refine lss rfl rfl rfl rfl ?_
  refine wq_then ?_
  refine wc_seq ?_
  refine wc_if rfl (fun hc1 => ?_) (fun hc1 => ?_)
  · skip
    try simp only [SB] at hc1
    refine wc_skip ?_
    refine wq_then ?_
    refine wc_seq ?_
    refine wc_block ?_
    refine rg ?_
    refine mv rfl rfl rfl ?_
    refine asg rfl rfl rfl ?_
    refine wq_then ?_
    refine rg ?_
    refine mv rfl rfl rfl ?_
    refine ian (k) (k) Tryz.underlying67 sz62 rfl rfl rfl rfl (by omega) (by omega) (by omega) ?_
    refine lo 1 sc62 hS rfl rfl rfl rfl (WV_get _ k (by omega)) ?_
    refine mv rfl rfl rfl ?_
    refine xor32 rfl rfl rfl rfl ?_
    refine ian (k) (k) Tryz.underlying67 sz62 rfl rfl rfl rfl (by omega) (by omega) (by omega) ?_
    refine st 1 sz62 hS rfl rfl rfl rfl rfl rfl (by rw [WV_size]; omega) (WV_set _ _ ((gw ((fwdL l (turned (gw l 3) (r + 1)) k).1) k) ^^^ ((fwdL l (turned (gw l 3) (r + 1)) k).2) : UInt32)) ?_
    intro w hS
    refine wq_then ?_
    refine wc_region ?_
    refine mv rfl rfl rfl ?_
    refine ian (k) (k) Tryz.underlying67 sz62 rfl rfl rfl rfl (by omega) (by omega) (by omega) ?_
    refine lo 1 sc62 hS rfl rfl rfl rfl (WV_get _ k (by omega)) ?_
    refine asg rfl rfl rfl ?_
    refine q_block_norm ?_
    refine wq_then ?_
    refine wc_region ?_
    refine addi (by omega) (by omega) rfl rfl rfl rfl ?_
    refine mv rfl rfl rfl ?_
    refine again_q (k + 1) ⟨rfl, rfl, lkU32 rfl (gw_set_eq _ _ _ (by omega)), lkI rfl (by first | omega | rfl), trivial⟩ ⟨by omega, hS⟩ (by omega)
  · skip
    try simp only [SB] at hc1
    refine wc_exit ?_
    refine q_then_exit ?_
    refine q_then_exit ?_
    refine q_block_hit ?_
    refine wq_then ?_
    refine rg ?_
    refine la 1 ag67 hS rfl rfl rfl rfl (WV_size _) ?_
    refine sa 0 ag67 hS rfl rfl rfl (WV_one _) rfl (WV_size _) (WV_size _) ?_
    intro w hS
    refine wq_then ?_
    refine wc_ret ?_
    refine fin1 (v := .agg (WV ((fwdL l (turned (gw l 3) (r + 1)) k).1))) rfl ⟨_, rfl, lv_a ag67 (hS.get 0 rfl) (WV_size _)⟩ ?_
    refine ⟨?_, hS.drop⟩
    have hk4 : k = 4 := by omega
    subst hk4; rfl
end Go.Proofs.XZ

/- walks -/
namespace Go.Proofs.XZ
open Go Go.X Go.Proofs
set_option maxRecDepth 100000 in
theorem sp_keys_Next (r : Nat) (b : V8 16) (r_ : Int) (w0 : World) (hr_ : r_ = (r : Int)) (hr : r < 10) : Calls Tryz.prog 52 #[I r_, .agg (BV b)] w0 (Ret w0 (.tuple #[.agg (BV (nextK r b)), .bool true])) := by
  subst hr_
  refine enter (args := [I (r : Int), .agg (BV b)]) Tryz.func52 rfl rfl ?_
  refine startw fun w hS => ?_
  refine rg ?_
  refine bxa hS rfl rfl rfl ?_
  intro b3 w hb3 hS
  refine ala zr22 hS rfl rfl ?_
  intro b4 w hb4 hS
  refine asg rfl rfl rfl ?_
  refine wq_then ?_
  refine wc_seq ?_
  refine rg ?_
  refine mv rfl rfl rfl ?_
  refine lss rfl rfl rfl rfl ?_
  refine mv rfl rfl rfl ?_
  refine spl 8 rfl (fun hb1 => ?_) (fun hb1 => ?_)
  · skip
    try simp only [SB] at hb1
    exfalso; omega
  · skip
    try simp only [SB] at hb1
    refine mv rfl rfl rfl ?_
    refine geq rfl rfl rfl rfl ?_
    refine pk_f rfl rfl rfl rfl ?_
    refine wq_then ?_
    refine wc_if rfl (fun hc1 => ?_) (fun hc1 => ?_)
    · skip
      try simp only [SB] at hc1
      exfalso; omega
    · skip
      try simp only [SB] at hc1
      refine wc_skip ?_
      refine wq_then ?_
      refine rg ?_
      refine la 1 ag22 hS rfl rfl rfl rfl (BV_size _) ?_
      refine cv cf73 hS rfl rfl rfl rfl rfl (sp_keys_load (b) _) ?_
      intro w hS
      refine mv rfl rfl rfl ?_
      refine cv cf72 hS rfl rfl rfl rfl rfl (sp_keys_forward ((wds b)) (r) _ _ (by omega) (by omega)) ?_
      intro w hS
      refine cv cf71 hS rfl rfl rfl rfl rfl (sp_keys_store ((fwd (wds b) r)) _) ?_
      intro w hS
      refine sa 0 ag22 hS rfl rfl rfl (BV_one _) rfl (BV_size _) (BV_size _) ?_
      intro w hS
      refine asg rfl rfl rfl ?_
      refine wq_then ?_
      refine wc_ret ?_
      refine fin2 (v := .agg (BV (unw (fwd (wds b) r)))) (u := .bool (true)) rfl ⟨_, rfl, lv_a ag22 (hS.get 0 rfl) (BV_size _)⟩ rfl ?_
      exact ⟨rfl, hS.drop⟩
end Go.Proofs.XZ
