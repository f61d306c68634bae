/- Part 1 of the ground of this seat's proofs: rules of a calculus of walks, and what the functions of the lower layers compute; no conditions beyond those that each statement bears. -/
import Derived.WalkKit
import Derived.Orders
import Derived.LaidEql
import Derived.RangeFuncRecord
import Derived.RangeFuncSeq
import Derived.OrdersIn
import Derived.TacticsIn
set_option linter.unusedVariables false
set_option linter.unusedSimpArgs false
set_option linter.unnecessarySimpa false
namespace Go.X
open Go
abbrev Regs := List (Nat × Value)
def look : Regs → Nat → Option Value
  | [], _ => none
  | (i, v) :: r, t => match Nat.beq i t with
    | true => (match Nat.blt i 1000000 with
      | true => some v
      | false => none)
    | false => look r t
def mk : Regs → Option Value
  | [] => none
  | (i, v) :: r => match Nat.beq i 1000000 with
    | true => some v
    | false => mk r
def ev (l : Regs) : Operand → Option Value
  | .tmp t => look l t
  | .const v => some v
  | .global g => some (.pointer (some ⟨g, 0, none⟩))
  | .func f => some (.func (.func f) #[] #[])
def evs (l : Regs) : List Operand → Option (List Value)
  | [] => some []
  | x :: r => match ev l x, evs l r with
    | some v, some vs => some (v :: vs)
    | _, _ => none
def dfs (l : Regs) : List Deferred := match mk l with
  | some (.int _ D) => [{ target := .collected D.toNat, args := #[] }]
  | _ => []
structure Is (n : Nat) (l : Regs) (a : Act) : Prop where
  size : a.tmps.size = n
  small : n ≤ 1000000
  defers : a.defers = dfs l
  val : ∀ t v, look l t = some v → a.tmps.getD t undef = v
theorem Is.ev {n : Nat} {l : Regs} {a : Act} (h : Is n l a) {x : Operand} {v : Value} (hx : ev l x = some v) : a.eval x = v := by
  cases x with
  | tmp t => exact h.val t v hx
  | const c => simp [X.ev] at hx; subst hx; rfl
  | global g => simp [X.ev] at hx; subst hx; rfl
  | func f => simp [X.ev] at hx; subst hx; rfl
theorem Is.evs {n : Nat} {l : Regs} {a : Act} (h : Is n l a) : ∀ {xs : List Operand} {vs : List Value}, evs l xs = some vs → xs.map a.eval = vs
  | [], vs, hx => by simp [X.evs] at hx; simp [hx]
  | x :: r, vs, hx => by
    simp only [X.evs] at hx
    cases h1 : X.ev l x with
    | none => simp [h1] at hx
    | some v =>
      cases h2 : X.evs l r with
      | none => simp [h1, h2] at hx
      | some vr =>
        simp [h1, h2] at hx
        subst hx
        simp [h.ev h1, h.evs h2]
theorem look_cons_eq (l : Regs) {d : Nat} (v : Value) (h : d < 1000000) : look ((d, v) :: l) d = some v := by
  have : Nat.blt d 1000000 = true := by simp [Nat.blt_eq, h]
  simp [look, this]
theorem look_lt : ∀ {l : Regs} {t : Nat} {v : Value}, look l t = some v → t < 1000000
  | [], _, _, h => by simp [look] at h
  | (i, u) :: r, t, v, h => by
    cases hb : Nat.beq i t with
    | true =>
      cases hc : Nat.blt i 1000000 with
      | true =>
        have e : i = t := Nat.eq_of_beq_eq_true hb
        subst e; simpa [Nat.blt_eq] using hc
      | false => simp [look, hb, hc] at h
    | false => simp [look, hb] at h; exact look_lt h
theorem look_cons_ne (l : Regs) {d t : Nat} (v : Value) (h : d ≠ t) : look ((d, v) :: l) t = look l t := by
  have : Nat.beq d t = false := by
    cases hb : Nat.beq d t with
    | false => rfl
    | true => exact absurd (Nat.eq_of_beq_eq_true hb) h
  simp [look, this]
theorem dfs_cons (l : Regs) {d : Nat} (v : Value) (h : d < 1000000) : dfs ((d, v) :: l) = dfs l := by
  have : Nat.beq d 1000000 = false := by
    cases hb : Nat.beq d 1000000 with
    | false => rfl
    | true => exact absurd (Nat.eq_of_beq_eq_true hb) (by omega)
  unfold dfs; simp only [mk, this]
theorem Is.put {n : Nat} {l : Regs} {a : Act} (h : Is n l a) {d : Nat} (v : Value) (hd : d < n) : Is n ((d, v) :: l) (a.put (some d) v) := by
  refine ⟨by simp [Act.put, h.size], h.small, by rw [dfs_cons l v (Nat.lt_of_lt_of_le hd h.small)]; exact h.defers, fun t u ht => ?_⟩
  have hsz : d < a.tmps.size := by rw [h.size]; exact hd
  by_cases e : d = t
  · subst e
    rw [look_cons_eq l v (Nat.lt_of_lt_of_le hd h.small)] at ht
    simp at ht
    subst ht
    simp [Act.put, hsz]
  · rw [look_cons_ne l v e] at ht
    have := h.val t u ht
    simpa [Act.put, Array.getElem?_setIfInBounds_ne e] using this
def Sub : Regs → Regs → Prop
  | [], _ => True
  | (t, v) :: r, l => look l t = some v ∧ Sub r l
theorem Sub.look {l' l : Regs} (h : Sub l' l) : ∀ {t : Nat} {v : Value}, look l' t = some v → look l t = some v := by
  induction l' with
  | nil => intro t v hv; simp [X.look] at hv
  | cons p r ih =>
    obtain ⟨s, u⟩ := p
    intro t v hv
    by_cases e : s = t
    · subst e
      have h1 := look_lt hv
      rw [look_cons_eq r u h1] at hv; simp at hv; subst hv; exact h.1
    · rw [look_cons_ne r u e] at hv; exact ih h.2 hv
theorem Is.sub {n : Nat} {l l' : Regs} {a : Act} (h : Is n l a) (hs : Sub l' l) (hd : dfs l' = dfs l) : Is n l' a :=
  ⟨h.size, h.small, h.defers.trans hd.symm, fun t v hv => h.val t v (hs.look hv)⟩
def gval (ops : Array Oper) (l : Regs) (o : Oper) : Option Bool :=
  match o.guard with
  | none => some true
  | some (j, want) =>
    match (ops[j]?).bind (·.dst) with
    | some t => match look l t with
      | some (.bool b) => some (b == want)
      | some .nilIface => none
      | some _ => some false
      | none => none
    | none => some false
theorem Is.wanted {n : Nat} {l : Regs} {a : Act} {ops : Array Oper} {o : Oper} {b : Bool} (h : Is n l a) (hg : gval ops l o = some b) :
    Region.wanted o (yielded ops a.tmps) = b := by
  unfold gval at hg
  unfold Region.wanted
  cases hgd : o.guard with
  | none => simp [hgd] at hg ⊢; exact hg
  | some jw =>
    obtain ⟨j, want⟩ := jw
    simp only [hgd] at hg ⊢
    unfold yielded
    cases ht : (ops[j]?).bind (·.dst) with
    | none =>
      simp only [ht] at hg ⊢
      simp at hg
      subst hg; simp
    | some t =>
      simp only [ht, Option.bind_some] at hg ⊢
      cases hl : look l t with
      | none => simp [hl] at hg
      | some v =>
        have hv := h.val t v hl
        simp only [hl] at hg
        by_cases hlt : t < a.tmps.size
        · have hq : a.tmps[t]? = some v := by
            simp [hlt] at hv ⊢; exact hv
          rw [hq]
          cases v <;> simp at hg ⊢ <;> first | exact hg | (subst hg; rfl) | skip
          all_goals (subst hg; cases want <;> simp_all)
        · have hq : a.tmps[t]? = none := Array.getElem?_eq_none (Nat.le_of_not_lt hlt)
          have hu : v = undef := by simp [Array.getD, hlt] at hv; exact hv.symm
          subst hu
          rw [hq]
          simp [undef] at hg ⊢
          subst hg; rfl
abbrev XPost := Exit → Act → World → Prop
def WQ (n : Nat) (Q : XPost) (e : Exit) (l : Regs) (w : World) : Prop := ∀ a, Is n l a → Q e a w
def WK (n : Nat) (K : Act → World → Prop) (l : Regs) (w : World) : Prop := ∀ a, Is n l a → K a w
def XF : XPost := fun _ _ _ => False
section
variable (P : Program) (ops : Array Oper) (n : Nat) (Q : XPost)
def WO (o : Oper) (l : Regs) (w : World) (K : Regs → World → Prop) : Prop :=
  ∀ a, Is n l a →
    if Region.wanted o (yielded ops a.tmps) then o.wp P a w (fun a' w' => ∃ l', Is n l' a' ∧ K l' w') XF
    else ∃ l', Is n l' (a.put o.dst undef) ∧ K l' w
def WL : List Oper → Regs → World → Prop
  | [], l, w => WQ n Q .normal l w
  | o :: r, l, w => WO P ops n o l w (WL r)
def WC (c : Code) (l : Regs) (w : World) : Prop := ∀ a, Is n l a → c.wp P Q a w
end
section
variable {P : Program} {ops : Array Oper} {n : Nat} {Q : XPost} {l : Regs} {w : World}
theorem wp_xf {o : Oper} {a : Act} {w : World} {K K' : Act → World → Prop} (h : ∀ a w, K a w → K' a w) (hh : o.wp P a w K XF) : o.wp P a w K' Q := by
  unfold Oper.wp at *
  generalize (execOp a.eval o).run P w = r at *
  cases r with
  | ok nx w' =>
    cases nx <;> simp only [Oper.upon] at hh ⊢ <;>
      first
        | exact h _ _ hh
        | exact Calls.mono hh (fun e w'' he => by
            cases e
            · exact h _ _ he
            · exact he.elim
            · obtain ⟨_, _, hf⟩ := he; exact hf.elim)
        | exact Rows.mono hh (fun _ _ he => h _ _ he)
  | halt x w' => cases x <;> simp only [Oper.upon] at hh ⊢ <;> exact hh.elim
theorem WL.sound : ∀ {r : List Oper} {l : Regs} {w : World} {a : Act}, WL P ops n Q r l w → Is n l a → wpList P ops Q r a w
  | [], _, _, a, h, hi => h a hi
  | o :: r, l, w, a, h, hi => by
    have h1 := h a hi
    unfold wpList
    split
    · rename_i hw
      rw [if_pos hw] at h1
      exact .inl (wp_xf (fun a' w' ⟨l', hi', hk⟩ => WL.sound hk hi') h1)
    · rename_i hw
      rw [if_neg hw] at h1
      obtain ⟨l', hi', hk⟩ := h1
      exact WL.sound hk hi'
theorem wc_region {id : Nat} {os : List Oper} (h : WL P os.toArray n Q os l w) : WC P n Q (.region id os.toArray false) l w :=
  fun _ hi => wp_region_lit (WL.sound h hi)
theorem wc_seq {x y : Code} (h : WC P n (Exit.then (fun a w => y.wp P Q a w) Q) x l w) : WC P n Q (.seq x y) l w :=
  fun a hi => wp_seq (h a hi)
theorem rg {id : Nat} {os : List Oper} {y : Code} (h : WL P os.toArray n (Exit.then (fun a w => y.wp P Q a w) Q) os l w) :
    WC P n Q (.seq (.region id os.toArray false) y) l w := wc_seq (wc_region h)
theorem nx {y : Code} (h : WC P n Q y l w) : WL P ops n (Exit.then (fun a w => y.wp P Q a w) Q) [] l w := h
theorem wq_then {y : Code} (h : WC P n Q y l w) : WQ n (Exit.then (fun a w => y.wp P Q a w) Q) .normal l w := h
theorem wc_skip (h : WQ n Q .normal l w) : WC P n Q .skip l w := fun a hi => wp_skip (h a hi)
theorem wc_exit {i : Nat} (h : WQ n Q (.exit i) l w) : WC P n Q (.exit i) l w := fun a hi => wp_exit (h a hi)
theorem wc_ret (h : WQ n Q .ret l w) : WC P n Q .ret l w := fun a hi => wp_ret (h a hi)
theorem wc_block {i : Nat} {c : Code} (h : WC P n (Exit.inBlock i Q) c l w) : WC P n Q (.block i c) l w := fun a hi => wp_block (h a hi)
theorem wc_if_t {c : Operand} {x y : Code} (hc : ev l c = some (.bool true)) (h : WC P n Q x l w) : WC P n Q (.cond c x y) l w :=
  fun a hi => wp_cond_true (hi.ev hc) (h a hi)
theorem wc_if_f {c : Operand} {x y : Code} (hc : ev l c = some (.bool false)) (h : WC P n Q y l w) : WC P n Q (.cond c x y) l w :=
  fun a hi => wp_cond_false (hi.ev hc) (h a hi)
theorem wc_if {c : Operand} {x y : Code} {b : Bool} (hc : ev l c = some (.bool b)) (ht : b = true → WC P n Q x l w) (hf : b = false → WC P n Q y l w) :
    WC P n Q (.cond c x y) l w :=
  fun a hi => wp_cond_split (hi.ev hc) (fun e => ht e a hi) (fun e => hf e a hi)
section
variable {K : Act → World → Prop}
theorem q_then_ret (h : WQ n Q .ret l w) : WQ n (Exit.then K Q) .ret l w := h
theorem q_then_exit {i : Nat} (h : WQ n Q (.exit i) l w) : WQ n (Exit.then K Q) (.exit i) l w := h
theorem q_block_ret {i : Nat} (h : WQ n Q .ret l w) : WQ n (Exit.inBlock i Q) .ret l w := h
theorem q_block_norm {i : Nat} (h : WQ n Q .normal l w) : WQ n (Exit.inBlock i Q) .normal l w := h
theorem q_block_hit {i : Nat} (h : WQ n Q .normal l w) : WQ n (Exit.inBlock i Q) (.exit i) l w := fun a hi => by simp only [Exit.inBlock, if_true]; exact h a hi
theorem q_block_miss {i j : Nat} (e : Nat.beq j i = false) (h : WQ n Q (.exit j) l w) : WQ n (Exit.inBlock i Q) (.exit j) l w := fun a hi => by
  have : ¬ j = i := fun e' => by subst e'; simp at e
  simp only [Exit.inBlock, this, if_false]; exact h a hi
end
theorem wp_loop_ghost {σ : Type} {c : Code} {a : Act} (I : σ → Act → World → Prop) (μ : σ → Nat) (s0 : σ) (h₀ : I s0 a w)
    (round : ∀ s a w, I s a w → c.wp P (Exit.then (fun a' w' => ∃ s', I s' a' w' ∧ μ s' < μ s) Q) a w) : (Code.loop c).wp P Q a w := by
  intro b k cs
  have key : ∀ m s a w, μ s = m → I s a w →
      ∃ e a' w', Q e a' w' ∧ Arrives P (lone (b.at a (.code c :: .inLoop c :: k)) cs w) b k cs e a' w' := by
    intro m
    induction m using Nat.strongRecOn with
    | _ m ih =>
      intro s a w hm hI
      obtain ⟨e, a₁, w₁, hq, harr⟩ := round s a w hI b (.inLoop c :: k) cs
      cases e with
      | normal =>
        obtain ⟨s', hI₁, hlt⟩ := hq
        obtain ⟨e₂, a₂, w₂, hq₂, harr₂⟩ := ih (μ s') (hm ▸ hlt) s' a₁ w₁ rfl hI₁
        exact ⟨e₂, a₂, w₂, hq₂, .of_steps (Steps.trans harr (.one step_inLoop)) harr₂⟩
      | exit id => exact ⟨_, a₁, w₁, hq, .pass (x := .inLoop c) rfl (fun _ _ => .inl (by simp)) harr⟩
      | goto l => exact ⟨_, a₁, w₁, hq, .pass (x := .inLoop c) rfl (fun _ _ => .inl (by simp)) harr⟩
      | ret => exact ⟨_, a₁, w₁, hq, .pass (x := .inLoop c) rfl (fun _ _ => .inl (by simp)) harr⟩
      | panic ch => exact ⟨_, a₁, w₁, hq, .pass (x := .inLoop c) rfl (fun _ _ => .inl (by simp)) harr⟩
      | outgrown => exact ⟨_, a₁, w₁, hq, .pass (x := .inLoop c) rfl (fun _ _ => .inl (by simp)) harr⟩
  obtain ⟨e, a', w', hq, harr⟩ := key _ s0 a w rfl h₀
  exact ⟨e, a', w', hq, .of_steps (.one step_loop) harr⟩
def Again {σ : Type} (n : Nat) (lr : σ → Regs) (inv : σ → World → Prop) (μ : σ → Nat) (s : σ) (a : Act) (w : World) : Prop :=
  ∃ s', (Is n (lr s') a ∧ inv s' w) ∧ μ s' < μ s
theorem wc_loop {σ : Type} {c : Code} (lr : σ → Regs) (inv : σ → World → Prop) (μ : σ → Nat) (s0 : σ) (h0 : Sub (lr s0) l) (hi : inv s0 w)
    (round : ∀ s w, inv s w → WC P n (Exit.then (Again n lr inv μ s) Q) c (lr s) w) (hd : dfs (lr s0) = dfs l := by rfl) : WC P n Q (.loop c) l w :=
  fun _ ha => wp_loop_ghost (fun s a w => Is n (lr s) a ∧ inv s w) μ s0 ⟨ha.sub h0 hd, hi⟩ fun s a w ⟨h1, h2⟩ => round s w h2 a h1
theorem again {σ : Type} {lr : σ → Regs} {inv : σ → World → Prop} {μ : σ → Nat} {s : σ} (s' : σ) (h0 : Sub (lr s') l) (hi : inv s' w) (hm : μ s' < μ s) (hd : dfs (lr s') = dfs l := by rfl) :
    WL P ops n (Exit.then (Again n lr inv μ s) Q) [] l w := fun _ ha => ⟨s', ⟨ha.sub h0 hd, hi⟩, hm⟩
theorem again_q {σ : Type} {lr : σ → Regs} {inv : σ → World → Prop} {μ : σ → Nat} {s : σ} (s' : σ) (h0 : Sub (lr s') l) (hi : inv s' w) (hm : μ s' < μ s) (hd : dfs (lr s') = dfs l := by rfl) :
    WQ n (Exit.then (Again n lr inv μ s) Q) .normal l w := fun _ ha => ⟨s', ⟨ha.sub h0 hd, hi⟩, hm⟩
theorem is_args {n : Nat} {args : List Value} (hn : args.length ≤ n) (h6 : n ≤ 1000000) : Is n (args.zipIdx.map fun (v, i) => (i, v)) { tmps := args.toArray ++ Array.replicate (n - args.toArray.size) undef, defers := [] } := by
  have key : ∀ (vs : List Value) (k t : Nat) (v : Value), look ((vs.zipIdx k).map fun (v, i) => (i, v)) t = some v → k ≤ t ∧ vs[t - k]? = some v := by
    intro vs
    induction vs with
    | nil => intro k t v h; simp [look] at h
    | cons u r ih =>
      intro k t v h
      simp only [List.zipIdx_cons, List.map_cons] at h
      by_cases e : k = t
      · subst e
        have h1 := look_lt h
        rw [look_cons_eq _ u h1] at h; simp at h; subst h; simp
      · rw [look_cons_ne _ u e] at h
        obtain ⟨h1, h2⟩ := ih (k + 1) t v h
        refine ⟨by omega, ?_⟩
        have : t - k = (t - (k + 1)) + 1 := by omega
        rw [this]; simpa using h2
  refine ⟨by simp; omega, h6, ?_, ?_⟩
  · have hm : ∀ (vs : List Value) (k : Nat), k + vs.length ≤ 1000000 → mk ((vs.zipIdx k).map fun (v, i) => (i, v)) = none := by
      intro vs
      induction vs with
      | nil => intro k _; simp [mk]
      | cons u r ih =>
        intro k hk
        simp only [List.zipIdx_cons, List.map_cons, List.length_cons] at hk ⊢
        have : Nat.beq k 1000000 = false := by
          cases hb : Nat.beq k 1000000 with
          | false => rfl
          | true => exact absurd (Nat.eq_of_beq_eq_true hb) (by omega)
        simp only [mk, this]
        exact ih (k + 1) (by omega)
    unfold dfs
    rw [hm args 0 (by omega)]
  intro t v ht
  obtain ⟨_, h2⟩ := key args 0 t v ht
  simp only [Nat.sub_zero] at h2
  have hlt : t < args.length := by
    rcases Nat.lt_or_ge t args.length with h | h
    · exact h
    · simp [List.getElem?_eq_none h] at h2
  have h3 : args[t] = v := by rw [List.getElem?_eq_getElem hlt] at h2; simpa using h2
  simp [Array.getElem?_append, hlt, h3]
theorem enter {f : FuncId} {fn : Func} {c : Code} {args : List Value} {w : World} {R : Ending → World → Prop} (hf : P.funcs[f]? = some fn) (hb : fn.body = some c)
    (hn : Nat.ble args.length fn.ntmps = true) (h : WC P fn.ntmps (bodyPost P fn R) c (args.zipIdx.map fun (v, i) => (i, v)) w) (h6 : Nat.ble fn.ntmps 1000000 = true := by rfl) : Calls P f args.toArray w R :=
  calls_of_wp hf hb (h _ (is_args (Nat.le_of_ble_eq_true hn) (Nat.le_of_ble_eq_true h6)))
def Res1 (P : Program) (l : Regs) (w : World) : ResultVar → Value → Prop
  | .tmp t, v => look l t = some v
  | .cell t ty, v => ∃ a, look l t = some (.pointer (some a)) ∧ (loadVar ty a).run P w = .ok v w
def resOf (tmps : Array Value) : ResultVar → Sem Value
  | .tmp t => pure (tmps.getD t undef)
  | .cell a t => do loadVar t (← asAddr (tmps.getD a undef))
theorem results_eq (fn : Func) (tmps : Array Value) : results fn tmps = (do let vs ← fn.results.mapM (resOf tmps); pure (if h : vs.size = 1 then vs[0] else .tuple vs)) := rfl
theorem res_run {l : Regs} {a : Act} (hi : Is n l a) {r : ResultVar} {v : Value} (h : Res1 P l w r v) : (resOf a.tmps r).run P w = .ok v w := by
  cases r with
  | tmp t => have e := hi.val t v h; simp only [resOf, e, Sem.run_pure]
  | cell t ty =>
    obtain ⟨ad, h, hl⟩ := h
    have e := hi.val t _ h
    simp only [resOf, Sem.run_bind, e, asAddr, Sem.run_pure, Result.andThen_ok, hl]
theorem fin1 {fn : Func} {R : Ending → World → Prop} {r : ResultVar} {v : Value} (hr : fn.results = #[r]) (h1 : Res1 P l w r v) (hR : R (.returned v) w) (hd : dfs l = [] := by rfl) :
    WQ n (bodyPost P fn R) .ret l w := fun a hi => by
  refine ⟨hi.defers.trans hd, v, ?_, hR⟩
  have e1 := res_run hi h1
  simp [results_eq, hr, e1]
theorem fin2 {fn : Func} {R : Ending → World → Prop} {r s : ResultVar} {v u : Value} (hr : fn.results = #[r, s]) (h1 : Res1 P l w r v) (h2 : Res1 P l w s u) (hR : R (.returned (.tuple #[v, u])) w) (hd : dfs l = [] := by rfl) :
    WQ n (bodyPost P fn R) .ret l w := fun a hi => by
  refine ⟨hi.defers.trans hd, .tuple #[v, u], ?_, hR⟩
  have e1 := res_run hi h1
  have e2 := res_run hi h2
  simp [results_eq, hr, e1, e2]
theorem fin3 {fn : Func} {R : Ending → World → Prop} {r s t : ResultVar} {v u x : Value} (hr : fn.results = #[r, s, t]) (h1 : Res1 P l w r v) (h2 : Res1 P l w s u) (h3 : Res1 P l w t x) (hR : R (.returned (.tuple #[v, u, x])) w) (hd : dfs l = [] := by rfl) :
    WQ n (bodyPost P fn R) .ret l w := fun a hi => by
  refine ⟨hi.defers.trans hd, .tuple #[v, u, x], ?_, hR⟩
  have e1 := res_run hi h1
  have e2 := res_run hi h2
  have e3 := res_run hi h3
  simp [results_eq, hr, e1, e2, e3]
theorem fin0 {fn : Func} {R : Ending → World → Prop} (hr : fn.results = #[]) (hR : R (.returned (.tuple #[])) w) (hd : dfs l = [] := by rfl) :
    WQ n (bodyPost P fn R) .ret l w := fun a hi => ⟨hi.defers.trans hd, .tuple #[], by simp [results, hr], hR⟩
theorem q_norm_ret {fn : Func} {R : Ending → World → Prop} (h : WQ n (bodyPost P fn R) .ret l w) : WQ n (bodyPost P fn R) .normal l w := h
end
end Go.X
namespace Go.X
open Go
structure St (w0 : World) (F : List Nat) (L : List (Nat × Obj)) (w : World) : Prop where
  os : w.os = w0.os
  tape : w.tape = w0.tape
  output : w.output = w0.output
  size : w0.heap.size ≤ w.heap.size
  frame : ∀ k, k < w0.heap.size → k ∉ F → w.heap[k]? = w0.heap[k]?
  own : ∀ p ∈ L, (p.1 ∈ F ∨ w0.heap.size ≤ p.1) ∧ w.heap[p.1]? = some p.2
  nodup : (L.map Prod.fst).Nodup
theorem al_new (w : World) (o : Obj) : (w.alloc o).heap[w.heap.size]? = some o := by
  show (w.heap.push o)[w.heap.size]? = some o
  simp
theorem al_old (w : World) (o : Obj) (i : Nat) (h : i < w.heap.size) : (w.alloc o).heap[i]? = w.heap[i]? := by
  show (w.heap.push o)[i]? = w.heap[i]?
  rw [Array.getElem?_push, if_neg (Nat.ne_of_lt h)]
section
variable {w0 w w' : World} {F G : List Nat} {L L' : List (Nat × Obj)}
theorem St.refl (w : World) : St w [] [] w := ⟨rfl, rfl, rfl, Nat.le_refl _, fun _ _ _ => rfl, fun _ h => (by cases h), List.nodup_nil⟩
theorem St.start (w : World) (L : List (Nat × Obj)) (h : ∀ p ∈ L, w.heap[p.1]? = some p.2) (hn : (L.map Prod.fst).Nodup) : St w (L.map Prod.fst) L w :=
  ⟨rfl, rfl, rfl, Nat.le_refl _, fun _ _ _ => rfl, fun p hp => ⟨.inl (List.mem_map.2 ⟨p, hp, rfl⟩), h p hp⟩, hn⟩
theorem St.start1 {b : Nat} {o : Obj} (h : w.heap[b]? = some o) : St w [b] [(b, o)] w :=
  St.start w [(b, o)] (fun p hp => by simp at hp; subst hp; exact h) (by simp)
theorem St.lt (h : St w0 F L w) {p : Nat × Obj} (hp : p ∈ L) : p.1 < w.heap.size := (Array.getElem?_eq_some_iff.1 (h.own p hp).2).1
theorem St.get (h : St w0 F L w) (i : Nat) {b : Nat} {o : Obj} (hi : L[i]? = some (b, o)) : w.heap[b]? = some o :=
  (h.own (b, o) (List.mem_of_getElem? hi)).2
theorem St.old (h : St w0 F L w) {b : Nat} {o : Obj} (hb : w0.heap[b]? = some o) (hF : b ∉ F) : w.heap[b]? = some o :=
  (h.frame b (Array.getElem?_eq_some_iff.1 hb).1 hF).trans hb
theorem St.below (h : St w0 [] L w) : RowKit.Below w0.heap.size w0 w := ⟨h.os, h.tape, h.output, h.size, fun k hk => h.frame k hk (by simp)⟩
theorem St.alloc (h : St w0 F L w) (o : Obj) : St w0 F ((w.heap.size, o) :: L) (w.alloc o) := by
  refine ⟨h.os, h.tape, h.output, by have := h.size; simp; omega, fun k hk hF => ?_, fun p hp => ?_, ?_⟩
  · rw [al_old w o k (by have := h.size; omega)]; exact h.frame k hk hF
  · rcases List.mem_cons.1 hp with rfl | hp
    · exact ⟨.inr h.size, al_new w o⟩
    · exact ⟨(h.own p hp).1, (al_old w o p.1 (h.lt hp)).trans (h.own p hp).2⟩
  · simp only [List.map_cons, List.nodup_cons]
    refine ⟨fun hm => ?_, h.nodup⟩
    obtain ⟨p, hp, e⟩ := List.mem_map.1 hm
    have := h.lt hp
    omega
theorem St.drew (h : St w0 F L w) : St w0 F L w.drew := ⟨h.os, h.tape, h.output, h.size, h.frame, h.own, h.nodup⟩
theorem St.drawn (h : St w0 F L w) (d : Nat) : St w0 F L { w with drawn := d } := ⟨h.os, h.tape, h.output, h.size, h.frame, h.own, h.nodup⟩
theorem St.turn (h : St w0 F L w) (i : Nat) {b : Nat} {o o' : Obj} (hi : L[i]? = some (b, o)) (hos : w'.os = w.os) (htp : w'.tape = w.tape) (hou : w'.output = w.output)
    (hsz : w'.heap.size = w.heap.size) (hb : w'.heap[b]? = some o') (hr : ∀ k, k ≠ b → w'.heap[k]? = w.heap[k]?) : St w0 F (L.set i (b, o')) w' := by
  have hm := List.mem_of_getElem? hi
  have hown := (h.own _ hm).1
  have hil : i < L.length := (List.getElem?_eq_some_iff.1 hi).1
  have hfst : (L.set i (b, o')).map Prod.fst = L.map Prod.fst := by
    rw [List.map_set]
    apply List.ext_getElem?
    intro j
    by_cases e : i = j
    · subst e
      rw [List.getElem?_set_self (by simpa using hil), List.getElem?_map, hi]; rfl
    · rw [List.getElem?_set_ne e]
  refine ⟨hos.trans h.os, htp.trans h.tape, hou.trans h.output, by rw [hsz]; exact h.size, fun k hk hF => ?_, fun p hp => ?_, by rw [hfst]; exact h.nodup⟩
  · have : k ≠ b := by
      rintro rfl
      rcases hown with h1 | h1
      · exact hF h1
      · simp only at h1; omega
    rw [hr k this]; exact h.frame k hk hF
  · obtain ⟨j, hj⟩ := List.mem_iff_getElem?.1 hp
    by_cases e : i = j
    · subst e
      rw [List.getElem?_set_self hil] at hj
      simp at hj; subst hj
      exact ⟨hown, hb⟩
    · rw [List.getElem?_set_ne e] at hj
      have hpm := List.mem_of_getElem? hj
      have hne : p.1 ≠ b := by
        intro e'
        have h1 : (L.map Prod.fst)[j]? = some p.1 := by simp [hj]
        have h2 : (L.map Prod.fst)[i]? = some b := by simp [hi]
        have hjl : j < (L.map Prod.fst).length := (List.getElem?_eq_some_iff.1 h1).1
        have hnd := h.nodup
        have := (List.getElem?_inj (by simpa using hil) hnd).1 (by rw [h1, h2, e'] : (L.map Prod.fst)[i]? = (L.map Prod.fst)[j]?)
        exact e this
      exact ⟨(h.own p hpm).1, (hr p.1 hne).trans (h.own p hpm).2⟩
theorem St.setRow (h : St w0 F L w) (i : Nat) {b : Nat} {cs cs' : Array Value} {T : TypeId} {fz : Nat × Nat} (hi : L[i]? = some (b, .cells cs T fz)) :
    St w0 F (L.set i (b, .cells cs' T fz)) (w.setRow b cs') :=
  h.turn i hi rfl rfl rfl (by simp) (setRow_heap w b cs cs' T fz (h.get i hi)) (fun k hk => setRow_other w b k cs' hk)
theorem St.call (h : St w0 F L w) (hc : St w G L' w') (hL : ∀ p ∈ L, p.1 ∉ G) (hG : ∀ g ∈ G, g ∈ F ∨ w0.heap.size ≤ g) (hn : ∀ p ∈ L', p.1 ∈ G ∨ w.heap.size ≤ p.1) :
    St w0 F (L' ++ L) w' := by
  refine ⟨hc.os.trans h.os, hc.tape.trans h.tape, hc.output.trans h.output, Nat.le_trans h.size hc.size, fun k hk hF => ?_, fun p hp => ?_, ?_⟩
  · rw [hc.frame k (Nat.lt_of_lt_of_le hk h.size) (fun hg => (hG k hg).elim hF (by omega))]; exact h.frame k hk hF
  · rcases List.mem_append.1 hp with hp | hp
    · refine ⟨?_, (hc.own p hp).2⟩
      rcases hn p hp with h1 | h1
      · exact hG _ h1
      · exact .inr (Nat.le_trans h.size h1)
    · exact ⟨(h.own p hp).1, (hc.frame p.1 (h.lt hp) (hL p hp)).trans (h.own p hp).2⟩
  · rw [List.map_append, List.nodup_append]
    refine ⟨hc.nodup, h.nodup, ?_⟩
    intro a ha b hb e
    subst e
    obtain ⟨p, hp, rfl⟩ := List.mem_map.1 ha
    obtain ⟨q, hq, e⟩ := List.mem_map.1 hb
    rcases hn p hp with h1 | h1
    · exact hL q hq (e ▸ h1)
    · have := h.lt hq; omega
theorem St.call0 (h : St w0 F L w) (hc : St w [] L' w') : St w0 F (L' ++ L) w' :=
  h.call hc (by simp) (by simp) (fun p hp => (hc.own p hp).1)
theorem St.perm (h : St w0 F L w) {M : List (Nat × Obj)} (hp : M.Perm L) : St w0 F M w :=
  ⟨h.os, h.tape, h.output, h.size, h.frame, fun p hm => h.own p (hp.mem_iff.1 hm), (hp.map Prod.fst).nodup_iff.2 h.nodup⟩
theorem St.sublist (h : St w0 F L w) {M : List (Nat × Obj)} (hp : M.Sublist L) : St w0 F M w :=
  ⟨h.os, h.tape, h.output, h.size, h.frame, fun p hm => h.own p (hp.subset hm), (hp.map Prod.fst).nodup h.nodup⟩
theorem St.drop (h : St w0 F L w) : St w0 F [] w := h.sublist (List.nil_sublist _)
theorem St.call1 (h : St w0 F L w) (i : Nat) {b : Nat} {o o' : Obj} (hi : L[i]? = some (b, o)) (hc : St w [b] ((b, o') :: L') w') :
    St w0 F (L' ++ L.set i (b, o')) w' := by
  have hm := List.mem_of_getElem? hi
  have hil : i < L.length := (List.getElem?_eq_some_iff.1 hi).1
  -- what stays
  have h1 : St w0 F (L.eraseIdx i) w := h.sublist (List.eraseIdx_sublist ..)
  have hnd := h.nodup
  have hL : ∀ p ∈ L.eraseIdx i, p.1 ∉ [b] := by
    intro p hp hb
    simp at hb
    obtain ⟨j, hji, hj⟩ := List.mem_eraseIdx_iff_getElem?.1 hp
    have h2 : (L.map Prod.fst)[j]? = some p.1 := by simp [hj]
    have h3 : (L.map Prod.fst)[i]? = some b := by simp [hi]
    exact hji.symm ((List.getElem?_inj (by simpa using hil) hnd).1 (by rw [h2, h3, hb] : (L.map Prod.fst)[i]? = (L.map Prod.fst)[j]?))
  have h2 := h1.call hc hL (fun g hg => by simp at hg; subst hg; exact (h.own _ hm).1) (fun p hp => (hc.own p hp).1)
  refine h2.perm ?_
  have e1 : (L.set i (b, o')).Perm ((b, o') :: L.eraseIdx i) := by
    have := List.set_eq_take_append_cons_drop (l := L) (i := i) (a := (b, o'))
    rw [this, if_pos hil, List.eraseIdx_eq_take_drop_succ]
    exact List.perm_middle
  exact (List.Perm.append_left L' e1).trans (by simp)
end
end Go.X
namespace Go.X
open Go
abbrev I (x : Int) : Value := .int .i64 x
abbrev U8 (x : UInt8) : Value := .int .u8 (x.toNat : Int)
abbrev U16 (x : UInt16) : Value := .int .u16 (x.toNat : Int)
abbrev U32 (x : UInt32) : Value := .int .u32 (x.toNat : Int)
abbrev U64 (x : UInt64) : Value := .int .u64 (x.toNat : Int)
abbrev Ptr (b off : Nat) : Value := .pointer (some ⟨b, off, none⟩)
theorem wrap_i64 {z : Int} (h1 : -9223372036854775808 ≤ z) (h2 : z < 9223372036854775808) : IntKind.i64.wrap z = z := by
  simp [IntKind.wrap, IntKind.bits, IntKind.signed]
  split <;> omega
theorem wrap_u8 (z : Int) : IntKind.u8.wrap z = z % 256 := by simp [IntKind.wrap, IntKind.bits, IntKind.signed]
theorem wrap_u16 (z : Int) : IntKind.u16.wrap z = z % 65536 := by simp [IntKind.wrap, IntKind.bits, IntKind.signed]
theorem wrap_u32 (z : Int) : IntKind.u32.wrap z = z % 4294967296 := by simp [IntKind.wrap, IntKind.bits, IntKind.signed]
theorem wrap_u64 (z : Int) : IntKind.u64.wrap z = z % 18446744073709551616 := by simp [IntKind.wrap, IntKind.bits, IntKind.signed]
section
variable {P : Program} {ops : Array Oper} {n : Nat} {l : Regs} {w : World} {K : Regs → World → Prop}
variable {d T S : Nat} {ps : String} {af : Array Edge} {g : Option (Nat × Bool)} {x y : Operand} {v u : Value}
theorem WO.val {op : Op} {w' : World} (hg : gval ops l ⟨some d, op, T, ps, af, g⟩ = some true) (hd : Nat.blt d n = true)
    (h : ∀ a, Is n l a → (execOp a.eval ⟨some d, op, T, ps, af, g⟩).run P w = .ok (.value v) w') (k : K ((d, v) :: l) w') :
    WO P ops n ⟨some d, op, T, ps, af, g⟩ l w K := by
  intro a ha
  rw [if_pos (ha.wanted hg)]
  simp only [Oper.wp, h a ha, Oper.upon]
  exact ⟨_, ha.put v (by simpa [Nat.blt_eq] using hd), k⟩
theorem WO.skip_ {op : Op} {w' : World} (hg : gval ops l ⟨none, op, T, ps, af, g⟩ = some true)
    (h : ∀ a, Is n l a → (execOp a.eval ⟨none, op, T, ps, af, g⟩).run P w = .ok .skip w') (k : K l w') :
    WO P ops n ⟨none, op, T, ps, af, g⟩ l w K := by
  intro a ha
  rw [if_pos (ha.wanted hg)]
  simp only [Oper.wp, h a ha, Oper.upon]
  exact ⟨_, ha, k⟩
theorem no {op : Op} (hg : gval ops l ⟨some d, op, T, ps, af, g⟩ = some false) (hd : Nat.blt d n = true) (k : K ((d, undef) :: l) w) :
    WO P ops n ⟨some d, op, T, ps, af, g⟩ l w K := by
  intro a ha
  rw [if_neg (by rw [ha.wanted hg]; simp)]
  exact ⟨_, ha.put undef (by simpa [Nat.blt_eq] using hd), k⟩
theorem mv (hg : gval ops l ⟨some d, .move x, T, ps, af, g⟩ = some true) (hd : Nat.blt d n = true) (hx : ev l x = some v) (k : K ((d, v) :: l) w) :
    WO P ops n ⟨some d, .move x, T, ps, af, g⟩ l w K :=
  WO.val hg hd (fun a ha => by simp only [execOp, ha.ev hx, Sem.run_pure]) k
theorem asg (hg : gval ops l ⟨some d, .assign x, T, ps, af, g⟩ = some true) (hd : Nat.blt d n = true) (hx : ev l x = some v) (k : K ((d, v) :: l) w) :
    WO P ops n ⟨some d, .assign x, T, ps, af, g⟩ l w K :=
  WO.val hg hd (fun a ha => by simp only [execOp, ha.ev hx, Sem.run_pure]) k
theorem pk_t {c : Operand} (hg : gval ops l ⟨some d, .pick c x y, T, ps, af, g⟩ = some true) (hd : Nat.blt d n = true) (hc : ev l c = some (.bool true)) (hx : ev l x = some v) (k : K ((d, v) :: l) w) :
    WO P ops n ⟨some d, .pick c x y, T, ps, af, g⟩ l w K :=
  WO.val hg hd (fun a ha => by simp [execOp, ha.ev hc, ha.ev hx, asBool]) k
theorem pk_f {c : Operand} (hg : gval ops l ⟨some d, .pick c x y, T, ps, af, g⟩ = some true) (hd : Nat.blt d n = true) (hc : ev l c = some (.bool false)) (hy : ev l y = some v) (k : K ((d, v) :: l) w) :
    WO P ops n ⟨some d, .pick c x y, T, ps, af, g⟩ l w K :=
  WO.val hg hd (fun a ha => by simp [execOp, ha.ev hc, ha.ev hy, asBool]) k
theorem ext {i : Nat} {vs : Array Value} (hg : gval ops l ⟨some d, .extract x i, T, ps, af, g⟩ = some true) (hd : Nat.blt d n = true) (hx : ev l x = some (.tuple vs)) (hv : vs[i]? = some v) (k : K ((d, v) :: l) w) :
    WO P ops n ⟨some d, .extract x i, T, ps, af, g⟩ l w K :=
  WO.val hg hd (fun a ha => by simp [execOp, ha.ev hx, Instr.extract, hv]) k
theorem notb {b : Bool} (hg : gval ops l ⟨some d, .unOp .not S x, T, ps, af, g⟩ = some true) (hd : Nat.blt d n = true) (hx : ev l x = some (.bool b)) (k : K ((d, .bool (!b)) :: l) w) :
    WO P ops n ⟨some d, .unOp .not S x, T, ps, af, g⟩ l w K :=
  WO.val hg hd (fun a ha => by simp [execOp, ha.ev hx, Op.unary]) k
theorem mkf {fn : Fn} {cs : List Operand} {vs : List Value} (hg : gval ops l ⟨some d, .makeFunc fn #[] cs.toArray, T, ps, af, g⟩ = some true) (hd : Nat.blt d n = true) (hx : evs l cs = some vs) (k : K ((d, .func fn #[] vs.toArray) :: l) w) :
    WO P ops n ⟨some d, .makeFunc fn #[] cs.toArray, T, ps, af, g⟩ l w K :=
  WO.val hg hd (fun a ha => by simp [execOp, ha.evs hx, Instr.makeFunc]) k
theorem mki (ht : P.concrete S = true) (hg : gval ops l ⟨some d, .makeInterface S x, T, ps, af, g⟩ = some true) (hd : Nat.blt d n = true) (hx : ev l x = some v) (k : K ((d, .iface S v) :: l) w) :
    WO P ops n ⟨some d, .makeInterface S x, T, ps, af, g⟩ l w K :=
  WO.val hg hd (fun a ha => by simp only [execOp, ha.ev hx, Sem.run_bind, run_makeInterface w S v ht, Result.andThen_ok, Sem.run_pure]) k
theorem nilp {ad : Addr} (hg : gval ops l ⟨some d, .nilCheck x, T, ps, af, g⟩ = some true) (hd : Nat.blt d n = true) (hx : ev l x = some (.pointer (some ad))) (k : K ((d, .pointer (some ad)) :: l) w) :
    WO P ops n ⟨some d, .nilCheck x, T, ps, af, g⟩ l w K :=
  WO.val hg hd (fun a ha => by simp [execOp, ha.ev hx]) k
theorem lss {R : Nat} {kd : IntKind} {p q : Int} (hg : gval ops l ⟨some d, .binOp .lss S x y R, T, ps, af, g⟩ = some true) (hd : Nat.blt d n = true) (hx : ev l x = some (.int kd p)) (hy : ev l y = some (.int kd q)) (k : K ((d, .bool (decide (p < q))) :: l) w) :
    WO P ops n ⟨some d, .binOp .lss S x y R, T, ps, af, g⟩ l w K :=
  WO.val hg hd (fun a ha => by
    simp only [execOp, ha.ev hx, ha.ev hy, Sem.run_bind]
    simp [eqGuard, binOp, Op.intCmp]) k
theorem leq {R : Nat} {kd : IntKind} {p q : Int} (hg : gval ops l ⟨some d, .binOp .leq S x y R, T, ps, af, g⟩ = some true) (hd : Nat.blt d n = true) (hx : ev l x = some (.int kd p)) (hy : ev l y = some (.int kd q)) (k : K ((d, .bool (decide (p ≤ q))) :: l) w) :
    WO P ops n ⟨some d, .binOp .leq S x y R, T, ps, af, g⟩ l w K :=
  WO.val hg hd (fun a ha => by
    simp only [execOp, ha.ev hx, ha.ev hy, Sem.run_bind]
    simp [eqGuard, binOp, Op.intCmp]) k
theorem gtr {R : Nat} {kd : IntKind} {p q : Int} (hg : gval ops l ⟨some d, .binOp .gtr S x y R, T, ps, af, g⟩ = some true) (hd : Nat.blt d n = true) (hx : ev l x = some (.int kd p)) (hy : ev l y = some (.int kd q)) (k : K ((d, .bool (decide (p > q))) :: l) w) :
    WO P ops n ⟨some d, .binOp .gtr S x y R, T, ps, af, g⟩ l w K :=
  WO.val hg hd (fun a ha => by
    simp only [execOp, ha.ev hx, ha.ev hy, Sem.run_bind]
    simp [eqGuard, binOp, Op.intCmp]) k
theorem geq {R : Nat} {kd : IntKind} {p q : Int} (hg : gval ops l ⟨some d, .binOp .geq S x y R, T, ps, af, g⟩ = some true) (hd : Nat.blt d n = true) (hx : ev l x = some (.int kd p)) (hy : ev l y = some (.int kd q)) (k : K ((d, .bool (decide (p ≥ q))) :: l) w) :
    WO P ops n ⟨some d, .binOp .geq S x y R, T, ps, af, g⟩ l w K :=
  WO.val hg hd (fun a ha => by
    simp only [execOp, ha.ev hx, ha.ev hy, Sem.run_bind]
    simp [eqGuard, binOp, Op.intCmp]) k
theorem eqi {R : Nat} {kd : IntKind} {p q : Int} (hg : gval ops l ⟨some d, .binOp .eql S x y R, T, ps, af, g⟩ = some true) (hd : Nat.blt d n = true) (hx : ev l x = some (.int kd p)) (hy : ev l y = some (.int kd q)) (k : K ((d, .bool (p == q)) :: l) w) :
    WO P ops n ⟨some d, .binOp .eql S x y R, T, ps, af, g⟩ l w K :=
  WO.val hg hd (fun a ha => by
    simp only [execOp, ha.ev hx, ha.ev hy, Sem.run_bind]
    simp [eqGuard, binOp, Op.intCmp]) k
theorem nei {R : Nat} {kd : IntKind} {p q : Int} (hg : gval ops l ⟨some d, .binOp .neq S x y R, T, ps, af, g⟩ = some true) (hd : Nat.blt d n = true) (hx : ev l x = some (.int kd p)) (hy : ev l y = some (.int kd q)) (k : K ((d, .bool (p != q)) :: l) w) :
    WO P ops n ⟨some d, .binOp .neq S x y R, T, ps, af, g⟩ l w K :=
  WO.val hg hd (fun a ha => by
    simp only [execOp, ha.ev hx, ha.ev hy, Sem.run_bind]
    simp [eqGuard, binOp, Op.intCmp]) k
theorem eqpn {R : Nat} {ad : Option Addr} {e : Nat} (hu : P.underlying S = some (.pointer e)) (hg : gval ops l ⟨some d, .binOp .eql S x y R, T, ps, af, g⟩ = some true) (hd : Nat.blt d n = true) (hx : ev l x = some (.pointer ad)) (hy : ev l y = some (.pointer none)) (k : K ((d, .bool ad.isNone) :: l) w) :
    WO P ops n ⟨some d, .binOp .eql S x y R, T, ps, af, g⟩ l w K :=
  WO.val hg hd (fun a ha => by
    simp only [execOp, ha.ev hx, ha.ev hy, Sem.run_bind]
    have hp : P.underlying S = some (.pointer (P.pointee S)) := by simp [Program.pointee, hu]
    simp [eqGuard_at_pointer, run_eql_pointer_nil w S _ hp]) k
theorem nepn {R : Nat} {ad : Option Addr} {e : Nat} (hu : P.underlying S = some (.pointer e)) (hg : gval ops l ⟨some d, .binOp .neq S x y R, T, ps, af, g⟩ = some true) (hd : Nat.blt d n = true) (hx : ev l x = some (.pointer ad)) (hy : ev l y = some (.pointer none)) (k : K ((d, .bool (!ad.isNone)) :: l) w) :
    WO P ops n ⟨some d, .binOp .neq S x y R, T, ps, af, g⟩ l w K :=
  WO.val hg hd (fun a ha => by
    simp only [execOp, ha.ev hx, ha.ev hy, Sem.run_bind]
    have hp : P.underlying S = some (.pointer (P.pointee S)) := by simp [Program.pointee, hu]
    simp [eqGuard_at_pointer, run_neq_pointer_nil w S _ hp]) k
theorem addi {R : Nat} {p q : Int} (h1 : -9223372036854775808 ≤ p + q) (h2 : p + q < 9223372036854775808) (hg : gval ops l ⟨some d, .binOp .add S x y R, T, ps, af, g⟩ = some true) (hd : Nat.blt d n = true) (hx : ev l x = some (I p)) (hy : ev l y = some (I q)) (k : K ((d, I (p + q)) :: l) w) :
    WO P ops n ⟨some d, .binOp .add S x y R, T, ps, af, g⟩ l w K :=
  WO.val hg hd (fun a ha => by
    simp only [execOp, ha.ev hx, ha.ev hy, Sem.run_bind]
    simp [eqGuard, binOp, Op.intArith, wrap_i64 h1 h2]) k
theorem subi {R : Nat} {p q : Int} (h1 : -9223372036854775808 ≤ p - q) (h2 : p - q < 9223372036854775808) (hg : gval ops l ⟨some d, .binOp .sub S x y R, T, ps, af, g⟩ = some true) (hd : Nat.blt d n = true) (hx : ev l x = some (I p)) (hy : ev l y = some (I q)) (k : K ((d, I (p - q)) :: l) w) :
    WO P ops n ⟨some d, .binOp .sub S x y R, T, ps, af, g⟩ l w K :=
  WO.val hg hd (fun a ha => by
    simp only [execOp, ha.ev hx, ha.ev hy, Sem.run_bind]
    simp [eqGuard, binOp, Op.intArith, wrap_i64 h1 h2]) k
theorem muli {R : Nat} {p q : Int} (h1 : -9223372036854775808 ≤ p * q) (h2 : p * q < 9223372036854775808) (hg : gval ops l ⟨some d, .binOp .mul S x y R, T, ps, af, g⟩ = some true) (hd : Nat.blt d n = true) (hx : ev l x = some (I p)) (hy : ev l y = some (I q)) (k : K ((d, I (p * q)) :: l) w) :
    WO P ops n ⟨some d, .binOp .mul S x y R, T, ps, af, g⟩ l w K :=
  WO.val hg hd (fun a ha => by
    simp only [execOp, ha.ev hx, ha.ev hy, Sem.run_bind]
    simp [eqGuard, binOp, Op.intArith, wrap_i64 h1 h2]) k
theorem quoi {R : Nat} {p q : Int} (h1 : 0 ≤ p) (h2 : 0 < q) (h4 : p < 9223372036854775808) (hg : gval ops l ⟨some d, .binOp .quo S x y R, T, ps, af, g⟩ = some true) (hd : Nat.blt d n = true) (hx : ev l x = some (I p)) (hy : ev l y = some (I q)) (k : K ((d, I (p / q)) :: l) w) :
    WO P ops n ⟨some d, .binOp .quo S x y R, T, ps, af, g⟩ l w K :=
  WO.val hg hd (fun a ha => by
    simp only [execOp, ha.ev hx, ha.ev hy, Sem.run_bind]
    have h3 : p.tdiv q = p / q := Int.tdiv_eq_ediv_of_nonneg h1
    have h5 : p / q ≤ p := Int.ediv_le_self _ h1
    have h6 : 0 ≤ p / q := Int.ediv_nonneg h1 (by omega)
    simp [eqGuard, binOp, Op.intDiv, Int.ne_of_gt h2, h3, wrap_i64 (z := p / q) (by omega) (by omega)]) k
theorem remi {R : Nat} {p q : Int} (h1 : 0 ≤ p) (h2 : 0 < q) (hg : gval ops l ⟨some d, .binOp .rem S x y R, T, ps, af, g⟩ = some true) (hd : Nat.blt d n = true) (hx : ev l x = some (I p)) (hy : ev l y = some (I q)) (k : K ((d, I (p % q)) :: l) w) :
    WO P ops n ⟨some d, .binOp .rem S x y R, T, ps, af, g⟩ l w K :=
  WO.val hg hd (fun a ha => by
    simp only [execOp, ha.ev hx, ha.ev hy, Sem.run_bind]
    have h3 : p.tmod q = p % q := Int.tmod_eq_emod_of_nonneg h1
    simp [eqGuard, binOp, Op.intDiv, Int.ne_of_gt h2, h3]) k
theorem shri {R : Nat} {p q : Int} {kd : IntKind} {D : Int} (h1 : 0 ≤ q) (h2 : q ≤ 62) (hD : (2:Int) ^ q.toNat = D) (hg : gval ops l ⟨some d, .binOp .shr S x y R, T, ps, af, g⟩ = some true) (hd : Nat.blt d n = true) (hx : ev l x = some (I p)) (hy : ev l y = some (.int kd q)) (k : K ((d, I (p / D)) :: l) w) :
    WO P ops n ⟨some d, .binOp .shr S x y R, T, ps, af, g⟩ l w K :=
  WO.val hg hd (fun a ha => by
    simp only [execOp, ha.ev hx, ha.ev hy, Sem.run_bind]
    have h3 : min q.toNat 64 = q.toNat := by omega
    have h4 : ¬ q < 0 := by omega
    simp only [eqGuard, binOp, Op.shift, h4, if_false, Sem.run_pure, IntKind.bits, h3, ← hD, Result.andThen_ok]
    simp [Int.fdiv_eq_ediv_of_nonneg _ (Int.pow_nonneg (show (0:Int) ≤ 2 by omega))]) k
theorem shli {R : Nat} {p q : Int} {kd : IntKind} {D : Int} (h1 : 0 ≤ q) (h2 : q ≤ 62) (hD : (2:Int) ^ q.toNat = D) (h5 : -9223372036854775808 ≤ p * D) (h6 : p * D < 9223372036854775808) (hg : gval ops l ⟨some d, .binOp .shl S x y R, T, ps, af, g⟩ = some true) (hd : Nat.blt d n = true) (hx : ev l x = some (I p)) (hy : ev l y = some (.int kd q)) (k : K ((d, I (p * D)) :: l) w) :
    WO P ops n ⟨some d, .binOp .shl S x y R, T, ps, af, g⟩ l w K :=
  WO.val hg hd (fun a ha => by
    simp only [execOp, ha.ev hx, ha.ev hy, Sem.run_bind]
    have h3 : min q.toNat 64 = q.toNat := by omega
    have h4 : ¬ q < 0 := by omega
    subst hD
    simp [eqGuard, binOp, Op.shift, h4, IntKind.bits, h3, wrap_i64 h5 h6]) k
theorem ofInt_mask (z : Int) (k : Nat) (hk : k < 64) : ((BitVec.ofInt 64 z &&& BitVec.ofInt 64 ((2 ^ k - 1 : Nat) : Int)).toNat : Int) = z % (2 ^ k : Nat) := by
  rw [BitVec.toNat_and]
  have e2 : (BitVec.ofInt 64 ((2 ^ k - 1 : Nat) : Int)).toNat = 2 ^ k - 1 := by
    rw [BitVec.ofInt_natCast, BitVec.toNat_ofNat]
    have h1 : (2:Nat) ^ k < 2 ^ 64 := Nat.pow_lt_pow_right (by omega) hk
    exact Nat.mod_eq_of_lt (by omega)
  rw [e2, Nat.and_two_pow_sub_one_eq_mod, BitVec.toNat_ofInt]
  have h0 : (0:Int) ≤ z % (2 ^ 64 : Nat) := Int.emod_nonneg _ (by decide)
  have hd : ((2 ^ k : Nat) : Int) ∣ ((2 ^ 64 : Nat) : Int) := by
    refine Int.natCast_dvd_natCast.2 (Nat.pow_dvd_pow 2 (by omega))
  rw [Int.natCast_emod, Int.toNat_of_nonneg h0, Int.emod_emod_of_dvd _ hd]
theorem ofInt_nmask (z : Int) (k : Nat) (hk : k < 64) : ((BitVec.ofInt 64 z &&& ~~~ BitVec.ofInt 64 ((2 ^ k - 1 : Nat) : Int)).toNat : Int) = z % (2 ^ 64 : Nat) - z % (2 ^ k : Nat) := by
  have h1 := ofInt_mask z k hk
  have key : ∀ (a b : BitVec 64), (a &&& b).toNat + (a &&& ~~~ b).toNat = a.toNat := by
    intro a b
    have dj : (a &&& b) &&& (a &&& ~~~ b) = 0#64 := by
      apply BitVec.eq_of_getLsbD_eq; intro i hi
      simp only [BitVec.getLsbD_and, BitVec.getLsbD_not, hi, decide_true, Bool.true_and, BitVec.getLsbD_zero]
      cases a.getLsbD i <;> cases b.getLsbD i <;> rfl
    rw [← BitVec.toNat_add_of_and_eq_zero dj, BitVec.add_eq_or_of_and_eq_zero _ _ dj]
    congr 1
    apply BitVec.eq_of_getLsbD_eq; intro i hi
    simp only [BitVec.getLsbD_and, BitVec.getLsbD_or, BitVec.getLsbD_not, hi, decide_true, Bool.true_and]
    cases a.getLsbD i <;> cases b.getLsbD i <;> rfl
  have h2 := key (BitVec.ofInt 64 z) (BitVec.ofInt 64 ((2 ^ k - 1 : Nat) : Int))
  rw [BitVec.toNat_ofInt (n := 64) (i := z)] at h2
  have h0 : (0:Int) ≤ z % (2 ^ 64 : Nat) := Int.emod_nonneg _ (by decide)
  omega
theorem andi {R : Nat} {p q : Int} {D : Int} (k2 : Nat) (hk : k2 < 63) (hDk : ((2 ^ k2 : Nat) : Int) = D) (hq : q = D - 1) (hg : gval ops l ⟨some d, .binOp .and S x y R, T, ps, af, g⟩ = some true) (hd : Nat.blt d n = true) (hx : ev l x = some (I p)) (hy : ev l y = some (I q)) (k : K ((d, I (p % D)) :: l) w) :
    WO P ops n ⟨some d, .binOp .and S x y R, T, ps, af, g⟩ l w K :=
  WO.val hg hd (fun a ha => by
    simp only [execOp, ha.ev hx, ha.ev hy, Sem.run_bind]
    have hD' := ofInt_mask p k2 (by omega)
    have hq' : q = ((2 ^ k2 - 1 : Nat) : Int) := by have := Nat.one_le_two_pow (n := k2); omega
    have h63 : (2:Nat) ^ k2 ≤ 2 ^ 63 := Nat.pow_le_pow_right (by omega) (by omega)
    have b1 : 0 ≤ p % ((2 ^ k2 : Nat) : Int) := Int.emod_nonneg _ (by have := Nat.one_le_two_pow (n := k2); omega)
    have b2 : p % ((2 ^ k2 : Nat) : Int) < ((2 ^ k2 : Nat) : Int) := Int.emod_lt_of_pos _ (by have := Nat.one_le_two_pow (n := k2); omega)
    subst hDk
    rw [hq']
    have e : IntKind.i64.wrap ((BitVec.ofInt 64 p &&& BitVec.ofInt 64 ((2 ^ k2 - 1 : Nat) : Int)).toNat : Int) = p % ((2 ^ k2 : Nat) : Int) := by
      rw [hD', wrap_i64 (by omega) (by omega)]
    exact congrArg (fun z => Result.ok (Next.value (Value.int .i64 z)) w) e) k
theorem andni {R : Nat} {p q : Int} {D : Int} (k2 : Nat) (hk : k2 < 63) (hDk : ((2 ^ k2 : Nat) : Int) = D) (hq : q = D - 1) (h5 : -9223372036854775808 ≤ p) (h6 : p < 9223372036854775808) (hg : gval ops l ⟨some d, .binOp .andNot S x y R, T, ps, af, g⟩ = some true) (hd : Nat.blt d n = true) (hx : ev l x = some (I p)) (hy : ev l y = some (I q)) (k : K ((d, I (p - p % D)) :: l) w) :
    WO P ops n ⟨some d, .binOp .andNot S x y R, T, ps, af, g⟩ l w K :=
  WO.val hg hd (fun a ha => by
    simp only [execOp, ha.ev hx, ha.ev hy, Sem.run_bind]
    have hD' := ofInt_nmask p k2 (by omega)
    have hq' : q = ((2 ^ k2 - 1 : Nat) : Int) := by have := Nat.one_le_two_pow (n := k2); omega
    have h63 : (2:Nat) ^ k2 ≤ 2 ^ 63 := Nat.pow_le_pow_right (by omega) (by omega)
    have b1 : 0 ≤ p % ((2 ^ k2 : Nat) : Int) := Int.emod_nonneg _ (by have := Nat.one_le_two_pow (n := k2); omega)
    have b2 : p % ((2 ^ k2 : Nat) : Int) < ((2 ^ k2 : Nat) : Int) := Int.emod_lt_of_pos _ (by have := Nat.one_le_two_pow (n := k2); omega)
    subst hDk
    rw [hq']
    have hdv : ((2 ^ k2 : Nat) : Int) ∣ (2 ^ 63 : Int) := by
      have := Int.natCast_dvd_natCast.2 (Nat.pow_dvd_pow 2 (show k2 ≤ 63 by omega)); simpa using this
    have hw : IntKind.i64.wrap (p % ((2 ^ 64 : Nat) : Int) - p % ((2 ^ k2 : Nat) : Int)) = p - p % ((2 ^ k2 : Nat) : Int) := by
      have hge : -9223372036854775808 ≤ p - p % ((2 ^ k2 : Nat) : Int) := by
        obtain ⟨c, hc⟩ := hdv
        have e1 : p % ((2 ^ k2 : Nat) : Int) = p - ((2 ^ k2 : Nat) : Int) * (p / ((2 ^ k2 : Nat) : Int)) := Int.emod_def ..
        have e2 : -c ≤ p / ((2 ^ k2 : Nat) : Int) := by
          refine (Int.le_ediv_iff_mul_le (by have := Nat.one_le_two_pow (n := k2); omega)).2 ?_
          rw [Int.neg_mul, Int.mul_comm c]; omega
        have e3 : ((2 ^ k2 : Nat) : Int) * -c ≤ ((2 ^ k2 : Nat) : Int) * (p / ((2 ^ k2 : Nat) : Int)) := Int.mul_le_mul_of_nonneg_left e2 (by omega)
        rw [Int.mul_neg] at e3
        omega
      generalize p % ((2 ^ k2 : Nat) : Int) = r at hge b1
      simp [IntKind.wrap, IntKind.bits, IntKind.signed]
      split <;> omega
    have e : IntKind.i64.wrap ((BitVec.ofInt 64 p &&& ~~~ BitVec.ofInt 64 ((2 ^ k2 - 1 : Nat) : Int)).toNat : Int) = p - p % ((2 ^ k2 : Nat) : Int) := by rw [hD', hw]
    exact congrArg (fun z => Result.ok (Next.value (Value.int .i64 z)) w) e) k
def shl8 (x : UInt8) (m : Nat) : UInt8 := .ofNat (x.toNat * 2 ^ m)
def shr8 (x : UInt8) (m : Nat) : UInt8 := .ofNat (x.toNat / 2 ^ m)
theorem shl8_wrap (x : UInt8) (m : Nat) : IntKind.u8.wrap ((x.toNat : Int) * 2 ^ (min m 8)) = ((shl8 x m).toNat : Int) := by
  rw [wrap_u8, shl8, UInt8.toNat_ofNat']
  have e : ((x.toNat : Int) * 2 ^ (min m 8)) = ((x.toNat * 2 ^ (min m 8) : Nat) : Int) := by simp
  rw [e]
  by_cases h : m ≤ 8
  · rw [Nat.min_eq_left h]; omega
  · rw [Nat.min_eq_right (by omega)]
    have h1 : (2:Nat) ^ m = 2 ^ 8 * 2 ^ (m - 8) := by rw [← Nat.pow_add]; congr 1; omega
    have h2 : x.toNat * 2 ^ m % 2 ^ 8 = 0 := by rw [h1, ← Nat.mul_assoc, Nat.mul_comm x.toNat, Nat.mul_assoc]; exact Nat.mul_mod_right _ _
    have h3 : x.toNat * 2 ^ 8 % 2 ^ 8 = 0 := Nat.mul_mod_left _ _
    omega
theorem shr8_eq (x : UInt8) (m : Nat) : Int.fdiv (x.toNat : Int) (2 ^ (min m 8)) = ((shr8 x m).toNat : Int) := by
  have hlt := x.toNat_lt
  have e : Int.fdiv (x.toNat : Int) (2 ^ (min m 8)) = ((x.toNat / 2 ^ (min m 8) : Nat) : Int) := by
    rw [Int.fdiv_eq_ediv_of_nonneg _ (Int.pow_nonneg (by omega))]; simp
  rw [e, shr8, UInt8.toNat_ofNat']
  have hle : x.toNat / 2 ^ m ≤ x.toNat := Nat.div_le_self _ _
  rw [Nat.mod_eq_of_lt (by omega)]
  by_cases h : m ≤ 8
  · rw [Nat.min_eq_left h]
  · rw [Nat.min_eq_right (by omega)]
    have h1 : (2:Nat) ^ 8 ≤ 2 ^ m := Nat.pow_le_pow_right (by omega) (by omega)
    rw [Nat.div_eq_of_lt (by omega), Nat.div_eq_of_lt (by omega)]
theorem ofInt8 (x : UInt8) : BitVec.ofInt 8 (x.toNat : Int) = x.toBitVec := by
  rw [BitVec.ofInt_natCast]; exact BitVec.eq_of_toNat_eq (by simp)
def toU8 (z : Int) : UInt8 := .ofNat (z % 256).toNat
theorem toU8_wrap (z : Int) : IntKind.u8.wrap z = ((toU8 z).toNat : Int) := by
  rw [wrap_u8, toU8, UInt8.toNat_ofNat']; omega
theorem wrap_nat8 (x : UInt8) : IntKind.u8.wrap (x.toNat : Int) = (x.toNat : Int) := by rw [wrap_u8]; have := x.toNat_lt; omega
theorem and8 {R : Nat} {p q : UInt8} (hg : gval ops l ⟨some d, .binOp .and S x y R, T, ps, af, g⟩ = some true) (hd : Nat.blt d n = true) (hx : ev l x = some (U8 p)) (hy : ev l y = some (U8 q)) (k : K ((d, U8 (p &&& q)) :: l) w) :
    WO P ops n ⟨some d, .binOp .and S x y R, T, ps, af, g⟩ l w K :=
  WO.val hg hd (fun a ha => by
    simp only [execOp, ha.ev hx, ha.ev hy, Sem.run_bind]
    simp only [eqGuard, binOp, Op.intBits, IntKind.bits, ofInt8, ne_eq, not_true_eq_false, if_false, Bool.not_false, if_true, Sem.run_pure, Result.andThen_ok]
    have e : ((p &&& q : UInt8).toNat : Int) = IntKind.u8.wrap ((p &&& q : UInt8).toNat : Int) := (wrap_nat8 _).symm
    simp only [U8]
    rw [e]
    rfl) k
theorem or8 {R : Nat} {p q : UInt8} (hg : gval ops l ⟨some d, .binOp .or S x y R, T, ps, af, g⟩ = some true) (hd : Nat.blt d n = true) (hx : ev l x = some (U8 p)) (hy : ev l y = some (U8 q)) (k : K ((d, U8 (p ||| q)) :: l) w) :
    WO P ops n ⟨some d, .binOp .or S x y R, T, ps, af, g⟩ l w K :=
  WO.val hg hd (fun a ha => by
    simp only [execOp, ha.ev hx, ha.ev hy, Sem.run_bind]
    simp only [eqGuard, binOp, Op.intBits, IntKind.bits, ofInt8, ne_eq, not_true_eq_false, if_false, Bool.not_false, if_true, Sem.run_pure, Result.andThen_ok]
    have e : ((p ||| q : UInt8).toNat : Int) = IntKind.u8.wrap ((p ||| q : UInt8).toNat : Int) := (wrap_nat8 _).symm
    simp only [U8]
    rw [e]
    rfl) k
theorem xor8 {R : Nat} {p q : UInt8} (hg : gval ops l ⟨some d, .binOp .xor S x y R, T, ps, af, g⟩ = some true) (hd : Nat.blt d n = true) (hx : ev l x = some (U8 p)) (hy : ev l y = some (U8 q)) (k : K ((d, U8 (p ^^^ q)) :: l) w) :
    WO P ops n ⟨some d, .binOp .xor S x y R, T, ps, af, g⟩ l w K :=
  WO.val hg hd (fun a ha => by
    simp only [execOp, ha.ev hx, ha.ev hy, Sem.run_bind]
    simp only [eqGuard, binOp, Op.intBits, IntKind.bits, ofInt8, ne_eq, not_true_eq_false, if_false, Bool.not_false, if_true, Sem.run_pure, Result.andThen_ok]
    have e : ((p ^^^ q : UInt8).toNat : Int) = IntKind.u8.wrap ((p ^^^ q : UInt8).toNat : Int) := (wrap_nat8 _).symm
    simp only [U8]
    rw [e]
    rfl) k
theorem andn8 {R : Nat} {p q : UInt8} (hg : gval ops l ⟨some d, .binOp .andNot S x y R, T, ps, af, g⟩ = some true) (hd : Nat.blt d n = true) (hx : ev l x = some (U8 p)) (hy : ev l y = some (U8 q)) (k : K ((d, U8 (p &&& ~~~q)) :: l) w) :
    WO P ops n ⟨some d, .binOp .andNot S x y R, T, ps, af, g⟩ l w K :=
  WO.val hg hd (fun a ha => by
    simp only [execOp, ha.ev hx, ha.ev hy, Sem.run_bind]
    simp only [eqGuard, binOp, Op.intBits, IntKind.bits, ofInt8, ne_eq, not_true_eq_false, if_false, Bool.not_false, if_true, Sem.run_pure, Result.andThen_ok]
    have e : ((p &&& ~~~q : UInt8).toNat : Int) = IntKind.u8.wrap ((p &&& ~~~q : UInt8).toNat : Int) := (wrap_nat8 _).symm
    simp only [U8]
    rw [e]
    rfl) k
theorem add8 {R : Nat} {p q : UInt8} (hg : gval ops l ⟨some d, .binOp .add S x y R, T, ps, af, g⟩ = some true) (hd : Nat.blt d n = true) (hx : ev l x = some (U8 p)) (hy : ev l y = some (U8 q)) (k : K ((d, U8 (p + q)) :: l) w) :
    WO P ops n ⟨some d, .binOp .add S x y R, T, ps, af, g⟩ l w K :=
  WO.val hg hd (fun a ha => by
    simp only [execOp, ha.ev hx, ha.ev hy, Sem.run_bind]
    have e : IntKind.u8.wrap ((p.toNat : Int) + (q.toNat : Int)) = ((p + q : UInt8).toNat : Int) := by rw [wrap_u8, UInt8.toNat_add]; omega
    simp [eqGuard, binOp, Op.intArith, e]) k
theorem sub8 {R : Nat} {p q : UInt8} (hg : gval ops l ⟨some d, .binOp .sub S x y R, T, ps, af, g⟩ = some true) (hd : Nat.blt d n = true) (hx : ev l x = some (U8 p)) (hy : ev l y = some (U8 q)) (k : K ((d, U8 (p - q)) :: l) w) :
    WO P ops n ⟨some d, .binOp .sub S x y R, T, ps, af, g⟩ l w K :=
  WO.val hg hd (fun a ha => by
    simp only [execOp, ha.ev hx, ha.ev hy, Sem.run_bind]
    have e : IntKind.u8.wrap ((p.toNat : Int) - (q.toNat : Int)) = ((p - q : UInt8).toNat : Int) := by rw [wrap_u8, UInt8.toNat_sub]; have := p.toNat_lt; have := q.toNat_lt; omega
    simp [eqGuard, binOp, Op.intArith, e]) k
theorem mul8 {R : Nat} {p q : UInt8} (hg : gval ops l ⟨some d, .binOp .mul S x y R, T, ps, af, g⟩ = some true) (hd : Nat.blt d n = true) (hx : ev l x = some (U8 p)) (hy : ev l y = some (U8 q)) (k : K ((d, U8 (p * q)) :: l) w) :
    WO P ops n ⟨some d, .binOp .mul S x y R, T, ps, af, g⟩ l w K :=
  WO.val hg hd (fun a ha => by
    simp only [execOp, ha.ev hx, ha.ev hy, Sem.run_bind]
    have e : IntKind.u8.wrap ((p.toNat : Int) * (q.toNat : Int)) = ((p * q : UInt8).toNat : Int) := by rw [wrap_u8, UInt8.toNat_mul]; rw [← Int.natCast_mul]; omega
    simp [eqGuard, binOp, Op.intArith, e]) k
theorem shlu8 {R : Nat} {p : UInt8} {q : Int} {kd : IntKind} (h1 : 0 ≤ q) (hg : gval ops l ⟨some d, .binOp .shl S x y R, T, ps, af, g⟩ = some true) (hd : Nat.blt d n = true) (hx : ev l x = some (U8 p)) (hy : ev l y = some (.int kd q)) (k : K ((d, U8 (shl8 p q.toNat)) :: l) w) :
    WO P ops n ⟨some d, .binOp .shl S x y R, T, ps, af, g⟩ l w K :=
  WO.val hg hd (fun a ha => by
    simp only [execOp, ha.ev hx, ha.ev hy, Sem.run_bind]
    have h4 : ¬ q < 0 := by omega
    simp [eqGuard, binOp, Op.shift, h4, IntKind.bits, shl8_wrap]) k
theorem shru8 {R : Nat} {p : UInt8} {q : Int} {kd : IntKind} (h1 : 0 ≤ q) (hg : gval ops l ⟨some d, .binOp .shr S x y R, T, ps, af, g⟩ = some true) (hd : Nat.blt d n = true) (hx : ev l x = some (U8 p)) (hy : ev l y = some (.int kd q)) (k : K ((d, U8 (shr8 p q.toNat)) :: l) w) :
    WO P ops n ⟨some d, .binOp .shr S x y R, T, ps, af, g⟩ l w K :=
  WO.val hg hd (fun a ha => by
    simp only [execOp, ha.ev hx, ha.ev hy, Sem.run_bind]
    have h4 : ¬ q < 0 := by omega
    simp [eqGuard, binOp, Op.shift, h4, IntKind.bits, shr8_eq]) k
theorem cvu8 {kd : IntKind} {p : Int} {D : Nat} (hu : P.underlying D = some (.int .u8)) (hs : ∃ dd, P.underlying S = some dd) (hg : gval ops l ⟨some d, .convert S D x, T, ps, af, g⟩ = some true) (hd : Nat.blt d n = true) (hx : ev l x = some (.int kd p)) (k : K ((d, U8 (toU8 p)) :: l) w) :
    WO P ops n ⟨some d, .convert S D x, T, ps, af, g⟩ l w K :=
  WO.val hg hd (fun a ha => by
    obtain ⟨dd, hs⟩ := hs
    simp only [execOp, ha.ev hx, Sem.run_bind]
    simp [convert, run_underlying hu, run_underlying hs, Conv.intToInt, toU8_wrap]) k
def toU16 (z : Int) : UInt16 := .ofNat (z % 65536).toNat
theorem toU16_wrap (z : Int) : IntKind.u16.wrap z = ((toU16 z).toNat : Int) := by
  rw [wrap_u16, toU16, UInt16.toNat_ofNat']; omega
theorem add16 {R : Nat} {p q : UInt16} (hg : gval ops l ⟨some d, .binOp .add S x y R, T, ps, af, g⟩ = some true) (hd : Nat.blt d n = true) (hx : ev l x = some (U16 p)) (hy : ev l y = some (U16 q)) (k : K ((d, U16 (p + q)) :: l) w) :
    WO P ops n ⟨some d, .binOp .add S x y R, T, ps, af, g⟩ l w K :=
  WO.val hg hd (fun a ha => by
    simp only [execOp, ha.ev hx, ha.ev hy, Sem.run_bind]
    have e : IntKind.u16.wrap ((p.toNat : Int) + (q.toNat : Int)) = ((p + q : UInt16).toNat : Int) := by rw [wrap_u16, UInt16.toNat_add]; omega
    simp [eqGuard, binOp, Op.intArith, e]) k
theorem sub16 {R : Nat} {p q : UInt16} (hg : gval ops l ⟨some d, .binOp .sub S x y R, T, ps, af, g⟩ = some true) (hd : Nat.blt d n = true) (hx : ev l x = some (U16 p)) (hy : ev l y = some (U16 q)) (k : K ((d, U16 (p - q)) :: l) w) :
    WO P ops n ⟨some d, .binOp .sub S x y R, T, ps, af, g⟩ l w K :=
  WO.val hg hd (fun a ha => by
    simp only [execOp, ha.ev hx, ha.ev hy, Sem.run_bind]
    have e : IntKind.u16.wrap ((p.toNat : Int) - (q.toNat : Int)) = ((p - q : UInt16).toNat : Int) := by rw [wrap_u16, UInt16.toNat_sub]; have := p.toNat_lt; have := q.toNat_lt; omega
    simp [eqGuard, binOp, Op.intArith, e]) k
theorem mul16 {R : Nat} {p q : UInt16} (hg : gval ops l ⟨some d, .binOp .mul S x y R, T, ps, af, g⟩ = some true) (hd : Nat.blt d n = true) (hx : ev l x = some (U16 p)) (hy : ev l y = some (U16 q)) (k : K ((d, U16 (p * q)) :: l) w) :
    WO P ops n ⟨some d, .binOp .mul S x y R, T, ps, af, g⟩ l w K :=
  WO.val hg hd (fun a ha => by
    simp only [execOp, ha.ev hx, ha.ev hy, Sem.run_bind]
    have e : IntKind.u16.wrap ((p.toNat : Int) * (q.toNat : Int)) = ((p * q : UInt16).toNat : Int) := by rw [wrap_u16, UInt16.toNat_mul]; rw [← Int.natCast_mul]; omega
    simp [eqGuard, binOp, Op.intArith, e]) k
theorem cvu16 {kd : IntKind} {p : Int} {D : Nat} (hu : P.underlying D = some (.int .u16)) (hs : ∃ dd, P.underlying S = some dd) (hg : gval ops l ⟨some d, .convert S D x, T, ps, af, g⟩ = some true) (hd : Nat.blt d n = true) (hx : ev l x = some (.int kd p)) (k : K ((d, U16 (toU16 p)) :: l) w) :
    WO P ops n ⟨some d, .convert S D x, T, ps, af, g⟩ l w K :=
  WO.val hg hd (fun a ha => by
    obtain ⟨dd, hs⟩ := hs
    simp only [execOp, ha.ev hx, Sem.run_bind]
    simp [convert, run_underlying hu, run_underlying hs, Conv.intToInt, toU16_wrap]) k
def shl32 (x : UInt32) (m : Nat) : UInt32 := .ofNat (x.toNat * 2 ^ m)
def shr32 (x : UInt32) (m : Nat) : UInt32 := .ofNat (x.toNat / 2 ^ m)
theorem shl32_wrap (x : UInt32) (m : Nat) : IntKind.u32.wrap ((x.toNat : Int) * 2 ^ (min m 32)) = ((shl32 x m).toNat : Int) := by
  rw [wrap_u32, shl32, UInt32.toNat_ofNat']
  have e : ((x.toNat : Int) * 2 ^ (min m 32)) = ((x.toNat * 2 ^ (min m 32) : Nat) : Int) := by simp
  rw [e]
  by_cases h : m ≤ 32
  · rw [Nat.min_eq_left h]; omega
  · rw [Nat.min_eq_right (by omega)]
    have h1 : (2:Nat) ^ m = 2 ^ 32 * 2 ^ (m - 32) := by rw [← Nat.pow_add]; congr 1; omega
    have h2 : x.toNat * 2 ^ m % 2 ^ 32 = 0 := by rw [h1, ← Nat.mul_assoc, Nat.mul_comm x.toNat, Nat.mul_assoc]; exact Nat.mul_mod_right _ _
    have h3 : x.toNat * 2 ^ 32 % 2 ^ 32 = 0 := Nat.mul_mod_left _ _
    omega
theorem shr32_eq (x : UInt32) (m : Nat) : Int.fdiv (x.toNat : Int) (2 ^ (min m 32)) = ((shr32 x m).toNat : Int) := by
  have hlt := x.toNat_lt
  have e : Int.fdiv (x.toNat : Int) (2 ^ (min m 32)) = ((x.toNat / 2 ^ (min m 32) : Nat) : Int) := by
    rw [Int.fdiv_eq_ediv_of_nonneg _ (Int.pow_nonneg (by omega))]; simp
  rw [e, shr32, UInt32.toNat_ofNat']
  have hle : x.toNat / 2 ^ m ≤ x.toNat := Nat.div_le_self _ _
  rw [Nat.mod_eq_of_lt (by omega)]
  by_cases h : m ≤ 32
  · rw [Nat.min_eq_left h]
  · rw [Nat.min_eq_right (by omega)]
    have h1 : (2:Nat) ^ 32 ≤ 2 ^ m := Nat.pow_le_pow_right (by omega) (by omega)
    rw [Nat.div_eq_of_lt (by omega), Nat.div_eq_of_lt (by omega)]
theorem ofInt32 (x : UInt32) : BitVec.ofInt 32 (x.toNat : Int) = x.toBitVec := by
  rw [BitVec.ofInt_natCast]; exact BitVec.eq_of_toNat_eq (by simp)
def toU32 (z : Int) : UInt32 := .ofNat (z % 4294967296).toNat
theorem toU32_wrap (z : Int) : IntKind.u32.wrap z = ((toU32 z).toNat : Int) := by
  rw [wrap_u32, toU32, UInt32.toNat_ofNat']; omega
theorem wrap_nat32 (x : UInt32) : IntKind.u32.wrap (x.toNat : Int) = (x.toNat : Int) := by rw [wrap_u32]; have := x.toNat_lt; omega
theorem or32 {R : Nat} {p q : UInt32} (hg : gval ops l ⟨some d, .binOp .or S x y R, T, ps, af, g⟩ = some true) (hd : Nat.blt d n = true) (hx : ev l x = some (U32 p)) (hy : ev l y = some (U32 q)) (k : K ((d, U32 (p ||| q)) :: l) w) :
    WO P ops n ⟨some d, .binOp .or S x y R, T, ps, af, g⟩ l w K :=
  WO.val hg hd (fun a ha => by
    simp only [execOp, ha.ev hx, ha.ev hy, Sem.run_bind]
    simp only [eqGuard, binOp, Op.intBits, IntKind.bits, ofInt32, ne_eq, not_true_eq_false, if_false, Bool.not_false, if_true, Sem.run_pure, Result.andThen_ok]
    have e : ((p ||| q : UInt32).toNat : Int) = IntKind.u32.wrap ((p ||| q : UInt32).toNat : Int) := (wrap_nat32 _).symm
    simp only [U32]
    rw [e]
    rfl) k
theorem xor32 {R : Nat} {p q : UInt32} (hg : gval ops l ⟨some d, .binOp .xor S x y R, T, ps, af, g⟩ = some true) (hd : Nat.blt d n = true) (hx : ev l x = some (U32 p)) (hy : ev l y = some (U32 q)) (k : K ((d, U32 (p ^^^ q)) :: l) w) :
    WO P ops n ⟨some d, .binOp .xor S x y R, T, ps, af, g⟩ l w K :=
  WO.val hg hd (fun a ha => by
    simp only [execOp, ha.ev hx, ha.ev hy, Sem.run_bind]
    simp only [eqGuard, binOp, Op.intBits, IntKind.bits, ofInt32, ne_eq, not_true_eq_false, if_false, Bool.not_false, if_true, Sem.run_pure, Result.andThen_ok]
    have e : ((p ^^^ q : UInt32).toNat : Int) = IntKind.u32.wrap ((p ^^^ q : UInt32).toNat : Int) := (wrap_nat32 _).symm
    simp only [U32]
    rw [e]
    rfl) k
theorem add32 {R : Nat} {p q : UInt32} (hg : gval ops l ⟨some d, .binOp .add S x y R, T, ps, af, g⟩ = some true) (hd : Nat.blt d n = true) (hx : ev l x = some (U32 p)) (hy : ev l y = some (U32 q)) (k : K ((d, U32 (p + q)) :: l) w) :
    WO P ops n ⟨some d, .binOp .add S x y R, T, ps, af, g⟩ l w K :=
  WO.val hg hd (fun a ha => by
    simp only [execOp, ha.ev hx, ha.ev hy, Sem.run_bind]
    have e : IntKind.u32.wrap ((p.toNat : Int) + (q.toNat : Int)) = ((p + q : UInt32).toNat : Int) := by rw [wrap_u32, UInt32.toNat_add]; omega
    simp [eqGuard, binOp, Op.intArith, e]) k
theorem sub32 {R : Nat} {p q : UInt32} (hg : gval ops l ⟨some d, .binOp .sub S x y R, T, ps, af, g⟩ = some true) (hd : Nat.blt d n = true) (hx : ev l x = some (U32 p)) (hy : ev l y = some (U32 q)) (k : K ((d, U32 (p - q)) :: l) w) :
    WO P ops n ⟨some d, .binOp .sub S x y R, T, ps, af, g⟩ l w K :=
  WO.val hg hd (fun a ha => by
    simp only [execOp, ha.ev hx, ha.ev hy, Sem.run_bind]
    have e : IntKind.u32.wrap ((p.toNat : Int) - (q.toNat : Int)) = ((p - q : UInt32).toNat : Int) := by rw [wrap_u32, UInt32.toNat_sub]; have := p.toNat_lt; have := q.toNat_lt; omega
    simp [eqGuard, binOp, Op.intArith, e]) k
theorem shlu32 {R : Nat} {p : UInt32} {q : Int} {kd : IntKind} (h1 : 0 ≤ q) (hg : gval ops l ⟨some d, .binOp .shl S x y R, T, ps, af, g⟩ = some true) (hd : Nat.blt d n = true) (hx : ev l x = some (U32 p)) (hy : ev l y = some (.int kd q)) (k : K ((d, U32 (shl32 p q.toNat)) :: l) w) :
    WO P ops n ⟨some d, .binOp .shl S x y R, T, ps, af, g⟩ l w K :=
  WO.val hg hd (fun a ha => by
    simp only [execOp, ha.ev hx, ha.ev hy, Sem.run_bind]
    have h4 : ¬ q < 0 := by omega
    simp [eqGuard, binOp, Op.shift, h4, IntKind.bits, shl32_wrap]) k
theorem shru32 {R : Nat} {p : UInt32} {q : Int} {kd : IntKind} (h1 : 0 ≤ q) (hg : gval ops l ⟨some d, .binOp .shr S x y R, T, ps, af, g⟩ = some true) (hd : Nat.blt d n = true) (hx : ev l x = some (U32 p)) (hy : ev l y = some (.int kd q)) (k : K ((d, U32 (shr32 p q.toNat)) :: l) w) :
    WO P ops n ⟨some d, .binOp .shr S x y R, T, ps, af, g⟩ l w K :=
  WO.val hg hd (fun a ha => by
    simp only [execOp, ha.ev hx, ha.ev hy, Sem.run_bind]
    have h4 : ¬ q < 0 := by omega
    simp [eqGuard, binOp, Op.shift, h4, IntKind.bits, shr32_eq]) k
theorem cvu32 {kd : IntKind} {p : Int} {D : Nat} (hu : P.underlying D = some (.int .u32)) (hs : ∃ dd, P.underlying S = some dd) (hg : gval ops l ⟨some d, .convert S D x, T, ps, af, g⟩ = some true) (hd : Nat.blt d n = true) (hx : ev l x = some (.int kd p)) (k : K ((d, U32 (toU32 p)) :: l) w) :
    WO P ops n ⟨some d, .convert S D x, T, ps, af, g⟩ l w K :=
  WO.val hg hd (fun a ha => by
    obtain ⟨dd, hs⟩ := hs
    simp only [execOp, ha.ev hx, Sem.run_bind]
    simp [convert, run_underlying hu, run_underlying hs, Conv.intToInt, toU32_wrap]) k
def shl64 (x : UInt64) (m : Nat) : UInt64 := .ofNat (x.toNat * 2 ^ m)
def shr64 (x : UInt64) (m : Nat) : UInt64 := .ofNat (x.toNat / 2 ^ m)
theorem shl64_wrap (x : UInt64) (m : Nat) : IntKind.u64.wrap ((x.toNat : Int) * 2 ^ (min m 64)) = ((shl64 x m).toNat : Int) := by
  rw [wrap_u64, shl64, UInt64.toNat_ofNat']
  have e : ((x.toNat : Int) * 2 ^ (min m 64)) = ((x.toNat * 2 ^ (min m 64) : Nat) : Int) := by simp
  rw [e]
  by_cases h : m ≤ 64
  · rw [Nat.min_eq_left h]; omega
  · rw [Nat.min_eq_right (by omega)]
    have h1 : (2:Nat) ^ m = 2 ^ 64 * 2 ^ (m - 64) := by rw [← Nat.pow_add]; congr 1; omega
    have h2 : x.toNat * 2 ^ m % 2 ^ 64 = 0 := by rw [h1, ← Nat.mul_assoc, Nat.mul_comm x.toNat, Nat.mul_assoc]; exact Nat.mul_mod_right _ _
    have h3 : x.toNat * 2 ^ 64 % 2 ^ 64 = 0 := Nat.mul_mod_left _ _
    omega
theorem shr64_eq (x : UInt64) (m : Nat) : Int.fdiv (x.toNat : Int) (2 ^ (min m 64)) = ((shr64 x m).toNat : Int) := by
  have hlt := x.toNat_lt
  have e : Int.fdiv (x.toNat : Int) (2 ^ (min m 64)) = ((x.toNat / 2 ^ (min m 64) : Nat) : Int) := by
    rw [Int.fdiv_eq_ediv_of_nonneg _ (Int.pow_nonneg (by omega))]; simp
  rw [e, shr64, UInt64.toNat_ofNat']
  have hle : x.toNat / 2 ^ m ≤ x.toNat := Nat.div_le_self _ _
  rw [Nat.mod_eq_of_lt (by omega)]
  by_cases h : m ≤ 64
  · rw [Nat.min_eq_left h]
  · rw [Nat.min_eq_right (by omega)]
    have h1 : (2:Nat) ^ 64 ≤ 2 ^ m := Nat.pow_le_pow_right (by omega) (by omega)
    rw [Nat.div_eq_of_lt (by omega), Nat.div_eq_of_lt (by omega)]
theorem ofInt64 (x : UInt64) : BitVec.ofInt 64 (x.toNat : Int) = x.toBitVec := by
  rw [BitVec.ofInt_natCast]; exact BitVec.eq_of_toNat_eq (by simp)
def toU64 (z : Int) : UInt64 := .ofNat (z % 18446744073709551616).toNat
theorem toU64_wrap (z : Int) : IntKind.u64.wrap z = ((toU64 z).toNat : Int) := by
  rw [wrap_u64, toU64, UInt64.toNat_ofNat']; omega
theorem wrap_nat64 (x : UInt64) : IntKind.u64.wrap (x.toNat : Int) = (x.toNat : Int) := by rw [wrap_u64]; have := x.toNat_lt; omega
theorem and64 {R : Nat} {p q : UInt64} (hg : gval ops l ⟨some d, .binOp .and S x y R, T, ps, af, g⟩ = some true) (hd : Nat.blt d n = true) (hx : ev l x = some (U64 p)) (hy : ev l y = some (U64 q)) (k : K ((d, U64 (p &&& q)) :: l) w) :
    WO P ops n ⟨some d, .binOp .and S x y R, T, ps, af, g⟩ l w K :=
  WO.val hg hd (fun a ha => by
    simp only [execOp, ha.ev hx, ha.ev hy, Sem.run_bind]
    simp only [eqGuard, binOp, Op.intBits, IntKind.bits, ofInt64, ne_eq, not_true_eq_false, if_false, Bool.not_false, if_true, Sem.run_pure, Result.andThen_ok]
    have e : ((p &&& q : UInt64).toNat : Int) = IntKind.u64.wrap ((p &&& q : UInt64).toNat : Int) := (wrap_nat64 _).symm
    simp only [U64]
    rw [e]
    rfl) k
theorem or64 {R : Nat} {p q : UInt64} (hg : gval ops l ⟨some d, .binOp .or S x y R, T, ps, af, g⟩ = some true) (hd : Nat.blt d n = true) (hx : ev l x = some (U64 p)) (hy : ev l y = some (U64 q)) (k : K ((d, U64 (p ||| q)) :: l) w) :
    WO P ops n ⟨some d, .binOp .or S x y R, T, ps, af, g⟩ l w K :=
  WO.val hg hd (fun a ha => by
    simp only [execOp, ha.ev hx, ha.ev hy, Sem.run_bind]
    simp only [eqGuard, binOp, Op.intBits, IntKind.bits, ofInt64, ne_eq, not_true_eq_false, if_false, Bool.not_false, if_true, Sem.run_pure, Result.andThen_ok]
    have e : ((p ||| q : UInt64).toNat : Int) = IntKind.u64.wrap ((p ||| q : UInt64).toNat : Int) := (wrap_nat64 _).symm
    simp only [U64]
    rw [e]
    rfl) k
theorem add64 {R : Nat} {p q : UInt64} (hg : gval ops l ⟨some d, .binOp .add S x y R, T, ps, af, g⟩ = some true) (hd : Nat.blt d n = true) (hx : ev l x = some (U64 p)) (hy : ev l y = some (U64 q)) (k : K ((d, U64 (p + q)) :: l) w) :
    WO P ops n ⟨some d, .binOp .add S x y R, T, ps, af, g⟩ l w K :=
  WO.val hg hd (fun a ha => by
    simp only [execOp, ha.ev hx, ha.ev hy, Sem.run_bind]
    have e : IntKind.u64.wrap ((p.toNat : Int) + (q.toNat : Int)) = ((p + q : UInt64).toNat : Int) := by rw [wrap_u64, UInt64.toNat_add]; omega
    simp [eqGuard, binOp, Op.intArith, e]) k
theorem sub64 {R : Nat} {p q : UInt64} (hg : gval ops l ⟨some d, .binOp .sub S x y R, T, ps, af, g⟩ = some true) (hd : Nat.blt d n = true) (hx : ev l x = some (U64 p)) (hy : ev l y = some (U64 q)) (k : K ((d, U64 (p - q)) :: l) w) :
    WO P ops n ⟨some d, .binOp .sub S x y R, T, ps, af, g⟩ l w K :=
  WO.val hg hd (fun a ha => by
    simp only [execOp, ha.ev hx, ha.ev hy, Sem.run_bind]
    have e : IntKind.u64.wrap ((p.toNat : Int) - (q.toNat : Int)) = ((p - q : UInt64).toNat : Int) := by rw [wrap_u64, UInt64.toNat_sub]; have := p.toNat_lt; have := q.toNat_lt; omega
    simp [eqGuard, binOp, Op.intArith, e]) k
theorem mul64 {R : Nat} {p q : UInt64} (hg : gval ops l ⟨some d, .binOp .mul S x y R, T, ps, af, g⟩ = some true) (hd : Nat.blt d n = true) (hx : ev l x = some (U64 p)) (hy : ev l y = some (U64 q)) (k : K ((d, U64 (p * q)) :: l) w) :
    WO P ops n ⟨some d, .binOp .mul S x y R, T, ps, af, g⟩ l w K :=
  WO.val hg hd (fun a ha => by
    simp only [execOp, ha.ev hx, ha.ev hy, Sem.run_bind]
    have e : IntKind.u64.wrap ((p.toNat : Int) * (q.toNat : Int)) = ((p * q : UInt64).toNat : Int) := by rw [wrap_u64, UInt64.toNat_mul]; rw [← Int.natCast_mul]; omega
    simp [eqGuard, binOp, Op.intArith, e]) k
theorem shlu64 {R : Nat} {p : UInt64} {q : Int} {kd : IntKind} (h1 : 0 ≤ q) (hg : gval ops l ⟨some d, .binOp .shl S x y R, T, ps, af, g⟩ = some true) (hd : Nat.blt d n = true) (hx : ev l x = some (U64 p)) (hy : ev l y = some (.int kd q)) (k : K ((d, U64 (shl64 p q.toNat)) :: l) w) :
    WO P ops n ⟨some d, .binOp .shl S x y R, T, ps, af, g⟩ l w K :=
  WO.val hg hd (fun a ha => by
    simp only [execOp, ha.ev hx, ha.ev hy, Sem.run_bind]
    have h4 : ¬ q < 0 := by omega
    simp [eqGuard, binOp, Op.shift, h4, IntKind.bits, shl64_wrap]) k
theorem shru64 {R : Nat} {p : UInt64} {q : Int} {kd : IntKind} (h1 : 0 ≤ q) (hg : gval ops l ⟨some d, .binOp .shr S x y R, T, ps, af, g⟩ = some true) (hd : Nat.blt d n = true) (hx : ev l x = some (U64 p)) (hy : ev l y = some (.int kd q)) (k : K ((d, U64 (shr64 p q.toNat)) :: l) w) :
    WO P ops n ⟨some d, .binOp .shr S x y R, T, ps, af, g⟩ l w K :=
  WO.val hg hd (fun a ha => by
    simp only [execOp, ha.ev hx, ha.ev hy, Sem.run_bind]
    have h4 : ¬ q < 0 := by omega
    simp [eqGuard, binOp, Op.shift, h4, IntKind.bits, shr64_eq]) k
theorem cvu64 {kd : IntKind} {p : Int} {D : Nat} (hu : P.underlying D = some (.int .u64)) (hs : ∃ dd, P.underlying S = some dd) (hg : gval ops l ⟨some d, .convert S D x, T, ps, af, g⟩ = some true) (hd : Nat.blt d n = true) (hx : ev l x = some (.int kd p)) (k : K ((d, U64 (toU64 p)) :: l) w) :
    WO P ops n ⟨some d, .convert S D x, T, ps, af, g⟩ l w K :=
  WO.val hg hd (fun a ha => by
    obtain ⟨dd, hs⟩ := hs
    simp only [execOp, ha.ev hx, Sem.run_bind]
    simp [convert, run_underlying hu, run_underlying hs, Conv.intToInt, toU64_wrap]) k
theorem cvi {kd : IntKind} {p : Int} {D : Nat} (hu : P.underlying D = some (.int .i64)) (hs : ∃ dd, P.underlying S = some dd) (h1 : -9223372036854775808 ≤ p) (h2 : p < 9223372036854775808) (hg : gval ops l ⟨some d, .convert S D x, T, ps, af, g⟩ = some true) (hd : Nat.blt d n = true) (hx : ev l x = some (.int kd p)) (k : K ((d, I p) :: l) w) :
    WO P ops n ⟨some d, .convert S D x, T, ps, af, g⟩ l w K :=
  WO.val hg hd (fun a ha => by
    obtain ⟨dd, hs⟩ := hs
    simp only [execOp, ha.ev hx, Sem.run_bind]
    simp [convert, run_underlying hu, run_underlying hs, Conv.intToInt, wrap_i64 h1 h2]) k
theorem cvk {kd k2 : IntKind} {p q : Int} {D : Nat} (hu : P.underlying D = some (.int k2)) (hs : ∃ dd, P.underlying S = some dd) (he : k2.wrap p = q) (hg : gval ops l ⟨some d, .convert S D x, T, ps, af, g⟩ = some true) (hd : Nat.blt d n = true) (hx : ev l x = some (.int kd p)) (k : K ((d, .int k2 q) :: l) w) :
    WO P ops n ⟨some d, .convert S D x, T, ps, af, g⟩ l w K :=
  WO.val hg hd (fun a ha => by
    obtain ⟨dd, hs⟩ := hs
    simp only [execOp, ha.ev hx, Sem.run_bind]
    simp [convert, run_underlying hu, run_underlying hs, Conv.intToInt, he]) k
theorem maxi {p q : Int} {kd : IntKind} {A : Array Nat} (hg : gval ops l ⟨some d, .call ⟨.builtin .max, #[x, y], A⟩, T, ps, af, g⟩ = some true) (hd : Nat.blt d n = true) (hx : ev l x = some (.int kd p)) (hy : ev l y = some (.int kd q)) (k : K ((d, .int kd (max p q)) :: l) w) :
    WO P ops n ⟨some d, .call ⟨.builtin .max, #[x, y], A⟩, T, ps, af, g⟩ l w K :=
  WO.val hg hd (fun a ha => by
    have e : (if q > p then q else p) = max p q := by omega
    simp [execOp, resolve, invoke, builtin, Builtin.max_, Builtin.max2, ha.ev hx, ha.ev hy, e]) k
theorem mini {p q : Int} {kd : IntKind} {A : Array Nat} (hg : gval ops l ⟨some d, .call ⟨.builtin .min, #[x, y], A⟩, T, ps, af, g⟩ = some true) (hd : Nat.blt d n = true) (hx : ev l x = some (.int kd p)) (hy : ev l y = some (.int kd q)) (k : K ((d, .int kd (min p q)) :: l) w) :
    WO P ops n ⟨some d, .call ⟨.builtin .min, #[x, y], A⟩, T, ps, af, g⟩ l w K :=
  WO.val hg hd (fun a ha => by
    have e : (if q < p then q else p) = min p q := by omega
    simp [execOp, resolve, invoke, builtin, Builtin.min_, Builtin.min2, ha.ev hx, ha.ev hy, e]) k
theorem lens {ad : Option Addr} {m c : Nat} {S e : Nat} (hu : P.underlying S = some (.slice e)) (hg : gval ops l ⟨some d, .call ⟨.builtin .len, #[x], #[S]⟩, T, ps, af, g⟩ = some true) (hd : Nat.blt d n = true) (hx : ev l x = some (.slice ad m c)) (k : K ((d, I m) :: l) w) :
    WO P ops n ⟨some d, .call ⟨.builtin .len, #[x], #[S]⟩, T, ps, af, g⟩ l w K :=
  WO.val hg hd (fun a ha => by
    simp [execOp, resolve, invoke, builtin, Builtin.len_, ha.ev hx, run_underlying hu, goInt]) k
theorem caps {ad : Option Addr} {m c : Nat} {S e : Nat} (hu : P.underlying S = some (.slice e)) (hg : gval ops l ⟨some d, .call ⟨.builtin .cap, #[x], #[S]⟩, T, ps, af, g⟩ = some true) (hd : Nat.blt d n = true) (hx : ev l x = some (.slice ad m c)) (k : K ((d, I c) :: l) w) :
    WO P ops n ⟨some d, .call ⟨.builtin .cap, #[x], #[S]⟩, T, ps, af, g⟩ l w K :=
  WO.val hg hd (fun a ha => by
    simp [execOp, resolve, invoke, builtin, Builtin.cap_, ha.ev hx, run_underlying hu, goInt]) k
theorem lenstr {s : ByteArray} {S : Nat} (hu : P.underlying S = some .string) (hg : gval ops l ⟨some d, .call ⟨.builtin .len, #[x], #[S]⟩, T, ps, af, g⟩ = some true) (hd : Nat.blt d n = true) (hx : ev l x = some (.string s)) (k : K ((d, I s.size) :: l) w) :
    WO P ops n ⟨some d, .call ⟨.builtin .len, #[x], #[S]⟩, T, ps, af, g⟩ l w K :=
  WO.val hg hd (fun a ha => by
    simp [execOp, resolve, invoke, builtin, Builtin.len_, ha.ev hx, run_underlying hu, goInt]) k
end
end Go.X
namespace Go.X
open Go
def aggD : TypeDesc → Bool
  | .struct _ | .array _ _ => true
  | _ => false
def Sc (P : Program) (T : Nat) : Prop := ∃ dd, P.underlying T = some dd ∧ aggD dd = false
def Ag (P : Program) (T m : Nat) : Prop := (∃ dd, P.underlying T = some dd ∧ aggD dd = true) ∧ (P.info? T).map (·.size) = some m
def Sz (P : Program) (T m : Nat) : Prop := (P.info? T).map (·.size) = some m
def Zr (P : Program) (T : Nat) (v : Value) : Prop := (P.info? T).bind (·.zero) = some v
section
variable {P : Program} {w : World}
theorem Sc.run {T : Nat} (h : Sc P T) (w : World) : (isAgg T).run P w = .ok false w := by
  obtain ⟨dd, hu, ha⟩ := h
  unfold isAgg
  rw [Sem.run_bind, run_underlying hu w]
  cases dd <;> simp_all [aggD]
theorem Ag.run {T m : Nat} (h : Ag P T m) (w : World) : (isAgg T).run P w = .ok true w := by
  obtain ⟨⟨dd, hu, ha⟩, _⟩ := h
  unfold isAgg
  rw [Sem.run_bind, run_underlying hu w]
  cases dd <;> simp_all [aggD]
theorem Sz.run {T m : Nat} (h : Sz P T m) (w : World) : (sizeOf T).run P w = .ok m w := by
  unfold Sz at h
  cases hq : P.info? T with
  | none => simp [hq] at h
  | some i => simp [hq] at h; simp [sizeOf, typeInfo, hq, h]
theorem Zr.run {T : Nat} {v : Value} (h : Zr P T v) (w : World) : (zeroValue T).run P w = .ok v w := by
  unfold Zr at h
  cases hq : P.info? T with
  | none => simp [hq] at h
  | some i => simp [hq] at h; simp [zeroValue, typeInfo, hq, h]
theorem cell_at (w : World) {b : Nat} {cs : Array Value} {E : Nat} {fz : Nat × Nat} (h : w.heap[b]? = some (.cells cs E fz)) (j : Nat) : w.cell? ⟨b, j, none⟩ = cs[j]? := by
  simp [World.cell?, h]
theorem addr_add (b o k : Nat) : (⟨b, o, none⟩ : Addr).add k = ⟨b, o + k, none⟩ := by unfold Addr.add; split <;> simp_all
theorem lv_s {T : Nat} (hT : Sc P T) {ad : Addr} {v : Value} (hv : w.cell? ad = some v) : (loadVar T ad).run P w = .ok v w := by
  simp [loadVar, Sem.run_bind, hT.run w, Go.load, Sem.run, hv]
theorem lv_c {T : Nat} (hT : Sc P T) {b off E : Nat} {cs : Array Value} {fz : Nat × Nat} {v : Value} (hb : w.heap[b]? = some (.cells cs E fz)) (hv : cs[off]? = some v) :
    (loadVar T ⟨b, off, none⟩).run P w = .ok v w := lv_s hT (by rw [cell_at w hb]; exact hv)
theorem lv_p {T m : Nat} (hT : Ag P T m) {b off E : Nat} {cs : Array Value} {fz : Nat × Nat} (hb : w.heap[b]? = some (.cells cs E fz)) (hm : off + m ≤ cs.size) :
    (loadVar T ⟨b, off, none⟩).run P w = .ok (.agg (cs.extract off (off + m))) w := by
  have hl : (loadCells ⟨b, off, none⟩ m).run P w = .ok (cs.extract off (off + m)) w := by
    have := run_loadCells_list (P := P) w ⟨b, off, none⟩ (cs.extract off (off + m)).toList (fun j v hv => by
      rw [addr_add, cell_at w hb]
      simp only [Array.getElem?_toList, Array.getElem?_extract] at hv
      split at hv
      · exact hv
      · cases hv)
    have e : (cs.extract off (off + m)).toList.length = m := by simp; omega
    rw [e] at this
    rw [this, Array.toArray_toList]
  have hs := Sz.run hT.2 w
  simp [loadVar, Sem.run_bind, hT.run w, hs, hl]
theorem lv_a {T m : Nat} (hT : Ag P T m) {b E : Nat} {cs : Array Value} {fz : Nat × Nat} (hb : w.heap[b]? = some (.cells cs E fz)) (hm : cs.size = m) :
    (loadVar T ⟨b, 0, none⟩).run P w = .ok (.agg cs) w := by
  have := lv_p hT hb (off := 0) (by omega)
  simpa [← hm] using this
end
def Callable (P : Program) (f : Nat) : Prop := ∃ fn, P.funcs[f]? = some fn ∧ (fn.name == "runtime.NumGoroutine") = false ∧ fn.body.isNone = false
def Ret (w : World) (v : Value) : Ending → World → Prop := fun e w' => e = .returned v ∧ St w [] [] w'
def RetS (w : World) (R : Value → List (Nat × Obj) → Prop) : Ending → World → Prop := fun e w' => ∃ v L, e = .returned v ∧ R v L ∧ St w [] L w'
def RetM (w : World) (G : List Nat) (R : Value → List (Nat × Obj) → Prop) : Ending → World → Prop := fun e w' => ∃ v L, e = .returned v ∧ R v L ∧ St w G L w'
section
variable {P : Program} {ops : Array Oper} {n : Nat} {l : Regs} {w w0 : World} {K : Regs → World → Prop} {F : List Nat} {L : List (Nat × Obj)}
variable {d T S : Nat} {ps : String} {af : Array Edge} {g : Option (Nat × Bool)} {x y : Operand} {v u : Value}
theorem bx {cs : Array Value} (hS : St w0 F L w) (hg : gval ops l ⟨some d, .box S x, T, ps, af, g⟩ = some true) (hd : Nat.blt d n = true) (hx : ev l x = some v) (hc : v.cells = cs)
    (k : ∀ b w', w0.heap.size ≤ b → St w0 F ((b, .cells cs S) :: L) w' → K ((d, Ptr b 0) :: l) w') : WO P ops n ⟨some d, .box S x, T, ps, af, g⟩ l w K :=
  WO.val hg hd (fun a ha => by
    simp only [execOp, ha.ev hx, Instr.box, newVar, newRow, hc]
    simp) (k w.heap.size _ hS.size (hS.alloc _))
theorem al {z : Value} {cs : Array Value} (hz : Zr P S z) (hS : St w0 F L w) (hg : gval ops l ⟨some d, .alloc S, T, ps, af, g⟩ = some true) (hd : Nat.blt d n = true) (hc : z.cells = cs)
    (k : ∀ b w', w0.heap.size ≤ b → St w0 F ((b, .cells cs S) :: L) w' → K ((d, Ptr b 0) :: l) w') : WO P ops n ⟨some d, .alloc S, T, ps, af, g⟩ l w K :=
  WO.val hg hd (fun a ha => by
    simp only [execOp, Instr.alloc, Sem.run_bind, hz.run w, Result.andThen_ok, newVar, newRow, hc]
    simp) (k w.heap.size _ hS.size (hS.alloc _))
theorem bxa {cs : Array Value} (hS : St w0 F L w) (hg : gval ops l ⟨some d, .box S x, T, ps, af, g⟩ = some true) (hd : Nat.blt d n = true) (hx : ev l x = some (.agg cs))
    (k : ∀ b w', w0.heap.size ≤ b → St w0 F ((b, .cells cs S) :: L) w' → K ((d, Ptr b 0) :: l) w') : WO P ops n ⟨some d, .box S x, T, ps, af, g⟩ l w K := bx hS hg hd hx rfl k
theorem bx1 (hS : St w0 F L w) (hg : gval ops l ⟨some d, .box S x, T, ps, af, g⟩ = some true) (hd : Nat.blt d n = true) (hx : ev l x = some v) (hc : v.cells = #[v])
    (k : ∀ b w', w0.heap.size ≤ b → St w0 F ((b, .cells #[v] S) :: L) w' → K ((d, Ptr b 0) :: l) w') : WO P ops n ⟨some d, .box S x, T, ps, af, g⟩ l w K := bx hS hg hd hx hc k
theorem ala {cs : Array Value} (hz : Zr P S (.agg cs)) (hS : St w0 F L w) (hg : gval ops l ⟨some d, .alloc S, T, ps, af, g⟩ = some true) (hd : Nat.blt d n = true)
    (k : ∀ b w', w0.heap.size ≤ b → St w0 F ((b, .cells cs S) :: L) w' → K ((d, Ptr b 0) :: l) w') : WO P ops n ⟨some d, .alloc S, T, ps, af, g⟩ l w K := al hz hS hg hd rfl k
theorem al1 {z : Value} (hz : Zr P S z) (hS : St w0 F L w) (hg : gval ops l ⟨some d, .alloc S, T, ps, af, g⟩ = some true) (hd : Nat.blt d n = true) (hc : z.cells = #[z])
    (k : ∀ b w', w0.heap.size ≤ b → St w0 F ((b, .cells #[z] S) :: L) w' → K ((d, Ptr b 0) :: l) w') : WO P ops n ⟨some d, .alloc S, T, ps, af, g⟩ l w K := al hz hS hg hd hc k
theorem ld {ad : Addr} (hg : gval ops l ⟨some d, .load S x, T, ps, af, g⟩ = some true) (hd : Nat.blt d n = true) (hx : ev l x = some (.pointer (some ad))) (hv : (loadVar S ad).run P w = .ok v w) (k : K ((d, v) :: l) w) :
    WO P ops n ⟨some d, .load S x, T, ps, af, g⟩ l w K :=
  WO.val hg hd (fun a ha => by simp [execOp, ha.ev hx, Instr.loadAt, Instr.sureAddr, hv]) k
theorem lo {b off E : Nat} {cs : Array Value} {fz : Nat × Nat} (i : Nat) (hT : Sc P S) (hS : St w0 F L w) (hg : gval ops l ⟨some d, .load S x, T, ps, af, g⟩ = some true) (hd : Nat.blt d n = true) (hx : ev l x = some (Ptr b off))
    (hi : L[i]? = some (b, .cells cs E fz)) (hv : cs[off]? = some v) (k : K ((d, v) :: l) w) : WO P ops n ⟨some d, .load S x, T, ps, af, g⟩ l w K :=
  ld hg hd hx (lv_c hT (hS.get i hi) hv) k
theorem la {b E m : Nat} {cs : Array Value} {fz : Nat × Nat} (i : Nat) (hT : Ag P S m) (hS : St w0 F L w) (hg : gval ops l ⟨some d, .load S x, T, ps, af, g⟩ = some true) (hd : Nat.blt d n = true) (hx : ev l x = some (Ptr b 0))
    (hi : L[i]? = some (b, .cells cs E fz)) (hm : cs.size = m) (k : K ((d, .agg cs) :: l) w) : WO P ops n ⟨some d, .load S x, T, ps, af, g⟩ l w K :=
  ld hg hd hx (lv_a hT (hS.get i hi) hm) k
theorem lp {b off E m : Nat} {cs : Array Value} {fz : Nat × Nat} (i : Nat) (hT : Ag P S m) (hS : St w0 F L w) (hg : gval ops l ⟨some d, .load S x, T, ps, af, g⟩ = some true) (hd : Nat.blt d n = true) (hx : ev l x = some (Ptr b off))
    (hi : L[i]? = some (b, .cells cs E fz)) (hm : off + m ≤ cs.size) (hv : cs.extract off (off + m) = u.cells) (hu : u = .agg u.cells) (k : K ((d, u) :: l) w) : WO P ops n ⟨some d, .load S x, T, ps, af, g⟩ l w K :=
  ld hg hd hx (by rw [lv_p hT (hS.get i hi) hm, hv, ← hu]) k
theorem run_st {b off E : Nat} {cs : Array Value} (hT : Sz P S 1) (hb : w.heap[b]? = some (.cells cs E (0, 0))) (hlt : off < cs.size) (h1 : v.oneCell' = true) (hc : v.cells = #[v]) :
    (storeVar S ⟨b, off, none⟩ v).run P w = .ok () (w.setRow b (cs.setIfInBounds off v)) := by
  have hcell : w.cell? ⟨b, off, none⟩ = some cs[off] := by rw [cell_at w hb]; simp [hlt]
  have hfro : w.frozen? ⟨b, off, none⟩ = false := by simp [World.frozen?, hb]
  have hadd : (⟨b, off, none⟩ : Addr).add 0 = ⟨b, off, none⟩ := by simp [Addr.add]
  simp only [storeVar, Sem.run_bind, hT.run w, Result.andThen_ok, hc]
  simp [storeCells, Sem.run_bind, hadd, run_store P w _ v _ h1, hcell, hfro, setCell_eq_setRow w b off cs E (0, 0) v hb]
theorem st {b off E : Nat} {cs cs' : Array Value} (i : Nat) (hT : Sz P S 1) (hS : St w0 F L w) (hg : gval ops l ⟨none, .store S x y, T, ps, af, g⟩ = some true) (hx : ev l x = some (Ptr b off)) (hy : ev l y = some v)
    (h1 : v.oneCell' = true) (hc : v.cells = #[v]) (hi : L[i]? = some (b, .cells cs E (0, 0))) (hlt : off < cs.size) (hcs : cs.setIfInBounds off v = cs')
    (k : ∀ w', St w0 F (L.set i (b, .cells cs' E (0, 0))) w' → K l w') : WO P ops n ⟨none, .store S x y, T, ps, af, g⟩ l w K :=
  WO.skip_ hg (fun a ha => by
    simp only [execOp, ha.ev hx, ha.ev hy, Instr.storeAt, Instr.sureAddr, Sem.run_bind, Sem.run_pure, Result.andThen_ok]
    rw [run_st hT (hS.get i hi) hlt h1 hc, hcs]
    rfl) (k _ (hS.setRow i hi))
theorem sa {b E m : Nat} {cs vs : Array Value} (i : Nat) (hT : Ag P S m) (hS : St w0 F L w) (hg : gval ops l ⟨none, .store S x y, T, ps, af, g⟩ = some true) (hx : ev l x = some (Ptr b 0)) (hy : ev l y = some (.agg vs))
    (h1 : vs.all (fun x => x.oneCell') = true) (hi : L[i]? = some (b, .cells cs E (0, 0))) (hm : cs.size = m) (hm' : vs.size = m)
    (k : ∀ w', St w0 F (L.set i (b, .cells vs E (0, 0))) w' → K l w') : WO P ops n ⟨none, .store S x y, T, ps, af, g⟩ l w K :=
  WO.skip_ hg (fun a ha => by
    simp only [execOp, ha.ev hx, ha.ev hy, Instr.storeAt, Instr.sureAddr, Sem.run_bind, Sem.run_pure, Result.andThen_ok]
    have := run_storeVar_row (P := P) w b E S cs vs (hS.get i hi) (by rw [hT.2, hm']) (by rw [hm, hm']) h1
    rw [this]
    rfl) (k _ (hS.setRow i hi))
theorem sp {b off E m : Nat} {cs cs' vs : Array Value} (i : Nat) (hT : Ag P S m) (hS : St w0 F L w) (hg : gval ops l ⟨none, .store S x y, T, ps, af, g⟩ = some true) (hx : ev l x = some (Ptr b off)) (hy : ev l y = some (.agg vs))
    (h1 : vs.all (fun x => x.oneCell') = true) (hi : L[i]? = some (b, .cells cs E (0, 0))) (hm : off + m ≤ cs.size) (hm' : vs.size = m)
    (hcs : cs' = (cs.toList.take off ++ vs.toList ++ cs.toList.drop (off + vs.toList.length)).toArray)
    (k : ∀ w', St w0 F (L.set i (b, .cells cs' E (0, 0))) w' → K l w') : WO P ops n ⟨none, .store S x y, T, ps, af, g⟩ l w K :=
  WO.skip_ hg (fun a ha => by
    simp only [execOp, ha.ev hx, ha.ev hy, Instr.storeAt, Instr.sureAddr, Sem.run_bind, Sem.run_pure, Result.andThen_ok]
    have h2 := run_storeCells_at P b off E vs.toList 0 cs w (hS.get i hi) (by simp; omega) (fun v hv => by have := Array.all_eq_true_iff_forall_mem.1 h1 v (by simpa using hv); exact this)
    simp only [Nat.add_zero] at h2
    have hs := Sz.run hT.2 w
    simp only [storeVar, Sem.run_bind, hs, Result.andThen_ok, Value.cells, hm', ne_eq, not_true_eq_false, if_false, Sem.run_pure]
    rw [h2, ← hcs]
    rfl) (k _ (hS.setRow i hi))
theorem ia {b off m e es : Nat} {kd : IntKind} {p : Int} (hT : P.underlying S = some (.array m e)) (he : Sz P e es) (hg : gval ops l ⟨some d, .indexAddr S x y, T, ps, af, g⟩ = some true) (hd : Nat.blt d n = true) (hx : ev l x = some (Ptr b off)) (hy : ev l y = some (.int kd p))
    (h1 : 0 ≤ p) (h2 : p < m) (k : K ((d, Ptr b (off + p.toNat * es)) :: l) w) : WO P ops n ⟨some d, .indexAddr S x y, T, ps, af, g⟩ l w K :=
  WO.val hg hd (fun a ha => by
    simp [execOp, ha.ev hx, ha.ev hy, Instr.indexAt, asIntOf, run_underlying hT, Instr.sureAddr, h1, h2, he.run w, addr_add]) k
theorem isl {b off m c e es : Nat} {kd : IntKind} {p : Int} (hT : P.underlying S = some (.slice e)) (he : Sz P e es) (hg : gval ops l ⟨some d, .indexAddr S x y, T, ps, af, g⟩ = some true) (hd : Nat.blt d n = true) (hx : ev l x = some (.slice (some ⟨b, off, none⟩) m c)) (hy : ev l y = some (.int kd p))
    (h1 : 0 ≤ p) (h2 : p < m) (k : K ((d, Ptr b (off + p.toNat * es)) :: l) w) : WO P ops n ⟨some d, .indexAddr S x y, T, ps, af, g⟩ l w K :=
  WO.val hg hd (fun a ha => by
    simp [execOp, ha.ev hx, ha.ev hy, Instr.indexAt, asIntOf, run_underlying hT, h1, h2, he.run w, addr_add]) k
theorem fa {b off f : Nat} {fs : Array Field} {fd : Field} {m : Nat} (hT : P.underlying S = some (.struct fs)) (hf : fs[f]? = some fd) (hz : Sz P fd.type m) (hm : m ≠ 0) (hg : gval ops l ⟨some d, .fieldAddr S x f, T, ps, af, g⟩ = some true) (hd : Nat.blt d n = true) (hx : ev l x = some (Ptr b off))
    (k : K ((d, Ptr b (off + fd.offset)) :: l) w) : WO P ops n ⟨some d, .fieldAddr S x f, T, ps, af, g⟩ l w K :=
  WO.val hg hd (fun a ha => by
    simp [execOp, ha.ev hx, Instr.fieldAt, run_underlying hT, hf, Instr.sureAddr, fieldPlace, hz.run w, hm, addr_add]) k
theorem fld {f : Nat} {fs : Array Field} {fd : Field} {cs : Array Value} (hT : P.underlying S = some (.struct fs)) (hf : fs[f]? = some fd) (hc : Sc P fd.type) (hg : gval ops l ⟨some d, .field S x f, T, ps, af, g⟩ = some true) (hd : Nat.blt d n = true) (hx : ev l x = some (.agg cs)) (hv : cs[fd.offset]? = some v)
    (k : K ((d, v) :: l) w) : WO P ops n ⟨some d, .field S x f, T, ps, af, g⟩ l w K :=
  WO.val hg hd (fun a ha => by
    simp [execOp, ha.ev hx, Instr.field, run_underlying hT, hf, asAgg, part, hc.run w, hv]) k
theorem ix {m e es : Nat} {kd : IntKind} {p : Int} {cs : Array Value} (hT : P.underlying S = some (.array m e)) (he : Sz P e es) (hc : Sc P e) (hg : gval ops l ⟨some d, .index S x y, T, ps, af, g⟩ = some true) (hd : Nat.blt d n = true) (hx : ev l x = some (.agg cs)) (hy : ev l y = some (.int kd p))
    (h1 : 0 ≤ p) (h2 : p < m) (hv : cs[p.toNat * es]? = some v) (k : K ((d, v) :: l) w) : WO P ops n ⟨some d, .index S x y, T, ps, af, g⟩ l w K :=
  WO.val hg hd (fun a ha => by
    simp [execOp, ha.ev hx, ha.ev hy, Instr.index, asIntOf, run_underlying hT, h1, h2, he.run w, part, hc.run w, hv]) k
theorem ixp {m e es : Nat} {kd : IntKind} {p : Int} {cs : Array Value} (hT : P.underlying S = some (.array m e)) (he : Ag P e es) (hg : gval ops l ⟨some d, .index S x y, T, ps, af, g⟩ = some true) (hd : Nat.blt d n = true) (hx : ev l x = some (.agg cs)) (hy : ev l y = some (.int kd p))
    (h1 : 0 ≤ p) (h2 : p < m) (hv : cs.extract (p.toNat * es) (p.toNat * es + es) = u.cells) (hu : u = .agg u.cells) (k : K ((d, u) :: l) w) : WO P ops n ⟨some d, .index S x y, T, ps, af, g⟩ l w K :=
  WO.val hg hd (fun a ha => by
    have hz : Sz P e es := he.2
    simp [execOp, ha.ev hx, ha.ev hy, Instr.index, asIntOf, run_underlying hT, h1, h2, hz.run w, part, he.run w, hv, ← hu]) k
theorem run_callFunc {f : Nat} (hn : Callable P f) (args : Array Value) (w : World) : (callFunc f args).run P w = .ok (.enter f args) w := by
  obtain ⟨fn, hf, h1, h2⟩ := hn
  have h1' : ¬ fn.name = "runtime.NumGoroutine" := by simpa using h1
  have h2' : ¬ fn.body = none := by intro e; simp [e] at h2
  simp [callFunc, hf, h1', h2']
theorem cl {f : Operand} {fid : Nat} {cap xs : List Value} {asx : List Operand} {vs : List Value} {A : Array Nat} {R : Ending → World → Prop} (hn : Callable P fid)
    (hg : gval ops l ⟨some d, .call ⟨.value f, asx.toArray, A⟩, T, ps, af, g⟩ = some true) (hd : Nat.blt d n = true) (hf : ev l f = some (.func (.func fid) #[] cap.toArray)) (ha : evs l asx = some vs) (hxs : vs ++ cap = xs)
    (hc : Calls P fid xs.toArray w R) (k : ∀ e w', R e w' → ∃ v, e = .returned v ∧ K ((d, v) :: l) w') : WO P ops n ⟨some d, .call ⟨.value f, asx.toArray, A⟩, T, ps, af, g⟩ l w K := by
  intro a hi
  rw [if_pos (hi.wanted hg)]
  have e1 : (execOp a.eval ⟨some d, .call ⟨.value f, asx.toArray, A⟩, T, ps, af, g⟩).run P w = .ok (.enter fid xs.toArray) w := by
    have h2 : asx.toArray.map a.eval = vs.toArray := by simp [← hi.evs ha]
    simp [execOp, resolve, h2, hi.ev hf, Deferred.ofValue, invoke, run_callFunc hn, hxs]
  simp only [Oper.wp, e1, Oper.upon]
  refine hc.mono fun e w' hr => ?_
  obtain ⟨v, rfl, hk⟩ := k e w' hr
  exact ⟨_, hi.put v (by simpa [Nat.blt_eq] using hd), hk⟩
theorem cv {f : Operand} {fid : Nat} {cap xs : List Value} {asx : List Operand} {vs : List Value} {A : Array Nat} (hn : Callable P fid) (hS : St w0 F L w)
    (hg : gval ops l ⟨some d, .call ⟨.value f, asx.toArray, A⟩, T, ps, af, g⟩ = some true) (hd : Nat.blt d n = true) (hf : ev l f = some (.func (.func fid) #[] cap.toArray)) (ha : evs l asx = some vs) (hxs : vs ++ cap = xs)
    (hc : Calls P fid xs.toArray w (Ret w v)) (k : ∀ w', St w0 F L w' → K ((d, v) :: l) w') : WO P ops n ⟨some d, .call ⟨.value f, asx.toArray, A⟩, T, ps, af, g⟩ l w K :=
  cl hn hg hd hf ha hxs hc (fun _ w' ⟨he, hs⟩ => ⟨v, he, k w' (hS.call0 hs)⟩)
theorem cs {f : Operand} {fid : Nat} {cap xs : List Value} {asx : List Operand} {vs : List Value} {A : Array Nat} {R : Value → List (Nat × Obj) → Prop} (hn : Callable P fid) (hS : St w0 F L w)
    (hg : gval ops l ⟨some d, .call ⟨.value f, asx.toArray, A⟩, T, ps, af, g⟩ = some true) (hd : Nat.blt d n = true) (hf : ev l f = some (.func (.func fid) #[] cap.toArray)) (ha : evs l asx = some vs) (hxs : vs ++ cap = xs)
    (hc : Calls P fid xs.toArray w (RetS w R)) (k : ∀ v L' w', R v L' → St w0 F (L' ++ L) w' → K ((d, v) :: l) w') : WO P ops n ⟨some d, .call ⟨.value f, asx.toArray, A⟩, T, ps, af, g⟩ l w K :=
  cl hn hg hd hf ha hxs hc (fun _ w' ⟨v, L', he, hr, hs⟩ => ⟨v, he, k v L' w' hr (hS.call0 hs)⟩)
end
end Go.X
namespace Go.X
open Go
section
variable {P : Program} {ops : Array Oper} {n : Nat}
theorem wpOp_xf {Q : XPost} {i : Nat} {a : Act} {w : World} {K K' : Act → World → Prop} (h : ∀ a w, K a w → K' a w) (hh : wpOp P ops XF i K a w) : wpOp P ops Q i K' a w := by
  unfold wpOp at *
  split
  · rename_i ho; simp only [ho] at hh; exact h _ _ hh
  · rename_i o ho
    simp only [ho] at hh
    split
    · rename_i hw
      simp only [hw, if_true] at hh
      rcases hh with hh | ⟨_, _, _, hf⟩
      · exact .inl (wp_xf h hh)
      · exact hf.elim
    · rename_i hw
      simp only [hw] at hh
      exact h _ _ hh
def wpJ (P : Program) (ops : Array Oper) (H : Nat → Bool) (J : World → Prop) (E : Act → World → Prop) : Nat → Array Bool → Act → World → Prop
  | 0, listed, a, w => Region.ready .any ops listed = [] ∧ E a w
  | fuel + 1, listed, a, w =>
    (Region.ready .any ops listed = [] → E a w) ∧
    ∀ i ∈ Region.ready .any ops listed, wpOp P ops XF i (fun a' w' => (H i = true → J w') ∧ wpJ P ops H J E fuel (listed.setIfInBounds i true) a' w') a w
variable {H : Nat → Bool} {J : World → Prop} {E : Act → World → Prop}
theorem wpJ_any {Q : XPost} : ∀ (fuel : Nat) (listed : Array Bool) (a : Act) (w : World), wpJ P ops H J (Q .normal) fuel listed a w → wpAny P .any ops Q fuel listed a w
  | 0, _, _, _, h => h
  | fuel + 1, listed, a, w, h => ⟨h.1, fun i hi => wpOp_xf (fun a' w' h' => wpJ_any fuel _ a' w' h'.2) (h.2 i hi)⟩
def YJ (P : Program) (ops : Array Oper) (J : World → Prop) (o : Oper) (v : Value) (a : Act) : Prop :=
  (Region.wanted o (yielded ops a.tmps) = true ∧ ∀ w, J w → (execOp a.eval o).run P w = .ok (.value v) w) ∨
  (Region.wanted o (yielded ops a.tmps) = false ∧ v = undef)
theorem YJ.wpOp {i : Nat} {o : Oper} {v : Value} {a : Act} (hi : ops[i]? = some o) (hy : YJ P ops J o v a)
    {K : Act → World → Prop} {w : World} (hJ : J w) (h : K (a.put o.dst v) w) : wpOp P ops XF i K a w := by
  unfold Go.wpOp
  simp only [hi]
  rcases hy with ⟨hw, hv⟩ | ⟨hw, rfl⟩
  · simp only [hw, if_true, Oper.wp, hv w hJ, Oper.upon]; exact .inl h
  · simp only [hw, Bool.false_eq_true, if_false]; exact h
theorem YJ.of_same {o : Oper} {v : Value} {a a' : Act} (hy : YJ P ops J o v a) (he : execOp a'.eval o = execOp a.eval o)
    (hw : Region.wanted o (yielded ops a'.tmps) = Region.wanted o (yielded ops a.tmps)) : YJ P ops J o v a' := by
  unfold YJ at *
  rw [he, hw]
  exact hy
theorem wpOp_putJ {j : Nat} {oi oj : Oper} {v : Value} (hj : ops[j]? = some oj) (hap : oi.apart ops oj = true)
    (hsi : ∀ cs b, oi.op ≠ .select cs b) (hsj : ∀ cs b, oj.op ≠ .select cs b) {K : Act → World → Prop} {a : Act} {w : World}
    (hy : YJ P ops J oi v a) (h : wpOp P ops XF j K (a.put oi.dst v) w) :
    wpOp P ops XF j (fun a' w' => YJ P ops J oi v a' ∧ K (a'.put oi.dst v) w') a w := by
  obtain ⟨h1, h2, h3⟩ := Oper.apart_spec hap
  have keep : ∀ (a : Act), YJ P ops J oi v a → ∀ u, YJ P ops J oi v (a.put oj.dst u) := fun a hy u =>
    hy.of_same (execOp_put oi hsi a oj.dst u h3) (wanted_put oi a oj.dst u h3)
  have keepD : ∀ d, YJ P ops J oi v { a with defers := d :: a.defers } := fun d => hy.of_same rfl rfl
  unfold wpOp at *
  simp only [hj] at *
  rw [wanted_put oj a oi.dst v h1] at h
  split
  · rename_i hw
    simp only [hw, if_true] at h
    rcases h with h | ⟨_, _, _, hf⟩
    case inr => exact hf.elim
    refine .inl ?_
    unfold Oper.wp at *
    rw [execOp_put oj hsj a oi.dst v h1] at h
    generalize (execOp a.eval oj).run P w = r at *
    cases r with
    | ok nx w' =>
      cases nx <;> simp only [Oper.upon] at h ⊢
      case value u => exact ⟨keep a hy u, by rw [← Act.put_comm a v u h2]; exact h⟩
      case skip => exact ⟨keep a hy _, by rw [← Act.put_comm a v undef h2]; exact h⟩
      case defer d =>
        refine ⟨keep _ (keepD d) _, ?_⟩
        rw [← Act.put_comm _ v undef h2, ← Act.put_defers]
        exact h
      case enter f args =>
        refine Calls.mono h fun e w'' he => ?_
        cases e with
        | returned u => exact ⟨keep a hy u, by rw [← Act.put_comm a v u h2]; exact he⟩
        | panicked c => exact he.elim
        | outgrown => exact he
      case row row args => exact Rows.mono h fun u w'' he => ⟨keep a hy u, by rw [← Act.put_comm a v u h2]; exact he⟩
    | halt x w' =>
      cases x <;> simp only [Oper.upon] at h ⊢
      case panic u => exact h.elim
  · rename_i hw
    simp only [hw] at h
    exact ⟨keep a hy _, by rw [← Act.put_comm a v undef h2]; exact h⟩
theorem wpJ_first {i : Nat} {oi : Oper} {v : Value} (hi : ops[i]? = some oi) (hsel : ∀ (j : Nat) (o : Oper) cs b, ops[j]? = some o → o.op ≠ .select cs b) :
    ∀ (fuel : Nat) (listed : Array Bool) (a : Act) (w : World),
      (∀ j oj, ops[j]? = some oj → j ≠ i → listed.getD j true = false → (∀ e ∈ oj.after, Region.binds .any e = true → e.on ≠ i) → oi.apart ops oj = true ∧ H j = true) →
      i ∈ Region.ready .any ops listed → YJ P ops J oi v a → J w →
      wpJ P ops H J E fuel (listed.setIfInBounds i true) (a.put oi.dst v) w → wpJ P ops H J E (fuel + 1) listed a w := by
  intro fuel
  induction fuel with
  | zero =>
    intro listed a w _ hr hy hJ HH
    refine ⟨fun h => (by rw [h] at hr; cases hr), fun j hj => ?_⟩
    by_cases hji : j = i
    · subst hji; exact hy.wpOp hi hJ ⟨fun _ => hJ, HH⟩
    · have := ready_mono hj hji
      rw [HH.1] at this
      cases this
  | succ fuel ih =>
    intro listed a w hfree hr hy hJ HH
    refine ⟨fun h => (by rw [h] at hr; cases hr), fun j hj => ?_⟩
    by_cases hji : j = i
    · subst hji; exact hy.wpOp hi hJ ⟨fun _ => hJ, HH⟩
    · have h1 := HH.2 j (ready_mono hj hji)
      obtain ⟨hjun, oj, hoj, hall⟩ := mem_ready.1 hj
      have hnot : ∀ e ∈ oj.after, Region.binds .any e = true → e.on ≠ i := fun e he hb heq => by
        have h1 := hall e he hb
        have h0 := (mem_ready.1 hr).1
        rw [heq] at h1
        rcases Nat.lt_or_ge i listed.size with h' | h'
        · simp [h'] at h0 h1; rw [h0] at h1; cases h1
        · simp [Array.getElem?_eq_none h'] at h1
      obtain ⟨hap, hHj⟩ := hfree j oj hoj hji hjun hnot
      have h2 := wpOp_putJ hoj hap (fun cs b => hsel i oi cs b hi) (fun cs b => hsel j oj cs b hoj) hy h1
      have hfree' : ∀ k ok, ops[k]? = some ok → k ≠ i → (listed.setIfInBounds j true).getD k true = false →
          (∀ e ∈ ok.after, Region.binds .any e = true → e.on ≠ i) → oi.apart ops ok = true ∧ H k = true := fun k ok hk hki hun hno => by
        refine hfree k ok hk hki ?_ hno
        by_cases hjk : j = k
        · subst hjk; exact hjun
        · rw [getD_set_ne true hjk] at hun; exact hun
      refine wpOp_mono (fun a' w' h3 => ?_) h2
      obtain ⟨hy', hJ', h4⟩ := h3
      refine ⟨hJ', ih (listed.setIfInBounds j true) a' w' hfree' (ready_mono hr (Ne.symm hji)) hy' (hJ' hHj) ?_⟩
      rw [Array.setIfInBounds_comm _ _ hji]
      exact h4
def freeJ (ops : Array Oper) (listed : Array Bool) (t i : Nat) : Bool :=
  match ops[i]? with
  | none => false
  | some oi => (List.range ops.size).all fun j => j == i || listed.getD j true || match ops[j]? with
      | some oj => oj.after.any (fun e => Region.binds .any e && e.on == i) || (oi.apart ops oj && Nat.blt j t)
      | none => true
theorem freeJ_spec {t i : Nat} {oi : Oper} {listed : Array Bool} (hi : ops[i]? = some oi) (h : freeJ ops listed t i = true) (j : Nat) (oj : Oper)
    (hj : ops[j]? = some oj) (hne : j ≠ i) (hun : listed.getD j true = false) (hno : ∀ e ∈ oj.after, Region.binds .any e = true → e.on ≠ i) :
    oi.apart ops oj = true ∧ Nat.blt j t = true := by
  simp only [freeJ, hi, List.all_eq_true, List.mem_range] at h
  have h1 := h j (Array.getElem?_eq_some_iff.1 hj).1
  simp only [hj, Bool.or_eq_true, beq_iff_eq, hne, false_or, hun, Bool.false_eq_true] at h1
  rcases h1 with h1 | h1
  · obtain ⟨e, he, hb⟩ := Array.any_eq_true'.1 h1
    simp only [Bool.and_eq_true, beq_iff_eq] at hb
    exact absurd hb.2 (hno e he hb.1)
  · simpa using h1
def quietOp : Op → Bool
  | .move _ | .assign _ | .pick .. | .load .. | .binOp .. | .unOp .. | .convert .. | .sliceToArrayPointer .. | .makeInterface .. | .makeFunc ..
  | .nilCheck _ | .slice .. | .fieldAddr .. | .field .. | .indexAddr .. | .index .. | .extract .. | .build .. | .lookup .. => true
  | .call { callee := .builtin .len, .. } | .call { callee := .builtin .cap, .. } | .call { callee := .builtin .max, .. } | .call { callee := .builtin .min, .. } => true
  | _ => false
theorem quiet_run_v {s : Sem Value} {w w' : World} {nx : Next} (h : (do pure (Next.value (← s)) : Sem Next).run P w = .ok nx w') : ∃ v, nx = .value v := by
  rw [Sem.run_bind] at h
  cases hs : s.run P w with
  | ok v w1 => rw [hs] at h; simp at h; exact ⟨v, h.1.symm⟩
  | halt x w1 => rw [hs] at h; simp at h
theorem quiet_run {o : Oper} (hq : quietOp o.op = true) {ρ : Operand → Value} {w w' : World} {nx : Next} (h : (execOp ρ o).run P w = .ok nx w') : ∃ v, nx = .value v := by
  obtain ⟨dst, op, type, pos, after, guard⟩ := o
  cases op <;> simp only [quietOp] at hq <;> try (cases hq; done)
  all_goals simp only [execOp] at h
  all_goals first
    | exact quiet_run_v h
    | (simp only [Sem.run_pure, Result.ok.injEq] at h; exact ⟨_, h.1.symm⟩)
    | skip
  case pick c a b =>
    rw [Sem.run_bind] at h
    cases hs : (asBool (ρ c)).run P w with
    | ok v w1 => rw [hs] at h; simp at h; exact ⟨_, h.1.symm⟩
    | halt x w1 => rw [hs] at h; simp at h
  case nilCheck x =>
    split at h
    all_goals first
      | (simp only [Sem.run_pure, Result.ok.injEq] at h; exact ⟨_, h.1.symm⟩)
      | skip
    · simp [runtimePanic] at h
    · simp [runtimePanic] at h
    · simp [runtimePanic] at h
    · split at h
      · simp [runtimePanic] at h
      · simp only [Sem.run_bind, run_program, Result.andThen_ok] at h
        revert h
        generalize Sem.run P (nilAhead _ _ _ _) w = r
        intro h
        cases r with
        | ok v w1 =>
          simp only [Result.andThen_ok] at h
          split at h
          · simp at h
          · simp at h; exact ⟨_, h.1.symm⟩
        | halt x w1 => simp at h
      · simp only [Sem.run_pure, Result.ok.injEq] at h; exact ⟨_, h.1.symm⟩
  case call c =>
    obtain ⟨callee, args, types⟩ := c
    cases callee with
    | builtin b =>
      cases b <;> simp only [quietOp] at hq <;> try (cases hq; done)
      all_goals
        simp only [resolve, Sem.run_bind, Sem.run_pure, Result.andThen_ok, invoke, builtin] at h
        exact quiet_run_v (by rw [Sem.run_bind]; exact h)
    | value f => simp [quietOp] at hq
    | invoke r m => simp [quietOp] at hq
variable {Q : XPost} {t : Nat} {l : Regs} {w : World}
def DW (P : Program) (ops : Array Oper) (n : Nat) (Q : XPost) (t : Nat) (J : World → Prop) (fuel : Nat) (listed : Array Bool) (l : Regs) (w : World) : Prop :=
  ∀ a, Is n l a → wpJ P ops (fun j => Nat.blt j t) J (Q .normal) fuel listed a w
theorem wc_draw {id : Nat} (hm : P.follows .mixedOrders = true) (t : Nat) (J : World → Prop) (h : DW P ops n Q t J ops.size (Array.replicate ops.size false) l w.drew) : WC P n Q (.region id ops true) l w :=
  fun a ha => wp_region_any hm (wpJ_any _ _ _ _ (h a ha))
theorem rd {id : Nat} {y : Code} (hm : P.follows .mixedOrders = true) (t : Nat) (J : World → Prop) (h : DW P ops n (Exit.then (fun a w => y.wp P Q a w) Q) t J ops.size (Array.replicate ops.size false) l w.drew) :
    WC P n Q (.seq (.region id ops true) y) l w := wc_seq (wc_draw hm t J h)
theorem dq {fuel : Nat} {listed : Array Bool} {d : Nat} {v : Value} {op : Op} {T : Nat} {ps : String} {af : Array Edge} {g : Option (Nat × Bool)} (i : Nat) (hi : ops[i]? = some ⟨some d, op, T, ps, af, g⟩)
    (hs : Region.noSelect ops = true) (hf : freeJ ops listed t i = true) (hr : (Region.ready .any ops listed).contains i = true) (hq : quietOp op = true) (hd : Nat.blt d n = true)
    (hv : ∀ w, J w → WO P ops n ⟨some d, op, T, ps, af, g⟩ l w (fun l' w' => l' = (d, v) :: l ∧ w' = w)) (hJ : J w)
    (k : DW P ops n Q t J fuel (listed.setIfInBounds i true) ((d, v) :: l) w) : DW P ops n Q t J (fuel + 1) listed l w := by
  intro a ha
  have hdn : d < n := by simpa [Nat.blt_eq] using hd
  have hY : YJ P ops J ⟨some d, op, T, ps, af, g⟩ v a := by
    by_cases hw : Region.wanted (⟨some d, op, T, ps, af, g⟩ : Oper) (yielded ops a.tmps) = true
    · refine .inl ⟨hw, fun w' hJ' => ?_⟩
      have h1 := hv w' hJ' a ha
      rw [if_pos hw] at h1
      unfold Oper.wp at h1
      cases hrun : (execOp a.eval ⟨some d, op, T, ps, af, g⟩).run P w' with
      | ok nx w1 =>
        obtain ⟨u, rfl⟩ := quiet_run (P := P) hq hrun
        rw [hrun] at h1
        simp only [Oper.upon] at h1
        obtain ⟨l', hl', rfl, rfl⟩ := h1
        have h2 := hl'.val d v (look_cons_eq l v (Nat.lt_of_lt_of_le hdn ha.small))
        have hsz : d < a.tmps.size := by rw [ha.size]; exact hdn
        simp [Act.put, hsz] at h2
        rw [h2]
      | halt x w1 =>
        rw [hrun] at h1
        cases x <;> simp [Oper.upon, XF] at h1
    · have h1 := hv w hJ a ha
      rw [if_neg hw] at h1
      obtain ⟨l', hl', rfl, _⟩ := h1
      have h2 := hl'.val d v (look_cons_eq l v (Nat.lt_of_lt_of_le hdn ha.small))
      have hsz : d < a.tmps.size := by rw [ha.size]; exact hdn
      simp [Act.put, hsz] at h2
      exact .inr ⟨by simpa using hw, h2.symm⟩
  refine wpJ_first hi (fun j o cs b ho => Region.noSelect_spec hs j o cs b ho) fuel listed a w (fun j oj hj hne hun hno => freeJ_spec hi hf j oj hj hne hun hno) (by simpa using hr) hY hJ ?_
  exact k _ (ha.put v hdn)
theorem wpOp_of_WO {i : Nat} {o : Oper} {K : Regs → World → Prop} {a : Act} (hi : ops[i]? = some o) (h : WO P ops n o l w K) (ha : Is n l a) {K' : Act → World → Prop} (hk : ∀ l' a' w', Is n l' a' → K l' w' → K' a' w') :
    wpOp P ops XF i K' a w := by
  unfold wpOp
  simp only [hi]
  have h1 := h a ha
  split
  · rename_i hw
    rw [if_pos hw] at h1
    exact .inl (Oper.wp_mono (fun a' w' ⟨l', hl', hk'⟩ => hk l' a' w' hl' hk') h1)
  · rename_i hw
    rw [if_neg hw] at h1
    obtain ⟨l', hl', hk'⟩ := h1
    exact hk l' _ _ hl' hk'
theorem dl {fuel : Nat} {listed : Array Bool} {o : Oper} (i : Nat) (hi : ops[i]? = some o) (hr : Region.ready .any ops listed = [i])
    (h : WO P ops n o l w (fun l' w' => (Nat.blt i t = true → J w') ∧ DW P ops n Q t J fuel (listed.setIfInBounds i true) l' w')) : DW P ops n Q t J (fuel + 1) listed l w := by
  intro a ha
  refine ⟨fun h0 => (by rw [hr] at h0; cases h0), fun j hj => ?_⟩
  rw [hr] at hj
  simp at hj
  subst hj
  exact wpOp_of_WO hi h ha fun l' a' w' hl' hk => ⟨hk.1, hk.2 a' hl'⟩
theorem dl2 {fuel : Nat} {listed : Array Bool} {o o' : Oper} (i j : Nat) (hi : ops[i]? = some o) (hj : ops[j]? = some o') (hr : Region.ready .any ops listed = [i, j])
    (h : WO P ops n o l w (fun l' w' => (Nat.blt i t = true → J w') ∧ DW P ops n Q t J fuel (listed.setIfInBounds i true) l' w'))
    (h' : WO P ops n o' l w (fun l' w' => (Nat.blt j t = true → J w') ∧ DW P ops n Q t J fuel (listed.setIfInBounds j true) l' w')) : DW P ops n Q t J (fuel + 1) listed l w := by
  intro a ha
  refine ⟨fun h0 => (by rw [hr] at h0; cases h0), fun k hk => ?_⟩
  rw [hr] at hk
  simp at hk
  rcases hk with rfl | rfl
  · exact wpOp_of_WO hi h ha fun l' a' w' hl' hk => ⟨hk.1, hk.2 a' hl'⟩
  · exact wpOp_of_WO hj h' ha fun l' a' w' hl' hk => ⟨hk.1, hk.2 a' hl'⟩
theorem dl3 {fuel : Nat} {listed : Array Bool} {o o' o'' : Oper} (i j m : Nat) (hi : ops[i]? = some o) (hj : ops[j]? = some o') (hm : ops[m]? = some o'') (hr : Region.ready .any ops listed = [i, j, m])
    (h : WO P ops n o l w (fun l' w' => (Nat.blt i t = true → J w') ∧ DW P ops n Q t J fuel (listed.setIfInBounds i true) l' w'))
    (h' : WO P ops n o' l w (fun l' w' => (Nat.blt j t = true → J w') ∧ DW P ops n Q t J fuel (listed.setIfInBounds j true) l' w'))
    (h'' : WO P ops n o'' l w (fun l' w' => (Nat.blt m t = true → J w') ∧ DW P ops n Q t J fuel (listed.setIfInBounds m true) l' w')) : DW P ops n Q t J (fuel + 1) listed l w := by
  intro a ha
  refine ⟨fun h0 => (by rw [hr] at h0; cases h0), fun k hk => ?_⟩
  rw [hr] at hk
  simp at hk
  rcases hk with rfl | rfl | rfl
  · exact wpOp_of_WO hi h ha fun l' a' w' hl' hk => ⟨hk.1, hk.2 a' hl'⟩
  · exact wpOp_of_WO hj h' ha fun l' a' w' hl' hk => ⟨hk.1, hk.2 a' hl'⟩
  · exact wpOp_of_WO hm h'' ha fun l' a' w' hl' hk => ⟨hk.1, hk.2 a' hl'⟩
theorem de {fuel : Nat} {listed : Array Bool} (hr : Region.ready .any ops listed = []) (h : WQ n Q .normal l w) : DW P ops n Q t J fuel listed l w := by
  intro a ha
  cases fuel with
  | zero => exact ⟨hr, h a ha⟩
  | succ f => exact ⟨fun _ => h a ha, by rw [hr]; simp⟩
end
end Go.X
namespace Go.X
open Go
abbrev V8 (n : Nat) := Vector UInt8 n
abbrev V32 (n : Nat) := Vector UInt32 n
abbrev V64 (n : Nat) := Vector UInt64 n
def BV {n : Nat} (v : V8 n) : Array Value := v.toArray.map fun x => U8 x
def WV {n : Nat} (v : V32 n) : Array Value := v.toArray.map fun x => U32 x
def DV {n : Nat} (v : V64 n) : Array Value := v.toArray.map fun x => U64 x
def gv {n : Nat} (v : V8 n) (i : Nat) : UInt8 := v.toArray.getD i 0
def gw {n : Nat} (v : V32 n) (i : Nat) : UInt32 := v.toArray.getD i 0
section
variable {n : Nat}
theorem BV_size (v : V8 n) : (BV v).size = n := by simp [BV]
theorem WV_size (v : V32 n) : (WV v).size = n := by simp [WV]
theorem gv_eq (v : V8 n) (i : Nat) (h : i < n) : gv v i = v[i] := by simp [gv, h]
theorem gw_eq (v : V32 n) (i : Nat) (h : i < n) : gw v i = v[i] := by simp [gw, h]
theorem BV_get (v : V8 n) (i : Nat) (h : i < n) : (BV v)[i]? = some (U8 (gv v i)) := by simp [BV, gv, h]
theorem WV_get (v : V32 n) (i : Nat) (h : i < n) : (WV v)[i]? = some (U32 (gw v i)) := by simp [WV, gw, h]
theorem BV_set (v : V8 n) (i : Nat) (x : UInt8) : (BV v).setIfInBounds i (U8 x) = BV (v.setIfInBounds i x) := by
  simp only [BV, Vector.toArray_setIfInBounds, Array.map_setIfInBounds]
theorem WV_set (v : V32 n) (i : Nat) (x : UInt32) : (WV v).setIfInBounds i (U32 x) = WV (v.setIfInBounds i x) := by
  simp only [WV, Vector.toArray_setIfInBounds, Array.map_setIfInBounds]
theorem BV_one (v : V8 n) : (BV v).all (fun x => x.oneCell') = true := by
  simp only [BV, Array.all_map]; exact Array.all_eq_true_iff_forall_mem.2 fun _ _ => rfl
theorem WV_one (v : V32 n) : (WV v).all (fun x => x.oneCell') = true := by
  simp only [WV, Array.all_map]; exact Array.all_eq_true_iff_forall_mem.2 fun _ _ => rfl
def seg8 (m : Nat) (v : V8 n) (o : Nat) : V8 m := Vector.ofFn fun i => gv v (o + i)
theorem BV_extract (m : Nat) (v : V8 n) (o : Nat) (h : o + m ≤ n) : (BV v).extract o (o + m) = BV (seg8 m v o) := by
  apply Array.ext
  · simp [BV]; omega
  · intro i h1 h2
    simp [BV] at h1 h2
    simp [BV, seg8, gv, show o + i < n by omega]
def fill8 (n : Nat) (f : Nat → UInt8) (z : V8 n) (k : Nat) : V8 n := Vector.ofFn fun i => if i.val < k then f i else gv z i
def fill32 (n : Nat) (f : Nat → UInt32) (z : V32 n) (k : Nat) : V32 n := Vector.ofFn fun i => if i.val < k then f i else gw z i
theorem gv_ofFn (f : Fin n → UInt8) (i : Nat) (h : i < n) : gv (Vector.ofFn f) i = f ⟨i, h⟩ := by simp [gv, h]
theorem gw_ofFn (f : Fin n → UInt32) (i : Nat) (h : i < n) : gw (Vector.ofFn f) i = f ⟨i, h⟩ := by simp [gw, h]
theorem fill8_0 (f : Nat → UInt8) (z : V8 n) : fill8 n f z 0 = z := by
  apply Vector.ext; intro i h; simp [fill8, gv, h]
theorem fill8_succ (f : Nat → UInt8) (z : V8 n) (k : Nat) : (fill8 n f z k).setIfInBounds k (f k) = fill8 n f z (k + 1) := by
  apply Vector.ext; intro i h
  rw [Vector.getElem_setIfInBounds h]
  simp only [fill8, Vector.getElem_ofFn]
  by_cases e : k = i
  · subst e; simp
  · have e1 : (i < k + 1) = (i < k) := by simp; omega
    simp [e, e1]
theorem fill8_n (f : Nat → UInt8) (z : V8 n) : fill8 n f z n = Vector.ofFn fun i => f i.val := by
  apply Vector.ext; intro i h; simp [fill8, h]
theorem fill32_0 (f : Nat → UInt32) (z : V32 n) : fill32 n f z 0 = z := by
  apply Vector.ext; intro i h; simp [fill32, gw, h]
theorem fill32_succ (f : Nat → UInt32) (z : V32 n) (k : Nat) : (fill32 n f z k).setIfInBounds k (f k) = fill32 n f z (k + 1) := by
  apply Vector.ext; intro i h
  rw [Vector.getElem_setIfInBounds h]
  simp only [fill32, Vector.getElem_ofFn]
  by_cases e : k = i
  · subst e; simp
  · have e1 : (i < k + 1) = (i < k) := by simp; omega
    simp [e, e1]
theorem fill32_n (f : Nat → UInt32) (z : V32 n) : fill32 n f z n = Vector.ofFn fun i => f i.val := by
  apply Vector.ext; intro i h; simp [fill32, h]
theorem gv_fill_ge (f : Nat → UInt8) (z : V8 n) {i k : Nat} (h : k ≤ i) : gv (fill8 n f z k) i = gv z i := by
  by_cases hn : i < n
  · rw [fill8, gv_ofFn _ _ hn]; simp; omega
  · simp [gv, hn]
end
end Go.X
namespace Go.X
open Go
theorem SB : (∀ (p : Prop) [Decidable p], (decide p = true) = p) ∧ (∀ (p : Prop) [Decidable p], (decide p = false) = ¬p) ∧
    (∀ a b : Int, ((a == b) = true) = (a = b)) ∧ (∀ a b : Int, ((a == b) = false) = (¬ a = b)) ∧ (∀ a b : Int, ((a != b) = true) = (¬ a = b)) ∧ (∀ a b : Int, ((a != b) = false) = (a = b)) ∧
    (∀ b : Bool, ((!b) = true) = (b = false)) ∧ (∀ b : Bool, ((!b) = false) = (b = true)) := by
  refine ⟨?_, ?_, ?_, ?_, ?_, ?_, ?_, ?_⟩ <;> intros <;> simp
theorem St.tl {w0 w : World} {F : List Nat} {p : Nat × Obj} {L : List (Nat × Obj)} (h : St w0 F (p :: L) w) : St w0 F L w := h.sublist (List.sublist_cons_self p L)
section
variable {P : Program} {ops : Array Oper} {n : Nat} {l : Regs} {w w0 : World} {K : Regs → World → Prop} {F : List Nat} {L : List (Nat × Obj)} {Q : XPost}
variable {d T S : Nat} {ps : String} {af : Array Edge} {g : Option (Nat × Bool)} {x y : Operand} {v u : Value}
theorem startw {c : Code} (h : ∀ w, St w0 [] [] w → WC P n Q c l w) : WC P n Q c l w0 := h w0 (St.refl w0)
theorem wc_scope {c : Code} (h : WC P n (Exit.noGoto Q) c l w) : WC P n Q (.scope c) l w := fun a ha => wp_scope_straight (h a ha)
theorem wc_label {i : Nat} (h : WQ n Q .normal l w) : WC P n Q (.label i) l w := fun a ha => wp_label (h a ha)
theorem q_scope_ret (h : WQ n Q .ret l w) : WQ n (Exit.noGoto Q) .ret l w := h
theorem dfs_again {l : Regs} {t : Nat} {v : Value} (ht : look l t = some v) : dfs ((t, v) :: l) = dfs l := by
  exact dfs_cons l v (look_lt ht)
theorem Is.again {l : Regs} {a : Act} (h : Is n l a) {t : Nat} {v : Value} (ht : look l t = some v) : Is n ((t, v) :: l) a :=
  ⟨h.size, h.small, h.defers.trans (dfs_again ht).symm, fun s u hs => by
    by_cases e : t = s
    · subst e; rw [look_cons_eq l v (look_lt ht)] at hs; simp at hs; subst hs; exact h.val _ _ ht
    · rw [look_cons_ne l v e] at hs; exact h.val s u hs⟩
theorem spl {r : List Oper} {b : Bool} (t : Nat) (h : look l t = some (.bool b)) (ht : b = true → WL P ops n Q r ((t, .bool true) :: l) w) (hf : b = false → WL P ops n Q r ((t, .bool false) :: l) w) : WL P ops n Q r l w := by
  cases r with
  | nil => cases b
           · exact fun a ha => hf rfl a (ha.again h)
           · exact fun a ha => ht rfl a (ha.again h)
  | cons o r => cases b
                · exact fun a ha => hf rfl a (ha.again h)
                · exact fun a ha => ht rfl a (ha.again h)
theorem spd {t' : Nat} {J : World → Prop} {fuel : Nat} {listed : Array Bool} {b : Bool} (t : Nat) (h : look l t = some (.bool b)) (ht : b = true → DW P ops n Q t' J fuel listed ((t, .bool true) :: l) w) (hf : b = false → DW P ops n Q t' J fuel listed ((t, .bool false) :: l) w) : DW P ops n Q t' J fuel listed l w := by
  cases b
  · exact fun a ha => hf rfl a (ha.again h)
  · exact fun a ha => ht rfl a (ha.again h)
theorem ian {b off m e es : Nat} {kd : IntKind} {p : Int} (j o : Nat) (hT : P.underlying S = some (.array m e)) (he : Sz P e es) (hg : gval ops l ⟨some d, .indexAddr S x y, T, ps, af, g⟩ = some true) (hd : Nat.blt d n = true) (hx : ev l x = some (Ptr b off)) (hy : ev l y = some (.int kd p))
    (hp : p = (j : Int)) (h2 : j < m) (ho : o = off + j * es) (k : K ((d, Ptr b o) :: l) w) : WO P ops n ⟨some d, .indexAddr S x y, T, ps, af, g⟩ l w K :=
  ia hT he hg hd hx hy (by omega) (by omega) (by subst hp ho; simpa using k)
theorem ixn {m e : Nat} {kd : IntKind} {p : Int} {cs : Array Value} (j : Nat) (hT : P.underlying S = some (.array m e)) (he : Sz P e 1) (hc : Sc P e) (hg : gval ops l ⟨some d, .index S x y, T, ps, af, g⟩ = some true) (hd : Nat.blt d n = true) (hx : ev l x = some (.agg cs)) (hy : ev l y = some (.int kd p))
    (hp : p = (j : Int)) (h2 : j < m) (hv : cs[j]? = some v) (k : K ((d, v) :: l) w) : WO P ops n ⟨some d, .index S x y, T, ps, af, g⟩ l w K :=
  ix hT he hc hg hd hx hy (by omega) (by omega) (by subst hp; simpa using hv) k
theorem ixpn {m e es : Nat} {kd : IntKind} {p : Int} {cs : Array Value} (j : Nat) (hT : P.underlying S = some (.array m e)) (he : Ag P e es) (hg : gval ops l ⟨some d, .index S x y, T, ps, af, g⟩ = some true) (hd : Nat.blt d n = true) (hx : ev l x = some (.agg cs)) (hy : ev l y = some (.int kd p))
    (hp : p = (j : Int)) (h2 : j < m) (hv : cs.extract (j * es) (j * es + es) = u.cells) (hu : u = .agg u.cells) (k : K ((d, u) :: l) w) : WO P ops n ⟨some d, .index S x y, T, ps, af, g⟩ l w K :=
  ixp hT he hg hd hx hy (by omega) (by omega) (by subst hp; simpa using hv) hu k
def evp (l : Regs) : List (Nat × Operand) → Option (List (Nat × Value))
  | [] => some []
  | (i, x) :: r => match ev l x, evp l r with
    | some v, some vs => some ((i, v) :: vs)
    | _, _ => none
theorem Is.evp {n : Nat} {l : Regs} {a : Act} (h : Is n l a) : ∀ {xs : List (Nat × Operand)} {vs : List (Nat × Value)}, evp l xs = some vs → xs.map (fun p => (p.1, a.eval p.2)) = vs
  | [], vs, hx => by simp [X.evp] at hx; simp [hx]
  | (i, x) :: r, vs, hx => by
    simp only [X.evp] at hx
    cases h1 : X.ev l x with
    | none => simp [h1] at hx
    | some v =>
      cases h2 : X.evp l r with
      | none => simp [h1, h2] at hx
      | some vr =>
        simp [h1, h2] at hx
        subst hx
        simp [h.ev h1, h.evp h2]
theorem bd {cs : Array Value} {xs : List (Nat × Operand)} {vs : List (Nat × Value)} (hg : gval ops l ⟨some d, .build S xs.toArray, T, ps, af, g⟩ = some true) (hd : Nat.blt d n = true) (hx : evp l xs = some vs) (hb : P.built S vs = some cs)
    (k : K ((d, .agg cs) :: l) w) : WO P ops n ⟨some d, .build S xs.toArray, T, ps, af, g⟩ l w K :=
  WO.val hg hd (fun a ha => by
    have e : (xs.toArray.map fun p => (p.1, a.eval p.2)) = vs.toArray := by simp [← ha.evp hx]
    have e2 := run_build (P := P) w S vs.toArray cs (by simpa using hb)
    simp only [execOp, Sem.run_bind]
    rw [e, e2]
    simp) k
theorem shrk {kd : IntKind} {k2 : IntKind} {p q : Int} {R m : Nat} (hm : m ≤ 8 := by decide) (hq : Int.fdiv p (2 ^ m) = q) (hg : gval ops l ⟨some d, .binOp .shr S x y R, T, ps, af, g⟩ = some true) (hd : Nat.blt d n = true) (hx : ev l x = some (.int kd p)) (hy : ev l y = some (.int k2 (m : Int))) (k : K ((d, .int kd q) :: l) w) :
    WO P ops n ⟨some d, .binOp .shr S x y R, T, ps, af, g⟩ l w K :=
  WO.val hg hd (fun a ha => by
    simp only [execOp, ha.ev hx, ha.ev hy, Sem.run_bind]
    have h4 : ¬ (m : Int) < 0 := by omega
    have h5 : min m kd.bits = m := by cases kd <;> simp [IntKind.bits] <;> omega
    simp [eqGuard, binOp, Op.shift, h4, h5, hq]) k
theorem eqGuard_nilc {op : BinOp} {t : TypeId} {x : Operand} {c v : Value} : eqGuard op t x (.const c) v .nilIface = pure () := by
  cases v <;> first | (cases op <;> rfl) | (cases op <;> cases x <;> rfl)
theorem run_equalIn_nil2 (w : World) {t : TypeId} {ms : Array (String × TypeId)} (h : P.underlying t = some (.interface ms)) (dp : Nat) : (Op.equalIn (dp + 1) t .nilIface .nilIface).run P w = .ok true w := by
  simp [Op.equalIn, run_underlying h]
theorem run_equalIn_inil (w : World) {t s : TypeId} {ms : Array (String × TypeId)} (h : P.underlying t = some (.interface ms)) (dp : Nat) : (Op.equalIn (dp + 1) t (.iface s v) .nilIface).run P w = .ok false w := by
  simp [Op.equalIn, run_underlying h]
theorem eqnn {R : Nat} {ms : Array (String × TypeId)} {s : TypeId} (hu : P.underlying S = some (.interface ms)) (hg : gval ops l ⟨some d, .binOp .eql S x (.const .nilIface) R, T, ps, af, g⟩ = some true) (hd : Nat.blt d n = true) (hx : ev l x = some (.nilIface)) (_hy : ev l (.const .nilIface) = some .nilIface) (k : K ((d, .bool true) :: l) w) :
    WO P ops n ⟨some d, .binOp .eql S x (.const .nilIface) R, T, ps, af, g⟩ l w K :=
  WO.val hg hd (fun a ha => by
    have e : (.const Value.nilIface : Operand) = .const .nilIface := rfl
    have h1 : a.eval (.const .nilIface) = .nilIface := rfl
    simp only [execOp, ha.ev hx, Sem.run_bind, h1, eqGuard_nilc]
    simp [binOp, Op.equal, Op.maxDepth, run_equalIn_nil2 w hu 9999]) k
theorem nenn {R : Nat} {ms : Array (String × TypeId)} {s : TypeId} (hu : P.underlying S = some (.interface ms)) (hg : gval ops l ⟨some d, .binOp .neq S x (.const .nilIface) R, T, ps, af, g⟩ = some true) (hd : Nat.blt d n = true) (hx : ev l x = some (.nilIface)) (_hy : ev l (.const .nilIface) = some .nilIface) (k : K ((d, .bool false) :: l) w) :
    WO P ops n ⟨some d, .binOp .neq S x (.const .nilIface) R, T, ps, af, g⟩ l w K :=
  WO.val hg hd (fun a ha => by
    have e : (.const Value.nilIface : Operand) = .const .nilIface := rfl
    have h1 : a.eval (.const .nilIface) = .nilIface := rfl
    simp only [execOp, ha.ev hx, Sem.run_bind, h1, eqGuard_nilc]
    simp [binOp, Op.equal, Op.maxDepth, run_equalIn_nil2 w hu 9999]) k
theorem eqin {R : Nat} {ms : Array (String × TypeId)} {s : TypeId} (hu : P.underlying S = some (.interface ms)) (hg : gval ops l ⟨some d, .binOp .eql S x (.const .nilIface) R, T, ps, af, g⟩ = some true) (hd : Nat.blt d n = true) (hx : ev l x = some (.iface s v)) (_hy : ev l (.const .nilIface) = some .nilIface) (k : K ((d, .bool false) :: l) w) :
    WO P ops n ⟨some d, .binOp .eql S x (.const .nilIface) R, T, ps, af, g⟩ l w K :=
  WO.val hg hd (fun a ha => by
    have e : (.const Value.nilIface : Operand) = .const .nilIface := rfl
    have h1 : a.eval (.const .nilIface) = .nilIface := rfl
    simp only [execOp, ha.ev hx, Sem.run_bind, h1, eqGuard_nilc]
    simp [binOp, Op.equal, Op.maxDepth, run_equalIn_inil w hu 9999]) k
theorem nein {R : Nat} {ms : Array (String × TypeId)} {s : TypeId} (hu : P.underlying S = some (.interface ms)) (hg : gval ops l ⟨some d, .binOp .neq S x (.const .nilIface) R, T, ps, af, g⟩ = some true) (hd : Nat.blt d n = true) (hx : ev l x = some (.iface s v)) (_hy : ev l (.const .nilIface) = some .nilIface) (k : K ((d, .bool true) :: l) w) :
    WO P ops n ⟨some d, .binOp .neq S x (.const .nilIface) R, T, ps, af, g⟩ l w K :=
  WO.val hg hd (fun a ha => by
    have e : (.const Value.nilIface : Operand) = .const .nilIface := rfl
    have h1 : a.eval (.const .nilIface) = .nilIface := rfl
    simp only [execOp, ha.ev hx, Sem.run_bind, h1, eqGuard_nilc]
    simp [binOp, Op.equal, Op.maxDepth, run_equalIn_inil w hu 9999]) k
theorem shln8 {R : Nat} {p : UInt8} {q : Int} {kd : IntKind} (m : Nat) (hq : q = (m : Int)) (hg : gval ops l ⟨some d, .binOp .shl S x y R, T, ps, af, g⟩ = some true) (hd : Nat.blt d n = true) (hx : ev l x = some (U8 p)) (hy : ev l y = some (.int kd q)) (k : K ((d, U8 (shl8 p m)) :: l) w) :
    WO P ops n ⟨some d, .binOp .shl S x y R, T, ps, af, g⟩ l w K :=
  shlu8 (by omega) hg hd hx hy (by subst hq; simpa using k)
theorem shrn8 {R : Nat} {p : UInt8} {q : Int} {kd : IntKind} (m : Nat) (hq : q = (m : Int)) (hg : gval ops l ⟨some d, .binOp .shr S x y R, T, ps, af, g⟩ = some true) (hd : Nat.blt d n = true) (hx : ev l x = some (U8 p)) (hy : ev l y = some (.int kd q)) (k : K ((d, U8 (shr8 p m)) :: l) w) :
    WO P ops n ⟨some d, .binOp .shr S x y R, T, ps, af, g⟩ l w K :=
  shru8 (by omega) hg hd hx hy (by subst hq; simpa using k)
theorem shln32 {R : Nat} {p : UInt32} {q : Int} {kd : IntKind} (m : Nat) (hq : q = (m : Int)) (hg : gval ops l ⟨some d, .binOp .shl S x y R, T, ps, af, g⟩ = some true) (hd : Nat.blt d n = true) (hx : ev l x = some (U32 p)) (hy : ev l y = some (.int kd q)) (k : K ((d, U32 (shl32 p m)) :: l) w) :
    WO P ops n ⟨some d, .binOp .shl S x y R, T, ps, af, g⟩ l w K :=
  shlu32 (by omega) hg hd hx hy (by subst hq; simpa using k)
theorem shrn32 {R : Nat} {p : UInt32} {q : Int} {kd : IntKind} (m : Nat) (hq : q = (m : Int)) (hg : gval ops l ⟨some d, .binOp .shr S x y R, T, ps, af, g⟩ = some true) (hd : Nat.blt d n = true) (hx : ev l x = some (U32 p)) (hy : ev l y = some (.int kd q)) (k : K ((d, U32 (shr32 p m)) :: l) w) :
    WO P ops n ⟨some d, .binOp .shr S x y R, T, ps, af, g⟩ l w K :=
  shru32 (by omega) hg hd hx hy (by subst hq; simpa using k)
theorem shln64 {R : Nat} {p : UInt64} {q : Int} {kd : IntKind} (m : Nat) (hq : q = (m : Int)) (hg : gval ops l ⟨some d, .binOp .shl S x y R, T, ps, af, g⟩ = some true) (hd : Nat.blt d n = true) (hx : ev l x = some (U64 p)) (hy : ev l y = some (.int kd q)) (k : K ((d, U64 (shl64 p m)) :: l) w) :
    WO P ops n ⟨some d, .binOp .shl S x y R, T, ps, af, g⟩ l w K :=
  shlu64 (by omega) hg hd hx hy (by subst hq; simpa using k)
theorem shrn64 {R : Nat} {p : UInt64} {q : Int} {kd : IntKind} (m : Nat) (hq : q = (m : Int)) (hg : gval ops l ⟨some d, .binOp .shr S x y R, T, ps, af, g⟩ = some true) (hd : Nat.blt d n = true) (hx : ev l x = some (U64 p)) (hy : ev l y = some (.int kd q)) (k : K ((d, U64 (shr64 p m)) :: l) w) :
    WO P ops n ⟨some d, .binOp .shr S x y R, T, ps, af, g⟩ l w K :=
  shru64 (by omega) hg hd hx hy (by subst hq; simpa using k)
end
end Go.X
namespace Go.X
open Go
def adr (a : Option Addr) (j : Nat) : Addr := (a.getD ⟨0, 0, none⟩).add j
def Cel (w : World) (a : Option Addr) (xs : List Value) : Prop := ∀ (j : Nat) (v : Value), xs[j]? = some v → a.isSome = true ∧ w.cell? (adr a j) = some v
def gl (l : List UInt8) (i : Nat) : UInt8 := l.getD i 0
def c8 (l : List UInt8) : List Value := l.map fun x => U8 x
def LB (l : List UInt8) : Array Value := (c8 l).toArray
def ofl (n : Nat) (l : List UInt8) : V8 n := Vector.ofFn fun i => gl l i.val
theorem c8_len (l : List UInt8) : (c8 l).length = l.length := by simp [c8]
theorem c8_get (l : List UInt8) (j : Nat) (h : j < l.length) : (c8 l)[j]? = some (U8 (gl l j)) := by simp [c8, gl, h]
theorem c8_one (l : List UInt8) : ∀ u ∈ c8 l, u.oneCell' = true := by intro u hu; simp [c8] at hu; obtain ⟨x, _, rfl⟩ := hu; rfl
theorem c8_app (l m : List UInt8) : c8 l ++ c8 m = c8 (l ++ m) := by simp [c8]
theorem LB_size (l : List UInt8) : (LB l).size = l.length := by simp [LB, c8]
theorem LB_get (l : List UInt8) (j : Nat) (h : j < l.length) : (LB l)[j]? = some (U8 (gl l j)) := by simp [LB, c8, gl, h]
theorem LB_set (l : List UInt8) (j : Nat) (x : UInt8) : (LB l).setIfInBounds j (U8 x) = LB (l.set j x) := by simp [LB, c8]
theorem ofl_get (n : Nat) (l : List UInt8) (i : Nat) (h : i < n) : (ofl n l)[i] = gl l i := by simp [ofl]
theorem gv_ofl (n : Nat) (l : List UInt8) (i : Nat) (h : i < n) : gv (ofl n l) i = gl l i := by rw [gv_eq _ _ h, ofl_get]
theorem gl_app_lt {l m : List UInt8} {i : Nat} (h : i < l.length) : gl (l ++ m) i = gl l i := by simp [gl, List.getElem?_append, h]
theorem gl_app_ge {l m : List UInt8} {i : Nat} (h : l.length ≤ i) : gl (l ++ m) i = gl m (i - l.length) := by simp [gl, List.getElem?_append, Nat.not_lt.2 h]
theorem gl_drop (l : List UInt8) (k i : Nat) : gl (l.drop k) i = gl l (k + i) := by simp [gl]
theorem gl_take {l : List UInt8} {k i : Nat} (h : i < k) : gl (l.take k) i = gl l i := by simp [gl, List.getElem?_take, h]
section
variable {w w' w0 : World} {a : Option Addr} {xs ys : List Value} {F : List Nat} {L : List (Nat × Obj)}
theorem Cel.nil (w : World) (a : Option Addr) : Cel w a [] := fun j v h => by simp at h
theorem Cel.cell (h : Cel w a xs) {j : Nat} {v : Value} (hj : xs[j]? = some v) : w.cell? (adr a j) = some v := (h j v hj).2
theorem Cel.c8 {l : List UInt8} (h : Cel w a (c8 l)) {j : Nat} (hj : j < l.length) : w.cell? (adr a j) = some (U8 (gl l j)) := h.cell (c8_get l j hj)
theorem Cel.some8 {l : List UInt8} (h : Cel w a (X.c8 l)) {j : Nat} (hj : j < l.length) : a.isSome = true := (h j _ (c8_get l j hj)).1
theorem Cel.of_heap (h : Cel w a xs) (hh : ∀ b, b < w.heap.size → w'.heap[b]? = w.heap[b]?) : Cel w' a xs := fun j v hj => by
  obtain ⟨h1, h2⟩ := h j v hj
  refine ⟨h1, ?_⟩
  rw [World.cell?_of_block (hh _ (World.block_lt_of_cell? w _ h2))]; exact h2
theorem Cel.st (h : Cel w0 a xs) (hS : St w0 [] L w) : Cel w a xs := h.of_heap fun b hb => hS.frame b hb (by simp)
theorem adr_some (b o j : Nat) : adr (some ⟨b, o, none⟩) j = ⟨b, o + j, none⟩ := by simp [adr, addr_add]
theorem Cel.row {b off E : Nat} {cs : Array Value} {fz : Nat × Nat} (h : w.heap[b]? = some (.cells cs E fz)) (hx : ∀ (j : Nat) (v : Value), xs[j]? = some v → cs[off + j]? = some v) : Cel w (some ⟨b, off, none⟩) xs :=
  fun j v hj => ⟨rfl, by rw [adr_some, cell_at w h]; exact hx j v hj⟩
theorem Cel.bv {n : Nat} {v : V8 n} {b E : Nat} {fz : Nat × Nat} (h : w.heap[b]? = some (.cells (BV v) E fz)) : Cel w (some ⟨b, 0, none⟩) (X.c8 v.toList) :=
  Cel.row h fun j u hj => by simp [X.c8, Vector.toList] at hj; simp [BV]; exact hj
theorem Cel.lb {l : List UInt8} {b E : Nat} {fz : Nat × Nat} (h : w.heap[b]? = some (.cells (LB l) E fz)) : Cel w (some ⟨b, 0, none⟩) (X.c8 l) :=
  Cel.row h fun j u hj => by simp [LB]; simpa using hj
theorem Cel.take (h : Cel w a xs) (k : Nat) : Cel w a (xs.take k) := fun j v hj => by
  rw [List.getElem?_take] at hj
  split at hj
  · exact h j v hj
  · cases hj
theorem Cel.take8 {l : List UInt8} (h : Cel w a (X.c8 l)) (k : Nat) : Cel w a (X.c8 (l.take k)) := by
  have := h.take k; simpa [X.c8, List.map_take] using this
def sla (a : Option Addr) (lo cap : Nat) : Option Addr := if cap = lo then a else a.map (·.add lo)
theorem Cel.drop (h : Cel w a xs) {lo cap : Nat} (hc : xs.length ≤ cap) : Cel w (sla a lo cap) (xs.drop lo) := fun j v hj => by
  rw [List.getElem?_drop] at hj
  have hlt : lo + j < xs.length := (List.getElem?_eq_some_iff.1 hj).1
  obtain ⟨h1, h2⟩ := h _ _ hj
  have hne : ¬ cap = lo := by omega
  cases a with
  | none => simp at h1
  | some ad =>
    refine ⟨by simp [sla, hne], ?_⟩
    have e : adr (sla (some ad) lo cap) j = adr (some ad) (lo + j) := by
      simp only [sla, hne, if_false, Option.map_some, adr, Option.getD_some]
      by_cases hl : lo = 0
      · subst hl; simp [Addr.add]
      · by_cases hjj : j = 0
        · subst hjj; simp [Addr.add]
        · have : ¬ lo + j = 0 := by omega
          simp [Addr.add, hl, hjj, this, Nat.add_assoc]
    rw [e]; exact h2
theorem Cel.drop8 {l : List UInt8} (h : Cel w a (X.c8 l)) {lo cap : Nat} (hc : l.length ≤ cap) : Cel w (sla a lo cap) (X.c8 (l.drop lo)) := by
  have := h.drop (lo := lo) (cap := cap) (by rw [c8_len]; exact hc); simpa [X.c8, List.map_drop] using this
def OwnA (E sz : Nat) (a : Option Addr) (n cap : Nat) (xs : List Value) (X : List (Nat × Obj)) : Prop :=
  xs.length = n * sz ∧ n ≤ cap ∧ cap ≤ maxLen ∧
  ((a = none ∧ n = 0 ∧ cap = 0 ∧ X = []) ∨
   ∃ b cur, a = some ⟨b, 0, none⟩ ∧ X = [(b, .cells cur E (0, 0))] ∧ cur.size = cap * sz ∧ cur.toList.take (n * sz) = xs)
theorem OwnA.nil (E sz : Nat) : OwnA E sz none 0 0 [] [] := ⟨by simp, by omega, by simp [maxLen], .inl ⟨rfl, rfl, rfl, rfl⟩⟩
theorem OwnA.cel {E sz n cap : Nat} {X A : List (Nat × Obj)} (h : OwnA E sz a n cap xs X) (hS : St w0 F (A ++ X) w) : Cel w a xs := by
  rcases h.2.2.2 with ⟨rfl, rfl, rfl, rfl⟩ | ⟨b, cur, rfl, rfl, hsz, ht⟩
  · have : xs = [] := List.eq_nil_of_length_eq_zero (by simpa using h.1)
    subst this; exact Cel.nil _ _
  · have hb := hS.own (b, .cells cur E (0, 0)) (by simp)
    refine Cel.row hb.2 fun j v hj => ?_
    rw [← ht, List.getElem?_take] at hj
    split at hj
    · simpa using hj
    · cases hj
theorem St.swap {A X : List (Nat × Obj)} (h : St w0 F (X ++ A) w) : St w0 F (A ++ X) w := h.perm List.perm_append_comm
end
section
variable {P : Program} {ops : Array Oper} {n : Nat} {l : Regs} {w w0 : World} {K : Regs → World → Prop} {F : List Nat} {L : List (Nat × Obj)}
variable {d T S : Nat} {ps : String} {af : Array Edge} {g : Option (Nat × Bool)} {x y : Operand} {v u : Value}
variable {a a2 : Option Addr} {m c m2 c2 e : Nat}
def SlT (P : Program) (T e sz by_ : Nat) (z : Value) : Prop := P.underlying T = some (.slice e) ∧ ∃ i, P.info? e = some i ∧ i.zero = some z ∧ i.size = sz ∧ i.bytes = by_ ∧ z.cells.size = sz
theorem slx {kd : IntKind} {p : Int} (j : Nat) (hT : P.underlying S = some (.slice e)) (he : Sz P e 1) (hg : gval ops l ⟨some d, .indexAddr S x y, T, ps, af, g⟩ = some true) (hd : Nat.blt d n = true) (hx : ev l x = some (.slice a m c)) (hy : ev l y = some (.int kd p))
    (hp : p = (j : Int)) (h2 : j < m) (ha : a.isSome = true) (k : K ((d, .pointer (some (adr a j))) :: l) w) : WO P ops n ⟨some d, .indexAddr S x y, T, ps, af, g⟩ l w K :=
  WO.val hg hd (fun b hb => by
    obtain ⟨ad, rfl⟩ := Option.isSome_iff_exists.1 ha
    subst hp
    have h3 : (0 : Int) ≤ j := by omega
    have h4 : (j : Int) < m := by omega
    simp [execOp, hb.ev hx, hb.ev hy, Instr.indexAt, asIntOf, run_underlying hT, h2, he.run w, adr]) k
theorem ldc {ad : Addr} (hT : Sc P S) (hg : gval ops l ⟨some d, .load S x, T, ps, af, g⟩ = some true) (hd : Nat.blt d n = true) (hx : ev l x = some (.pointer (some ad))) (hv : w.cell? ad = some v) (k : K ((d, v) :: l) w) :
    WO P ops n ⟨some d, .load S x, T, ps, af, g⟩ l w K := ld hg hd hx (lv_s hT hv) k
theorem s_h {kd : IntKind} {p : Int} (j : Nat) (hT : P.underlying S = some (.slice e)) (he : ∃ z, Sz P e z) (hg : gval ops l ⟨some d, .slice S x none (some y) none, T, ps, af, g⟩ = some true) (hd : Nat.blt d n = true) (hx : ev l x = some (.slice a m c)) (hy : ev l y = some (.int kd p))
    (hp : p = (j : Int)) (h2 : j ≤ c) (k : K ((d, .slice a j c) :: l) w) : WO P ops n ⟨some d, .slice S x none (some y) none, T, ps, af, g⟩ l w K :=
  WO.val hg hd (fun b hb => by
    obtain ⟨z, he⟩ := he
    subst hp
    have h0 : (fun x : Addr => x.add 0) = id := by funext x; simp [Addr.add]
    simp [execOp, hb.ev hx, hb.ev hy, Instr.sliceAt, run_underlying hT, Instr.slice, Instr.sliceBounds, Instr.sliceBound, asIntOf, h2, he.run w, h0]) k
theorem s_l {kd : IntKind} {p : Int} (j : Nat) (hT : P.underlying S = some (.slice e)) (he : Sz P e 1) (hg : gval ops l ⟨some d, .slice S x (some y) none none, T, ps, af, g⟩ = some true) (hd : Nat.blt d n = true) (hx : ev l x = some (.slice a m c)) (hy : ev l y = some (.int kd p))
    (hp : p = (j : Int)) (h2 : j ≤ m) (k : K ((d, .slice (sla a j c) (m - j) (c - j)) :: l) w) : WO P ops n ⟨some d, .slice S x (some y) none none, T, ps, af, g⟩ l w K :=
  WO.val hg hd (fun b hb => by
    subst hp
    simp [execOp, hb.ev hx, hb.ev hy, Instr.sliceAt, run_underlying hT, Instr.slice, Instr.sliceBounds, Instr.sliceBound, asIntOf, h2, he.run w, sla]) k
theorem s_lh {z : Operand} {kd kd2 : IntKind} {p q : Int} (i j : Nat) (hT : P.underlying S = some (.slice e)) (he : Sz P e 1) (hg : gval ops l ⟨some d, .slice S x (some y) (some z) none, T, ps, af, g⟩ = some true) (hd : Nat.blt d n = true) (hx : ev l x = some (.slice a m c)) (hy : ev l y = some (.int kd p)) (hz : ev l z = some (.int kd2 q))
    (hp : p = (i : Int)) (hq : q = (j : Int)) (h1 : i ≤ j) (h2 : j ≤ c) (k : K ((d, .slice (sla a i c) (j - i) (c - i)) :: l) w) : WO P ops n ⟨some d, .slice S x (some y) (some z) none, T, ps, af, g⟩ l w K :=
  WO.val hg hd (fun b hb => by
    subst hp hq
    simp [execOp, hb.ev hx, hb.ev hy, hb.ev hz, Instr.sliceAt, run_underlying hT, Instr.slice, Instr.sliceBounds, Instr.sliceBound, asIntOf, h1, h2, he.run w, sla]) k
theorem a_all {b off : Nat} (hT : P.underlying S = some (.array m e)) (he : ∃ z, Sz P e z) (hg : gval ops l ⟨some d, .slice S x none none none, T, ps, af, g⟩ = some true) (hd : Nat.blt d n = true) (hx : ev l x = some (Ptr b off)) (k : K ((d, .slice (some ⟨b, off, none⟩) m m) :: l) w) :
    WO P ops n ⟨some d, .slice S x none none none, T, ps, af, g⟩ l w K :=
  WO.val hg hd (fun r hr => by
    obtain ⟨z, he⟩ := he
    simp [execOp, hr.ev hx, Instr.sliceAt, run_underlying hT, Instr.sureAddr, Instr.sliceBounds, he.run w, Addr.add]) k
theorem a_h {b off : Nat} {kd : IntKind} {p : Int} (j : Nat) (hT : P.underlying S = some (.array m e)) (he : ∃ z, Sz P e z) (hg : gval ops l ⟨some d, .slice S x none (some y) none, T, ps, af, g⟩ = some true) (hd : Nat.blt d n = true) (hx : ev l x = some (Ptr b off)) (hy : ev l y = some (.int kd p))
    (hp : p = (j : Int)) (h2 : j ≤ m) (k : K ((d, .slice (some ⟨b, off, none⟩) j m) :: l) w) : WO P ops n ⟨some d, .slice S x none (some y) none, T, ps, af, g⟩ l w K :=
  WO.val hg hd (fun r hr => by
    obtain ⟨z, he⟩ := he
    subst hp
    simp [execOp, hr.ev hx, hr.ev hy, Instr.sliceAt, run_underlying hT, Instr.sureAddr, Instr.sliceBounds, Instr.sliceBound, asIntOf, h2, he.run w, Addr.add]) k
theorem a_l {b off : Nat} {kd : IntKind} {p : Int} (j : Nat) (hT : P.underlying S = some (.array m e)) (he : Sz P e 1) (hg : gval ops l ⟨some d, .slice S x (some y) none none, T, ps, af, g⟩ = some true) (hd : Nat.blt d n = true) (hx : ev l x = some (Ptr b off)) (hy : ev l y = some (.int kd p))
    (hp : p = (j : Int)) (h2 : j < m) (k : K ((d, .slice (some ⟨b, off + j, none⟩) (m - j) (m - j)) :: l) w) : WO P ops n ⟨some d, .slice S x (some y) none none, T, ps, af, g⟩ l w K :=
  WO.val hg hd (fun r hr => by
    subst hp
    have h3 : j ≤ m := by omega
    have h4 : ¬ m = j := by omega
    simp [execOp, hr.ev hx, hr.ev hy, Instr.sliceAt, run_underlying hT, Instr.sureAddr, Instr.sliceBounds, Instr.sliceBound, asIntOf, h3, h4, he.run w, addr_add]) k
theorem a_lh {b off : Nat} {z : Operand} {kd kd2 : IntKind} {p q : Int} (i j : Nat) (hT : P.underlying S = some (.array m e)) (he : Sz P e 1) (hg : gval ops l ⟨some d, .slice S x (some y) (some z) none, T, ps, af, g⟩ = some true) (hd : Nat.blt d n = true) (hx : ev l x = some (Ptr b off)) (hy : ev l y = some (.int kd p)) (hz : ev l z = some (.int kd2 q))
    (hp : p = (i : Int)) (hq : q = (j : Int)) (h1 : i ≤ j) (h2 : j ≤ m) (h3 : i < m) (k : K ((d, .slice (some ⟨b, off + i, none⟩) (j - i) (m - i)) :: l) w) : WO P ops n ⟨some d, .slice S x (some y) (some z) none, T, ps, af, g⟩ l w K :=
  WO.val hg hd (fun r hr => by
    subst hp hq
    have h4 : ¬ m = i := by omega
    simp [execOp, hr.ev hx, hr.ev hy, hr.ev hz, Instr.sliceAt, run_underlying hT, Instr.sureAddr, Instr.sliceBounds, Instr.sliceBound, asIntOf, h1, h2, h4, he.run w, addr_add]) k
theorem s2a {ad : Addr} {A : Nat} (hT : P.underlying A = some (.array m2 e)) (hg : gval ops l ⟨some d, .sliceToArrayPointer A x, T, ps, af, g⟩ = some true) (hd : Nat.blt d n = true) (hx : ev l x = some (.slice (some ad) m c)) (h : m2 ≤ m) (k : K ((d, .pointer (some ad)) :: l) w) :
    WO P ops n ⟨some d, .sliceToArrayPointer A x, T, ps, af, g⟩ l w K :=
  WO.val hg hd (fun r hr => by
    have h3 : ¬ m < m2 := by omega
    simp [execOp, hr.ev hx, Instr.arrayAt, run_underlying hT, h3]) k
theorem lv_cel {T m : Nat} (hT : Ag P T m) {ad : Addr} {bs : List UInt8} (h : Cel w (some ad) (c8 bs)) (hm : m ≤ bs.length) : (loadVar T ad).run P w = .ok (.agg (BV (ofl m bs))) w := by
  have hl : (loadCells ad m).run P w = .ok (BV (ofl m bs)) w := by
    have := run_loadCells (P := P) (w := w) ad m (fun j => U8 (gl bs j)) (fun j hj => by
      have := h.c8 (j := j) (by omega)
      simpa [adr] using this)
    rw [this]
    congr 1
    apply Array.ext
    · simp [BV]
    · intro i h1 h2
      simp [BV, ofl]
  have hs := Sz.run hT.2 w
  simp [loadVar, Sem.run_bind, hT.run w, hs, hl]
theorem mks {z : Value} {sz by_ : Nat} {kd kd2 : IntKind} {p q : Int} {cs : Array Value} (j : Nat) (hT : SlT P S e sz by_ z) (hS : St w0 F L w) (hg : gval ops l ⟨some d, .makeSlice S x y, T, ps, af, g⟩ = some true) (hd : Nat.blt d n = true) (hx : ev l x = some (.int kd p)) (hy : ev l y = some (.int kd2 q))
    (hp : p = (j : Int)) (hq : q = (j : Int)) (hb : by_ * j ≤ 140737488355328) (hj : j < 9223372036854775807) (hcs : madeCells z.cells (j * sz) = cs)
    (k : ∀ b w', w0.heap.size ≤ b → St w0 F ((b, .cells cs e) :: L) w' → K ((d, .slice (some ⟨b, 0, none⟩) j j) :: l) w') : WO P ops n ⟨some d, .makeSlice S x y, T, ps, af, g⟩ l w K := by
  obtain ⟨hu, i, hi, hz, hsz, hby, hzz⟩ := hT
  have hbb : (i.bytes : Int) * (j : Int) ≤ 281474976710656 := by
    rw [hby]; have : ((by_ * j : Nat) : Int) ≤ 140737488355328 := by omega
    simp only [Int.natCast_mul] at this; omega
  have hr := run_make (P := P) w S e i z hu hi hz kd kd2 (j : Int) (j : Int) (by omega) (by omega) hbb (by omega)
  refine WO.val hg hd (fun a ha => ?_) (k w.heap.size _ hS.size (hS.alloc _))
  subst hp hq hcs
  simp only [execOp, ha.ev hx, ha.ev hy, Sem.run_bind, hr, Result.andThen_ok, Sem.run_pure, hsz, Int.toNat_natCast]
theorem madeLB (n : Nat) : madeCells (#[U8 0]) (n * 1) = LB (List.replicate n 0) := by
  apply Array.ext
  · simp [madeCells, LB, c8]
  · intro i h1 h2
    simp [madeCells, LB, c8, Nat.mod_one]
theorem bsl {z : Value} {by_ : Nat} {N : Nat} {cs : Array Value} {xs : List (Nat × Operand)} {vs : List (Nat × Value)} (hT : SlT P S e 1 by_ z) (hS : St w0 F L w) (hg : gval ops l ⟨some d, .buildSlice S N xs.toArray, T, ps, af, g⟩ = some true) (hd : Nat.blt d n = true) (hx : evp l xs = some vs)
    (hN : Nat.ble N 1000 = true) (hcs : Instr.fill (fun i => some (i, 1)) (madeCells z.cells N) vs = some cs)
    (k : ∀ b w', w0.heap.size ≤ b → St w0 F ((b, .cells cs e) :: L) w' → K ((d, .slice (some ⟨b, 0, none⟩) N N) :: l) w') : WO P ops n ⟨some d, .buildSlice S N xs.toArray, T, ps, af, g⟩ l w K := by
  obtain ⟨hu, i, hi, hz, hsz, hby, hzz⟩ := hT
  have hN' : N ≤ 1000 := Nat.le_of_ble_eq_true hN
  refine WO.val hg hd (fun a ha => ?_) (k w.heap.size _ hS.size (hS.alloc _))
  have e : (xs.toArray.map fun p => (p.1, a.eval p.2)) = vs.toArray := by simp [← ha.evp hx]
  have hlt : ¬ N * 1 > 2 ^ 24 := by omega
  simp only [execOp, Sem.run_bind]
  rw [e]
  by_cases h0 : N = 0
  · subst h0
    have : madeCells z.cells 0 = #[] := by simp [madeCells]
    rw [this] at hcs
    have h9 : Array.map (fun _ => (default : Value)) (Array.range 0) = #[] := by apply Array.ext <;> simp
    simp [Instr.buildSlice, run_underlying hu, sizeOf, typeInfo, hi, hsz, newRow, h9, hcs]
  · have hmc : (Array.range N).map (fun x => z.cells[x % z.cells.size]!) = madeCells z.cells N := rfl
    simp [Instr.buildSlice, run_underlying hu, sizeOf, typeInfo, hi, hsz, h0, show ¬ 16777216 < N by omega, zeroValue, hz, newRow]
    rw [hmc, hcs]
    simp
end
end Go.X
namespace Go.X
open Go
theorem all_u8 {p : UInt8 → Prop} [DecidablePred p] (h : ∀ n : Fin 256, p (UInt8.ofNat n.val)) (a : UInt8) : p a := by
  have := h ⟨a.toNat, a.toNat_lt⟩
  simpa using this
def dbl (a : UInt8) : UInt8 := (a <<< 1) ^^^ (if a < 128 then 0 else 27)
theorem dbl_eq (a : UInt8) : shl8 a 1 ^^^ (toU8 (Int.fdiv (IntKind.i8.wrap (a.toNat : Int)) (2 ^ 7)) &&& 27) = dbl a := by
  revert a
  refine all_u8 ?_
  decide +kernel
def mulL : Nat → UInt8 → UInt8 → UInt8 → UInt8
  | 0, _, _, o => o
  | n + 1, a, b, o => if b = 0 then o else mulL n (dbl a) (shr8 b 1) (if b &&& 1 = 1 then o ^^^ a else o)
def mul (a b : UInt8) : UInt8 := mulL 8 a b 0
theorem mulL_zero (n : Nat) (a o : UInt8) : mulL n a 0 o = o := by cases n <;> simp [mulL]
theorem shr8_lt {b : UInt8} {n : Nat} (h : b.toNat < 2 ^ (n + 1)) : (shr8 b 1).toNat < 2 ^ n := by
  have := b.toNat_lt
  simp only [shr8, UInt8.toNat_ofNat']
  rw [Nat.mod_eq_of_lt (by omega)]
  omega
def powL : Nat → UInt8 → Nat → UInt8 → UInt8
  | 0, _, _, o => o
  | f + 1, a, n, o => if n = 0 then o else powL f (mul a a) (n / 2) (if n % 2 = 1 then mul o a else o)
def pow (a : UInt8) (n : Nat) : UInt8 := powL 64 a n 1
theorem powL_zero (f : Nat) (a o : UInt8) : powL f a 0 o = o := by cases f <;> simp [powL]
def aff (b : UInt8) : UInt8 := b ^^^ (b <<< 1 ||| b >>> 7) ^^^ (b <<< 2 ||| b >>> 6) ^^^ (b <<< 3 ||| b >>> 5) ^^^ (b <<< 4 ||| b >>> 4) ^^^ 99
def inv (b : UInt8) : UInt8 := pow b 254
def sbox (b : UInt8) : UInt8 := aff (inv b)
def sboxV : V8 256 := Vector.ofFn fun i => sbox (UInt8.ofNat i.val)
def backL (b : UInt8) : Nat → Nat → UInt8
  | 0, _ => 0
  | f + 1, k => if gv sboxV k = b then UInt8.ofNat k else backL b f (k + 1)
def back (b : UInt8) : UInt8 := backL b 256 0
def col (a b c d : UInt8) : UInt32 := shl32 (toU32 (a.toNat : Int)) 24 ||| shl32 (toU32 (b.toNat : Int)) 16 ||| shl32 (toU32 (c.toNat : Int)) 8 ||| toU32 (d.toNat : Int)
def byt (w : UInt32) (r : Nat) : UInt8 := toU8 ((shr32 w (24 - 8 * r)).toNat : Int)
theorem sboxV_get (i : Nat) (h : i < 256) : gv sboxV i = sbox (UInt8.ofNat i) := by rw [gv_eq _ _ h]; simp only [sboxV, Vector.getElem_ofFn]
theorem gv_sbox (a : UInt8) : gv sboxV a.toNat = sbox a := by rw [sboxV_get _ a.toNat_lt]; simp
theorem toU8_nat (k : Nat) : toU8 (k : Int) = UInt8.ofNat k := by
  apply UInt8.toNat_inj.1; simp only [toU8, UInt8.toNat_ofNat']; omega
def swordL (w : UInt32) : Nat → UInt32
  | 0 => 0
  | k + 1 => shl32 (swordL w k) 8 ||| toU32 ((sbox (byt w k)).toNat : Int)
def sword (w : UInt32) : UInt32 := swordL w 4
theorem swordL_4 (w : UInt32) : swordL w 4 = sword w := rfl
def rotr (w : UInt32) (r : Nat) : UInt32 := shr32 w (8 * r) ||| shl32 w ((32 - 8 * r) % 32)
def rotl8 (w : UInt32) : UInt32 := shl32 w 8 ||| shr32 w 24
end Go.X
namespace Go.X
open Go
theorem lkI {l : Regs} {t : Nat} {p q : Int} (h : look l t = some (I p)) (e : p = q) : look l t = some (I q) := e ▸ h
theorem lkU8 {l : Regs} {t : Nat} {p q : UInt8} (h : look l t = some (U8 p)) (e : p = q) : look l t = some (U8 q) := e ▸ h
theorem lkU32 {l : Regs} {t : Nat} {p q : UInt32} (h : look l t = some (U32 p)) (e : p = q) : look l t = some (U32 q) := e ▸ h
theorem lkU64 {l : Regs} {t : Nat} {p q : UInt64} (h : look l t = some (U64 p)) (e : p = q) : look l t = some (U64 q) := e ▸ h
def putAt (cs : Array Value) (o : Nat) (vs : Array Value) : Array Value := (cs.toList.take o ++ vs.toList ++ cs.toList.drop (o + vs.toList.length)).toArray
def put8 {n m : Nat} (v : V8 n) (o : Nat) (u : V8 m) : V8 n := Vector.ofFn fun i => if o ≤ i.val ∧ i.val < o + m then gv u (i.val - o) else gv v i.val
def put32 {n m : Nat} (v : V32 n) (o : Nat) (u : V32 m) : V32 n := Vector.ofFn fun i => if o ≤ i.val ∧ i.val < o + m then gw u (i.val - o) else gw v i.val
section
variable {n m : Nat}
theorem putAt_get (cs vs : Array Value) (o i : Nat) (h : o + vs.size ≤ cs.size) : (putAt cs o vs)[i]? = if o ≤ i ∧ i < o + vs.size then vs[i - o]? else cs[i]? := by
  simp only [putAt, List.getElem?_toArray, List.getElem?_append, List.length_take, List.length_append, Array.length_toList, List.getElem?_take, List.getElem?_drop, Array.getElem?_toList]
  have e : min o cs.size = o := by omega
  rw [e]
  by_cases h1 : i < o
  · have : ¬ (o ≤ i ∧ i < o + vs.size) := by omega
    simp [h1, this]; omega
  · by_cases h2 : i < o + vs.size
    · have : o ≤ i ∧ i < o + vs.size := by omega
      simp [h1, h2, this]
    · have : ¬ (o ≤ i ∧ i < o + vs.size) := by omega
      simp [h1, h2, this, show o + vs.size + (i - (o + vs.size)) = i by omega]
theorem putAt_size (cs vs : Array Value) (o : Nat) (h : o + vs.size ≤ cs.size) : (putAt cs o vs).size = cs.size := by
  simp [putAt]; omega
theorem gv_put8 (v : V8 n) (u : V8 m) (o i : Nat) (h : i < n) : gv (put8 v o u) i = if o ≤ i ∧ i < o + m then gv u (i - o) else gv v i := by rw [put8, gv_ofFn _ _ h]
theorem gw_put32 (v : V32 n) (u : V32 m) (o i : Nat) (h : i < n) : gw (put32 v o u) i = if o ≤ i ∧ i < o + m then gw u (i - o) else gw v i := by rw [put32, gw_ofFn _ _ h]
theorem arr_ext {a b : Array Value} (h : ∀ i : Nat, a[i]? = b[i]?) : a = b := Array.ext_getElem? h
theorem BV_get' (v : V8 n) (i : Nat) : (BV v)[i]? = if i < n then some (U8 (gv v i)) else none := by
  by_cases h : i < n
  · simp [BV_get v i h, h]
  · simp [h, BV]
theorem WV_get' (v : V32 n) (i : Nat) : (WV v)[i]? = if i < n then some (U32 (gw v i)) else none := by
  by_cases h : i < n
  · simp [WV_get v i h, h]
  · simp [h, WV]
theorem BV_put (v : V8 n) (u : V8 m) (o : Nat) (h : o + m ≤ n) : putAt (BV v) o (BV u) = BV (put8 v o u) := by
  apply arr_ext; intro i
  rw [putAt_get _ _ _ _ (by rw [BV_size, BV_size]; exact h), BV_get', BV_get', BV_get', BV_size]
  by_cases h1 : o ≤ i ∧ i < o + m
  · rw [if_pos h1, if_pos (show i - o < m by omega), if_pos (show i < n by omega), gv_put8 _ _ _ _ (by omega), if_pos h1]
  · rw [if_neg h1]
    by_cases h2 : i < n
    · rw [if_pos h2, if_pos h2, gv_put8 _ _ _ _ h2, if_neg h1]
    · rw [if_neg h2, if_neg h2]
theorem WV_put (v : V32 n) (u : V32 m) (o : Nat) (h : o + m ≤ n) : putAt (WV v) o (WV u) = WV (put32 v o u) := by
  apply arr_ext; intro i
  rw [putAt_get _ _ _ _ (by rw [WV_size, WV_size]; exact h), WV_get', WV_get', WV_get', WV_size]
  by_cases h1 : o ≤ i ∧ i < o + m
  · rw [if_pos h1, if_pos (show i - o < m by omega), if_pos (show i < n by omega), gw_put32 _ _ _ _ (by omega), if_pos h1]
  · rw [if_neg h1]
    by_cases h2 : i < n
    · rw [if_pos h2, if_pos h2, gw_put32 _ _ _ _ h2, if_neg h1]
    · rw [if_neg h2, if_neg h2]
variable {A cs cs' vs : Array Value} {a o o' : Nat} {v : Value}
theorem cat_r (h : A.size = a) (ho : o = a + o') (hc : cs[o']? = some v) : (A ++ cs)[o]? = some v := by
  subst ho h; rw [Array.getElem?_append_right (by omega)]; simpa using hc
theorem cat_l (h : A.size = a) (ho : o < a) (hv : A[o]? = some v) : (A ++ cs)[o]? = some v := by
  subst h; rw [Array.getElem?_append_left ho]; exact hv
theorem cat_sr (h : A.size = a) (ho : o = a + o') (hc : cs.setIfInBounds o' v = cs') : (A ++ cs).setIfInBounds o v = A ++ cs' := by
  subst ho h hc
  apply arr_ext; intro i
  simp only [Array.getElem?_setIfInBounds, Array.getElem?_append, Array.size_append]
  by_cases h1 : A.size + o' = i
  · subst h1; simp; omega
  · by_cases h2 : i < A.size
    · simp [h1, h2]
    · simp [h1, h2, show ¬ o' = i - A.size by omega]
theorem cat_sl (h : A.size = a) (ho : o < a) {A' : Array Value} (hc : A.setIfInBounds o v = A') : (A ++ cs).setIfInBounds o v = A' ++ cs := by
  subst h hc
  apply arr_ext; intro i
  simp only [Array.getElem?_setIfInBounds, Array.getElem?_append, Array.size_append, Array.size_setIfInBounds]
  by_cases h1 : o = i
  · subst h1; simp [ho]; omega
  · by_cases h2 : i < A.size
    · simp [h1, h2]
    · simp [h1, h2]
theorem ext_get (cs : Array Value) (o m i : Nat) : (cs.extract o (o + m))[i]? = if i < m then cs[o + i]? else none := by
  simp only [Array.getElem?_extract]
  by_cases h : i < m
  · by_cases h2 : o + i < cs.size
    · simp [h]; omega
    · simp [h]; intro; omega
  · simp [h]; omega
theorem cat_xr {m : Nat} (h : A.size = a) (ho : o = a + o') {r : Array Value} (hc : cs.extract o' (o' + m) = r) : (A ++ cs).extract o (o + m) = r := by
  subst ho h hc
  apply arr_ext; intro i
  rw [ext_get, ext_get, Array.getElem?_append_right (by omega)]
  simp [Nat.add_assoc]
theorem cat_xl {m : Nat} (h : A.size = a) (ho : o + m ≤ a) {r : Array Value} (hc : A.extract o (o + m) = r) : (A ++ cs).extract o (o + m) = r := by
  subst h hc
  apply arr_ext; intro i
  rw [ext_get, ext_get]
  by_cases h1 : i < m
  · simp [h1, Array.getElem?_append_left (show o + i < A.size by omega)]
  · simp [h1]
theorem cat_pr (h : A.size = a) (ho : o = a + o') (hs : o' + vs.size ≤ cs.size) (hc : putAt cs o' vs = cs') : putAt (A ++ cs) o vs = A ++ cs' := by
  subst ho h hc
  apply arr_ext; intro i
  rw [putAt_get _ _ _ _ (by simp; omega), Array.getElem?_append, Array.getElem?_append, putAt_get _ _ _ _ hs]
  by_cases h1 : i < A.size
  · simp [h1]; omega
  · by_cases h2 : A.size + o' ≤ i ∧ i < A.size + o' + vs.size
    · simp [h1, h2, show o' ≤ i - A.size ∧ i - A.size < o' + vs.size by omega, show i - (A.size + o') = i - A.size - o' by omega]
    · simp [h1, h2, show ¬ (o' ≤ i - A.size ∧ i - A.size < o' + vs.size) by omega]
theorem cat_pl (h : A.size = a) (ho : o + vs.size ≤ a) {A' : Array Value} (hc : putAt A o vs = A') : putAt (A ++ cs) o vs = A' ++ cs := by
  subst h hc
  apply arr_ext; intro i
  rw [putAt_get _ _ _ _ (by simp; omega), Array.getElem?_append, Array.getElem?_append, putAt_get _ _ _ _ ho, putAt_size _ _ _ ho]
  by_cases h1 : i < A.size
  · by_cases h2 : o ≤ i ∧ i < o + vs.size
    · simp [h1, h2]
    · simp [h1, h2]
  · simp [h1]; omega
theorem cat_size {A B : Array Value} {a b : Nat} (h1 : A.size = a) (h2 : B.size = b) : (A ++ B).size = a + b := by rw [Array.size_append, h1, h2]
theorem cat_one {A B : Array Value} (h1 : A.all (fun x => x.oneCell') = true) (h2 : B.all (fun x => x.oneCell') = true) : (A ++ B).all (fun x => x.oneCell') = true := by
  rw [Array.all_append, h1, h2]; rfl
theorem ext_all {A : Array Value} {a : Nat} (h : A.size = a) : A.extract 0 (0 + a) = A := by subst h; simp
theorem put_all {A B : Array Value} {a : Nat} (h : A.size = a) (h2 : B.size = a) : putAt A 0 B = B := by
  apply arr_ext; intro i
  rw [putAt_get _ _ _ _ (by omega)]
  by_cases h1 : i < B.size
  · simp [h1]
  · simp [h1]; omega
theorem lt_sz {A : Array Value} {a o : Nat} (h : A.size = a) (ho : o < a) : o < A.size := h ▸ ho
theorem le_sz {A : Array Value} {a o : Nat} (h : A.size = a) (ho : o ≤ a) : o ≤ A.size := h ▸ ho
theorem ple {A : Array Value} {a m o : Nat} (h : A.size = m) (ho : o + m ≤ a) : o + A.size ≤ a := h ▸ ho
theorem ple2 {A B : Array Value} {a m o : Nat} (h : A.size = m) (h2 : B.size = a) (ho : o + m ≤ a) : o + A.size ≤ B.size := h ▸ h2 ▸ ho
theorem foldl_put (vs : List Value) : ∀ (cs : Array Value) (o k : Nat), o + k + vs.length ≤ cs.size →
    ∀ i : Nat, ((vs.zipIdx k).foldl (fun cs (c, j) => cs.setIfInBounds (o + j) c) cs)[i]? = if o + k ≤ i ∧ i < o + k + vs.length then vs[i - (o + k)]? else cs[i]? := by
  induction vs with
  | nil => intro cs o k _ i; simp; omega
  | cons v r ih =>
    intro cs o k h i
    simp only [List.zipIdx_cons, List.foldl_cons, List.length_cons] at h ⊢
    rw [ih _ o (k + 1) (by simp; omega) i]
    by_cases h1 : i = o + k
    · subst h1
      simp [show ¬ (o + (k + 1) ≤ o + k) by omega, show o + k < cs.size by omega]
    · by_cases h2 : o + (k + 1) ≤ i ∧ i < o + (k + 1) + r.length
      · have e : i - (o + k) = (i - (o + (k + 1))) + 1 := by omega
        simp [h2, show o + k ≤ i ∧ i < o + k + (r.length + 1) by omega, e]
      · have h3 : ¬ (o + k ≤ i ∧ i < o + k + (r.length + 1)) := by omega
        simp only [h2, h3, if_false]
        rw [Array.getElem?_setIfInBounds_ne (by omega)]
theorem fold_putAt (cs vs : Array Value) (o : Nat) (h : o + vs.size ≤ cs.size) : vs.zipIdx.foldl (fun cs (c, j) => cs.setIfInBounds (o + j) c) cs = putAt cs o vs := by
  apply arr_ext; intro i
  rw [putAt_get _ _ _ _ h]
  have h2 := foldl_put vs.toList cs o 0 (by simpa using h) i
  rw [← Array.foldl_toList]
  simp only [Array.toList_zipIdx]
  simpa using h2
theorem fill_w {place : Nat → Option (Nat × Nat)} {cells cells' cs : Array Value} {i off size : Nat} {v : Value} {rest : List (Nat × Value)} (hp : place i = some (off, size)) (hs : v.cells.size = size) (hb : off + size ≤ cells.size)
    (hc : putAt cells off v.cells = cells') (hr : Instr.fill place cells' rest = some cs) : Instr.fill place cells ((i, v) :: rest) = some cs := by
  subst hs hc
  simp only [Instr.fill, hp]
  rw [if_neg (by simp; omega), fold_putAt _ _ _ hb]; exact hr
theorem fill_1 {place : Nat → Option (Nat × Nat)} {cells cells' cs : Array Value} {i off : Nat} {v : Value} {rest : List (Nat × Value)} (hp : place i = some (off, 1)) (hs : v.cells = #[v]) (hb : off + 1 ≤ cells.size)
    (hc : cells.setIfInBounds off v = cells') (hr : Instr.fill place cells' rest = some cs) : Instr.fill place cells ((i, v) :: rest) = some cs := by
  subst hc
  simp only [Instr.fill, hp, hs]
  rw [if_neg (by simp; omega)]; simpa using hr
end
section
variable {P : Program} {ops : Array Oper} {n : Nat} {l : Regs} {w w0 : World} {K : Regs → World → Prop} {F : List Nat} {L : List (Nat × Obj)}
variable {d T S : Nat} {ps : String} {af : Array Edge} {g : Option (Nat × Bool)} {x y : Operand} {v u : Value}
theorem fan {b off f : Nat} {fs : Array Field} {fd : Field} {m : Nat} (q o : Nat) (hT : P.underlying S = some (.struct fs)) (hf : fs[f]? = some fd) (hz : Sz P fd.type m) (hm : m ≠ 0) (hg : gval ops l ⟨some d, .fieldAddr S x f, T, ps, af, g⟩ = some true) (hd : Nat.blt d n = true) (hx : ev l x = some (Ptr b off))
    (hq : fd.offset = q) (ho : o = off + q) (k : K ((d, Ptr b o) :: l) w) : WO P ops n ⟨some d, .fieldAddr S x f, T, ps, af, g⟩ l w K :=
  fa hT hf hz hm hg hd hx (by rw [hq, ← ho]; exact k)
theorem a_ln {b off m e : Nat} {kd : IntKind} {p : Int} (j o : Nat) (hT : P.underlying S = some (.array m e)) (he : Sz P e 1) (hg : gval ops l ⟨some d, .slice S x (some y) none none, T, ps, af, g⟩ = some true) (hd : Nat.blt d n = true) (hx : ev l x = some (Ptr b off)) (hy : ev l y = some (.int kd p))
    (hp : p = (j : Int)) (h2 : j < m) (ho : o = off + j) (k : K ((d, .slice (some ⟨b, o, none⟩) (m - j) (m - j)) :: l) w) : WO P ops n ⟨some d, .slice S x (some y) none none, T, ps, af, g⟩ l w K :=
  a_l j hT he hg hd hx hy hp h2 (ho ▸ k)
theorem a_lhn {b off m e : Nat} {z : Operand} {kd kd2 : IntKind} {p q : Int} (i j o : Nat) (hT : P.underlying S = some (.array m e)) (he : Sz P e 1) (hg : gval ops l ⟨some d, .slice S x (some y) (some z) none, T, ps, af, g⟩ = some true) (hd : Nat.blt d n = true) (hx : ev l x = some (Ptr b off)) (hy : ev l y = some (.int kd p)) (hz : ev l z = some (.int kd2 q))
    (hp : p = (i : Int)) (hq : q = (j : Int)) (h1 : i ≤ j) (h2 : j ≤ m) (h3 : i < m) (ho : o = off + i) (k : K ((d, .slice (some ⟨b, o, none⟩) (j - i) (m - i)) :: l) w) : WO P ops n ⟨some d, .slice S x (some y) (some z) none, T, ps, af, g⟩ l w K :=
  a_lh i j hT he hg hd hx hy hz hp hq h1 h2 h3 (ho ▸ k)
theorem lod {b off E : Nat} {cs : Array Value} {fz : Nat × Nat} (hb0 : w0.heap[b]? = some (.cells cs E fz)) (hF : b ∉ F) (hT : Sc P S) (hS : St w0 F L w) (hg : gval ops l ⟨some d, .load S x, T, ps, af, g⟩ = some true) (hd : Nat.blt d n = true) (hx : ev l x = some (Ptr b off))
    (hv : cs[off]? = some v) (k : K ((d, v) :: l) w) : WO P ops n ⟨some d, .load S x, T, ps, af, g⟩ l w K := ld hg hd hx (lv_c hT (hS.old hb0 hF) hv) k
theorem lad {b E m : Nat} {cs : Array Value} {fz : Nat × Nat} (hb0 : w0.heap[b]? = some (.cells cs E fz)) (hF : b ∉ F) (hT : Ag P S m) (hS : St w0 F L w) (hg : gval ops l ⟨some d, .load S x, T, ps, af, g⟩ = some true) (hd : Nat.blt d n = true) (hx : ev l x = some (Ptr b 0))
    (hm : cs.size = m) (k : K ((d, .agg cs) :: l) w) : WO P ops n ⟨some d, .load S x, T, ps, af, g⟩ l w K := ld hg hd hx (lv_a hT (hS.old hb0 hF) hm) k
theorem lpd {b off E m : Nat} {cs : Array Value} {fz : Nat × Nat} (hb0 : w0.heap[b]? = some (.cells cs E fz)) (hF : b ∉ F) (hT : Ag P S m) (hS : St w0 F L w) (hg : gval ops l ⟨some d, .load S x, T, ps, af, g⟩ = some true) (hd : Nat.blt d n = true) (hx : ev l x = some (Ptr b off))
    (hm : off + m ≤ cs.size) (hv : cs.extract off (off + m) = u.cells) (hu : u = .agg u.cells) (k : K ((d, u) :: l) w) : WO P ops n ⟨some d, .load S x, T, ps, af, g⟩ l w K :=
  ld hg hd hx (by rw [lv_p hT (hS.old hb0 hF) hm, hv, ← hu]) k
theorem spp {b off E m : Nat} {cs cs' vs : Array Value} (i : Nat) (hT : Ag P S m) (hS : St w0 F L w) (hg : gval ops l ⟨none, .store S x y, T, ps, af, g⟩ = some true) (hx : ev l x = some (Ptr b off)) (hy : ev l y = some (.agg vs))
    (h1 : vs.all (fun x => x.oneCell') = true) (hi : L[i]? = some (b, .cells cs E (0, 0))) (hm : off + m ≤ cs.size) (hm' : vs.size = m) (hcs : putAt cs off vs = cs')
    (k : ∀ w', St w0 F (L.set i (b, .cells cs' E (0, 0))) w' → K l w') : WO P ops n ⟨none, .store S x y, T, ps, af, g⟩ l w K :=
  sp i hT hS hg hx hy h1 hi hm hm' hcs.symm k
theorem lv_celj {T m : Nat} (j : Nat) (hT : Ag P T m) {a : Option Addr} {bs : List UInt8} (h : Cel w a (c8 bs)) (hm : j + m ≤ bs.length) (h0 : 0 < m) : (loadVar T (adr a j)).run P w = .ok (.agg (BV (ofl m (bs.drop j)))) w := by
  refine lv_cel hT (fun i v hi => ⟨rfl, ?_⟩) (by simp; omega)
  have h2 : (c8 bs)[j + i]? = some v := by
    have e : c8 (bs.drop j) = (c8 bs).drop j := by simp [c8, List.map_drop]
    rw [e, List.getElem?_drop] at hi; exact hi
  have h3 := (h _ _ h2).2
  have e : adr (some (adr a j)) i = adr a (j + i) := by
    simp only [adr, Option.getD_some, Addr.add]
    by_cases h0 : j = 0
    · subst h0; simp
    · by_cases h1 : i = 0
      · subst h1; simp
      · simp [h0, h1, Nat.add_assoc]
  rw [e]; exact h3
theorem s2b {A e m2 m c : Nat} {a : Option Addr} (hT : P.underlying A = some (.array m2 e)) (hg : gval ops l ⟨some d, .sliceToArrayPointer A x, T, ps, af, g⟩ = some true) (hd : Nat.blt d n = true) (hx : ev l x = some (.slice a m c)) (h : m2 ≤ m) (ha : a.isSome = true) (k : K ((d, .pointer (some (adr a 0))) :: l) w) :
    WO P ops n ⟨some d, .sliceToArrayPointer A x, T, ps, af, g⟩ l w K := by
  obtain ⟨ad, rfl⟩ := Option.isSome_iff_exists.1 ha
  have e : adr (some ad) 0 = ad := by simp [adr, Addr.add]
  rw [e] at k; exact s2a hT hg hd hx h k
theorem ldx {bs : List UInt8} {a : Option Addr} {j : Nat} (hT : Sc P S) (hg : gval ops l ⟨some d, .load S x, T, ps, af, g⟩ = some true) (hd : Nat.blt d n = true) (hx : ev l x = some (.pointer (some (adr a j)))) (hc : Cel w a (c8 bs)) (hj : j < bs.length)
    (k : K ((d, U8 (gl bs j)) :: l) w) : WO P ops n ⟨some d, .load S x, T, ps, af, g⟩ l w K := ldc hT hg hd hx (hc.c8 hj) k
end
end Go.X
namespace Go.X
open Go
theorem gv_set_eq {n : Nat} (v : V8 n) (k : Nat) (x : UInt8) (h : k < n) : gv (v.setIfInBounds k x) k = x := by simp [gv, h]
theorem gw_set_eq {n : Nat} (v : V32 n) (k : Nat) (x : UInt32) (h : k < n) : gw (v.setIfInBounds k x) k = x := by simp [gw, h]
theorem gw_fill_ge {n : Nat} (f : Nat → UInt32) (z : V32 n) {i k : Nat} (h : k ≤ i) : gw (fill32 n f z k) i = gw z i := by
  by_cases hn : i < n
  · rw [fill32, gw_ofFn _ _ hn]; simp; omega
  · simp [gw, hn]
theorem mulb4 {r s : Nat} (hr : r < 4) (hs : s ≤ 3) : 0 ≤ (r : Int) * (s : Int) ∧ (r : Int) * (s : Int) ≤ 9 := by
  have h : r * s ≤ 3 * 3 := Nat.mul_le_mul (by omega) hs
  have h2 : ((r * s : Nat) : Int) = (r : Int) * (s : Int) := by simp
  omega
def xorl (l : List UInt8) : UInt8 := l.foldl (· ^^^ ·) 0
theorem xorl_take (l : List UInt8) (k : Nat) (h : k < l.length) : xorl (l.take (k + 1)) = xorl (l.take k) ^^^ gl l k := by
  simp only [xorl, List.take_add_one, List.foldl_append, gl]
  rw [List.getElem?_eq_getElem h]; simp [h]
def dot (a b : V8 4) : UInt8 := xorl [mul (gv a 0) (gv b 0), mul (gv a 1) (gv b 1), mul (gv a 2) (gv b 2), mul (gv a 3) (gv b 3)]
def wdf (b : V8 16) (i : Nat) : UInt32 := col (gv b (4 * i)) (gv b (4 * i + 1)) (gv b (4 * i + 2)) (gv b (4 * i + 3))
def wds (b : V8 16) : V32 4 := Vector.ofFn fun i => wdf b i.val
def unwf (l : V32 4) (i : Nat) : UInt8 := byt (gw l (i / 4)) (i % 4)
def unw (l : V32 4) : V8 16 := Vector.ofFn fun i => unwf l i.val
theorem store_step (l : V32 4) (z : V8 16) (k j : Nat) (h : j < 4) : (fill8 16 (unwf l) z (k * 4 + j)).setIfInBounds (4 * k + j) (toU8 ((shr32 (gw l k) (24 - 8 * j)).toNat : Int)) = fill8 16 (unwf l) z (k * 4 + (j + 1)) := by
  have e1 : 4 * k + j = k * 4 + j := by omega
  have e2 : (k * 4 + j) / 4 = k := by omega
  have e3 : (k * 4 + j) % 4 = j := by omega
  have e4 := fill8_succ (unwf l) z (k * 4 + j)
  simp only [unwf, byt, e2, e3] at e4
  rw [e1]; exact e4
theorem store_end {w0 w : World} {F : List Nat} {L : List (Nat × Obj)} {b T k j : Nat} {l : V32 4} {z : V8 16} (h : St w0 F ((b, .cells (BV (fill8 16 (unwf l) z (k * 4 + j))) T) :: L) w) (hj : j = 4) : St w0 F ((b, .cells (BV (fill8 16 (unwf l) z ((k + 1) * 4))) T) :: L) w := by
  subst hj; have e : (k + 1) * 4 = k * 4 + 4 := by omega
  rw [e]; exact h
theorem rotl8_eq (a : UInt32) : shl32 a (toU64 8 &&& 31).toNat ||| shr32 a (32 - (toU64 8 &&& 31)).toNat = rotl8 a := by
  have e1 : (toU64 8 &&& 31).toNat = 8 := by decide
  have e2 : (32 - (toU64 8 &&& 31)).toNat = 24 := by decide
  rw [e1, e2]; rfl
def turned (w : UInt32) (r : Nat) : UInt32 := sword (rotl8 w) ^^^ shl32 (toU32 ((pow 2 (r - 1)).toNat : Int)) 24
def fwdL (l : V32 4) (t : UInt32) : Nat → V32 4 × UInt32
  | 0 => (l, t)
  | k + 1 => ((fwdL l t k).1.setIfInBounds k (gw (fwdL l t k).1 k ^^^ (fwdL l t k).2), gw (fwdL l t k).1 k ^^^ (fwdL l t k).2)
def fwd (l : V32 4) (r : Nat) : V32 4 := (fwdL l (turned (gw l 3) (r + 1)) 4).1
def nextK (r : Nat) (b : V8 16) : V8 16 := unw (fwd (wds b) r)
def expandL (key : V8 16) : Nat → V8 176
  | 0 => put8 (Vector.replicate 176 0) 0 key
  | r + 1 => put8 (expandL key r) ((r + 1) * 16) (nextK r (seg8 16 (expandL key r) (r * 16)))
def expand (key : V8 16) : V8 176 := expandL key 10
def colf (row : V8 4) (b : V8 16) (i : Nat) : UInt8 :=
  dot #v[gv row ((4 - i % 4) % 4), gv row ((5 - i % 4) % 4), gv row ((6 - i % 4) % 4), gv row ((7 - i % 4) % 4)] (seg8 4 b (i - i % 4))
def cols (b : V8 16) (row : V8 4) : V8 16 := Vector.ofFn fun i => colf row b i.val
def unmix (b : V8 16) : V8 16 := cols b #v[14, 11, 13, 9]
def fwdTf (i : Nat) : UInt32 := col (mul (sbox (UInt8.ofNat i)) 2) (sbox (UInt8.ofNat i)) (sbox (UInt8.ofNat i)) (mul (sbox (UInt8.ofNat i)) 3)
def fwdT : V32 256 := Vector.ofFn fun i => fwdTf i.val
def bckTf (i : Nat) : UInt32 := col (mul (back (UInt8.ofNat i)) 14) (mul (back (UInt8.ofNat i)) 9) (mul (back (UInt8.ofNat i)) 13) (mul (back (UInt8.ofNat i)) 11)
def bckT : V32 256 := Vector.ofFn fun i => bckTf i.val
def pick (s : V32 4) (step c r : Nat) : UInt8 := byt (gw s ((c + r * step) % 4)) r
def rowL (kv : V32 44) (tv : V32 256) (step : Nat) (s : V32 4) (n c : Nat) : Nat → UInt32
  | 0 => gw kv (n * 4 + c)
  | q + 1 => rowL kv tv step s n c q ^^^ (if 0 < q then rotr (gw tv (pick s step c q).toNat) q else gw tv (pick s step c q).toNat)
def roundf (kv : V32 44) (tv : V32 256) (step : Nat) (s : V32 4) (n : Nat) : V32 4 := Vector.ofFn fun c => rowL kv tv step s n c.val 4
def stL (kv : V32 44) (tv : V32 256) (step : Nat) (b : V8 16) : Nat → V32 4
  | 0 => Vector.ofFn fun i => gw (wds b) i.val ^^^ gw kv i.val
  | n + 1 => roundf kv tv step (stL kv tv step b n) (n + 1)
def lastf (kv : V32 44) (step : Nat) (g : UInt8 → UInt8) (s : V32 4) (i : Nat) : UInt8 := g (pick s step (i / 4) (i % 4)) ^^^ byt (gw kv (40 + i / 4)) (i % 4)
def runf (kv : V32 44) (tv : V32 256) (step : Nat) (g : UInt8 → UInt8) (b : V8 16) : V8 16 := Vector.ofFn fun i => lastf kv step g (stL kv tv step b 9) i.val
section
variable {kv : V32 44} {tv : V32 256} {step n c q k : Nat} {s : V32 4} {w0 w : World} {F : List Nat} {L : List (Nat × Obj)} {b T : Nat}
theorem gw_set_set {m : Nat} (v : V32 m) (c : Nat) (x y : UInt32) : (v.setIfInBounds c x).setIfInBounds c y = v.setIfInBounds c y := by
  apply Vector.ext; intro i h
  rw [Vector.getElem_setIfInBounds h, Vector.getElem_setIfInBounds h, Vector.getElem_setIfInBounds h]
  by_cases e : c = i <;> simp [e]
theorem run_qp (v : V32 4) (h : 0 < q) (hc : c < 4) : (v.setIfInBounds c (rowL kv tv step s n c q)).setIfInBounds c (gw (v.setIfInBounds c (rowL kv tv step s n c q)) c ^^^ rotr (gw tv (pick s step c q).toNat) q) = v.setIfInBounds c (rowL kv tv step s n c (q + 1)) := by
  rw [gw_set_set, gw_set_eq _ _ _ hc]; simp only [rowL]; rw [if_pos h]
theorem run_qz (v : V32 4) (h : ¬ 0 < q) (hc : c < 4) : (v.setIfInBounds c (rowL kv tv step s n c q)).setIfInBounds c (gw (v.setIfInBounds c (rowL kv tv step s n c q)) c ^^^ gw tv (pick s step c q).toNat) = v.setIfInBounds c (rowL kv tv step s n c (q + 1)) := by
  rw [gw_set_set, gw_set_eq _ _ _ hc]; simp only [rowL]; rw [if_neg h]
theorem run_ini {bl : V8 16} (h : St w0 F ((b, .cells (WV (fill32 4 (fun i => gw (wds bl) i ^^^ gw kv i) (wds bl) k)) T) :: L) w) (hk : k = 4) : St w0 F ((b, .cells (WV (stL kv tv step bl 0)) T) :: L) w := by
  subst hk; rw [fill32_n] at h; exact h
theorem run_rnd {z : V32 4} {bl : V8 16} (h : St w0 F ((b, .cells (WV (fill32 4 (fun c => rowL kv tv step (stL kv tv step bl n) (n + 1) c 4) z c)) T) :: L) w) (hk : c = 4) : St w0 F ((b, .cells (WV (stL kv tv step bl (n + 1))) T) :: L) w := by
  subst hk; rw [fill32_n] at h; exact h
theorem run_cel {z : V32 4} (h : St w0 F ((b, .cells (WV ((fill32 4 (fun c => rowL kv tv step s n c 4) z c).setIfInBounds c (rowL kv tv step s n c q))) T) :: L) w) (hq : q = 4) : St w0 F ((b, .cells (WV (fill32 4 (fun c => rowL kv tv step s n c 4) z (c + 1))) T) :: L) w := by
  subst hq
  have e := fill32_succ (fun c => rowL kv tv step s n c 4) z c
  rw [e] at h; exact h
end
def fwK (key : V8 16) : Nat → V32 44
  | 0 => Vector.replicate 44 0
  | r + 1 => put32 (fwK key r) (r * 4) (wds (seg8 16 (expand key) (r * 16)))
def bkB (key : V8 16) (r : Nat) : V8 16 := if 0 < r ∧ r < 10 then unmix (seg8 16 (expand key) (r * 16)) else seg8 16 (expand key) (r * 16)
def bkK (key : V8 16) : Nat → V32 44
  | 0 => Vector.replicate 44 0
  | r + 1 => put32 (bkK key r) ((10 - r) * 4) (wds (bkB key r))
def enc (key b : V8 16) : V8 16 := runf (fwK key 11) fwdT 1 sbox b
def dec (key b : V8 16) : V8 16 := runf (bkK key 11) bckT 3 back b
def cipherC (key : V8 16) : Array Value := #[.bool true] ++ (WV (fwK key 11) ++ (WV (bkK key 11) ++ (BV key ++ (WV fwdT ++ WV bckT))))
end Go.X
namespace Go.X
open Go
def Fe (r : Option Nat) : Fence := { Fence.wide with round := r }
def nd (o : Oper) : Bool := match o.op with
  | .defer _ => false
  | _ => true
theorem nd_spec {o : Oper} (h : nd o = true) : ∀ c, o.op ≠ .defer c := fun c e => by simp [nd, e] at h
section
variable {P : Program} {ops : Array Oper} {n m : Nat} {r : Option Nat} {Q : XPost} {l : Regs} {w : World}
theorem callsFe {f : FuncId} {args : Array Value} {R : Ending → World → Prop} (h : Calls P f args w R) : CallsIn (Fe r) m P f args w R := by
  have h1 : CallsIn Fence.wide m P f args w R := callsIn_wide.2 h
  exact h1
theorem rowsFe {row : String} {args : Array Value} {R : Value → World → Prop} (h : Rows P row args w R) : RowsIn (Fe r) m P row args w R := fun c cs _ =>
  let ⟨v, w', hr, s⟩ := h c cs
  have s1 : StepsIn (Machine.fenced P Fence.wide) P _ _ := stepsIn_wide.2 s
  ⟨v, w', hr, s1⟩
theorem wp_toI {o : Oper} {a : Act} {K : Act → World → Prop} (hd : nd o = true) (h : o.wp P a w K XF) : o.wpIn (Fe r) m P a w K Q := by
  refine ⟨fun _ _ => trivial, ?_⟩
  rw [Oper.semAt_eq _ _ _ (nd_spec hd)]
  unfold Oper.wp at h
  generalize (execOp a.eval o).run P w = res at *
  have hdep : ∀ k : Nat, (Fe r).depth.isSome = true → 1 ≤ k := fun k hk => by simp [Fe, Fence.wide] at hk
  cases res with
  | ok nx w' =>
    cases nx <;> simp only [Oper.upon, Oper.uponIn] at h ⊢ <;>
      first
        | exact h
        | exact ⟨hdep _, callsFe (h.mono fun e w'' he => by
            cases e
            · exact he
            · exact he.elim
            · obtain ⟨_, _, hf⟩ := he; exact hf.elim)⟩
        | exact ⟨hdep _, rowsFe h⟩
        | exact h.elim
  | halt x w' => cases x <;> simp only [Oper.upon, Oper.uponIn] at h ⊢ <;> exact h.elim
def WLI (P : Program) (ops : Array Oper) (n : Nat) (Q : XPost) (r : Option Nat) (m : Nat) : List Oper → Regs → World → Prop
  | [], l, w => WQ n Q .normal l w
  | o :: rest, l, w => ∀ a, Is n l a →
    if Region.wanted o (yielded ops a.tmps) then o.wpIn (Fe r) m P a w (fun a' w' => ∃ l', Is n l' a' ∧ WLI P ops n Q r m rest l' w') Q
    else ∃ l', Is n l' (a.put o.dst undef) ∧ WLI P ops n Q r m rest l' w
theorem WLI.sound : ∀ {rest : List Oper} {l : Regs} {w : World} {a : Act}, WLI P ops n Q r m rest l w → Is n l a → wpListIn (Fe r) m P ops Q rest a w
  | [], _, _, a, h, hi => h a hi
  | o :: rest, l, w, a, h, hi => by
    have h1 := h a hi
    unfold wpListIn
    split
    · rename_i hw
      rw [if_pos hw] at h1
      exact Oper.wpIn_mono (fun a' w' ⟨l', hi', hk⟩ => WLI.sound hk hi') h1
    · rename_i hw
      rw [if_neg hw] at h1
      obtain ⟨l', hi', hk⟩ := h1
      exact ⟨fun _ _ => trivial, WLI.sound hk hi'⟩
theorem wi {o : Oper} {rest : List Oper} (hd : nd o = true) (h : WO P ops n o l w (WLI P ops n Q r m rest)) : WLI P ops n Q r m (o :: rest) l w := fun a ha => by
  have h1 := h a ha
  split
  · rename_i hw; rw [if_pos hw] at h1; exact wp_toI hd h1
  · rename_i hw; rw [if_neg hw] at h1; exact h1
def WCI (P : Program) (n : Nat) (Q : XPost) (r : Option Nat) (m : Nat) (c : Code) (l : Regs) (w : World) : Prop := ∀ a, Is n l a → c.wpIn (Fe r) m P Q a w
theorem wci_region {id : Nat} {os : List Oper} (h : WLI P os.toArray n Q r m os l w) : WCI P n Q r m (.region id os.toArray false) l w :=
  fun _ hi => wpIn_region_lit (WLI.sound h hi)
theorem wci_seq {x y : Code} (h : WCI P n (Exit.then (fun a w => y.wpIn (Fe r) m P Q a w) Q) r m x l w) : WCI P n Q r m (.seq x y) l w :=
  fun a hi => wpIn_seq (h a hi)
theorem rgi {id : Nat} {os : List Oper} {y : Code} (h : WLI P os.toArray n (Exit.then (fun a w => y.wpIn (Fe r) m P Q a w) Q) r m os l w) :
    WCI P n Q r m (.seq (.region id os.toArray false) y) l w := wci_seq (wci_region h)
theorem wqi_then {y : Code} (h : WCI P n Q r m y l w) : WQ n (Exit.then (fun a w => y.wpIn (Fe r) m P Q a w) Q) .normal l w := h
theorem wci_skip (h : WQ n Q .normal l w) : WCI P n Q r m .skip l w := fun a hi => wpIn_skip (h a hi)
theorem wci_exit {i : Nat} (h : WQ n Q (.exit i) l w) : WCI P n Q r m (.exit i) l w := fun a hi => wpIn_exit (h a hi)
theorem wci_block {i : Nat} {c : Code} (h : WCI P n (Exit.inBlock i Q) r m c l w) : WCI P n Q r m (.block i c) l w := fun a hi => wpIn_block (h a hi)
theorem wci_if_f {c : Operand} {x y : Code} (hc : ev l c = some (.bool false)) (h : WCI P n Q r m y l w) : WCI P n Q r m (.cond c x y) l w :=
  fun a hi => wpIn_cond_false (hi.ev hc) (h a hi)
theorem wci_if {c : Operand} {x y : Code} {b : Bool} (hc : ev l c = some (.bool b)) (ht : b = true → WCI P n Q r m x l w) (hf : b = false → WCI P n Q r m y l w) :
    WCI P n Q r m (.cond c x y) l w :=
  fun a hi => wpIn_cond_split (hi.ev hc) (fun e => ht e a hi) (fun e => hf e a hi)
theorem wpIn_loop_g {σ : Type} {F : Fence} {c : Code} {a : Act} (I : σ → Act → World → Prop) (μ : σ → Nat) (s0 : σ) (h₀ : I s0 a w)
    (round : ∀ s a w, I s a w → c.wpIn F m P (Exit.then (fun a' w' => ∃ s', I s' a' w' ∧ μ s' < μ s) Q) a w) : (Code.loop c).wpIn F m P Q a w := by
  intro b k cs hro hb hr
  have key : ∀ j s a w, μ s = j → I s a w →
      ∃ e a' w', Q e a' w' ∧ ArrivesIn (Machine.fenced P F) P (lone (b.atR a (.code c :: .inLoop c :: k)) cs w) b k cs e a' w' := by
    intro j
    induction j using Nat.strongRecOn with
    | _ j ih =>
      intro s a w hm hI
      obtain ⟨e, a₁, w₁, hq, harr⟩ := round s a w hI b (.inLoop c :: k) cs hro hb hr
      cases e with
      | normal =>
        obtain ⟨s', hI₁, hlt⟩ := hq
        obtain ⟨e₂, a₂, w₂, hq₂, harr₂⟩ := ih (μ s') (hm ▸ hlt) s' a₁ w₁ rfl hI₁
        exact ⟨e₂, a₂, w₂, hq₂, .of_steps (StepsIn.trans harr (.one (fenced_calm (fr := b.atR a₁ (.inLoop c :: k)) hb hr rfl) stepR_inLoop)) harr₂⟩
      | exit id => exact ⟨_, a₁, w₁, hq, .pass (x := .inLoop c) rfl (fun _ _ => .inl (by simp)) harr⟩
      | goto l => exact ⟨_, a₁, w₁, hq, .pass (x := .inLoop c) rfl (fun _ _ => .inl (by simp)) harr⟩
      | ret => exact ⟨_, a₁, w₁, hq, .pass (x := .inLoop c) rfl (fun _ _ => .inl (by simp)) harr⟩
      | panic ch => exact ⟨_, a₁, w₁, hq, .pass (x := .inLoop c) rfl (fun _ _ => .inl (by simp)) harr⟩
      | outgrown => exact ⟨_, a₁, w₁, hq, .pass (x := .inLoop c) rfl (fun _ _ => .inl (by simp)) harr⟩
  obtain ⟨e, a', w', hq, harr⟩ := key _ s0 a w rfl h₀
  exact ⟨e, a', w', hq, .of_steps (.one (fenced_calm (fr := b.atR a (.code (.loop c) :: k)) hb hr rfl) stepR_loop) harr⟩
theorem wci_loop {σ : Type} {c : Code} (lr : σ → Regs) (inv : σ → World → Prop) (μ : σ → Nat) (s0 : σ) (h0 : Sub (lr s0) l) (hi : inv s0 w)
    (round : ∀ s w, inv s w → WCI P n (Exit.then (Again n lr inv μ s) Q) r m c (lr s) w) (hd : dfs (lr s0) = dfs l := by rfl) : WCI P n Q r m (.loop c) l w :=
  fun _ ha => wpIn_loop_g (fun s a w => Is n (lr s) a ∧ inv s w) μ s0 ⟨ha.sub h0 hd, hi⟩ fun s a w ⟨h1, h2⟩ => round s w h2 a h1
theorem wpOp_toI {i : Nat} {K : Act → World → Prop} {a : Act} (hd : ∀ o, ops[i]? = some o → nd o = true) (h : wpOp P ops XF i K a w) : wpOpIn (Fe r) m P ops Q i K a w := by
  unfold wpOp at h
  unfold wpOpIn
  split
  · rename_i ho; simp only [ho] at h; exact h
  · rename_i o ho
    simp only [ho] at h
    split
    · rename_i hw
      simp only [hw, if_true] at h
      rcases h with h | ⟨_, _, _, hf⟩
      · exact wp_toI (hd o ho) h
      · exact hf.elim
    · rename_i hw
      simp only [hw] at h
      exact ⟨fun _ _ => trivial, h⟩
theorem wpJ_anyI {H : Nat → Bool} {J : World → Prop} (hd : ∀ (i : Nat) o, ops[i]? = some o → nd o = true) : ∀ (fuel : Nat) (listed : Array Bool) (a : Act) (w : World), wpJ P ops H J (Q .normal) fuel listed a w → wpAnyIn (Fe r) m P .any ops Q fuel listed a w
  | 0, _, _, _, h => h
  | fuel + 1, listed, a, w, h => ⟨h.1, fun i hi => wpOpIn_mono (fun a' w' h' => wpJ_anyI hd fuel _ a' w' h'.2) (wpOp_toI (hd i) (h.2 i hi))⟩
theorem all_nd (h : ops.all nd = true) (i : Nat) (o : Oper) (ho : ops[i]? = some o) : nd o = true :=
  Array.all_eq_true_iff_forall_mem.1 h o (Array.mem_of_getElem? ho)
theorem wci_draw {id : Nat} (hm : P.follows .mixedOrders = true) (hd : ops.all nd = true) (t : Nat) (J : World → Prop) (h : DW P ops n Q t J ops.size (Array.replicate ops.size false) l w.drew) : WCI P n Q r m (.region id ops true) l w :=
  fun a ha => wpIn_region_any hm (wpJ_anyI (all_nd hd) _ _ _ _ (h a ha))
theorem rdi {id : Nat} {y : Code} (hm : P.follows .mixedOrders = true) (hd : ops.all nd = true) (t : Nat) (J : World → Prop) (h : DW P ops n (Exit.then (fun a w => y.wpIn (Fe r) m P Q a w) Q) t J ops.size (Array.replicate ops.size false) l w.drew) :
    WCI P n Q r m (.seq (.region id ops true) y) l w := wci_seq (wci_draw hm hd t J h)
theorem enterI {f : FuncId} {fn : Func} {c : Code} {args : List Value} {R : Ending → World → Prop} (hf : P.funcs[f]? = some fn) (hb : fn.body = some c)
    (hn : Nat.ble args.length fn.ntmps = true) (h : WCI P fn.ntmps (bodyPost P fn R) none m c (args.zipIdx.map fun (v, i) => (i, v)) w) (h6 : Nat.ble fn.ntmps 1000000 = true := by rfl) : CallsIn (Fe none) m P f args.toArray w R :=
  callsIn_of_wp hf hb trivial (h _ (is_args (Nat.le_of_ble_eq_true hn) (Nat.le_of_ble_eq_true h6)))
theorem yld {d T : Nat} {ps : String} {af : Array Edge} {g : Option (Nat × Bool)} {f : Operand} {lp : Nat} {xs : List Value} {asx : List Operand} {A : Array Nat} {rest : List Oper} {R : Ending → World → Prop}
    (hg : gval ops l ⟨some d, .call ⟨.value f, asx.toArray, A⟩, T, ps, af, g⟩ = some true) (hd : Nat.blt d n = true) (hf : ev l f = some (.func (.yield lp) #[] #[])) (ha : evs l asx = some xs)
    (hY : YieldAt (Fe r) (m - 1) P lp xs.toArray w R) (k : ∀ e w', R e w' → ∃ v, e = .returned v ∧ WLI P ops n Q r m rest ((d, v) :: l) w') :
    WLI P ops n Q r m (⟨some d, .call ⟨.value f, asx.toArray, A⟩, T, ps, af, g⟩ :: rest) l w := by
  intro a hi
  rw [if_pos (hi.wanted hg)]
  refine ⟨fun _ _ => trivial, ?_⟩
  rw [Oper.semAt_eq _ _ _ (nd_spec rfl)]
  obtain ⟨fn, tmps, assign, body, hy, hR⟩ := hY
  have h2 : asx.toArray.map a.eval = xs.toArray := by simp [← hi.evs ha]
  have e1 : (execOp a.eval ⟨some d, .call ⟨.value f, asx.toArray, A⟩, T, ps, af, g⟩).run P w = .ok (.round lp fn tmps assign body) w := by
    simp [execOp, resolve, h2, hi.ev hf, Deferred.ofValue, invoke, hy]
  rw [e1]
  refine ⟨fun hk => (by simp [Fe, Fence.wide] at hk), hR.mono fun e w' he => ?_⟩
  obtain ⟨v, rfl, hk⟩ := k e w' he
  exact ⟨_, hi.put v (by simpa [Nat.blt_eq] using hd), hk⟩
end
section
variable {P : Program} {n m : Nat} {Q : XPost} {l : Regs} {w w0 : World} {F : List Nat} {L : List (Nat × Obj)}
theorem St.putLoop (hS : St w0 F L w) (i : Nat) {lp : Nat} {o o' : Obj} (hi : L[i]? = some (lp, o)) : St w0 F (L.set i (lp, o')) (w.putObj lp o') :=
  hS.turn i hi rfl rfl rfl (by simp) (World.putObj_heap_same (hS.lt (List.mem_of_getElem? hi))) (fun k hk => World.putObj_heap_other hk)
theorem begin_q {lp : Nat} {r : Loop} {K : Act → World → Prop} (i : Nat) (hS : St w0 F L w) (hi : L[i]? = some (lp, .loop r)) (hr : r.state = .ready)
    (k : ∀ w', St w0 F (L.set i (lp, .loop { r with state := .busy })) w' → WK n K l w') :
    WQ n (Exit.then (fun a w => ∃ w₂, (Instr.beginRound lp).run P w = .ok () w₂ ∧ K a w₂) (fun _ _ _ => False)) .normal l w := fun a ha =>
  ⟨_, run_beginRound (hS.get i hi) hr, k _ (hS.putLoop i hi) a ha⟩
theorem wk_ci {c : Code} {r : Option Nat} (h : WCI P n Q r m c l w) : WK n (fun a w => c.wpIn (Fe r) m P Q a w) l w := h
theorem end_q {lp : Nat} {r : Loop} {R : Ending → World → Prop} (i : Nat) (hS : St w0 F L w) (hi : L[i]? = some (lp, .loop { r with state := .busy })) (hr : r.state = .ready) (hp : r.pending = none)
    (k : ∀ w', St w0 F (L.set i (lp, .loop r)) w' → R (.returned (.bool true)) w') : WQ n (roundPost P lp R) .normal l w := fun a ha => by
  refine ⟨_, _, run_endRound none (hS.get i hi), ?_⟩
  have e : ({ ({ r with state := .busy } : Loop) with state := if (none : Option Code).isNone then .ready else .done, pending := none } : Loop) = r := by
    cases r; simp at hr hp; subst hr hp; rfl
  rw [e]
  exact k _ (hS.putLoop i hi)
def RoundR (w0 : World) (F : List Nat) (lp D : Nat) (r : Loop) (J1 : List (Nat × Obj) → Prop) : Ending → World → Prop := fun e W =>
  e = .returned (.bool true) ∧ ∃ L', J1 L' ∧ St w0 F ((lp, .loop r) :: (D, .deferred (some [])) :: L') W
theorem wc_range2 {g : Operand} {p1 p2 : Nat} {assign body : Code} {fg : Nat} {cap : List Value} (y1 y2 : Nat → Value) (cnt : Nat) (HR : World → Prop) (J0 : Nat → List (Nat × Obj) → Prop)
    (hg : ev l g = some (.func (.func fg) #[] cap.toArray)) (hc : Callable P fg) (h1 : Nat.blt p1 n = true) (h2 : Nat.blt p2 n = true) (hS : St w0 F L w) (h0 : J0 0 L)
    (hall : ∀ (lp : Nat) (J : Nat → World → Prop) (W : World), (∀ k W, J k W → HR W) →
      (∀ k W, k < cnt → J k W → YieldAt (Fe none) m P lp #[y1 k, y2 k] W fun e W' => e = .returned (.bool true) ∧ J (k + 1) W') → J 0 W →
      CallsIn (Fe none) (m + 1) P fg (.func (.yield lp) #[] #[] :: cap).toArray W fun e W' => (∃ v, e = .returned v) ∧ J cnt W')
    (hHR : ∀ k L' W, J0 k L' → St w0 F L' W → HR W)
    (round : ∀ (k lp D : Nat) (r : Loop) (L' : List (Nat × Obj)) (W : World), r.state = .ready → r.pending = none → k < cnt → J0 k L' → St w0 F ((lp, .loop r) :: (D, .deferred (some [])) :: L') W →
      WCI P n (Exit.then (fun a w => ∃ w₂, (Instr.beginRound lp).run P w = .ok () w₂ ∧ body.wpIn (Fe (some lp)) m P (roundPost P lp (RoundR w0 F lp D r (J0 (k + 1)))) a w₂) (fun _ _ _ => False)) (some lp) m assign ((p2, y2 k) :: (p1, y1 k) :: l) W)
    (done : ∀ (D : Nat) (L' : List (Nat × Obj)) (W : World), J0 cnt L' → St w0 F ((D, .deferred (some [])) :: L') W → WQ n Q .normal ((1000000, .int .u64 (D : Int)) :: l) W)
    (hd : dfs l = [] := by rfl) : WC P n Q (.rangeFunc g #[p1, p2] assign body) l w := by
  intro a ha
  have h1' : p1 < n := by simpa [Nat.blt_eq] using h1
  have h2' : p2 < n := by simpa [Nat.blt_eq] using h2
  refine wpIn_wide.1 (wpIn_rangeFunc (n := m + 2) fun fn _ => ?_)
  have hS1 := (hS.alloc (.deferred (some [])))
  have hS2 := hS1.alloc (.loop { state := .ready, pending := none, fn, tmps := a.tmps, params := #[p1, p2], assign, body, defers := w.heap.size })
  obtain ⟨r, hrd⟩ : ∃ r : Loop, r = { state := .ready, pending := none, fn, tmps := a.tmps, params := #[p1, p2], assign, body, defers := w.heap.size } := ⟨_, rfl⟩
  rw [← hrd] at hS2
  have hlp : (w.alloc (.deferred (some []))).heap.size = w.heap.size + 1 := by simp
  rw [hlp] at hS2
  have hres : (resolve a.eval (rangeCall g (w.heap.size + 1)) 0).run P ((w.alloc (.deferred (some []))).alloc (.loop r)) = .ok { target := .fn (.func fg) cap.toArray, args := #[.func (.yield (w.heap.size + 1)) #[] #[]] } ((w.alloc (.deferred (some []))).alloc (.loop r)) := by
    have hec : ∀ v, a.eval (.const v) = v := fun _ => rfl
    simp [resolve, ha.ev hg, Deferred.ofValue, hec]
  refine ⟨w.heap.size + 1, [{ target := .collected w.heap.size, args := #[] }], (w.alloc (.deferred (some []))).alloc (.loop r), _, _, fg, (.func (.yield (w.heap.size + 1)) #[] #[] :: cap).toArray, (w.alloc (.deferred (some []))).alloc (.loop r), ?_, hres, fun _ _ => trivial, ?_, fun hk => (by simp [Fence.wide] at hk), ?_⟩
  · rw [hrd]; exact run_enterLoop_outer fn a.tmps #[p1, p2] assign body
  · have := run_callFunc hc (.func (.yield (w.heap.size + 1)) #[] #[] :: cap).toArray ((w.alloc (.deferred (some []))).alloc (.loop r))
    simpa [invoke] using this
  · have hrs : r.state = .ready := by rw [hrd]
    have hrp : r.pending = none := by rw [hrd]
    refine CallsIn.mono (hall (w.heap.size + 1) (fun k W => ∃ L', J0 k L' ∧ St w0 F ((w.heap.size + 1, .loop r) :: (w.heap.size, .deferred (some [])) :: L') W) _ ?_ ?_ ⟨L, h0, hS2⟩) ?_
    · rintro k W ⟨L', hJ, hS'⟩
      exact hHR k L' W hJ hS'.tl.tl
    · rintro k W hk ⟨L', hJ, hS'⟩
      refine ⟨_, _, _, _, run_yield (hS'.get 0 rfl) (by rw [hrd]; rfl), ?_⟩
      refine RoundIn.mono (roundIn_of_wpIn trivial ?_) (R := RoundR w0 F (w.heap.size + 1) w.heap.size r (J0 (k + 1))) (fun e W' he => he)
      have hw := round k (w.heap.size + 1) w.heap.size r L' W hrs hrp hk hJ hS'
      have hb : r.body = body := by rw [hrd]
      have hasg : r.assign = assign := by rw [hrd]
      rw [hb, hasg]
      refine hw _ ?_
      have hi1 := (ha.put (y1 k) h1').put (y2 k) h2'
      refine ⟨?_, ha.small, ?_, ?_⟩
      · rw [hrd]; simp [ha.size]
      · rw [dfs_cons _ _ (Nat.lt_of_lt_of_le h2' ha.small), dfs_cons _ _ (Nat.lt_of_lt_of_le h1' ha.small), hd]
      · intro t v ht
        have := hi1.val t v ht
        rw [hrd]
        simpa [Act.put] using this
    · rintro e W' ⟨⟨v, rfl⟩, L', hJ, hS'⟩
      refine ⟨none, _, (run_endLoop (hS'.get 0 rfl) (by rw [hrs]; exact fun h => by cases h)).trans (by rw [hrp]), ?_⟩
      refine done w.heap.size L' _ hJ (hS'.putLoop 0 rfl).tl _ ⟨ha.size, ha.small, ?_, ?_⟩
      · have := ha.defers; rw [hd] at this
        simp [this, dfs, mk]
      · intro t u ht
        have hlt := look_lt ht
        have e : (1000000 : Nat) ≠ t := by omega
        rw [look_cons_ne l _ e] at ht
        exact ha.val t u ht
theorem enterM {f : FuncId} {fn : Func} {c : Code} {args : List Value} {R : Ending → World → Prop} (hf : P.funcs[f]? = some fn) (hb : fn.body = some c)
    (hn : Nat.ble args.length fn.ntmps = true) (h : WC P fn.ntmps (bodyPostM Fence.wide 0 P fn R) c (args.zipIdx.map fun (v, i) => (i, v)) w) (h6 : Nat.ble fn.ntmps 1000000 = true := by rfl) : Calls P f args.toArray w R :=
  callsIn_wide.1 (callsIn_of_wp_marks hf hb trivial (wpIn_wide.2 (h _ (is_args (Nat.le_of_ble_eq_true hn) (Nat.le_of_ble_eq_true h6)))))
theorem finM {fn : Func} {R : Ending → World → Prop} {D : Nat} {v : Value} (i : Nat) (hS : St w0 F L w) (hi : L[i]? = some (D, .deferred (some []))) (hd : dfs l = [{ target := .collected D, args := #[] }])
    (hv : ∀ a w', Is n l a → St w0 F (L.set i (D, .deferred none)) w' → (results fn a.tmps).run P w' = .ok v w') (hR : ∀ w', St w0 F (L.set i (D, .deferred none)) w' → R (.returned v) w') :
    WQ n (bodyPostM Fence.wide 0 P fn R) .ret l w := fun a ha => by
  show LeavesInM Fence.wide 0 P fn a.tmps R a.defers .returning w
  rw [ha.defers, hd]
  have h1 := hS.putLoop i hi (o' := .deferred none)
  exact ⟨by simp, .inl ⟨D, _, rfl, run_takeDeferred (hS.get i hi), v, hv a _ ha h1, hR _ h1⟩⟩
theorem finM1 {fn : Func} {R : Ending → World → Prop} {D : Nat} {q : ResultVar} {v : Value} (i : Nat) (hS : St w0 F L w) (hi : L[i]? = some (D, .deferred (some []))) (hd : dfs l = [{ target := .collected D, args := #[] }]) (hr : fn.results = #[q])
    (h1 : ∀ w', St w0 F (L.set i (D, .deferred none)) w' → Res1 P l w' q v) (hR : ∀ w', St w0 F (L.set i (D, .deferred none)) w' → R (.returned v) w') :
    WQ n (bodyPostM Fence.wide 0 P fn R) .ret l w := finM i hS hi hd (fun a w' ha hS' => by
  have e1 := res_run ha (h1 w' hS')
  simp [results_eq, hr, e1]) hR
theorem finM3 {fn : Func} {R : Ending → World → Prop} {D : Nat} {q s t : ResultVar} {v u x : Value} (i : Nat) (hS : St w0 F L w) (hi : L[i]? = some (D, .deferred (some []))) (hd : dfs l = [{ target := .collected D, args := #[] }]) (hr : fn.results = #[q, s, t])
    (h1 : ∀ w', St w0 F (L.set i (D, .deferred none)) w' → Res1 P l w' q v) (h2 : ∀ w', St w0 F (L.set i (D, .deferred none)) w' → Res1 P l w' s u) (h3 : ∀ w', St w0 F (L.set i (D, .deferred none)) w' → Res1 P l w' t x)
    (hR : ∀ w', St w0 F (L.set i (D, .deferred none)) w' → R (.returned (.tuple #[v, u, x])) w') :
    WQ n (bodyPostM Fence.wide 0 P fn R) .ret l w := finM i hS hi hd (fun a w' ha hS' => by
  have e1 := res_run ha (h1 w' hS')
  have e2 := res_run ha (h2 w' hS')
  have e3 := res_run ha (h3 w' hS')
  simp [results_eq, hr, e1, e2, e3]) hR
end
end Go.X
