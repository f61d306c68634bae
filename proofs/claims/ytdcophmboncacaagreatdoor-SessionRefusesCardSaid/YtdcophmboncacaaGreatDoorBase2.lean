/- Part 2 of the ground of this seat's proofs: rules of a calculus of walks, and what the functions of the lower layers compute; no conditions beyond those that each statement bears. -/
import Derived.Test.YtdcophmboncacaaGreatDoorBase1
import Derived.Deep.AppendSrc
import Derived.Deep.Upon
import Derived.Laws.CopyRow
import Derived.WalkKit
import Derived.ProofKit
import Derived.OpenShut
import Derived.Deep.DeepHandedRow
import Derived.Deep.Fields
import Derived.Lib.LaidTab
import Derived.Carry
import Derived.Stop.BytesEq
import Derived.Lib.IfaceEq
import Derived.ChangeMaps5
import Derived.MapKept
import Derived.WideKeyRuns
import Derived.Test.YtdcophmboncacaaGreatDoorProg
import Derived.Lib.OthersKept
import Derived.Laws.Runes
import Derived.Shelf.Strings.FuncGrows
import Derived.Lib.SlBytesConst
set_option linter.unusedVariables false
set_option linter.unusedSimpArgs false
set_option linter.unnecessarySimpa false
namespace Go.X
open Go
def Own (sz : Nat) (a : Option Addr) (n cap : Nat) (xs : List Value) (X : List (Nat × Obj)) : Prop :=
  xs.length = n * sz ∧ n ≤ cap ∧ cap ≤ maxLen ∧
  ((a = none ∧ n = 0 ∧ cap = 0 ∧ X = []) ∨
   ∃ b cur E, a = some ⟨b, 0, none⟩ ∧ X = [(b, .cells cur E (0, 0))] ∧ cur.size = cap * sz ∧ cur.toList.take (n * sz) = xs)
section
variable {a : Option Addr} {n cap sz : Nat} {xs : List Value} {X A R L : List (Nat × Obj)} {w w0 : World} {F : List Nat}
theorem Own.nil (sz : Nat) : Own sz none 0 0 [] [] := ⟨by simp, by omega, by simp [maxLen], .inl ⟨rfl, rfl, rfl, rfl⟩⟩
theorem Own.cel (h : Own sz a n cap xs X) (hS : St w0 F L w) (hx : ∀ p ∈ X, p ∈ L) : Cel w a xs := by
  rcases h.2.2.2 with ⟨rfl, rfl, rfl, rfl⟩ | ⟨b, cur, E, rfl, rfl, hsz, ht⟩
  · have : xs = [] := List.eq_nil_of_length_eq_zero (by simpa using h.1)
    subst this; exact Cel.nil _ _
  · have hb := hS.own (b, .cells cur E (0, 0)) (hx _ (by simp))
    refine Cel.row hb.2 fun j v hj => ?_
    rw [← ht, List.getElem?_take] at hj
    split at hj
    · simpa using hj
    · cases hj
theorem Own.len (h : Own sz a n cap xs X) : xs.length = n * sz := h.1
theorem Own.len8 {bs : List UInt8} (h : Own 1 a n cap (c8 bs) X) : bs.length = n := by have := h.1; rw [c8_len] at this; omega
theorem Own.le (h : Own sz a n cap xs X) : n ≤ cap := h.2.1
theorem Own.shrink (h : Own sz a n cap xs X) (k : Nat) (hk : k ≤ n) : Own sz a k cap (xs.take (k * sz)) X := by
  refine ⟨?_, by have := h.2.1; omega, h.2.2.1, ?_⟩
  · rw [List.length_take, h.1]
    have := Nat.mul_le_mul_right sz hk
    omega
  · rcases h.2.2.2 with ⟨h1, h2, h3, h4⟩ | ⟨b, cur, E, h1, h2, h3, h4⟩
    · exact .inl ⟨h1, by omega, h3, h4⟩
    · refine .inr ⟨b, cur, E, h1, h2, h3, ?_⟩
      rw [← h4, List.take_take]
      congr 1
      have := Nat.mul_le_mul_right sz hk
      omega
theorem Own.blk {b E : Nat} {cs : Array Value} (hn : cs.size = n) (hm : n ≤ maxLen) : Own 1 (some ⟨b, 0, none⟩) n n cs.toList [(b, .cells cs E (0, 0))] := by
  refine ⟨by simp [hn], Nat.le_refl _, hm, .inr ⟨b, cs, E, rfl, rfl, by simp [hn], ?_⟩⟩
  rw [Nat.mul_one, List.take_of_length_le (by simp [hn])]
theorem St.tailin (h : St w0 F (X ++ L) w) (A R : List (Nat × Obj)) (hL : L = A ++ R) : St w0 F (A ++ (X ++ R)) w :=
  h.perm (by rw [hL, ← List.append_assoc, ← List.append_assoc]; exact List.Perm.append_right R List.perm_append_comm)
theorem St.untail (h : St w0 F (A ++ (X ++ R)) w) : St w0 F (A ++ R) w := h.sublist (List.Sublist.append (List.Sublist.refl A) (List.sublist_append_right X R))
theorem St.napp (h : St w0 F A w) : St w0 F (A ++ []) w := by simpa using h
theorem St.anil (h : St w0 F A w) : St w0 F (A ++ ([] ++ [])) w := by simpa using h
theorem St.toend (h : St w0 F (A ++ R) w) (i : Nat) {p : Nat × Obj} (hp : A[i]? = some p) : St w0 F (A.eraseIdx i ++ ([p] ++ R)) w := by
  refine h.perm ?_
  have hlt : i < A.length := (List.getElem?_eq_some_iff.1 hp).1
  have he : A[i] = p := (List.getElem?_eq_some_iff.1 hp).2
  have h1 : (p :: A.eraseIdx i).Perm A := by
    rw [List.eraseIdx_eq_take_drop_succ]
    have h3 : A = A.take i ++ p :: A.drop (i + 1) := by
      rw [← he, List.getElem_cons_drop hlt, List.take_append_drop]
    refine List.Perm.trans List.perm_middle.symm ?_
    rw [← h3]
  have h2 : (A.eraseIdx i ++ ([p] ++ R)).Perm ((p :: A.eraseIdx i) ++ R) := by
    simp [List.perm_middle]
  exact h2.trans (List.Perm.append_right R h1)
theorem BV_toList {n : Nat} (v : V8 n) : (BV v).toList = c8 v.toList := by simp [BV, c8, Vector.toList]
theorem mem_tail {p : Nat × Obj} (A R : List (Nat × Obj)) (hp : p ∈ X) : p ∈ A ++ (X ++ R) := by simp [hp]
end
section
variable {P : Program} {w : World}
theorem run_append_row (t tx ty e : TypeId) (i : TypeInfo) (ht : P.underlying t = some (.slice e)) (hi : P.info? e = some i) (b sLen sCap : Nat) (x : Value) (m : Nat) (news : List Value) (hs : Src P i.size tx x m news w)
    (hroom : sLen + m ≤ sCap) (cur : Array Value) (E : TypeId) (hb : w.heap[b]? = some (.cells cur E (0, 0))) (hsz : cur.size = sCap * i.size) :
    (Builtin.append_ #[t, tx] ty #[.slice (some ⟨b, 0, none⟩) sLen sCap, x]).run P w = .ok (.slice (some ⟨b, 0, none⟩) (sLen + m) sCap) (w.setRow b (putAt cur (sLen * i.size) news.toArray)) := by
  have hle : sLen * i.size + news.length ≤ cur.size := by
    rw [hsz, hs.newsLen, ← Nat.add_mul]; exact Nat.mul_le_mul_right _ hroom
  have hst := run_storeCells_at P b (sLen * i.size) E news 0 cur w hb (by simpa using hle) hs.one
  simp only [Nat.add_zero] at hst
  rcases hs.kind with ⟨e', hk⟩ | hk <;> simp [Builtin.append_, run_underlying ht, run_underlying hk, sizeOf, typeInfo, hi, hs.len, hroom, hs.cells, Addr.add_lit, hst, putAt]
theorem src8 {tx e' : TypeId} (hk : P.underlying tx = some (.slice e')) {a : Option Addr} {bs : List UInt8} {m : Nat} (c : Nat) (h : Cel w a (c8 bs)) (hm : bs.length = m) : Src P 1 tx (.slice a m c) m (c8 bs) w := by
  subst hm
  cases a with
  | none =>
    have : bs = [] := by
      cases bs with
      | nil => rfl
      | cons x r => have := (h 0 (U8 x) (by simp [c8])).1; cases this
    subst this
    exact Src.ofNil w hk c
  | some a =>
    refine Src.ofSlice w hk a bs.length c (c8 bs) (by simp [c8_len]) (fun j u hj => ?_) (c8_one bs)
    have := (h j u hj).2
    simpa [adr] using this
theorem srcv {tx e' : TypeId} (hk : P.underlying tx = some (.slice e')) {a : Option Addr} {sz : Nat} {vs : List Value} {m : Nat} (c : Nat) (h : Cel w a vs) (hm : vs.length = m * sz) (h0 : a = none → m = 0) (h1 : ∀ u ∈ vs, u.oneCell' = true) : Src P sz tx (.slice a m c) m vs w := by
  cases a with
  | none =>
    have hm0 := h0 rfl
    subst hm0
    have : vs = [] := List.eq_nil_of_length_eq_zero (by simpa using hm)
    subst this
    exact Src.ofNil w hk c
  | some a =>
    refine Src.ofSlice w hk a m c vs hm (fun j u hj => ?_) h1
    have := (h j u hj).2
    simpa [adr] using this
end
section
variable {P : Program} {ops : Array Oper} {n : Nat} {l : Regs} {w w0 : World} {K : Regs → World → Prop} {F : List Nat} {L A R X : List (Nat × Obj)}
variable {d T S S2 : Nat} {ps : String} {af : Array Edge} {g : Option (Nat × Bool)} {x y : Operand} {v u : Value} {a : Option Addr} {m cap sz e : Nat} {xs news : List Value}
theorem put_take (cur : Array Value) (o : Nat) (news : List Value) (h : o + news.length ≤ cur.size) : (putAt cur o news.toArray).toList.take (o + news.length) = cur.toList.take o ++ news := by
  have e : (cur.toList.take o ++ news).length = o + news.length := by simp; omega
  exact List.take_left' e
theorem maxin {p q : Int} {kd : IntKind} {A : Array Nat} (j : Nat) (h : max p q = (j : Int)) (hg : gval ops l ⟨some d, .call ⟨.builtin .max, #[x, y], A⟩, T, ps, af, g⟩ = some true) (hd : Nat.blt d n = true) (hx : ev l x = some (.int kd p)) (hy : ev l y = some (.int kd q)) (k : K ((d, .int kd (j : Int)) :: l) w) :
    WO P ops n ⟨some d, .call ⟨.builtin .max, #[x, y], A⟩, T, ps, af, g⟩ l w K := maxi hg hd hx hy (by rw [h]; exact k)
theorem minin {p q : Int} {kd : IntKind} {A : Array Nat} (j : Nat) (h : min p q = (j : Int)) (hg : gval ops l ⟨some d, .call ⟨.builtin .min, #[x, y], A⟩, T, ps, af, g⟩ = some true) (hd : Nat.blt d n = true) (hx : ev l x = some (.int kd p)) (hy : ev l y = some (.int kd q)) (k : K ((d, .int kd (j : Int)) :: l) w) :
    WO P ops n ⟨some d, .call ⟨.builtin .min, #[x, y], A⟩, T, ps, af, g⟩ l w K := mini hg hd hx hy (by rw [h]; exact k)
theorem isn {b c q : Nat} {kd : IntKind} {p : Int} (j : Nat) (hT : P.underlying S = some (.slice e)) (he : Sz P e 1) (hg : gval ops l ⟨some d, .indexAddr S x y, T, ps, af, g⟩ = some true) (hd : Nat.blt d n = true) (hx : ev l x = some (.slice (some ⟨b, 0, none⟩) q c)) (hy : ev l y = some (.int kd p))
    (hp : p = (j : Int)) (h2 : j < q) (k : K ((d, Ptr b j) :: l) w) : WO P ops n ⟨some d, .indexAddr S x y, T, ps, af, g⟩ l w K :=
  isl hT he hg hd hx hy (by omega) (by omega) (by subst hp; simpa using k)
theorem app {by_ q : Nat} {z : Value} (hT : SlT P S e sz by_ z) (hO : Own sz a m cap xs X) (hS : St w0 F (A ++ (X ++ R)) w) (hg : gval ops l ⟨some d, .call ⟨.builtin .append, #[x, y], #[S, S2]⟩, T, ps, af, g⟩ = some true) (hd : Nat.blt d n = true)
    (hx : ev l x = some (.slice a m cap)) (hy : ev l y = some u) (hsrc : Src P sz S2 u q news w) (hb : (m + q) * by_ ≤ 140737488355328) (h63 : m + q ≤ 140737488355328)
    (k : ∀ a' c' X' w', Own sz a' (m + q) c' (xs ++ news) X' → St w0 F (A ++ (X' ++ R)) w' → K ((d, .slice a' (m + q) c') :: l) w') : WO P ops n ⟨some d, .call ⟨.builtin .append, #[x, y], #[S, S2]⟩, T, ps, af, g⟩ l w K := by
  obtain ⟨hu, i, hi, hz, hsz, hby, hzz⟩ := hT
  subst hsz
  have hrun : ∃ a' c' X' w', (Builtin.append_ #[S, S2] T #[.slice a m cap, u]).run P w = .ok (.slice a' (m + q) c') w' ∧ Own i.size a' (m + q) c' (xs ++ news) X' ∧ St w0 F (A ++ (X' ++ R)) w' := by
    have hl : (xs ++ news).length = (m + q) * i.size := by rw [List.length_append, hO.1, hsrc.newsLen, Nat.add_mul]
    by_cases hroom : m + q ≤ cap
    · rcases hO.2.2.2 with ⟨rfl, rfl, rfl, rfl⟩ | ⟨b, cur, E, rfl, rfl, hcs, ht⟩
      · have hq : q = 0 := by omega
        subst hq
        have hn : news = [] := List.eq_nil_of_length_eq_zero (by simpa using hsrc.newsLen)
        subst hn
        have := run_append_nothing (P := P) w S S2 T e i hu hi none 0 0 (by omega) u hsrc
        exact ⟨none, 0, [], w, this, by simpa using hO, hS⟩
      · have hmem : (b, Obj.cells cur E (0, 0)) ∈ A ++ ([(b, .cells cur E (0, 0))] ++ R) := by simp
        have hbh := (hS.own _ hmem).2
        have hr := run_append_row (P := P) S S2 T e i hu hi b m cap u q news hsrc hroom cur E hbh hcs
        have hle : m * i.size + news.length ≤ cur.size := by
          rw [hcs, hsrc.newsLen, ← Nat.add_mul]; exact Nat.mul_le_mul_right _ hroom
        refine ⟨_, cap, [(b, .cells (putAt cur (m * i.size) news.toArray) E (0, 0))], _, hr, ⟨hl, hroom, hO.2.2.1, .inr ⟨b, _, E, rfl, rfl, ?_, ?_⟩⟩, ?_⟩
        · rw [putAt_size _ _ _ (by simpa using hle), hcs]
        · have := put_take cur (m * i.size) news hle
          rw [Nat.add_mul, ← hsrc.newsLen, this, ht]
        · have hS' := hS.setRow A.length (b := b) (cs := cur) (cs' := putAt cur (m * i.size) news.toArray) (T := E) (fz := (0, 0)) (by simp)
          have e2 : (A ++ ([(b, Obj.cells cur E (0, 0))] ++ R)).set A.length (b, .cells (putAt cur (m * i.size) news.toArray) E (0, 0)) = A ++ ([(b, .cells (putAt cur (m * i.size) news.toArray) E (0, 0))] ++ R) := by
            simp [List.set_append]
          rw [e2] at hS'; exact hS'
    · have hg' : cap < m + q := by omega
      have hfit : Builtin.nextslicecap (m + q) cap * i.bytes ≤ 281474976710656 := by
        have h1 := nextslicecap_le hg'
        have h2 := Nat.mul_le_mul_right i.bytes h1
        rw [hby] at h2 ⊢
        rw [Nat.mul_assoc] at h2
        omega
      have hold : (Builtin.firstCells i.size m (.slice a m cap)).run P w.drew = .ok xs.toArray w.drew := by
        have hcel := hO.cel hS (fun p hp => mem_tail A R hp)
        cases a with
        | none =>
          rcases hO.2.2.2 with ⟨_, rfl, rfl, rfl⟩ | ⟨b, cur, E, h, _⟩
          · have : xs = [] := List.eq_nil_of_length_eq_zero (by simpa using hO.1)
            subst this; exact run_firstCells_none w.drew _ _ _ _
          · cases h
        | some a =>
          refine run_firstCells_some w.drew i.size m a m cap xs hO.1 (fun j v hj => ?_)
          have := (hcel j v hj).2
          simpa [adr] using this
      have hr := run_append_grow_src (P := P) w S S2 T e i z hu hi hz a m cap xs hold u q news hsrc hg' (by omega) hfit
      have hge := grownCap_ge w (m + q) cap e
      have hcm : grownCap w (m + q) cap e ≤ maxLen := grownCap_le_maxLen w (m + q) cap e (by unfold maxLen; omega)
      have hzc : (Builtin.zeroCells z.cells (grownCap w (m + q) cap e - (m + q))).size = (grownCap w (m + q) cap e - (m + q)) * i.size := by
        simp [Builtin.zeroCells, hzz]
      refine ⟨_, _, [(w.heap.size, .cells ((xs ++ news).toArray ++ Builtin.zeroCells z.cells (grownCap w (m + q) cap e - (m + q))) e)], _, hr, ⟨hl, hge, hcm, .inr ⟨_, _, e, rfl, rfl, ?_, ?_⟩⟩, ?_⟩
      · rw [Array.size_append, hzc]
        simp only [List.size_toArray, hl]
        rw [← Nat.add_mul]; congr 1; omega
      · rw [Array.toList_append]; exact List.take_left' hl
      · have hd' : St w0 F (A ++ (X ++ R)) w.drew := hS.drew
        have ha := hd'.alloc (.cells ((xs ++ news).toArray ++ Builtin.zeroCells z.cells (grownCap w (m + q) cap e - (m + q))) e)
        have hsz' : w.drew.heap.size = w.heap.size := rfl
        rw [hsz'] at ha
        have h5 := ha.sublist (List.Sublist.cons_cons _ (List.Sublist.append (List.Sublist.refl A) (List.sublist_append_right X R)))
        exact h5.perm List.perm_middle
  obtain ⟨a', c', X', w', hr, ho, hs'⟩ := hrun
  intro act ha
  rw [if_pos (ha.wanted hg)]
  have e1 : (execOp act.eval ⟨some d, .call ⟨.builtin .append, #[x, y], #[S, S2]⟩, T, ps, af, g⟩).run P w = .ok (.value (.slice a' (m + q) c')) w' := by
    simp [execOp, resolve, ha.ev hx, ha.ev hy, invoke, builtin, hr]
  simp only [Oper.wp, e1, Oper.upon]
  exact ⟨_, ha.put _ (by simpa [Nat.blt_eq] using hd), k a' c' X' w' ho hs'⟩
theorem cpy {b off dl dc E sl sc q : Nat} {a : Option Addr} {bs : List UInt8} {cs cs' : Array Value} {z : Value} {by_ : Nat} (i : Nat) (hT : SlT P S e 1 by_ z) (hS : St w0 F L w) (hg : gval ops l ⟨some d, .call ⟨.builtin .copy, #[x, y], #[S, S2]⟩, T, ps, af, g⟩ = some true) (hd : Nat.blt d n = true)
    (hx : ev l x = some (.slice (some ⟨b, off, none⟩) dl dc)) (hy : ev l y = some (.slice a sl sc)) (hi : L[i]? = some (b, .cells cs E (0, 0))) (hc : Cel w a (c8 bs)) (hn : bs.length = sl) (hq : q = Nat.min sl dl) (hfit : off + q ≤ cs.size)
    (hcs : putAt cs off (c8 (bs.take q)).toArray = cs') (k : ∀ w', St w0 F (L.set i (b, .cells cs' E (0, 0))) w' → K ((d, I (q : Int)) :: l) w') : WO P ops n ⟨some d, .call ⟨.builtin .copy, #[x, y], #[S, S2]⟩, T, ps, af, g⟩ l w K := by
  obtain ⟨hu, ti, hti, hz, hsz, hby, hzz⟩ := hT
  have hlq : (c8 (bs.take q)).length = q := by
    rw [c8_len, List.length_take, hn, hq]; exact Nat.min_eq_left (Nat.min_le_left _ _)
  have hbh := hS.get i hi
  have hrun : (Builtin.copy_ #[S, S2] T #[.slice (some ⟨b, off, none⟩) dl dc, .slice a sl sc]).run P w = .ok (I (q : Int)) (w.setRow b cs') := by
    cases a with
    | none =>
      have : bs = [] := by
        cases bs with
        | nil => rfl
        | cons x r => have := (hc 0 (U8 x) (by simp [c8])).1; cases this
      subst this
      have h0 : sl = 0 := by simpa using hn.symm
      subst h0
      have hq0 : q = 0 := by rw [hq]; exact Nat.zero_min _
      subst hq0
      have hput : putAt cs off (c8 (([] : List UInt8).take 0)).toArray = cs := by simp [putAt, c8]
      rw [hput] at hcs
      subst hcs
      have hrow : w.setRow b cs = w := by
        have hh : (w.setRow b cs).heap = w.heap := by
          refine Array.ext_getElem? fun jj => ?_
          by_cases hk : jj = b
          · rw [hk, setRow_heap w b cs cs E (0, 0) hbh, hbh]
          · exact setRow_other w b jj cs hk
        cases w
        simp only [World.setRow] at hh ⊢
        rw [hh]
      rw [hrow]
      by_cases hdl : dl = 0
      · subst hdl; simp [Builtin.copy_, run_underlying hu, Builtin.lenOf, Builtin.firstCells, sizeOf, typeInfo, hti, hsz, storeCells, goInt]
      · simp [Builtin.copy_, run_underlying hu, Builtin.lenOf, Builtin.firstCells, sizeOf, typeInfo, hti, hsz, storeCells, goInt]
    | some ad =>
      have hr := run_copy_row (P := P) w S S2 T e b off dl dc ad sl sc cs E (c8 (bs.take q)) hu (by simp [hti, hsz]) hbh (by rw [hlq, hq]) (fun j v hj => by
        have h1 := (hc.take8 q) j v hj
        simpa [adr] using h1.2) (by rw [hlq]; exact hfit) (c8_one _)
      rw [hr, hlq]
      have : (cs.toList.take off ++ c8 (bs.take q) ++ cs.toList.drop (off + q)).toArray = cs' := by
        rw [← hcs]; simp [putAt, hlq]
      rw [this]; simp [goInt]
  intro act ha
  rw [if_pos (ha.wanted hg)]
  have e1 : (execOp act.eval ⟨some d, .call ⟨.builtin .copy, #[x, y], #[S, S2]⟩, T, ps, af, g⟩).run P w = .ok (.value (I (q : Int))) (w.setRow b cs') := by
    simp [execOp, resolve, ha.ev hx, ha.ev hy, invoke, builtin, hrun]
  simp only [Oper.wp, e1, Oper.upon]
  exact ⟨_, ha.put _ (by simpa [Nat.blt_eq] using hd), k _ (hS.setRow i hi)⟩
theorem negu64 {p : UInt64} (hg : gval ops l ⟨some d, .unOp .neg S x, T, ps, af, g⟩ = some true) (hd : Nat.blt d n = true) (hx : ev l x = some (U64 p)) (k : K ((d, U64 (-p)) :: l) w) :
    WO P ops n ⟨some d, .unOp .neg S x, T, ps, af, g⟩ l w K :=
  WO.val hg hd (fun a ha => by
    have e : (IntKind.u64.wrap (-(p.toNat : Int))) = ((-p).toNat : Int) := by
      rw [UInt64.toNat_neg]
      have := p.toNat_lt
      simp only [IntKind.wrap, IntKind.signed, IntKind.bits]
      simp [UInt64.size]
      omega
    simp [execOp, ha.ev hx, Op.unary, Op.intArith, e, -UInt64.toNat_neg]) k
theorem a_hm {z : Operand} {b off q : Nat} {kd kd2 : IntKind} {p p2 : Int} (j c : Nat) (hT : P.underlying S = some (.array q e)) (he : ∃ z, Sz P e z) (hg : gval ops l ⟨some d, .slice S x none (some y) (some z), T, ps, af, g⟩ = some true) (hd : Nat.blt d n = true) (hx : ev l x = some (Ptr b off)) (hy : ev l y = some (.int kd p)) (hz : ev l z = some (.int kd2 p2))
    (hp : p = (j : Int)) (hp2 : p2 = (c : Int)) (h1 : j ≤ c) (h2 : c ≤ q) (h3 : 0 < c) (k : K ((d, .slice (some ⟨b, off, none⟩) j c) :: l) w) : WO P ops n ⟨some d, .slice S x none (some y) (some z), T, ps, af, g⟩ l w K :=
  WO.val hg hd (fun r hr => by
    obtain ⟨z, he⟩ := he
    subst hp hp2
    have h4 : ¬ c = 0 := by omega
    simp [execOp, hr.ev hx, hr.ev hy, hr.ev hz, Instr.sliceAt, run_underlying hT, Instr.sureAddr, Instr.sliceBounds, Instr.sliceBound, asIntOf, h1, h2, he.run w, Addr.add]) k
theorem app0n {by_ q : Nat} {z : Value} {kd : IntKind} {p : Int} (hT : SlT P S e sz by_ z) (hI : ∃ kd2, P.underlying S2 = some (.int kd2)) (hS : St w0 F (A ++ R) w) (hg : gval ops l ⟨some d, .call ⟨.builtin .append, #[x, y], #[S, S2]⟩, T, ps, af, g⟩ = some true) (hd : Nat.blt d n = true)
    (hx : ev l x = some (.slice none 0 0)) (hy : ev l y = some (.int kd p)) (hp : p = (q : Int)) (h0 : 0 < q) (h0s : 0 < sz) (hb : q * by_ ≤ 140737488355328) (h63 : q ≤ 140737488355328)
    (k : ∀ a' c' xs X' w', Own sz a' q c' xs X' → St w0 F (A ++ (X' ++ R)) w' → K ((d, .slice a' q c') :: l) w') : WO P ops n ⟨some d, .call ⟨.builtin .append, #[x, y], #[S, S2]⟩, T, ps, af, g⟩ l w K := by
  obtain ⟨hu, i, hi, hz, hsz, hby, hzz⟩ := hT
  obtain ⟨kd2, hI⟩ := hI
  subst hsz hp
  have hg' : 0 < q := h0
  have hge := grownCap_ge w q 0 e
  have hcm : grownCap w q 0 e ≤ maxLen := grownCap_le_maxLen w q 0 e (by unfold maxLen; omega)
  have hfit : ¬ (281474976710656 < Builtin.nextslicecap q 0 * i.bytes) := by
    have h1 := nextslicecap_le hg'
    have h2 := Nat.mul_le_mul_right i.bytes h1
    rw [hby] at h2 ⊢
    rw [Nat.mul_assoc] at h2
    omega
  have hw : IntKind.i64.wrap (q : Int) = (q : Int) := by
    simp only [IntKind.wrap, IntKind.signed, IntKind.bits]
    simp
    omega
  have hbb : ¬ (281474976710656 : Int) < (q : Int) * (i.bytes : Int) := by
    rw [hby]; have : ((q * by_ : Nat) : Int) ≤ 140737488355328 := by omega
    simp only [Int.natCast_mul] at this; omega
  have hr : (Builtin.append_ #[S, S2] T #[.slice none 0 0, .int kd (q : Int)]).run P w = .ok (.slice (some ⟨w.heap.size, 0, none⟩) q (grownCap w q 0 e))
      (w.drew.alloc (.cells (Builtin.zeroCells z.cells q ++ Builtin.zeroCells z.cells (grownCap w q 0 e - q)) e)) := by
    have h63' : ¬ (9223372036854775807 < (q : Int)) := by omega
    have hq0 : ¬ q = 0 := by omega
    have hqs : ¬ q * i.size = 0 := fun h => by rcases Nat.mul_eq_zero.1 h with h | h <;> omega
    have hneg : ¬ (q : Int) < 0 := by omega
    simp [Builtin.append_, run_underlying hu, run_underlying hI, sizeOf, typeInfo, zeroValue, hi, hz, asInt, asIntOf, hw, hbb, h63', hfit, hq0, hqs, hneg, Question.forced, newRow, grownCap, Builtin.firstCells]
  have hc1 : ∀ q : Nat, (Builtin.zeroCells z.cells q).size = q * i.size := fun q => by simp [Builtin.zeroCells, hzz]
  have hd' : St w0 F (A ++ R) w.drew := hS.drew
  have ha' := (hd'.alloc (.cells (Builtin.zeroCells z.cells q ++ Builtin.zeroCells z.cells (grownCap w q 0 e - q)) e)).tailin (X := [(w.heap.size, .cells (Builtin.zeroCells z.cells q ++ Builtin.zeroCells z.cells (grownCap w q 0 e - q)) e)]) A R rfl
  intro act ha
  rw [if_pos (ha.wanted hg)]
  have e1 : (execOp act.eval ⟨some d, .call ⟨.builtin .append, #[x, y], #[S, S2]⟩, T, ps, af, g⟩).run P w = .ok (.value (.slice (some ⟨w.heap.size, 0, none⟩) q (grownCap w q 0 e))) (w.drew.alloc (.cells (Builtin.zeroCells z.cells q ++ Builtin.zeroCells z.cells (grownCap w q 0 e - q)) e)) := by
    simp [execOp, resolve, ha.ev hx, ha.ev hy, invoke, builtin, hr]
  simp only [Oper.wp, e1, Oper.upon]
  refine ⟨_, ha.put _ (by simpa [Nat.blt_eq] using hd), k _ _ (Builtin.zeroCells z.cells q).toList _ _ ⟨by simp [hc1], hge, hcm, .inr ⟨_, _, e, rfl, rfl, ?_, ?_⟩⟩ ha'⟩
  · rw [Array.size_append, hc1, hc1, ← Nat.add_mul]; congr 1; omega
  · rw [Array.toList_append]; exact List.take_left' (by simp [hc1])
end
section
variable {P : Program}
theorem BV_rep (n : Nat) : BV (Vector.replicate n 0 : V8 n) = (List.replicate n (U8 0)).toArray := by
  apply Array.ext'; simp [BV]
theorem WV_rep (n : Nat) : WV (Vector.replicate n 0 : V32 n) = (List.replicate n (U32 0)).toArray := by
  apply Array.ext'; simp [WV]
theorem DV_rep (n : Nat) : DV (Vector.replicate n 0 : V64 n) = (List.replicate n (U64 0)).toArray := by
  apply Array.ext'; simp [DV]
theorem tol_app (a b : List Value) : a.toArray ++ b.toArray = (a ++ b).toArray := by simp
theorem zr_of {T : Nat} {cs : Array Value} {l : List Value} (e : cs = l.toArray) (h : (P.info? T).bind (·.zero) = some (.agg l.toArray)) : Zr P T (.agg cs) := by rw [e]; exact h
theorem bu_s {T : Nat} {fs : Array Field} {places : List (Nat × Nat)} {cells : Array Value} (hz : Zr P T (.agg cells)) (hu : P.underlying T = some (.struct fs)) (hp : fs.toList.mapM (fun f => (P.info? f.type).map fun i => (f.offset, i.size)) = some places) (parts : List (Nat × Value)) :
    P.built T parts = Instr.fill (fun i => places.toArray[i]?) cells parts := by
  unfold Zr at hz
  cases hq : P.info? T with
  | none => simp [hq] at hz
  | some i =>
    simp only [hq, Option.bind_some] at hz
    simp only [Program.built, hq, hu, hz, hp]
    rfl
theorem bu_a {T n e sz : Nat} {cells : Array Value} (hz : Zr P T (.agg cells)) (hu : P.underlying T = some (.array n e)) (he : Sz P e sz) (parts : List (Nat × Value)) :
    P.built T parts = Instr.fill (fun i => some (i * sz, sz)) cells parts := by
  unfold Zr at hz
  unfold Sz at he
  cases hq : P.info? T with
  | none => simp [hq] at hz
  | some i =>
    cases hr : P.info? e with
    | none => simp [hr] at he
    | some ie =>
      simp only [hq, Option.bind_some] at hz
      simp [hr] at he
      simp only [Program.built, hq, hu, hz, hr, he]
      rfl
end
end Go.X
namespace Go.X
open Go
theorem bk_mid {key : V8 16} {k b T : Nat} {w0 w : World} {F : List Nat} {L : List (Nat × Obj)} {A R : Array Value} (h : St w0 F ((b, .cells (A ++ (WV (put32 (fwK key k) (k * 4) (wds (seg8 16 (expand key) (k * 16)))) ++ (WV (put32 (bkK key k) ((10 - k) * 4) (wds (unmix (seg8 16 (expand key) (k * 16))))) ++ R))) T) :: L) w) (hk : 0 < k ∧ k < 10) :
    St w0 F ((b, .cells (A ++ (WV (fwK key (k + 1)) ++ (WV (bkK key (k + 1)) ++ R))) T) :: L) w := by simp only [fwK, bkK, bkB]; rw [if_pos hk]; exact h
theorem bk_out {key : V8 16} {k b T : Nat} {w0 w : World} {F : List Nat} {L : List (Nat × Obj)} {A R : Array Value} (h : St w0 F ((b, .cells (A ++ (WV (put32 (fwK key k) (k * 4) (wds (seg8 16 (expand key) (k * 16)))) ++ (WV (put32 (bkK key k) ((10 - k) * 4) (wds (seg8 16 (expand key) (k * 16)))) ++ R))) T) :: L) w) (hk : ¬ (0 < k ∧ k < 10)) :
    St w0 F ((b, .cells (A ++ (WV (fwK key (k + 1)) ++ (WV (bkK key (k + 1)) ++ R))) T) :: L) w := by simp only [fwK, bkK, bkB]; rw [if_neg hk]; exact h
theorem ci_fw (key : V8 16) (o i : Nat) (ho : o = 1 + i) (hi : i < 44) : (cipherC key)[o]? = some (U32 (gw (fwK key 11) i)) :=
  cat_r (o' := i) rfl ho (cat_l (WV_size _) hi (WV_get _ i hi))
theorem ci_bk (key : V8 16) (o i : Nat) (ho : o = 45 + i) (hi : i < 44) : (cipherC key)[o]? = some (U32 (gw (bkK key 11) i)) :=
  cat_r (a := 1) (o' := 44 + i) rfl (by omega) (cat_r (o' := i) (WV_size _) rfl (cat_l (WV_size _) hi (WV_get _ i hi)))
theorem ci_t (key : V8 16) (o i : Nat) (ho : o = 105 + i) (hi : i < 256) : (cipherC key)[o]? = some (U32 (gw fwdT i)) :=
  cat_r (a := 1) (o' := 104 + i) rfl (by omega) (cat_r (o' := 60 + i) (WV_size _) (by omega) (cat_r (o' := 16 + i) (WV_size _) (by omega) (cat_r (o' := i) (BV_size _) rfl (cat_l (WV_size _) hi (WV_get _ i hi)))))
theorem ci_u (key : V8 16) (o i : Nat) (ho : o = 361 + i) (hi : i < 256) : (cipherC key)[o]? = some (U32 (gw bckT i)) :=
  cat_r (a := 1) (o' := 360 + i) rfl (by omega) (cat_r (o' := 316 + i) (WV_size _) (by omega) (cat_r (o' := 272 + i) (WV_size _) (by omega) (cat_r (o' := 256 + i) (BV_size _) (by omega) (cat_r (o' := i) (WV_size _) rfl (WV_get _ i hi)))))
def xorV (a b : V8 16) : V8 16 := Vector.ofFn fun i => gv a i.val ^^^ gv b i.val
def dblf (b : V8 16) (i : Nat) : UInt8 := if i + 1 < 16 then shl8 (gv b i) 1 ||| shr8 (gv b (i + 1)) 7 else shl8 (gv b i) 1
def top7 (b : V8 16) : UInt8 := toU8 (Int.fdiv (IntKind.i8.wrap ((gv b 0).toNat : Int)) (2 ^ 7)) &&& 135
def dblB (b : V8 16) : V8 16 := (Vector.ofFn fun i => dblf b i.val : V8 16).setIfInBounds 15 (gv (Vector.ofFn fun i => dblf b i.val : V8 16) 15 ^^^ top7 b)
theorem gv_set_set {n : Nat} (v : V8 n) (c : Nat) (x y : UInt8) : (v.setIfInBounds c x).setIfInBounds c y = v.setIfInBounds c y := by
  apply Vector.ext; intro i h
  rw [Vector.getElem_setIfInBounds h, Vector.getElem_setIfInBounds h, Vector.getElem_setIfInBounds h]
  by_cases e : c = i <;> simp [e]
theorem dbl_t {b z : V8 16} {k : Nat} (h : k + 1 < 16) : ((fill8 16 (dblf b) z k).setIfInBounds k (shl8 (gv b k) 1)).setIfInBounds k (gv ((fill8 16 (dblf b) z k).setIfInBounds k (shl8 (gv b k) 1)) k ||| shr8 (gv b (k + 1)) 7) = fill8 16 (dblf b) z (k + 1) := by
  rw [gv_set_set, gv_set_eq _ _ _ (by omega), ← fill8_succ]; simp only [dblf]; rw [if_pos h]
theorem dbl_f {b z : V8 16} {k : Nat} (h : ¬ k + 1 < 16) : (fill8 16 (dblf b) z k).setIfInBounds k (shl8 (gv b k) 1) = fill8 16 (dblf b) z (k + 1) := by
  rw [← fill8_succ]; simp only [dblf]; rw [if_neg h]
theorem dbl_end {b z : V8 16} {k c T : Nat} {w0 w : World} {F : List Nat} {L : List (Nat × Obj)} (h : St w0 F ((c, .cells (BV ((fill8 16 (dblf b) z k).setIfInBounds k (shl8 (gv b k) 1))) T) :: L) w) (hk : ¬ k + 1 < 16) :
    St w0 F ((c, .cells (BV (fill8 16 (dblf b) z (k + 1))) T) :: L) w := by rw [← dbl_f hk]; exact h
def shiftf (b : V8 24) (n i : Nat) : UInt8 := if 0 < n % 8 then shl8 (gv b (i + n / 8)) (n % 8) ||| shr8 (gv b (i + n / 8 + 1)) (8 - n % 8) else shl8 (gv b (i + n / 8)) (n % 8)
def shiftV (b : V8 24) (n : Nat) : V8 16 := Vector.ofFn fun i => shiftf b n i.val
theorem toU64_nat (n : Nat) (h : n < 18446744073709551616) : (toU64 (n : Int)).toNat = n := by
  simp only [toU64, UInt64.toNat_ofNat']; omega
theorem sub8_nat (n : Nat) (h : n < 8) : (8 - toU64 (n : Int)).toNat = 8 - n := by
  have e := toU64_nat n (by omega)
  rw [UInt64.toNat_sub, e]
  simp; omega
theorem sh_t {b : V8 24} {z : V8 16} {k n : Nat} (hn : 0 < n % 8) (hk : k < 16) : ((fill8 16 (shiftf b n) z k).setIfInBounds k (shl8 (gv b (k + n / 8)) (toU64 ((n % 8 : Nat) : Int)).toNat)).setIfInBounds k
      (gv ((fill8 16 (shiftf b n) z k).setIfInBounds k (shl8 (gv b (k + n / 8)) (toU64 ((n % 8 : Nat) : Int)).toNat)) k ||| shr8 (gv b (k + n / 8 + 1)) (8 - toU64 ((n % 8 : Nat) : Int)).toNat) = fill8 16 (shiftf b n) z (k + 1) := by
  rw [gv_set_set, gv_set_eq _ _ _ hk, ← fill8_succ, toU64_nat _ (by omega), sub8_nat _ (by omega)]; simp only [shiftf]; rw [if_pos hn]
theorem sh_end {b : V8 24} {z : V8 16} {k c T n : Nat} {w0 w : World} {F : List Nat} {L : List (Nat × Obj)} (h : St w0 F ((c, .cells (BV ((fill8 16 (shiftf b n) z k).setIfInBounds k (shl8 (gv b (k + n / 8)) (toU64 ((n % 8 : Nat) : Int)).toNat))) T) :: L) w) (hn : ¬ 0 < n % 8) :
    St w0 F ((c, .cells (BV (fill8 16 (shiftf b n) z (k + 1))) T) :: L) w := by
  rw [← fill8_succ]
  rw [toU64_nat _ (by omega)] at h
  simp only [shiftf]; rw [if_neg hn]; exact h
def padV (bs : List UInt8) : V8 16 := (ofl 16 bs).setIfInBounds bs.length 128
theorem c8_get' (l : List UInt8) (j : Nat) : (c8 l)[j]? = if j < l.length then some (U8 (gl l j)) else none := by
  by_cases h : j < l.length
  · rw [c8_get l j h, if_pos h]
  · rw [if_neg h]; exact List.getElem?_eq_none (by rw [c8_len]; omega)
def putL {n : Nat} (v : V8 n) (o : Nat) (bs : List UInt8) : V8 n := Vector.ofFn fun i => if o ≤ i.val ∧ i.val < o + bs.length then gl bs (i.val - o) else gv v i.val
theorem BV_putL {n : Nat} (v : V8 n) (o : Nat) (bs : List UInt8) (h : o + bs.length ≤ n) : putAt (BV v) o (c8 bs).toArray = BV (putL v o bs) := by
  apply arr_ext; intro i
  rw [putAt_get _ _ _ _ (by rw [BV_size]; simpa [c8_len] using h), BV_get', BV_get']
  simp only [List.size_toArray, c8_len]
  by_cases h1 : o ≤ i ∧ i < o + bs.length
  · rw [if_pos h1, if_pos (show i < n by omega), List.getElem?_toArray, c8_get', if_pos (show i - o < bs.length by omega), putL, gv_ofFn _ _ (by omega)]
    simp [h1]
  · rw [if_neg h1]
    by_cases h2 : i < n
    · rw [if_pos h2, if_pos h2, putL, gv_ofFn _ _ h2]; simp only [h1, if_false]
    · rw [if_neg h2, if_neg h2]
theorem gl_ge {l : List UInt8} {i : Nat} (h : l.length ≤ i) : gl l i = 0 := by simp [gl, List.getElem?_eq_none h]
theorem gv_rep (n i : Nat) : gv (Vector.replicate n 0 : V8 n) i = 0 := by
  by_cases h : i < n <;> simp [gv, h]
theorem putL_zero {n : Nat} (bs : List UInt8) : putL (Vector.replicate n 0 : V8 n) 0 bs = ofl n bs := by
  apply Vector.ext; intro i h
  simp only [putL, ofl, Vector.getElem_ofFn, gv_rep, Nat.zero_le, true_and, Nat.zero_add, Nat.sub_zero]
  by_cases h1 : i < bs.length
  · rw [if_pos h1]
  · rw [if_neg h1, gl_ge (by omega)]
theorem pad_put (bs : List UInt8) (q : Nat) (hq : q = bs.length) (h : bs.length ≤ 16) : putAt (BV (Vector.replicate 16 0 : V8 16)) 0 (c8 (bs.take q)).toArray = BV (ofl 16 bs) := by
  subst hq; rw [List.take_length, BV_putL _ _ _ (by omega), putL_zero]
def flL (n : Nat) (f : Nat → UInt8) (k : Nat) : List UInt8 := (List.range n).map fun i => if i < k then f i else 0
theorem flL_len (n : Nat) (f : Nat → UInt8) (k : Nat) : (flL n f k).length = n := by simp [flL]
theorem flL_0 (n : Nat) (f : Nat → UInt8) : List.replicate n 0 = flL n f 0 := by
  apply List.ext_getElem?; intro i
  simp [flL, List.getElem?_replicate]
  by_cases h : i < n <;> simp [h]
theorem flL_succ (n : Nat) (f : Nat → UInt8) (k : Nat) : (flL n f k).set k (f k) = flL n f (k + 1) := by
  apply List.ext_getElem?; intro i
  rw [List.getElem?_set]
  by_cases e : k = i
  · subst e
    by_cases h : k < n
    · simp [flL, h]
    · simp [flL, h]
  · simp only [e, if_false, flL, List.getElem?_map]
    by_cases h : i < n
    · have e1 : (i < k + 1) = (i < k) := by simp; omega
      simp [h, e1]
    · simp [h]
theorem flL_n (n : Nat) (f : Nat → UInt8) : flL n f n = (List.range n).map f := by
  apply List.map_congr_left; intro i hi; simp at hi; simp [hi]
def xorb (a b : List UInt8) : List UInt8 := (List.range (min a.length b.length)).map fun i => gl a i ^^^ gl b i
theorem xorb_len (a b : List UInt8) : (xorb a b).length = min a.length b.length := by simp [xorb]
def orl (l : List UInt8) : UInt8 := l.foldl (· ||| ·) 0
theorem orl_take (l : List UInt8) (k : Nat) (h : k < l.length) : orl (l.take k) ||| gl l k = orl (l.take (k + 1)) := by
  simp only [orl, List.take_add_one, List.foldl_append, gl]
  rw [List.getElem?_eq_getElem h]; simp [h]
def eqB (a b : List UInt8) : Bool := if orl (xorb a b) = 0 then decide (a.length = b.length) else false
def num (l : List UInt8) : UInt64 := l.foldl (fun x c => shl64 x 8 ||| toU64 (c.toNat : Int)) 0
theorem num_take (l : List UInt8) (k : Nat) (h : k < l.length) : shl64 (num (l.take k)) 8 ||| toU64 ((gl l k).toNat : Int) = num (l.take (k + 1)) := by
  simp only [num, List.take_add_one, List.foldl_append, gl]
  rw [List.getElem?_eq_getElem h]; simp [h]
def number (l : List UInt8) : UInt64 := num (l.drop (l.length - 8))
def bytf (x : UInt64) (n i : Nat) : UInt8 := toU8 ((shr64 x (8 * (n - 1 - i))).toNat : Int)
def bytesL (x : UInt64) (n : Nat) : List UInt8 := (List.range n).map fun i => bytf x n i
@[simp] theorem bytesL_len (x : UInt64) (n : Nat) : (bytesL x n).length = n := by simp [bytesL]
def deBl : List UInt8 := [0, 1, 56, 2, 57, 49, 28, 3, 61, 58, 42, 50, 38, 29, 17, 4, 62, 47, 59, 36, 45, 43, 51, 22, 53, 39, 33, 30, 24, 18, 12, 5, 63, 55, 48, 27, 60, 41, 37, 16, 46, 35, 44, 21, 52, 32, 23, 11, 54, 26, 40, 15, 34, 20, 31, 10, 25, 14, 19, 9, 13, 8, 7, 6]
def Gl (g : Nat) (w : World) : Prop := Cel w (some ⟨g, 0, none⟩) (c8 deBl)
theorem Gl.st {g : Nat} {w0 w : World} {L : List (Nat × Obj)} (h : Gl g w0) (hS : St w0 [] L w) : Gl g w := Cel.st h hS
theorem gl_load {g j : Nat} {w : World} (h : Gl g w) (hj : j < 64) : w.cell? ⟨g, j, none⟩ = some (U8 (gl deBl j)) := by
  have := Cel.c8 h (j := j) hj
  simpa [adr_some] using this
def ctzi (x : UInt64) : Nat := (shr64 ((x &&& -x) * 285870213051353865) 58).toNat
theorem ctzi_lt (x : UInt64) : ctzi x < 64 := by
  simp only [ctzi, shr64, UInt64.toNat_ofNat']
  have := ((x &&& -x) * 285870213051353865).toNat_lt
  omega
def ctz (x : UInt64) : Nat := if x = 0 then 64 else (gl deBl (ctzi x)).toNat
theorem ctz_lt (x : UInt64) (h : x ≠ 0) : ctz x < 64 := by
  rw [ctz, if_neg h]
  have : ∀ n : Fin 64, (gl deBl n.val).toNat < 64 := by decide +kernel
  exact this ⟨ctzi x, ctzi_lt x⟩
theorem beqn (a b : Nat) : (((a : Int)) == (b : Int)) = decide (a = b) := by
  by_cases h : a = b
  · subst h; simp
  · have : ¬ (a : Int) = (b : Int) := by omega
    simp [h, this]
def star (key : V8 16) : V8 16 := enc key (Vector.replicate 16 0)
def lastL (key : V8 16) : Nat → V8 16
  | 0 => dblB (star key)
  | k + 1 => dblB (lastL key k)
def blkL (key : V8 16) : Nat → V8 1024
  | 0 => Vector.replicate 1024 0
  | k + 1 => put8 (blkL key k) (k * 16) (lastL key (k + 1))
def tableC (c : Nat) (key : V8 16) : Array Value := #[Ptr c 0] ++ (BV (star key) ++ (BV (lastL key 0) ++ BV (blkL key 64)))
def TabAt (w : World) (t c : Nat) (key : V8 16) : Prop := (∃ T, w.heap[t]? = some (.cells (tableC c key) T)) ∧ ∃ E, w.heap[c]? = some (.cells (cipherC key) E)
theorem TabAt.st {w0 w : World} {L : List (Nat × Obj)} {t c : Nat} {key : V8 16} (h : TabAt w0 t c key) (hS : St w0 [] L w) : TabAt w t c key := by
  obtain ⟨⟨T, h1⟩, E, h2⟩ := h
  exact ⟨⟨T, hS.old h1 List.not_mem_nil⟩, E, hS.old h2 List.not_mem_nil⟩
def blkAt (key : V8 16) (i : Nat) : V8 16 := seg8 16 (blkL key 64) (i * 16)
def forN (key : V8 16) (x : UInt64) : V8 16 := blkAt key (ctz x)
end Go.X
namespace Go.X
open Go Go.ChangeShapes Go.WideShapes Go.ChangeAt Go.RowKit Go.Deep
section
variable {H : Type} {enc : TypeId × Value → H} {P : Program} {w : World} {base : Nat} {spare : Nat → Bool} {held : Bool} {fuel : Nat}
def u8of (z : Int) : UInt8 := UInt8.ofNat z.toNat
theorem u8_wf {z : Int} (h : (Lit.int .u8 z).wf = true) : (.int .u8 z : Value) = U8 (u8of z) := by
  simp [Lit.wf, IntKind.min, IntKind.max, IntKind.signed, IntKind.bits] at h
  have : ((u8of z).toNat : Int) = z := by simp only [u8of, UInt8.toNat_ofNat']; omega
  show Value.int .u8 z = .int .u8 ((u8of z).toNat : Int)
  rw [this]
theorem u64_wf {z : Int} (h : (Lit.int .u64 z).wf = true) : (.int .u64 z : Value) = U64 (UInt64.ofNat z.toNat) := by
  simp [Lit.wf, IntKind.min, IntKind.max, IntKind.signed, IntKind.bits] at h
  have : ((UInt64.ofNat z.toNat).toNat : Int) = z := by simp only [UInt64.toNat_ofNat']; omega
  show Value.int .u64 z = .int .u64 ((UInt64.ofNat z.toNat).toNat : Int)
  rw [this]
theorem opn_bytes {t e : TypeId} {v : Value} {x : DataW H × List MemPlace} (ht : P.underlying t = some (.slice e)) (he : P.underlying e = some (.int .u8)) (hc : P.cellsOf e = 1) (h : DataW.trod enc P w base spare held fuel t [v] = some x) :
    ∃ a n cap bs, v = .slice a n cap ∧ bs.length = n ∧ n ≤ cap ∧ Cel w a (c8 bs) := by
  rcases open_ints ht he hc h with ⟨h0, _⟩ | ⟨a, len, cap, zs, h0, _, hl, _, hz, _, hcell, hwf⟩
  · exact ⟨none, 0, 0, [], by simpa using h0, rfl, Nat.le_refl _, Cel.nil _ _⟩
  · have hlen : len ≤ zs.length := by rw [hz]; split <;> omega
    refine ⟨some a, len, cap, (zs.take len).map u8of, by simpa using h0, by simp; omega, hl, fun j v hj => ⟨rfl, ?_⟩⟩
    have hjl : j < len := by
      have := (List.getElem?_eq_some_iff.1 hj).1
      simp [c8] at this; omega
    have hjz : j < zs.length := by omega
    have h1 := hcell j hjz
    have h2 : zs.getD j 0 = zs[j] := by simp [hjz]
    have h3 := u8_wf (hwf zs[j] (List.getElem_mem hjz))
    have h4 : (c8 ((zs.take len).map u8of))[j]? = some (U8 (u8of zs[j])) := by
      simp [c8, List.getElem?_take, hjl, hjz]
    rw [h4] at hj
    obtain rfl := Option.some.inj hj
    rw [h2, h3] at h1
    have e : adr (some a) j = a.add j := rfl
    rw [e]; exact h1
theorem trod_one {t : TypeId} {v : Value} {d : DataW H} {ps : List MemPlace} (hv : v.cells = #[v]) (h : DataW.Trod enc P w base spare held t v d ps) : ∃ fuel, DataW.trod enc P w base spare held fuel t [v] = some (d, ps) := by
  obtain ⟨fuel, hf⟩ := h
  rw [hv] at hf
  exact ⟨fuel, hf⟩
theorem arg_bytes {r : Reach} {b0 : Nat} {t e : TypeId} {v : Value} {d : DataW H} {ps : List MemPlace} (ht : P.underlying t = some (.slice e)) (he : P.underlying e = some (.int .u8)) (hc : P.cellsOf e = 1) (hv : Value.okWide P w r b0 t v) (h : DataW.Trod enc P w base spare held t v d ps) :
    ∃ a n cap bs, v = .slice a n cap ∧ bs.length = n ∧ n ≤ cap ∧ Cel w a (c8 bs) := by
  obtain ⟨a, l, c, rfl⟩ := okWide_slice ht hv
  obtain ⟨fuel, hf⟩ := trod_one rfl h
  exact opn_bytes ht he hc hf
theorem arg_u64 {r : Reach} {b0 : Nat} {t : TypeId} {v : Value} {d : DataW H} {ps : List MemPlace} (ht : P.underlying t = some (.int .u64)) (hv : Value.okWide P w r b0 t v) (h : DataW.Trod enc P w base spare held t v d ps) : ∃ z : UInt64, v = U64 z := by
  obtain ⟨n, rfl, _, _, hw⟩ := open_int ht hv h
  exact ⟨_, u64_wf hw⟩
theorem arg_array {r : Reach} {b0 m : Nat} {t e : TypeId} {v : Value} {d : DataW H} {ps : List MemPlace} (ht : P.underlying t = some (.array m e)) (he : P.underlying e = some (.int .u8)) (hc : P.cellsOf e = 1) (hC : P.cellsOf t = m)
    (hv : Value.okWide P w r b0 t v) (h : DataW.Trod enc P w base spare held t v d ps) : ∃ k : V8 m, v = .agg (BV k) := by
  have hv' := hv
  simp only [Value.okWide, ht] at hv'
  obtain ⟨cs, rfl, hsz, _⟩ := hv'
  rw [hC] at hsz
  obtain ⟨fuel, hf⟩ := h
  obtain ⟨xs, n, _, _, _, hxl, hg⟩ := DataW.trod_array ht hf
  have each : ∀ i (hi : i < m), ∃ z, cs[i]? = some (U8 z) := by
    intro i hi
    have h5 := hg i hi
    rw [hc, Nat.mul_one] at h5
    have hlt : i < cs.toList.length := by simp; omega
    have e1 : (((Value.agg cs).cells.toList.drop i).take 1) = [cs.toList[i]] := by
      have e2 : (Value.agg cs).cells = cs := rfl
      rw [e2, List.drop_eq_getElem_cons hlt]; rfl
    rw [e1, List.getElem?_eq_getElem (by omega)] at h5
    obtain ⟨z, h6, _, h7⟩ := DataW.trod_int he h5
    refine ⟨u8of z, ?_⟩
    rw [← u8_wf h7]
    have h8 : cs.toList[i] = .int .u8 z := by simpa using h6
    have hlt' : i < cs.size := by omega
    rw [Array.getElem?_eq_getElem hlt']
    simpa using h8
  refine ⟨Vector.ofFn fun i => (each i.val i.isLt).choose, ?_⟩
  congr 1
  apply arr_ext; intro i
  by_cases hi : i < m
  · rw [(each i hi).choose_spec, BV_get', if_pos hi, gv_ofFn _ _ hi]
  · rw [Array.getElem?_eq_none (by omega), BV_get', if_neg hi]
theorem args_below {ts : List TypeId} {vs : List Value} {ds : List (DataW H)} {ps : List MemPlace} {W W' : World} (hl : laidOutB P = true) (hr : ∀ t ∈ ts, P.readableRec t = true ∧ t < P.types.size)
    (h : DataW.TrodAll enc P W 0 (fun _ => true) true ts vs ds ps) (hb : Below W.heap.size W W') (hlt : ∀ x ∈ ps, x.block < W.heap.size) : DataW.TrodAll enc P W' 0 (fun b => decide (b < W.heap.size)) true ts vs ds ps := by
  induction ts generalizing vs ds ps with
  | nil => obtain ⟨rfl, rfl, rfl⟩ := trodAll_nil h; rfl
  | cons t ts ih =>
    obtain ⟨v, vs', d, ds', p, q, rfl, rfl, rfl, h0, r0⟩ := trodAll_cons h
    exact trodAll_cons_mk (Below.trod hl (hr t (by simp)).1 (hr t (by simp)).2 h0 hb (fun x hx => hlt x (by simp [hx]))) (ih (fun u hu => hr u (by simp [hu])) r0 (fun x hx => hlt x (by simp [hx])))
def deBz : List Int := [0, 1, 56, 2, 57, 49, 28, 3, 61, 58, 42, 50, 38, 29, 17, 4, 62, 47, 59, 36, 45, 43, 51, 22, 53, 39, 33, 30, 24, 18, 12, 5, 63, 55, 48, 27, 60, 41, 37, 16, 46, 35, 44, 21, 52, 32, 23, 11, 54, 26, 40, 15, 34, 20, 31, 10, 25, 14, 19, 9, 13, 8, 7, 6]
theorem gl_of_tab {W : World} {g : Nat} {name : String} (hg : P.globalNamed name = some g) (h : Lib.TabIs P W name .u8 deBz) : Gl g W := by
  intro j v hj
  refine ⟨rfl, ?_⟩
  have hlt : j < 64 := by
    have := (List.getElem?_eq_some_iff.1 hj).1
    simpa [c8, deBl] using this
  have h1 := h.cell hg j (by simpa [deBz] using hlt)
  have h2 : ∀ i : Fin 64, deBz.getD i.val 0 = ((gl deBl i.val).toNat : Int) := by decide +kernel
  have h3 := h2 ⟨j, hlt⟩
  rw [c8_get deBl j (by simpa [deBl] using hlt)] at hj
  obtain rfl := Option.some.inj hj
  simp only [] at h3
  rw [adr_some, Nat.zero_add, h1, h3]
end
end Go.X
namespace Go.X
open Go
section
variable {P : Program} {ops : Array Oper} {n : Nat} {l : Regs} {w w0 : World} {K : Regs → World → Prop} {F : List Nat} {L A R X : List (Nat × Obj)}
variable {d T S S2 : Nat} {ps : String} {af : Array Edge} {g : Option (Nat × Bool)} {x y : Operand} {v u : Value} {a : Option Addr} {m cap e : Nat}
theorem rem8 {R : Nat} {p q : UInt8} (h : q ≠ 0) (hg : gval ops l ⟨some d, .binOp .rem S x y R, T, ps, af, g⟩ = some true) (hd : Nat.blt d n = true) (hx : ev l x = some (U8 p)) (hy : ev l y = some (U8 q)) (k : K ((d, U8 (p % q)) :: l) w) :
    WO P ops n ⟨some d, .binOp .rem S x y R, T, ps, af, g⟩ l w K :=
  WO.val hg hd (fun a ha => by
    simp only [execOp, ha.ev hx, ha.ev hy, Sem.run_bind]
    have h0 : ¬ ((q.toNat : Int) = 0) := fun e => h (UInt8.toNat_inj.1 (by simpa using e))
    have e : ((p.toNat : Int)).tmod (q.toNat : Int) = ((p % q : UInt8).toNat : Int) := by rw [UInt8.toNat_mod]; rfl
    have hlt := (p % q).toNat_lt
    have e2 : IntKind.u8.wrap ((p % q : UInt8).toNat : Int) = ((p % q : UInt8).toNat : Int) := by rw [wrap_u8]; omega
    simp only [eqGuard, binOp, Op.intDiv, h0, e, e2]
    simp) k
theorem quo16 {R : Nat} {p q : UInt16} (h : q ≠ 0) (hg : gval ops l ⟨some d, .binOp .quo S x y R, T, ps, af, g⟩ = some true) (hd : Nat.blt d n = true) (hx : ev l x = some (U16 p)) (hy : ev l y = some (U16 q)) (k : K ((d, U16 (p / q)) :: l) w) :
    WO P ops n ⟨some d, .binOp .quo S x y R, T, ps, af, g⟩ l w K :=
  WO.val hg hd (fun a ha => by
    simp only [execOp, ha.ev hx, ha.ev hy, Sem.run_bind]
    have h0 : ¬ ((q.toNat : Int) = 0) := fun e => h (UInt16.toNat_inj.1 (by simpa using e))
    have e : ((p.toNat : Int)).tdiv (q.toNat : Int) = ((p / q : UInt16).toNat : Int) := by rw [UInt16.toNat_div]; rfl
    have hlt := (p / q).toNat_lt
    have e2 : IntKind.u16.wrap ((p / q : UInt16).toNat : Int) = ((p / q : UInt16).toNat : Int) := by rw [wrap_u16]; omega
    simp only [eqGuard, binOp, Op.intDiv, h0, e, e2]
    simp) k
theorem rem16 {R : Nat} {p q : UInt16} (h : q ≠ 0) (hg : gval ops l ⟨some d, .binOp .rem S x y R, T, ps, af, g⟩ = some true) (hd : Nat.blt d n = true) (hx : ev l x = some (U16 p)) (hy : ev l y = some (U16 q)) (k : K ((d, U16 (p % q)) :: l) w) :
    WO P ops n ⟨some d, .binOp .rem S x y R, T, ps, af, g⟩ l w K :=
  WO.val hg hd (fun a ha => by
    simp only [execOp, ha.ev hx, ha.ev hy, Sem.run_bind]
    have h0 : ¬ ((q.toNat : Int) = 0) := fun e => h (UInt16.toNat_inj.1 (by simpa using e))
    have e : ((p.toNat : Int)).tmod (q.toNat : Int) = ((p % q : UInt16).toNat : Int) := by rw [UInt16.toNat_mod]; rfl
    have hlt := (p % q).toNat_lt
    have e2 : IntKind.u16.wrap ((p % q : UInt16).toNat : Int) = ((p % q : UInt16).toNat : Int) := by rw [wrap_u16]; omega
    simp only [eqGuard, binOp, Op.intDiv, h0, e, e2]
    simp) k
theorem quo64 {R : Nat} {p q : UInt64} (h : q ≠ 0) (hg : gval ops l ⟨some d, .binOp .quo S x y R, T, ps, af, g⟩ = some true) (hd : Nat.blt d n = true) (hx : ev l x = some (U64 p)) (hy : ev l y = some (U64 q)) (k : K ((d, U64 (p / q)) :: l) w) :
    WO P ops n ⟨some d, .binOp .quo S x y R, T, ps, af, g⟩ l w K :=
  WO.val hg hd (fun a ha => by
    simp only [execOp, ha.ev hx, ha.ev hy, Sem.run_bind]
    have h0 : ¬ ((q.toNat : Int) = 0) := fun e => h (UInt64.toNat_inj.1 (by simpa using e))
    have e : ((p.toNat : Int)).tdiv (q.toNat : Int) = ((p / q : UInt64).toNat : Int) := by rw [UInt64.toNat_div]; rfl
    have hlt := (p / q).toNat_lt
    have e2 : IntKind.u64.wrap ((p / q : UInt64).toNat : Int) = ((p / q : UInt64).toNat : Int) := by rw [wrap_u64]; omega
    simp only [eqGuard, binOp, Op.intDiv, h0, e, e2]
    simp) k
theorem rem64 {R : Nat} {p q : UInt64} (h : q ≠ 0) (hg : gval ops l ⟨some d, .binOp .rem S x y R, T, ps, af, g⟩ = some true) (hd : Nat.blt d n = true) (hx : ev l x = some (U64 p)) (hy : ev l y = some (U64 q)) (k : K ((d, U64 (p % q)) :: l) w) :
    WO P ops n ⟨some d, .binOp .rem S x y R, T, ps, af, g⟩ l w K :=
  WO.val hg hd (fun a ha => by
    simp only [execOp, ha.ev hx, ha.ev hy, Sem.run_bind]
    have h0 : ¬ ((q.toNat : Int) = 0) := fun e => h (UInt64.toNat_inj.1 (by simpa using e))
    have e : ((p.toNat : Int)).tmod (q.toNat : Int) = ((p % q : UInt64).toNat : Int) := by rw [UInt64.toNat_mod]; rfl
    have hlt := (p % q).toNat_lt
    have e2 : IntKind.u64.wrap ((p % q : UInt64).toNat : Int) = ((p % q : UInt64).toNat : Int) := by rw [wrap_u64]; omega
    simp only [eqGuard, binOp, Op.intDiv, h0, e, e2]
    simp) k
theorem shrin {R : Nat} {p q : Int} {kd : IntKind} (j : Nat) (hq : q = (j : Int)) (h2 : j ≤ 62) (hg : gval ops l ⟨some d, .binOp .shr S x y R, T, ps, af, g⟩ = some true) (hd : Nat.blt d n = true) (hx : ev l x = some (I p)) (hy : ev l y = some (.int kd q)) (k : K ((d, I (p / (2 ^ j : Nat))) :: l) w) :
    WO P ops n ⟨some d, .binOp .shr S x y R, T, ps, af, g⟩ l w K :=
  shri (D := ((2 ^ j : Nat) : Int)) (by omega) (by omega) (by subst hq; simp) hg hd hx hy k
theorem shlin {R : Nat} {p q : Int} {kd : IntKind} (j : Nat) (hq : q = (j : Int)) (h2 : j ≤ 62) (h5 : -9223372036854775808 ≤ p * (2 ^ j : Nat)) (h6 : p * (2 ^ j : Nat) < 9223372036854775808) (hg : gval ops l ⟨some d, .binOp .shl S x y R, T, ps, af, g⟩ = some true) (hd : Nat.blt d n = true) (hx : ev l x = some (I p)) (hy : ev l y = some (.int kd q)) (k : K ((d, I (p * (2 ^ j : Nat))) :: l) w) :
    WO P ops n ⟨some d, .binOp .shl S x y R, T, ps, af, g⟩ l w K :=
  shli (D := ((2 ^ j : Nat) : Int)) (by omega) (by omega) (by subst hq; simp) h5 h6 hg hd hx hy k
end
end Go.X
namespace Go.X
open Go
abbrev VN (n : Nat) := Vector Nat n
def NV {n : Nat} (v : VN n) : Array Value := v.toArray.map fun x => I ((x : Nat) : Int)
def gn {n : Nat} (v : VN n) (i : Nat) : Nat := v.toArray.getD i 0
section
variable {n : Nat}
theorem NV_size (v : VN n) : (NV v).size = n := by simp [NV]
theorem gn_eq (v : VN n) (i : Nat) (h : i < n) : gn v i = v[i] := by simp [gn, h]
theorem NV_get (v : VN n) (i : Nat) (h : i < n) : (NV v)[i]? = some (I ((gn v i : Nat) : Int)) := by simp [NV, gn, h]
theorem NV_set (v : VN n) (i : Nat) (x : Nat) : (NV v).setIfInBounds i (I (x : Int)) = NV (v.setIfInBounds i x) := by
  simp only [NV, Vector.toArray_setIfInBounds, Array.map_setIfInBounds]
theorem NV_seti (v : VN n) (i : Nat) (x : Nat) {z : Int} (h : z = (x : Int)) : (NV v).setIfInBounds i (I z) = NV (v.setIfInBounds i x) := by
  subst h; exact NV_set v i x
theorem NV_rep (n : Nat) : NV (Vector.replicate n 0 : VN n) = (List.replicate n (I 0)).toArray := by
  apply Array.ext'; simp [NV]
theorem gn_set (v : VN n) (k i : Nat) (x : Nat) (h : i < n) : gn (v.setIfInBounds k x) i = if k = i then x else gn v i := by
  rw [gn_eq _ _ h, gn_eq _ _ h, Vector.getElem_setIfInBounds h]
theorem gn_rep (n i : Nat) : gn (Vector.replicate n 0 : VN n) i = 0 := by
  by_cases h : i < n <;> simp [gn, h]
end
theorem toU64_un {z : Int} {n : Nat} (h : z = (n : Int)) (hb : n < 18446744073709551616) : (((toU64 z).toNat : Nat) : Int) = (n : Int) := by
  subst h; rw [toU64_nat _ hb]
def ci (l : List Nat) : List Value := l.map fun x => I ((x : Nat) : Int)
def gi (l : List Nat) (i : Nat) : Nat := l.getD i 0
theorem ci_len (l : List Nat) : (ci l).length = l.length := by simp [ci]
theorem ci_get (l : List Nat) (j : Nat) (h : j < l.length) : (ci l)[j]? = some (I ((gi l j : Nat) : Int)) := by simp [ci, gi, h]
theorem ci_app (a b : List Nat) : ci a ++ ci b = ci (a ++ b) := by simp [ci]
theorem ci_one (l : List Nat) : ∀ u ∈ ci l, u.oneCell' = true := by
  intro u hu; obtain ⟨x, _, rfl⟩ := List.mem_map.1 hu; rfl
theorem Cel.ci {w : World} {a : Option Addr} {l : List Nat} (h : Cel w a (X.ci l)) {j : Nat} (hj : j < l.length) : w.cell? (adr a j) = some (I ((gi l j : Nat) : Int)) := h.cell (ci_get l j hj)
theorem Cel.somei {w : World} {a : Option Addr} {l : List Nat} (h : Cel w a (X.ci l)) {j : Nat} (hj : j < l.length) : a.isSome = true := (h j _ (ci_get l j hj)).1
end Go.X
namespace Go.X
open Go
theorem cp_all {n : Nat} (v : V8 n) (o q : Nat) (bs : List UInt8) (hq : q = bs.length) (h : o + bs.length ≤ n) : putAt (BV v) o (c8 (bs.take q)).toArray = BV (putL v o bs) := by
  subst hq; rw [List.take_length]; exact BV_putL v o bs h
def wholeV (nonce : V8 12) : V8 16 := putL ((Vector.replicate 16 0 : V8 16).setIfInBounds 3 1) 4 nonce.toList
def topB (nonce : V8 12) : V8 16 := (wholeV nonce).setIfInBounds 15 (gv (wholeV nonce) 15 &&& ~~~63)
def topV (key : V8 16) (nonce : V8 12) : V8 16 := enc key (topB nonce)
def strL (b : V8 16) : Nat → V8 24
  | 0 => putL (Vector.replicate 24 0) 0 b.toList
  | k + 1 => (strL b k).setIfInBounds (16 + k) (gv b k ^^^ gv b (k + 1))
def botN (nonce : V8 12) : Nat := (gv nonce 11 &&& 63).toNat
theorem botN_lt (nonce : V8 12) : botN nonce < 64 := by
  simp only [botN, UInt8.toNat_and]
  have : (63 : UInt8).toNat = 63 := rfl
  rw [this]
  have := Nat.and_le_right (n := (gv nonce 11).toNat) (m := 63)
  omega
def startV (key : V8 16) (nonce : V8 12) : V8 16 := shiftV (strL (topV key nonce) 8) (botN nonce)
def nextO (key : V8 16) (last : V8 16) (x : UInt64) : V8 16 := xorV last (forN key x)
def blk (bs : List UInt8) (k : Nat) : V8 16 := ofl 16 (bs.drop (k * 16))
end Go.X
namespace Go.X
open Go
section
variable {P : Program} (w : World)
end
section
variable {P : Program} {ops : Array Oper} {n : Nat} {l : Regs} {w w0 : World} {K : Regs → World → Prop}
variable {d T S : Nat} {ps : String} {af : Array Edge} {g : Option (Nat × Bool)} {x y : Operand}
def errV (C : Nat) (c : Nat) : Value := if c = 0 then .nilIface else .iface C (I (c : Int))
theorem errV_0 (C : Nat) : errV C 0 = .nilIface := rfl
theorem errV_s (C c : Nat) (h : c ≠ 0) : errV C c = .iface C (I (c : Int)) := by simp [errV, h]
theorem eqE {C c R : Nat} {ms : Array (String × TypeId)} (hu : P.underlying S = some (.interface ms)) (hg : gval ops l ⟨some d, .binOp .eql S x (.const .nilIface) R, T, ps, af, g⟩ = some true) (hd : Nat.blt d n = true) (hx : ev l x = some (errV C c)) (k : K ((d, .bool (decide (c = 0))) :: l) w) :
    WO P ops n ⟨some d, .binOp .eql S x (.const .nilIface) R, T, ps, af, g⟩ l w K := by
  by_cases h : c = 0
  · subst h; exact eqnn (s := 0) hu hg hd hx rfl (by simpa using k)
  · rw [errV_s C c h] at hx; exact eqin hu hg hd hx rfl (by simpa [h] using k)
theorem neE {C c R : Nat} {ms : Array (String × TypeId)} (hu : P.underlying S = some (.interface ms)) (hg : gval ops l ⟨some d, .binOp .neq S x (.const .nilIface) R, T, ps, af, g⟩ = some true) (hd : Nat.blt d n = true) (hx : ev l x = some (errV C c)) (k : K ((d, .bool (decide (c ≠ 0))) :: l) w) :
    WO P ops n ⟨some d, .binOp .neq S x (.const .nilIface) R, T, ps, af, g⟩ l w K := by
  by_cases h : c = 0
  · subst h; exact nenn (s := 0) hu hg hd hx rfl (by simpa using k)
  · rw [errV_s C c h] at hx; exact nein hu hg hd hx rfl (by simpa [h] using k)
end
end Go.X
namespace Go.X
open Go
def Ec (P : Program) (C : Nat) : Prop := (P.info? C).map (·.comparable) = some true ∧ ∃ q, P.underlying C = some (.int q)
section
variable {P : Program} {ops : Array Oper} {n : Nat} {l : Regs} {w : World} {K : Regs → World → Prop}
variable {d T S : Nat} {ps : String} {af : Array Edge} {g : Option (Nat × Bool)} {x y : Operand} {v u : Value}
theorem eqGuard_iface (op : BinOp) (t : TypeId) (s : TypeId) : eqGuard op t x y (.iface s v) u = pure () := by cases op <;> cases u <;> rfl
theorem eqGuard_nili (op : BinOp) (t : TypeId) (s : TypeId) : eqGuard op t x y .nilIface (.iface s v) = pure () := by cases op <;> rfl
theorem eqEE {C c R : Nat} {k : Int} {ms : Array (String × TypeId)} (hu : P.underlying S = some (.interface ms)) (hE : Ec P C) (hg : gval ops l ⟨some d, .binOp .eql S x y R, T, ps, af, g⟩ = some true) (hd : Nat.blt d n = true)
    (hx : ev l x = some (errV C c)) (hy : ev l y = some (.iface C (I k))) (hk : K ((d, .bool (decide ((c : Int) = k ∧ c ≠ 0))) :: l) w) : WO P ops n ⟨some d, .binOp .eql S x y R, T, ps, af, g⟩ l w K := by
  obtain ⟨hc, q, hq⟩ := hE
  by_cases h : c = 0
  · subst h
    refine WO.val hg hd (v := .bool false) (fun a ha => ?_) (by simpa using hk)
    have h1 := ha.ev hx; rw [errV_0] at h1
    simp only [execOp, h1, ha.ev hy, Sem.run_bind, eqGuard_nili]
    simp [run_eql_iface_nil_left w C (I k) hu]
  · refine WO.val hg hd (v := .bool ((c : Int) == k)) (w' := w) (fun a ha => ?_) ?_
    · have h1 := ha.ev hx; rw [errV_s C c h] at h1
      simp only [execOp, h1, ha.ev hy, Sem.run_bind, eqGuard_iface]
      simp [Go.Lib.run_eql_iface_int w (c : Int) k hu hc hq]
    · have e : ((c : Int) == k) = decide ((c : Int) = k ∧ c ≠ 0) := by
        rw [Bool.eq_iff_iff]; simp [h]
      rw [e]; exact hk
end
end Go.X
namespace Go.X
open Go
def Str (l : List UInt8) : Value := .string ⟨l.toArray⟩
abbrev R32 (i : Int) : Value := .int .i32 i
section
variable {P : Program} {ops : Array Oper} {n : Nat} {l : Regs} {w w0 w' : World} {K : Regs → World → Prop} {F : List Nat} {L A R X Y : List (Nat × Obj)}
variable {d T S : Nat} {ps : String} {af : Array Edge} {g : Option (Nat × Bool)} {x y : Operand} {v u : Value}
theorem eqs {R : Nat} {p q : List UInt8} (hg : gval ops l ⟨some d, .binOp .eql S x y R, T, ps, af, g⟩ = some true) (hd : Nat.blt d n = true) (hx : ev l x = some (Str p)) (hy : ev l y = some (Str q)) (k : K ((d, .bool (decide (p = q))) :: l) w) :
    WO P ops n ⟨some d, .binOp .eql S x y R, T, ps, af, g⟩ l w K :=
  WO.val hg hd (fun a ha => by
    simp only [execOp, ha.ev hx, ha.ev hy, Sem.run_bind, Str, eqGuard_at_string, binOp_string_eql, ByteArray.toList_mk]
    have e : (p == q) = decide (p = q) := by by_cases h : p = q <;> simp [h]
    simp [e]) k
theorem nes {R : Nat} {p q : List UInt8} (hg : gval ops l ⟨some d, .binOp .neq S x y R, T, ps, af, g⟩ = some true) (hd : Nat.blt d n = true) (hx : ev l x = some (Str p)) (hy : ev l y = some (Str q)) (k : K ((d, .bool (decide (p ≠ q))) :: l) w) :
    WO P ops n ⟨some d, .binOp .neq S x y R, T, ps, af, g⟩ l w K :=
  WO.val hg hd (fun a ha => by
    simp only [execOp, ha.ev hx, ha.ev hy, Sem.run_bind, Str, eqGuard_at_string, binOp_string_neq, ByteArray.toList_mk]
    have e : (!(p == q)) = decide (p ≠ q) := by by_cases h : p = q <;> simp [h]
    simp [e]) k
theorem lnst {p : List UInt8} {S : Nat} (hu : P.underlying S = some .string) (hg : gval ops l ⟨some d, .call ⟨.builtin .len, #[x], #[S]⟩, T, ps, af, g⟩ = some true) (hd : Nat.blt d n = true) (hx : ev l x = some (Str p)) (k : K ((d, I p.length) :: l) w) :
    WO P ops n ⟨some d, .call ⟨.builtin .len, #[x], #[S]⟩, T, ps, af, g⟩ l w K :=
  lenstr hu hg hd hx (by
    have e : ((⟨p.toArray⟩ : ByteArray).size) = p.length := by simp [ByteArray.size]
    rw [e]; exact k)
theorem ixs {p : List UInt8} {kd : IntKind} {i : Int} (j : Nat) (hu : P.underlying S = some .string) (hg : gval ops l ⟨some d, .index S x y, T, ps, af, g⟩ = some true) (hd : Nat.blt d n = true) (hx : ev l x = some (Str p)) (hy : ev l y = some (.int kd i))
    (hi : i = (j : Int)) (h2 : j < p.length) (k : K ((d, U8 (gl p j)) :: l) w) : WO P ops n ⟨some d, .index S x y, T, ps, af, g⟩ l w K :=
  WO.val hg hd (fun a ha => by
    subst hi
    have hs : ((⟨p.toArray⟩ : ByteArray).size) = p.length := by simp [ByteArray.size]
    have h3 := run_index_string (P := P) w S ⟨p.toArray⟩ kd (j : Int) hu
    rw [dif_pos ⟨by omega, by rw [hs]; omega⟩] at h3
    have e : ((⟨p.toArray⟩ : ByteArray)[((j : Nat) : Int).toNat]'(by rw [hs]; omega)) = gl p j := by
      simp only [Int.toNat_natCast]
      show p.toArray[j]'(by simpa using h2) = gl p j
      simp [gl, h2]
    rw [e] at h3
    simp only [execOp, ha.ev hx, ha.ev hy, Str, Sem.run_bind, h3]
    simp) k
theorem eqpp {R : Nat} {e : Nat} (hu : P.underlying S = some (.pointer e)) (hg : gval ops l ⟨some d, .binOp .eql S x y R, T, ps, af, g⟩ = some true) (hd : Nat.blt d n = true) (hx : ev l x = some (.pointer none)) (hy : ev l y = some (.pointer none)) (k : K ((d, .bool true) :: l) w) :
    WO P ops n ⟨some d, .binOp .eql S x y R, T, ps, af, g⟩ l w K := eqpn (ad := none) hu hg hd hx hy k
theorem St.of_below {w w' : World} (h : RowKit.Below w.heap.size w w') : St w [] [] w' :=
  ⟨h.os, h.tape, h.output, h.size, fun k hk _ => h.block k hk, fun _ h => (by cases h), List.nodup_nil⟩
theorem ret_below {P : Program} {f : Nat} {args : Array Value} {v : Value} (h : Calls P f args w fun e w' => e = .returned v ∧ RowKit.Below w.heap.size w w') : Calls P f args w (Ret w v) :=
  h.mono fun _ _ ⟨he, hb⟩ => ⟨he, St.of_below hb⟩
theorem ret_same {P : Program} {f : Nat} {args : Array Value} {v : Value} (h : Calls P f args w fun e w' => e = .returned v ∧ w' = w) : Calls P f args w (Ret w v) :=
  h.mono fun _ _ ⟨he, hb⟩ => ⟨he, hb ▸ St.refl w⟩
def sets : List (Nat × Obj) → List Nat → List (Nat × Obj) → List (Nat × Obj)
  | L, i :: is, p :: ps => sets (L.set i p) is ps
  | L, _, _ => L
theorem set_fst {L : List (Nat × Obj)} {i : Nat} {p q : Nat × Obj} (hp : L[i]? = some p) (h : q.1 = p.1) : (L.set i q).map Prod.fst = L.map Prod.fst := by
  have hil : i < L.length := (List.getElem?_eq_some_iff.1 hp).1
  rw [List.map_set]
  apply List.ext_getElem?
  intro j
  by_cases e : i = j
  · subst e
    rw [List.getElem?_set_self (by simpa using hil), List.getElem?_map, hp]; simp [h]
  · rw [List.getElem?_set_ne e]
theorem sets_ok : ∀ (is : List Nat) (L N : List (Nat × Obj)) (_ : (L.map Prod.fst).Nodup) (_ : is.map (fun i => (L[i]?).map Prod.fst) = N.map (fun p => some p.1)),
    (sets L is N).map Prod.fst = L.map Prod.fst ∧ ∀ p ∈ sets L is N, p ∈ N ∨ (p ∈ L ∧ p.1 ∉ N.map Prod.fst)
  | [], L, N, hn, hi => by
    have : N = [] := by cases N with | nil => rfl | cons => simp at hi
    subst this
    exact ⟨rfl, fun p hp => .inr ⟨hp, by simp⟩⟩
  | i :: is, L, N, hn, hi => by
    cases N with
    | nil => simp at hi
    | cons q N =>
      simp only [List.map_cons, List.cons.injEq] at hi
      obtain ⟨h1, h2⟩ := hi
      cases hp : L[i]? with
      | none => simp [hp] at h1
      | some p =>
        simp [hp] at h1
        have hf := set_fst (q := q) hp h1.symm
        have hn' : ((L.set i q).map Prod.fst).Nodup := by rw [hf]; exact hn
        have h2' : is.map (fun i' => ((L.set i q)[i']?).map Prod.fst) = N.map (fun p => some p.1) := by
          rw [← h2]
          apply List.map_congr_left
          intro j _
          show ((L.set i q)[j]?).map Prod.fst = (L[j]?).map Prod.fst
          rw [← List.getElem?_map, ← List.getElem?_map, hf]
        obtain ⟨e1, e2⟩ := sets_ok is (L.set i q) N hn' h2'
        refine ⟨e1.trans hf, fun r hr => ?_⟩
        rcases e2 r hr with h3 | ⟨h3, h4⟩
        · exact .inl (List.mem_cons_of_mem _ h3)
        · obtain ⟨j, hj⟩ := List.mem_iff_getElem?.1 h3
          by_cases e : i = j
          · subst e
            rw [List.getElem?_set_self (List.getElem?_eq_some_iff.1 hp).1] at hj
            obtain rfl := Option.some.inj hj
            exact .inl (List.mem_cons_self ..)
          · rw [List.getElem?_set_ne e] at hj
            refine .inr ⟨List.mem_of_getElem? hj, ?_⟩
            simp only [List.map_cons, List.mem_cons, not_or]
            refine ⟨fun e' => e ?_, h4⟩
            have k1 : (L.map Prod.fst)[j]? = some r.1 := by simp [hj]
            have k2 : (L.map Prod.fst)[i]? = some p.1 := by simp [hp]
            have hil : i < (L.map Prod.fst).length := (List.getElem?_eq_some_iff.1 k2).1
            exact (List.getElem?_inj hil hn).1 (by rw [k1, k2, e', h1])
theorem St.of (h : St w0 F L w) {M : List (Nat × Obj)} (hM : ∀ p ∈ M, p ∈ L) (hn : (M.map Prod.fst).Nodup) : St w0 F M w :=
  ⟨h.os, h.tape, h.output, h.size, h.frame, fun p hp => h.own p (hM p hp), hn⟩
theorem St.calls {L1 N L2 : List (Nat × Obj)} (h : St w0 F L w) (is : List Nat) (hi : is.map (fun i => L[i]?) = L1.map some) (hf : N.map Prod.fst = L1.map Prod.fst)
    (hc : St w (L1.map Prod.fst) (N ++ L2) w') : St w0 F (L2 ++ sets L is N) w' := by
  have hmem : ∀ p ∈ L1, p ∈ L := by
    intro p hp
    have : some p ∈ is.map (fun i => L[i]?) := by rw [hi]; exact List.mem_map.2 ⟨p, hp, rfl⟩
    obtain ⟨i, _, hi'⟩ := List.mem_map.1 this
    exact List.mem_of_getElem? hi'
  have hik : is.map (fun i => (L[i]?).map Prod.fst) = N.map (fun p => some p.1) := by
    have e1 : is.map (fun i => (L[i]?).map Prod.fst) = (is.map (fun i => L[i]?)).map (Option.map Prod.fst) := by simp
    have e2 : N.map (fun p => some p.1) = (N.map Prod.fst).map some := by simp
    rw [e1, hi, e2, hf]; simp
  obtain ⟨k1, k2⟩ := sets_ok is L N h.nodup hik
  have h1 : St w0 F (L.filter (fun p => p.1 ∉ L1.map Prod.fst)) w := h.sublist List.filter_sublist
  have h2 := h1.call hc (fun p hp => by simpa using (List.mem_filter.1 hp).2) (fun g hg => by
    obtain ⟨p, hp, rfl⟩ := List.mem_map.1 hg
    exact (h.own p (hmem p hp)).1) (fun p hp => (hc.own p hp).1)
  refine h2.of (fun p hp => ?_) ?_
  · rcases List.mem_append.1 hp with hp | hp
    · simp [hp]
    · rcases k2 p hp with h3 | ⟨h3, h4⟩
      · simp [h3]
      · rw [hf] at h4
        have : p ∈ L.filter (fun p => p.1 ∉ L1.map Prod.fst) := List.mem_filter.2 ⟨h3, by simpa using h4⟩
        simp only [List.mem_append]; exact .inr this
  · rw [List.map_append, k1]
    have hnd := h2.nodup
    rw [List.map_append, List.map_append, List.append_assoc, List.nodup_append] at hnd
    obtain ⟨_, hnd2, hdis⟩ := hnd
    rw [List.nodup_append] at hnd2
    refine List.nodup_append.2 ⟨hnd2.1, h.nodup, fun a ha b hb e => ?_⟩
    subst e
    by_cases hin : a ∈ L1.map Prod.fst
    · rw [← hf] at hin
      exact hdis a hin a (by simp only [List.mem_append]; exact .inl ha) rfl
    · obtain ⟨p, hp, rfl⟩ := List.mem_map.1 hb
      exact hnd2.2.2 p.1 ha p.1 (List.mem_map.2 ⟨p, List.mem_filter.2 ⟨hp, by simpa using hin⟩, rfl⟩) rfl
theorem St.callX (h : St w0 F (A ++ (X ++ R)) w) (hc : St w (X.map Prod.fst) Y w') : St w0 F (A ++ (Y ++ R)) w' := by
  have h1 : St w0 F (A ++ R) w := h.untail
  have hnd := h.nodup
  simp only [List.map_append] at hnd
  rw [List.nodup_append] at hnd
  obtain ⟨_, hb, hdis⟩ := hnd
  rw [List.nodup_append] at hb
  have h2 := h1.call hc (fun p hp hg => by
    rcases List.mem_append.1 hp with hp | hp
    · exact hdis p.1 (List.mem_map.2 ⟨p, hp, rfl⟩) p.1 (List.mem_append.2 (.inl hg)) rfl
    · exact hb.2.2 p.1 hg p.1 (List.mem_map.2 ⟨p, hp, rfl⟩) rfl) (fun g hg => by
    obtain ⟨p, hp, rfl⟩ := List.mem_map.1 hg
    exact (h.own p (by simp [hp])).1) (fun p hp => (hc.own p hp).1)
  exact h2.tailin A R rfl
theorem St.mem (h : St w0 F L w) {p : Nat × Obj} (hp : p ∈ L) : w.heap[p.1]? = some p.2 := (h.own p hp).2
theorem St.starts {w : World} {X : List (Nat × Obj)} (h : ∀ p ∈ X, w.heap[p.1]? = some p.2) (hn : (X.map Prod.fst).Nodup) : St w (X.map Prod.fst) X w := St.start w X h hn
theorem St.nodupT (h : St w0 F (A ++ (X ++ R)) w) : (X.map Prod.fst).Nodup := by
  have hnd := h.nodup
  simp only [List.map_append] at hnd
  rw [List.nodup_append] at hnd
  obtain ⟨_, hb, _⟩ := hnd
  rw [List.nodup_append] at hb
  exact hb.1
theorem St.memT (h : St w0 F (A ++ (X ++ R)) w) : ∀ p ∈ X, w.heap[p.1]? = some p.2 := fun p hp => (h.own p (by simp [hp])).2
theorem cm {f : Operand} {fid : Nat} {cap xs : List Value} {asx : List Operand} {vs : List Value} {Q : Array Nat} {G : List Nat} {R : Value → List (Nat × Obj) → Prop} (hn : Callable P fid)
    (hg : gval ops l ⟨some d, .call ⟨.value f, asx.toArray, Q⟩, T, ps, af, g⟩ = some true) (hd : Nat.blt d n = true) (hf : ev l f = some (.func (.func fid) #[] cap.toArray)) (ha : evs l asx = some vs) (hxs : vs ++ cap = xs)
    (hc : Calls P fid xs.toArray w (RetM w G R)) (k : ∀ v L' w', R v L' → St w G L' w' → K ((d, v) :: l) w') : WO P ops n ⟨some d, .call ⟨.value f, asx.toArray, Q⟩, T, ps, af, g⟩ l w K :=
  cl hn hg hd hf ha hxs hc (fun _ w' ⟨v, L', he, hr, hs⟩ => ⟨v, he, k v L' w' hr hs⟩)
theorem startx {Q : XPost} {c : Code} (h : St w0 F L w0) (k : ∀ w, St w0 F L w → WC P n Q c l w) : WC P n Q c l w0 := k w0 h
def mnU (p q : UInt64) : UInt64 := if q < p then q else p
theorem minu {p q : UInt64} {A : Array Nat} (hg : gval ops l ⟨some d, .call ⟨.builtin .min, #[x, y], A⟩, T, ps, af, g⟩ = some true) (hd : Nat.blt d n = true) (hx : ev l x = some (U64 p)) (hy : ev l y = some (U64 q)) (k : K ((d, U64 (mnU p q)) :: l) w) :
    WO P ops n ⟨some d, .call ⟨.builtin .min, #[x, y], A⟩, T, ps, af, g⟩ l w K :=
  mini hg hd hx hy (by
    have e : min (p.toNat : Int) (q.toNat : Int) = ((mnU p q).toNat : Int) := by
      unfold mnU
      by_cases h : q < p
      · have := UInt64.lt_iff_toNat_lt.1 h
        rw [if_pos h]; omega
      · have : ¬ q.toNat < p.toNat := fun h' => h (UInt64.lt_iff_toNat_lt.2 h')
        rw [if_neg h]; omega
    rw [e]; exact k)
end
end Go.X
namespace Go.X
open Go Go.ChangeShapes Go.WideShapes Go.ChangeAt Go.RowKit Go.Deep
section
variable {H : Type} {enc : TypeId × Value → H} {P : Program} {w : World} {base : Nat} {spare : Nat → Bool} {held : Bool} {fuel : Nat}
theorem arg_str {r : Reach} {b0 : Nat} {t : TypeId} {v : Value} {d : DataW H} {ps : List MemPlace} (ht : P.underlying t = some .string) (hv : Value.okWide P w r b0 t v) (h : DataW.Trod enc P w base spare held t v d ps) : ∃ z : List UInt8, v = Str z := by
  obtain ⟨s, rfl⟩ := okWide_string ht hv
  exact ⟨s.data.toList, rfl⟩
end
end Go.X
set_option linter.defProp false
namespace Go.X
open Go
theorem O {α : Sort _} {a : α} : a = a := rfl
def wt := @wq_then
end Go.X
namespace Go.X
open Go
set_option linter.unusedSectionVars false
section
variable {α β : Type} [DecidableEq α]
def mEs (enc : α → Value) (f : β → Value) (m : List (α × β)) : Array MapEntry := (m.zipIdx.map fun p => { key := enc p.1.1, val := f p.1.2, born := p.2 }).toArray
def mOb (enc : α → Value) (f : β → Value) (m : List (α × β)) : Obj := .map (mEs enc f m) m.length
def mFind : List (α × β) → α → Nat → Option (Nat × β)
  | [], _, _ => none
  | (b, v) :: r, a, i => if a = b then some (i, v) else mFind r a (i + 1)
def mVal (m : List (α × β)) (a : α) (z : β) : β := match mFind m a 0 with | some (_, v) => v | none => z
def mPut (m : List (α × β)) (a : α) (z : β) : List (α × β) := match mFind m a 0 with | some _ => m | none => m ++ [(a, z)]
def mPos (m : List (α × β)) (a : α) : Nat := match mFind m a 0 with | some (i, _) => i | none => m.length
structure MapKey (P : Program) (kt : TypeId) (enc : α → Value) : Prop where
  eq : ∀ a b w, (Op.equal kt (enc a) (enc b)).run P w = .ok (decide (a = b)) w
  check : ∀ a e w, (Instr.checkKey e 10000 kt (enc a)).run P w = .ok () w
  find : ∀ a es w, (Instr.findKey kt (enc a) es).run P w = (Instr.findAsking kt (enc a) es).run P w
  same : ∀ a, Instr.sameBits 10000 (enc a) (enc a) = true
variable {P : Program} {kt : TypeId} {enc : α → Value} {f : β → Value}
theorem mFind_ix : ∀ (m : List (α × β)) (a : α) (s i : Nat) (v : β), mFind m a s = some (i, v) → ∃ j, i = s + j ∧ m[j]? = some (a, v)
  | [], _, _, _, _, h => by simp [mFind] at h
  | (b, u) :: r, a, s, i, v, h => by
    simp only [mFind] at h
    split at h
    · rename_i e; subst e; simp at h; exact ⟨0, by omega, by simp [h.2]⟩
    · obtain ⟨j, h1, h2⟩ := mFind_ix r a (s + 1) i v h
      exact ⟨j + 1, by omega, by simpa using h2⟩
theorem run_asking (hk : MapKey P kt enc) (a : α) (w : World) : ∀ (m : List (α × β)) (s i : Nat),
    (Instr.findAsking kt (enc a) ((m.zipIdx s).map fun p => { key := enc p.1.1, val := f p.1.2, born := p.2 }) i).run P w = .ok ((mFind m a i).map fun q => (q.1, f q.2)) w
  | [], _, _ => by simp [Instr.findAsking, mFind]
  | (b, v) :: r, s, i => by
    simp only [List.zipIdx_cons, List.map_cons, Instr.findAsking, Sem.run_bind, hk.eq a b w, Result.andThen_ok, mFind]
    by_cases h : a = b
    · simp [h]
    · simp only [h, decide_false, if_false]
      exact run_asking hk a w r (s + 1) (i + 1)
theorem run_find (hk : MapKey P kt enc) (a : α) (m : List (α × β)) (w : World) : (Instr.findKey kt (enc a) (mEs enc f m).toList).run P w = .ok ((mFind m a 0).map fun q => (q.1, f q.2)) w := by
  rw [hk.find]; exact run_asking hk a w m 0 0
theorem mEs_get (m : List (α × β)) (i : Nat) : (mEs enc f m)[i]? = (m[i]?).map fun p => { key := enc p.1, val := f p.2, born := i } := by
  simp [mEs, List.getElem?_zipIdx]
  cases m[i]? <;> simp
theorem mEs_push (m : List (α × β)) (a : α) (v : β) : (mEs enc f m).push { key := enc a, val := f v, born := m.length } = mEs enc f (m ++ [(a, v)]) := by
  apply Array.ext'; simp [mEs, List.zipIdx_append]
theorem mEs_size (m : List (α × β)) : (mEs enc f m).size = m.length := by simp [mEs]
theorem mEs_mod (m : List (α × β)) (i : Nat) (ff : MapEntry → MapEntry) (a : α) (v : β) (h : ∀ p, m[i]? = some p → ff { key := enc p.1, val := f p.2, born := i } = { key := enc a, val := f v, born := i }) : (mEs enc f m).modify i ff = mEs enc f (m.set i (a, v)) := by
  apply Array.ext_getElem?
  intro j
  rw [Array.getElem?_modify, mEs_get, mEs_get]
  by_cases e : i = j
  · subst e
    simp only [if_true]
    cases hp : m[i]? with
    | none =>
      have : m.length ≤ i := by simpa using hp
      simp [List.getElem?_set, hp, this]
    | some p =>
      have hlt : i < m.length := (List.getElem?_eq_some_iff.1 hp).1
      simp [List.getElem?_set, hlt, h p hp]
  · simp [e, List.getElem?_set_ne e]
end
section
variable {P : Program} {ops : Array Oper} {n : Nat} {l : Regs} {w w0 w' : World} {K : Regs → World → Prop} {F : List Nat} {L A R X Y : List (Nat × Obj)}
variable {d T S : Nat} {ps : String} {af : Array Edge} {g : Option (Nat × Bool)} {x y s : Operand} {v u : Value}
variable {α β : Type} [DecidableEq α] {kt e : TypeId} {enc : α → Value} {f : β → Value} {m : List (α × β)} {a : α} {z : β} {r : Nat}
theorem mkm (hS : St w0 F L w) (hg : gval ops l ⟨some d, .makeMap S none, T, ps, af, g⟩ = some true) (hd : Nat.blt d n = true) (enc : α → Value) (f : β → Value)
    (k : ∀ b w', w0.heap.size ≤ b → St w0 F ((b, mOb enc f []) :: L) w' → K ((d, .map (some b)) :: l) w') : WO P ops n ⟨some d, .makeMap S none, T, ps, af, g⟩ l w K :=
  WO.val hg hd (fun a ha => by
    simp only [execOp, Instr.makeMap, Sem.run_bind, Option.map_none, Sem.run_pure, Result.andThen_ok, run_newObj_alloc]
    rfl) (k w.heap.size _ hS.size (hS.alloc _))
theorem lku (hu : P.underlying S = some (.map kt e)) (hk : MapKey P kt enc) (hz : Zr P e (f z)) (hg : gval ops l ⟨some d, .lookup S x y false, T, ps, af, g⟩ = some true) (hd : Nat.blt d n = true) (hx : ev l x = some (.map (some r))) (hy : ev l y = some (enc a))
    (hb : w.heap[r]? = some (mOb enc f m)) (k : K ((d, f (mVal m a z)) :: l) w) : WO P ops n ⟨some d, .lookup S x y false, T, ps, af, g⟩ l w K :=
  WO.val hg hd (fun q ha => by
    have hb : w.heap[r]? = some (.map (mEs enc f m) m.length) := hb
    simp only [execOp, ha.ev hx, ha.ev hy, Instr.lookup, Sem.run_bind, run_underlying hu, Result.andThen_ok, MapKept.run_getObj_map hb, Sem.run_pure, hk.check, run_find hk, mVal]
    cases h : mFind m a 0 with
    | none => simp [hz.run w]
    | some p => simp) k
theorem St.setObj (h : St w0 F L w) (i : Nat) {b : Nat} {o o' : Obj} (hi : L[i]? = some (b, o)) : St w0 F (L.set i (b, o')) { w with heap := w.heap.setIfInBounds b o' } := by
  obtain ⟨h1, h2⟩ := MapKept.heap_set (o' := o') (h.get i hi)
  exact h.turn i hi rfl rfl rfl (by simp) h1 h2
theorem mFind_some {p : Nat × β} (h : mFind m a 0 = some p) : m[p.1]? = some (a, p.2) := by
  obtain ⟨i, v⟩ := p
  obtain ⟨j, h1, h2⟩ := mFind_ix m a 0 i v h
  have : i = j := by omega
  subst this; exact h2
theorem set_same {γ : Type} {l : List γ} {i : Nat} {p : γ} (h : l[i]? = some p) : l.set i p = l := by
  apply List.ext_getElem?; intro j
  by_cases e : i = j
  · subst e; rw [List.getElem?_set_self (List.getElem?_eq_some_iff.1 h).1, h]
  · rw [List.getElem?_set_ne e]
theorem mpe (i : Nat) (hu : P.underlying S = some (.map kt e)) (hk : MapKey P kt enc) (hz : Zr P e (f z)) (hS : St w0 F L w) (hg : gval ops l ⟨some d, .mapEntry S x y, T, ps, af, g⟩ = some true) (hd : Nat.blt d n = true) (hx : ev l x = some (.map (some r))) (hy : ev l y = some (enc a))
    (hi : L[i]? = some (r, mOb enc f m)) (k : ∀ w', St w0 F (L.set i (r, mOb enc f (mPut m a z))) w' → K ((d, .tuple #[f (mVal m a z), I (mPos m a : Nat)]) :: l) w') : WO P ops n ⟨some d, .mapEntry S x y, T, ps, af, g⟩ l w K := by
  have hb := hS.get i hi
  have hb' : w.heap[r]? = some (.map (mEs enc f m) m.length) := hb
  refine WO.val hg hd (w' := { w with heap := w.heap.setIfInBounds r (mOb enc f (mPut m a z)) }) (fun q ha => ?_) (k _ (hS.setObj i hi))
  simp only [execOp, ha.ev hx, ha.ev hy, Instr.mapEntry, Sem.run_bind, run_underlying hu, Result.andThen_ok, MapKept.run_getObj_map hb', hk.check, run_find hk, mVal, mPos, mPut]
  cases h : mFind m a 0 with
  | none =>
    simp only [Option.map_none, Sem.run_bind, hz.run w, Result.andThen_ok, MapKept.run_setObj_map _ hb', mEs_push]
    simp [mOb, goInt]
  | some p =>
    obtain ⟨j, u⟩ := p
    have hj := mFind_some h
    have hks : (Instr.keyThatStays (enc a) (enc a)).run P w = .ok (enc a) w := by simp [Instr.keyThatStays, hk.same a]
    have he : (mEs enc f m)[j]? = some { key := enc a, val := f u, born := j } := by rw [mEs_get]; simp only [] at hj; rw [hj]; rfl
    have hm : (mEs enc f m).modify j (fun x => { x with key := enc a }) = mEs enc f m := by
      rw [mEs_mod m j _ a u (fun p hp => by simp only [] at hj; rw [hj] at hp; obtain rfl := Option.some.inj hp; rfl), set_same hj]
    simp only [he, Option.map_some, Option.getD_some, Sem.run_bind, hks, Result.andThen_ok, hm, MapKept.run_setObj_map _ hb']
    simp [mOb, goInt]
theorem ens {y2 : Operand} {v : β} {q : Int} (i : Nat) (j : Nat) (hS : St w0 F L w) (hg : gval ops l ⟨none, .entryStore S x y y2, T, ps, af, g⟩ = some true) (hx : ev l x = some (.map (some r))) (hy : ev l y = some (I q)) (hv : ev l y2 = some (f v))
    (hi : L[i]? = some (r, mOb enc f m)) (hq : q = (j : Int)) (hj : ∃ u, m[j]? = some (a, u)) (k : ∀ w', St w0 F (L.set i (r, mOb enc f (m.set j (a, v)))) w' → K l w') : WO P ops n ⟨none, .entryStore S x y y2, T, ps, af, g⟩ l w K := by
  subst hq
  obtain ⟨u, hj⟩ := hj
  have hb := hS.get i hi
  have hb' : w.heap[r]? = some (.map (mEs enc f m) m.length) := hb
  refine WO.skip_ hg (w' := { w with heap := w.heap.setIfInBounds r (mOb enc f (m.set j (a, v))) }) (fun q ha => ?_) (k _ (hS.setObj i hi))
  have hf : (mEs enc f m).findIdx? (fun e => (e.born : Int) == (j : Int)) = some j := by
    rw [Array.findIdx?_eq_some_iff_getElem]
    have hlt : j < m.length := (List.getElem?_eq_some_iff.1 hj).1
    refine ⟨by rw [mEs_size]; exact hlt, ?_, fun k hk => ?_⟩
    · have h1 := mEs_get (enc := enc) (f := f) m j
      rw [hj, Array.getElem?_eq_getElem (by rw [mEs_size]; exact hlt)] at h1
      rw [Option.some.inj h1]; simp
    · have h1 := mEs_get (enc := enc) (f := f) m k
      rw [List.getElem?_eq_getElem (by omega), Array.getElem?_eq_getElem (by rw [mEs_size]; omega)] at h1
      rw [Option.some.inj h1]; simp; omega
  have hm : (mEs enc f m).modify j (fun x => { x with val := f v }) = mEs enc f (m.set j (a, v)) :=
    mEs_mod m j _ a v (fun p hp => by rw [hj] at hp; obtain rfl := Option.some.inj hp; rfl)
  simp only [execOp, ha.ev hx, ha.ev hy, ha.ev hv, Instr.entryStore, Sem.run_bind, MapKept.run_getObj_map hb', Result.andThen_ok, asInt, asIntOf, Sem.run_pure, hf, hm, MapKept.run_setObj_map _ hb']
  simp [mOb]
theorem mPut_has (m : List (α × β)) (a : α) (z : β) : ∃ u, (mPut m a z)[mPos m a]? = some (a, u) := by
  unfold mPut mPos
  cases h : mFind m a 0 with
  | none => exact ⟨z, by simp⟩
  | some p => exact ⟨p.2, mFind_some h⟩
def encS (s : List UInt8) : Value := .agg #[Str s]
theorem str_beq (p q : List UInt8) : ((⟨p.toArray⟩ : ByteArray) == ⟨q.toArray⟩) = decide (p = q) := by
  by_cases h : p = q
  · subst h
    have := (MapKept.bytes_beq ⟨p.toArray⟩ ⟨p.toArray⟩).2 rfl
    simp [this]
  · have h1 : ¬ ((⟨p.toArray⟩ : ByteArray) = ⟨q.toArray⟩) := fun e => h (by simp only [ByteArray.mk.injEq] at e; simpa using e)
    have h2 : ¬ (((⟨p.toArray⟩ : ByteArray) == ⟨q.toArray⟩) = true) := fun e => h1 ((MapKept.bytes_beq _ _).1 e)
    simp only [h, decide_false]; simpa using h2
theorem mkeyS {kt st : TypeId} {f : Field} (hu : P.underlying kt = some (.struct #[f])) (hn : f.name ≠ "_") (ho : f.offset = 0) (ht : f.type = st) (hs : P.underlying st = some .string) (hsc : Sc P st) (hh : P.stoodInHeld kt = false) : MapKey P kt encS := by
  subst ht
  have h1 : ∀ (w : World) (s : List UInt8), (part f.type #[Str s] f.offset).run P w = .ok (Str s) w := fun w s => by rw [ho]; simp [part, hsc.run w]
  refine ⟨fun a b w => ?_, fun a e w => ?_, fun a es w => run_findKey_eq w (by rw [hu]) _ es, fun a => ?_⟩
  · show (Op.equalIn (9998 + 1 + 1) kt (encS a) (encS b)).run P w = _
    generalize 9998 = n
    have h2 : (Op.equalIn (n + 1) f.type (Str a) (Str b)).run P w = .ok (decide (a = b)) w := by
      simp only [Op.equalIn, Sem.run_bind, run_underlying hs, Result.andThen_ok, Str, str_beq, Sem.run_pure]
    rw [Op.equalIn]
    simp only [Sem.run_bind, run_underlying hu, Result.andThen_ok, encS]
    simp only [hh, Sem.run_bind, run_program, Result.andThen_ok]
    simp [hn, h1, h2]
    split <;> simp_all
  · show (Instr.checkKey e (9998 + 1 + 1) kt (encS a)).run P w = _
    generalize 9998 = n
    have h2 : (Instr.checkKey e (n + 1) f.type (Str a)).run P w = .ok () w := by
      simp only [Instr.checkKey, Sem.run_bind, run_underlying hs, Result.andThen_ok, Str, Sem.run_pure]
    rw [Instr.checkKey]
    simp only [Sem.run_bind, run_underlying hu, Result.andThen_ok, encS]
    simp [hn, h1, h2]
  · show Instr.sameBits (9998 + 1 + 1) (encS a) (encS a) = true
    generalize 9998 = n
    simp [Instr.sameBits, encS, Str, str_beq]
abbrev vI (i : Int) : Value := I i
theorem addw {p q : Int} {R : Nat} (hg : gval ops l ⟨some d, .binOp .add S x y R, T, ps, af, g⟩ = some true) (hd : Nat.blt d n = true) (hx : ev l x = some (I p)) (hy : ev l y = some (I q)) (k : K ((d, I (IntKind.i64.wrap (p + q))) :: l) w) :
    WO P ops n ⟨some d, .binOp .add S x y R, T, ps, af, g⟩ l w K :=
  WO.val hg hd (fun a ha => by
    simp only [execOp, ha.ev hx, ha.ev hy, Sem.run_bind]
    simp [eqGuard, binOp, Op.intArith]) k
end
end Go.X
set_option linter.defProp false
set_option maxRecDepth 100000
set_option maxHeartbeats 2000000
set_option maxRecDepth 1000000
namespace Go.Proofs.XS
open Go Go.X Go.Proofs
theorem mo : Tryz.prog.follows .mixedOrders = true := by kernel_rfl
def un5 := Tryz.underlying5
def un199 := Tryz.underlying199
theorem cf132 : Callable Tryz.prog 132 := ⟨_, Tryz.func132, by kernel_rfl, rfl⟩
theorem cf110 : Callable Tryz.prog 110 := ⟨_, Tryz.func110, by kernel_rfl, rfl⟩
theorem cf204 : Callable Tryz.prog 204 := ⟨_, Tryz.func204, by kernel_rfl, rfl⟩
theorem zr43 : Zr Tryz.prog 43 (.agg (BV (Vector.replicate 256 0))) := zr_of (l := List.replicate 256 (U8 0)) (by simp only [BV_rep, WV_rep, DV_rep, tol_app]) (by kernel_rfl)
theorem ag43 : Ag Tryz.prog 43 256 := ⟨⟨_, Tryz.underlying43, rfl⟩, by kernel_rfl⟩
theorem cf131 : Callable Tryz.prog 131 := ⟨_, Tryz.func131, by kernel_rfl, rfl⟩
theorem sz5 : Sz Tryz.prog 5 1 := by unfold Sz; kernel_rfl
def un43 := Tryz.underlying43
theorem sc5 : Sc Tryz.prog 5 := ⟨_, Tryz.underlying5, rfl⟩
def un3 := Tryz.underlying3
def un72 := Tryz.underlying72
theorem cf107 : Callable Tryz.prog 107 := ⟨_, Tryz.func107, by kernel_rfl, rfl⟩
def un171 := Tryz.underlying171
def un30 := Tryz.underlying30
def un205 := Tryz.underlying205
theorem sl30 : SlT Tryz.prog 30 5 1 1 (U8 (0)) := ⟨Tryz.underlying30, _, rfl, rfl, by kernel_rfl, by kernel_rfl, rfl⟩
theorem cf167 : Callable Tryz.prog 167 := ⟨_, Tryz.func167, by kernel_rfl, rfl⟩
def un22 := Tryz.underlying22
theorem zr144 : Zr Tryz.prog 144 (.agg (WV (Vector.replicate 4 0))) := zr_of (l := List.replicate 4 (U32 0)) (by simp only [BV_rep, WV_rep, DV_rep, tol_app]) (by kernel_rfl)
theorem cf166 : Callable Tryz.prog 166 := ⟨_, Tryz.func166, by kernel_rfl, rfl⟩
theorem sz72 : Sz Tryz.prog 72 1 := by unfold Sz; kernel_rfl
def un144 := Tryz.underlying144
theorem ag144 : Ag Tryz.prog 144 4 := ⟨⟨_, Tryz.underlying144, rfl⟩, by kernel_rfl⟩
theorem zr22 : Zr Tryz.prog 22 (.agg (BV (Vector.replicate 16 0))) := zr_of (l := List.replicate 16 (U8 0)) (by simp only [BV_rep, WV_rep, DV_rep, tol_app]) (by kernel_rfl)
theorem sc72 : Sc Tryz.prog 72 := ⟨_, Tryz.underlying72, rfl⟩
theorem ag22 : Ag Tryz.prog 22 16 := ⟨⟨_, Tryz.underlying22, rfl⟩, by kernel_rfl⟩
theorem cf198 : Callable Tryz.prog 198 := ⟨_, Tryz.func198, by kernel_rfl, rfl⟩
theorem cf197 : Callable Tryz.prog 197 := ⟨_, Tryz.func197, by kernel_rfl, rfl⟩
theorem cf199 : Callable Tryz.prog 199 := ⟨_, Tryz.func199, by kernel_rfl, rfl⟩
theorem cf165 : Callable Tryz.prog 165 := ⟨_, Tryz.func165, by kernel_rfl, rfl⟩
theorem cf135 : Callable Tryz.prog 135 := ⟨_, Tryz.func135, by kernel_rfl, rfl⟩
theorem cf134 : Callable Tryz.prog 134 := ⟨_, Tryz.func134, by kernel_rfl, rfl⟩
theorem cf133 : Callable Tryz.prog 133 := ⟨_, Tryz.func133, by kernel_rfl, rfl⟩
theorem zr42 : Zr Tryz.prog 42 (.agg (BV (Vector.replicate 176 0))) := zr_of (l := List.replicate 176 (U8 0)) (by simp only [BV_rep, WV_rep, DV_rep, tol_app]) (by kernel_rfl)
theorem ag42 : Ag Tryz.prog 42 176 := ⟨⟨_, Tryz.underlying42, rfl⟩, by kernel_rfl⟩
theorem sz22 : Sz Tryz.prog 22 16 := by unfold Sz; kernel_rfl
def un42 := Tryz.underlying42
theorem cf111 : Callable Tryz.prog 111 := ⟨_, Tryz.func111, by kernel_rfl, rfl⟩
theorem zr205 : Zr Tryz.prog 205 (.agg (BV (Vector.replicate 4 0))) := zr_of (l := List.replicate 4 (U8 0)) (by simp only [BV_rep, WV_rep, DV_rep, tol_app]) (by kernel_rfl)
theorem ag205 : Ag Tryz.prog 205 4 := ⟨⟨_, Tryz.underlying205, rfl⟩, by kernel_rfl⟩
theorem cf138 : Callable Tryz.prog 138 := ⟨_, Tryz.func138, by kernel_rfl, rfl⟩
theorem cf137 : Callable Tryz.prog 137 := ⟨_, Tryz.func137, by kernel_rfl, rfl⟩
theorem cf136 : Callable Tryz.prog 136 := ⟨_, Tryz.func136, by kernel_rfl, rfl⟩
theorem cf112 : Callable Tryz.prog 112 := ⟨_, Tryz.func112, by kernel_rfl, rfl⟩
theorem cf109 : Callable Tryz.prog 109 := ⟨_, Tryz.func109, by kernel_rfl, rfl⟩
theorem zr142 : Zr Tryz.prog 142 (.agg (WV (Vector.replicate 256 0) ++ WV (Vector.replicate 256 0))) := zr_of (l := List.replicate 256 (U32 0) ++ (List.replicate 256 (U32 0))) (by simp only [BV_rep, WV_rep, DV_rep, tol_app]) (by kernel_rfl)
theorem cf108 : Callable Tryz.prog 108 := ⟨_, Tryz.func108, by kernel_rfl, rfl⟩
theorem sz140 : Sz Tryz.prog 140 256 := by unfold Sz; kernel_rfl
def un142 := Tryz.underlying142
def un140 := Tryz.underlying140
theorem ag142 : Ag Tryz.prog 142 512 := ⟨⟨_, Tryz.underlying142, rfl⟩, by kernel_rfl⟩
theorem sc3 : Sc Tryz.prog 3 := ⟨_, Tryz.underlying3, rfl⟩
theorem cf75 : Callable Tryz.prog 75 := ⟨_, Tryz.func75, by kernel_rfl, rfl⟩
theorem sz144 : Sz Tryz.prog 144 4 := by unfold Sz; kernel_rfl
def un145 := Tryz.underlying145
theorem cf129 : Callable Tryz.prog 129 := ⟨_, Tryz.func129, by kernel_rfl, rfl⟩
theorem cf130 : Callable Tryz.prog 130 := ⟨_, Tryz.func130, by kernel_rfl, rfl⟩
theorem cf73 : Callable Tryz.prog 73 := ⟨_, Tryz.func73, by kernel_rfl, rfl⟩
theorem cf74 : Callable Tryz.prog 74 := ⟨_, Tryz.func74, by kernel_rfl, rfl⟩
theorem sz145 : Sz Tryz.prog 145 44 := by unfold Sz; kernel_rfl
def un147 := Tryz.underlying147
theorem cf76 : Callable Tryz.prog 76 := ⟨_, Tryz.func76, by kernel_rfl, rfl⟩
def un79 := Tryz.underlying79
theorem sz4 : Sz Tryz.prog 4 1 := by unfold Sz; kernel_rfl
theorem sc4 : Sc Tryz.prog 4 := ⟨_, Tryz.underlying4, rfl⟩
theorem cf105 : Callable Tryz.prog 105 := ⟨_, Tryz.func105, by kernel_rfl, rfl⟩
theorem sz142 : Sz Tryz.prog 142 512 := by unfold Sz; kernel_rfl
theorem cf106 : Callable Tryz.prog 106 := ⟨_, Tryz.func106, by kernel_rfl, rfl⟩
def un255 := Tryz.underlying255
theorem cf152 : Callable Tryz.prog 152 := ⟨_, Tryz.func152, by kernel_rfl, rfl⟩
def un24 := Tryz.underlying24
def un283 := Tryz.underlying283
theorem cf71 : Callable Tryz.prog 71 := ⟨_, Tryz.func71, by kernel_rfl, rfl⟩
def un139 := Tryz.underlying139
theorem cf72 : Callable Tryz.prog 72 := ⟨_, Tryz.func72, by kernel_rfl, rfl⟩
theorem sz137 : Sz Tryz.prog 137 1024 := by unfold Sz; kernel_rfl
def un137 := Tryz.underlying137
def un77 := Tryz.underlying77
theorem sz79 : Sz Tryz.prog 79 1 := by unfold Sz; kernel_rfl
theorem sc79 : Sc Tryz.prog 79 := ⟨_, Tryz.underlying79, rfl⟩
theorem cf174 : Callable Tryz.prog 174 := ⟨_, Tryz.func174, by kernel_rfl, rfl⟩
theorem cf205 : Callable Tryz.prog 205 := ⟨_, Tryz.func205, by kernel_rfl, rfl⟩
theorem cf202 : Callable Tryz.prog 202 := ⟨_, Tryz.func202, by kernel_rfl, rfl⟩
theorem cf201 : Callable Tryz.prog 201 := ⟨_, Tryz.func201, by kernel_rfl, rfl⟩
theorem cf173 : Callable Tryz.prog 173 := ⟨_, Tryz.func173, by kernel_rfl, rfl⟩
theorem cf143 : Callable Tryz.prog 143 := ⟨_, Tryz.func143, by kernel_rfl, rfl⟩
def un173 := Tryz.underlying173
theorem ag173 : Ag Tryz.prog 173 12 := ⟨⟨_, Tryz.underlying173, rfl⟩, by kernel_rfl⟩
theorem cf200 : Callable Tryz.prog 200 := ⟨_, Tryz.func200, by kernel_rfl, rfl⟩
theorem cf144 : Callable Tryz.prog 144 := ⟨_, Tryz.func144, by kernel_rfl, rfl⟩
theorem zr255 : Zr Tryz.prog 255 (.agg (BV (Vector.replicate 24 0))) := zr_of (l := List.replicate 24 (U8 0)) (by simp only [BV_rep, WV_rep, DV_rep, tol_app]) (by kernel_rfl)
theorem ag255 : Ag Tryz.prog 255 24 := ⟨⟨_, Tryz.underlying255, rfl⟩, by kernel_rfl⟩
theorem cf170 : Callable Tryz.prog 170 := ⟨_, Tryz.func170, by kernel_rfl, rfl⟩
theorem cf169 : Callable Tryz.prog 169 := ⟨_, Tryz.func169, by kernel_rfl, rfl⟩
theorem cf171 : Callable Tryz.prog 171 := ⟨_, Tryz.func171, by kernel_rfl, rfl⟩
theorem cf168 : Callable Tryz.prog 168 := ⟨_, Tryz.func168, by kernel_rfl, rfl⟩
theorem zr166 : Zr Tryz.prog 166 (.agg (BV (Vector.replicate 8 0))) := zr_of (l := List.replicate 8 (U8 0)) (by simp only [BV_rep, WV_rep, DV_rep, tol_app]) (by kernel_rfl)
theorem cf84 : Callable Tryz.prog 84 := ⟨_, Tryz.func84, by kernel_rfl, rfl⟩
def un166 := Tryz.underlying166
theorem ag166 : Ag Tryz.prog 166 8 := ⟨⟨_, Tryz.underlying166, rfl⟩, by kernel_rfl⟩
theorem cf92 : Callable Tryz.prog 92 := ⟨_, Tryz.func92, by kernel_rfl, rfl⟩
theorem zr173 : Zr Tryz.prog 173 (.agg (BV (Vector.replicate 12 0))) := zr_of (l := List.replicate 12 (U8 0)) (by simp only [BV_rep, WV_rep, DV_rep, tol_app]) (by kernel_rfl)
theorem cf40 : Callable Tryz.prog 40 := ⟨_, Tryz.func40, by kernel_rfl, rfl⟩
theorem sz3 : Sz Tryz.prog 3 1 := by unfold Sz; kernel_rfl
def un100 := Tryz.underlying100
theorem cc33 : Tryz.prog.concrete 33 = true := by kernel_rfl
theorem sz24 : Sz Tryz.prog 24 1 := by unfold Sz; kernel_rfl
theorem sc24 : Sc Tryz.prog 24 := ⟨_, Tryz.underlying24, rfl⟩
theorem sz30 : Sz Tryz.prog 30 1 := by unfold Sz; kernel_rfl
theorem sc30 : Sc Tryz.prog 30 := ⟨_, Tryz.underlying30, rfl⟩
theorem zr262 : Zr Tryz.prog 262 (.agg (BV (Vector.replicate 16 0) ++ BV (Vector.replicate 16 0))) := zr_of (l := List.replicate 16 (U8 0) ++ (List.replicate 16 (U8 0))) (by simp only [BV_rep, WV_rep, DV_rep, tol_app]) (by kernel_rfl)
def un262 := Tryz.underlying262
theorem cf142 : Callable Tryz.prog 142 := ⟨_, Tryz.func142, by kernel_rfl, rfl⟩
theorem ag262 : Ag Tryz.prog 262 32 := ⟨⟨_, Tryz.underlying262, rfl⟩, by kernel_rfl⟩
theorem cf146 : Callable Tryz.prog 146 := ⟨_, Tryz.func146, by kernel_rfl, rfl⟩
theorem cf145 : Callable Tryz.prog 145 := ⟨_, Tryz.func145, by kernel_rfl, rfl⟩
theorem zr3 : Zr Tryz.prog 3 (I (0)) := by unfold Zr; kernel_rfl
theorem cf141 : Callable Tryz.prog 141 := ⟨_, Tryz.func141, by kernel_rfl, rfl⟩
theorem cf172 : Callable Tryz.prog 172 := ⟨_, Tryz.func172, by kernel_rfl, rfl⟩
theorem sc77 : Sc Tryz.prog 77 := ⟨_, Tryz.underlying77, rfl⟩
theorem cf175 : Callable Tryz.prog 175 := ⟨_, Tryz.func175, by kernel_rfl, rfl⟩
theorem cf176 : Callable Tryz.prog 176 := ⟨_, Tryz.func176, by kernel_rfl, rfl⟩
theorem cf147 : Callable Tryz.prog 147 := ⟨_, Tryz.func147, by kernel_rfl, rfl⟩
theorem cf148 : Callable Tryz.prog 148 := ⟨_, Tryz.func148, by kernel_rfl, rfl⟩
theorem zr30 : Zr Tryz.prog 30 ((.slice none 0 0)) := by unfold Zr; kernel_rfl
theorem cf139 : Callable Tryz.prog 139 := ⟨_, Tryz.func139, by kernel_rfl, rfl⟩
theorem zr230 : Zr Tryz.prog 230 (.nilFunc) := by unfold Zr; kernel_rfl
theorem sz230 : Sz Tryz.prog 230 1 := by unfold Sz; kernel_rfl
theorem sc230 : Sc Tryz.prog 230 := ⟨_, Tryz.underlying230, rfl⟩
theorem cf140 : Callable Tryz.prog 140 := ⟨_, Tryz.func140, by kernel_rfl, rfl⟩
theorem cf116 : Callable Tryz.prog 116 := ⟨_, Tryz.func116, by kernel_rfl, rfl⟩
theorem cf117 : Callable Tryz.prog 117 := ⟨_, Tryz.func117, by kernel_rfl, rfl⟩
theorem zr241 : Zr Tryz.prog 241 (.nilFunc) := by unfold Zr; kernel_rfl
theorem sz241 : Sz Tryz.prog 241 1 := by unfold Sz; kernel_rfl
theorem cf151 : Callable Tryz.prog 151 := ⟨_, Tryz.func151, by kernel_rfl, rfl⟩
theorem sc241 : Sc Tryz.prog 241 := ⟨_, Tryz.underlying241, rfl⟩
theorem cf150 : Callable Tryz.prog 150 := ⟨_, Tryz.func150, by kernel_rfl, rfl⟩
theorem cf121 : Callable Tryz.prog 121 := ⟨_, Tryz.func121, by kernel_rfl, rfl⟩
theorem cf122 : Callable Tryz.prog 122 := ⟨_, Tryz.func122, by kernel_rfl, rfl⟩
def un208 := Tryz.underlying208
theorem cf115 : Callable Tryz.prog 115 := ⟨_, Tryz.func115, by kernel_rfl, rfl⟩
theorem ag100 : Ag Tryz.prog 100 5 := ⟨⟨_, Tryz.underlying100, rfl⟩, by kernel_rfl⟩
theorem cf81 : Callable Tryz.prog 81 := ⟨_, Tryz.func81, by kernel_rfl, rfl⟩
def un27 := Tryz.underlying27
theorem cf82 : Callable Tryz.prog 82 := ⟨_, Tryz.func82, by kernel_rfl, rfl⟩
theorem sz36 : Sz Tryz.prog 36 1 := by unfold Sz; kernel_rfl
theorem sc36 : Sc Tryz.prog 36 := ⟨_, Tryz.underlying36, rfl⟩
def un36 := Tryz.underlying36
theorem sl208 : SlT Tryz.prog 208 30 1 24 ((.slice none 0 0)) := ⟨Tryz.underlying208, _, rfl, rfl, by kernel_rfl, by kernel_rfl, rfl⟩
theorem cf83 : Callable Tryz.prog 83 := ⟨_, Tryz.func83, by kernel_rfl, rfl⟩
theorem cf86 : Callable Tryz.prog 86 := ⟨_, Tryz.func86, by kernel_rfl, rfl⟩
theorem cf85 : Callable Tryz.prog 85 := ⟨_, Tryz.func85, by kernel_rfl, rfl⟩
theorem zr100 : Zr Tryz.prog 100 (.agg (#[I (0), U64 (0), U16 (0), U16 (0), (.slice none 0 0)])) := zr_of (l := [I (0), U64 (0), U16 (0), U16 (0), (.slice none 0 0)]) (rfl) (by kernel_rfl)
theorem cf89 : Callable Tryz.prog 89 := ⟨_, Tryz.func89, by kernel_rfl, rfl⟩
theorem cf90 : Callable Tryz.prog 90 := ⟨_, Tryz.func90, by kernel_rfl, rfl⟩
theorem cf91 : Callable Tryz.prog 91 := ⟨_, Tryz.func91, by kernel_rfl, rfl⟩
theorem zr240 : Zr Tryz.prog 240 (.agg (NV (Vector.replicate 15 0))) := zr_of (l := List.replicate 15 (I 0)) (by simp only [BV_rep, WV_rep, DV_rep, NV_rep, tol_app]) (by kernel_rfl)
def un240 := Tryz.underlying240
theorem cf119 : Callable Tryz.prog 119 := ⟨_, Tryz.func119, by kernel_rfl, rfl⟩
theorem cf120 : Callable Tryz.prog 120 := ⟨_, Tryz.func120, by kernel_rfl, rfl⟩
theorem zr268 : Zr Tryz.prog 268 (.agg (BV (Vector.replicate 16 0))) := zr_of (l := List.replicate 16 (U8 0)) (by simp only [BV_rep, WV_rep, DV_rep, tol_app]) (by kernel_rfl)
theorem sz205 : Sz Tryz.prog 205 4 := by unfold Sz; kernel_rfl
def un268 := Tryz.underlying268
theorem ag268 : Ag Tryz.prog 268 16 := ⟨⟨_, Tryz.underlying268, rfl⟩, by kernel_rfl⟩
theorem cf184 : Callable Tryz.prog 184 := ⟨_, Tryz.func184, by kernel_rfl, rfl⟩
theorem zr213 : Zr Tryz.prog 213 (.agg (BV (Vector.replicate 176 0))) := zr_of (l := List.replicate 176 (U8 0)) (by simp only [BV_rep, WV_rep, DV_rep, tol_app]) (by kernel_rfl)
theorem cf88 : Callable Tryz.prog 88 := ⟨_, Tryz.func88, by kernel_rfl, rfl⟩
def un213 := Tryz.underlying213
theorem cf149 : Callable Tryz.prog 149 := ⟨_, Tryz.func149, by kernel_rfl, rfl⟩
theorem ag213 : Ag Tryz.prog 213 176 := ⟨⟨_, Tryz.underlying213, rfl⟩, by kernel_rfl⟩
theorem cf118 : Callable Tryz.prog 118 := ⟨_, Tryz.func118, by kernel_rfl, rfl⟩
theorem zr45 : Zr Tryz.prog 45 (.agg (BV (Vector.replicate 176 0) ++ BV (Vector.replicate 256 0))) := zr_of (l := List.replicate 176 (U8 0) ++ (List.replicate 256 (U8 0))) (by simp only [BV_rep, WV_rep, DV_rep, tol_app]) (by kernel_rfl)
theorem cf87 : Callable Tryz.prog 87 := ⟨_, Tryz.func87, by kernel_rfl, rfl⟩
theorem ag45 : Ag Tryz.prog 45 432 := ⟨⟨_, Tryz.underlying45, rfl⟩, by kernel_rfl⟩
theorem sz42 : Sz Tryz.prog 42 176 := by unfold Sz; kernel_rfl
def un45 := Tryz.underlying45
theorem cf185 : Callable Tryz.prog 185 := ⟨_, Tryz.func185, by kernel_rfl, rfl⟩
theorem sz43 : Sz Tryz.prog 43 256 := by unfold Sz; kernel_rfl
theorem cf188 : Callable Tryz.prog 188 := ⟨_, Tryz.func188, by kernel_rfl, rfl⟩
theorem cf187 : Callable Tryz.prog 187 := ⟨_, Tryz.func187, by kernel_rfl, rfl⟩
theorem cf190 : Callable Tryz.prog 190 := ⟨_, Tryz.func190, by kernel_rfl, rfl⟩
theorem cf189 : Callable Tryz.prog 189 := ⟨_, Tryz.func189, by kernel_rfl, rfl⟩
theorem cf183 : Callable Tryz.prog 183 := ⟨_, Tryz.func183, by kernel_rfl, rfl⟩
theorem cf186 : Callable Tryz.prog 186 := ⟨_, Tryz.func186, by kernel_rfl, rfl⟩
theorem sl274 : SlT Tryz.prog 274 3 1 8 (I (0)) := ⟨Tryz.underlying274, _, rfl, rfl, by kernel_rfl, by kernel_rfl, rfl⟩
def un274 := Tryz.underlying274
theorem cf191 : Callable Tryz.prog 191 := ⟨_, Tryz.func191, by kernel_rfl, rfl⟩
theorem cf192 : Callable Tryz.prog 192 := ⟨_, Tryz.func192, by kernel_rfl, rfl⟩
theorem cf159 : Callable Tryz.prog 159 := ⟨_, Tryz.func159, by kernel_rfl, rfl⟩
theorem cf161 : Callable Tryz.prog 161 := ⟨_, Tryz.func161, by kernel_rfl, rfl⟩
theorem cf182 : Callable Tryz.prog 182 := ⟨_, Tryz.func182, by kernel_rfl, rfl⟩
theorem cf181 : Callable Tryz.prog 181 := ⟨_, Tryz.func181, by kernel_rfl, rfl⟩
theorem cf179 : Callable Tryz.prog 179 := ⟨_, Tryz.func179, by kernel_rfl, rfl⟩
theorem cf178 : Callable Tryz.prog 178 := ⟨_, Tryz.func178, by kernel_rfl, rfl⟩
theorem cf180 : Callable Tryz.prog 180 := ⟨_, Tryz.func180, by kernel_rfl, rfl⟩
theorem cf177 : Callable Tryz.prog 177 := ⟨_, Tryz.func177, by kernel_rfl, rfl⟩
theorem cf153 : Callable Tryz.prog 153 := ⟨_, Tryz.func153, by kernel_rfl, rfl⟩
theorem cf156 : Callable Tryz.prog 156 := ⟨_, Tryz.func156, by kernel_rfl, rfl⟩
theorem cf155 : Callable Tryz.prog 155 := ⟨_, Tryz.func155, by kernel_rfl, rfl⟩
theorem cf158 : Callable Tryz.prog 158 := ⟨_, Tryz.func158, by kernel_rfl, rfl⟩
theorem cf160 : Callable Tryz.prog 160 := ⟨_, Tryz.func160, by kernel_rfl, rfl⟩
theorem zr217 : Zr Tryz.prog 217 (.agg (#[(.slice none 0 0)] ++ (BV (Vector.replicate 16 0) ++ BV (Vector.replicate 16 0)))) := zr_of (l := [(.slice none 0 0)] ++ (List.replicate 16 (U8 0) ++ (List.replicate 16 (U8 0)))) (by simp only [BV_rep, WV_rep, DV_rep, tol_app]) (by kernel_rfl)
theorem cf154 : Callable Tryz.prog 154 := ⟨_, Tryz.func154, by kernel_rfl, rfl⟩
theorem ag217 : Ag Tryz.prog 217 33 := ⟨⟨_, Tryz.underlying217, rfl⟩, by kernel_rfl⟩
def un217 := Tryz.underlying217
theorem cf162 : Callable Tryz.prog 162 := ⟨_, Tryz.func162, by kernel_rfl, rfl⟩
theorem cf125 : Callable Tryz.prog 125 := ⟨_, Tryz.func125, by kernel_rfl, rfl⟩
theorem cf126 : Callable Tryz.prog 126 := ⟨_, Tryz.func126, by kernel_rfl, rfl⟩
theorem cf157 : Callable Tryz.prog 157 := ⟨_, Tryz.func157, by kernel_rfl, rfl⟩
theorem cf123 : Callable Tryz.prog 123 := ⟨_, Tryz.func123, by kernel_rfl, rfl⟩
theorem cf101 : Callable Tryz.prog 101 := ⟨_, Tryz.func101, by kernel_rfl, rfl⟩
theorem cf19 : Callable Tryz.prog 19 := ⟨_, Tryz.func19, by kernel_rfl, rfl⟩
theorem cf124 : Callable Tryz.prog 124 := ⟨_, Tryz.func124, by kernel_rfl, rfl⟩
theorem cf100 : Callable Tryz.prog 100 := ⟨_, Tryz.func100, by kernel_rfl, rfl⟩
theorem cf96 : Callable Tryz.prog 96 := ⟨_, Tryz.func96, by kernel_rfl, rfl⟩
theorem cf11 : Callable Tryz.prog 11 := ⟨_, Tryz.func11, by kernel_rfl, rfl⟩
theorem cf95 : Callable Tryz.prog 95 := ⟨_, Tryz.func95, by kernel_rfl, rfl⟩
theorem cf114 : Callable Tryz.prog 114 := ⟨_, Tryz.func114, by kernel_rfl, rfl⟩
theorem cf93 : Callable Tryz.prog 93 := ⟨_, Tryz.func93, by kernel_rfl, rfl⟩
theorem cf94 : Callable Tryz.prog 94 := ⟨_, Tryz.func94, by kernel_rfl, rfl⟩
def un164 := Tryz.underlying164
def un85 := Tryz.underlying85
theorem sz156 : Sz Tryz.prog 156 1 := by unfold Sz; kernel_rfl
def un158 := Tryz.underlying158
theorem sc156 : Sc Tryz.prog 156 := ⟨_, Tryz.underlying156, rfl⟩
def un156 := Tryz.underlying156
theorem ag164 : Ag Tryz.prog 164 2 := ⟨⟨_, Tryz.underlying164, rfl⟩, by kernel_rfl⟩
theorem cf113 : Callable Tryz.prog 113 := ⟨_, Tryz.func113, by kernel_rfl, rfl⟩
theorem cf79 : Callable Tryz.prog 79 := ⟨_, Tryz.func79, by kernel_rfl, rfl⟩
theorem cf80 : Callable Tryz.prog 80 := ⟨_, Tryz.func80, by kernel_rfl, rfl⟩
def un175 := Tryz.underlying175
def un88 := Tryz.underlying88
def un81 := Tryz.underlying81
def un151 := Tryz.underlying151
theorem cf77 : Callable Tryz.prog 77 := ⟨_, Tryz.func77, by kernel_rfl, rfl⟩
theorem cf33 : Callable Tryz.prog 33 := ⟨_, Tryz.func33, by kernel_rfl, rfl⟩
def un83 := Tryz.underlying83
def un155 := Tryz.underlying155
theorem sz153 : Sz Tryz.prog 153 2 := by unfold Sz; kernel_rfl
def un153 := Tryz.underlying153
theorem cf52 : Callable Tryz.prog 52 := ⟨_, Tryz.func52, by kernel_rfl, rfl⟩
def un9 := Tryz.underlying9
theorem cf194 : Callable Tryz.prog 194 := ⟨_, Tryz.func194, by kernel_rfl, rfl⟩
def un21 := Tryz.underlying21
theorem cf193 : Callable Tryz.prog 193 := ⟨_, Tryz.func193, by kernel_rfl, rfl⟩
theorem cf163 : Callable Tryz.prog 163 := ⟨_, Tryz.func163, by kernel_rfl, rfl⟩
theorem cf127 : Callable Tryz.prog 127 := ⟨_, Tryz.func127, by kernel_rfl, rfl⟩
theorem cf103 : Callable Tryz.prog 103 := ⟨_, Tryz.func103, by kernel_rfl, rfl⟩
theorem cf102 : Callable Tryz.prog 102 := ⟨_, Tryz.func102, by kernel_rfl, rfl⟩
theorem cf104 : Callable Tryz.prog 104 := ⟨_, Tryz.func104, by kernel_rfl, rfl⟩
theorem cf70 : Callable Tryz.prog 70 := ⟨_, Tryz.func70, by kernel_rfl, rfl⟩
theorem sz9 : Sz Tryz.prog 9 1 := by unfold Sz; kernel_rfl
def un135 := Tryz.underlying135
theorem cf24 : Callable Tryz.prog 24 := ⟨_, Tryz.func24, by kernel_rfl, rfl⟩
def un76 := Tryz.underlying76
theorem sc9 : Sc Tryz.prog 9 := ⟨_, Tryz.underlying9, rfl⟩
theorem sz133 : Sz Tryz.prog 133 1 := by unfold Sz; kernel_rfl
theorem sc133 : Sc Tryz.prog 133 := ⟨_, Tryz.underlying133, rfl⟩
theorem mk133 : MapKey Tryz.prog 184 encS := mkeyS (st := 9) Tryz.underlying184 (by decide) rfl rfl Tryz.underlying9 ⟨_, Tryz.underlying9, rfl⟩ (by kernel_rfl)
def un133 := Tryz.underlying133
def un160 := Tryz.underlying160
theorem sz95 : Sz Tryz.prog 95 1 := by unfold Sz; kernel_rfl
theorem sc95 : Sc Tryz.prog 95 := ⟨_, Tryz.underlying95, rfl⟩
theorem sc33 : Sc Tryz.prog 33 := ⟨_, Tryz.underlying33, rfl⟩
theorem sc25 : Sc Tryz.prog 25 := ⟨_, Tryz.underlying25, rfl⟩
theorem sz81 : Sz Tryz.prog 81 1 := by unfold Sz; kernel_rfl
def un90 := Tryz.underlying90
theorem sc81 : Sc Tryz.prog 81 := ⟨_, Tryz.underlying81, rfl⟩
theorem sc27 : Sc Tryz.prog 27 := ⟨_, Tryz.underlying27, rfl⟩
def un25 := Tryz.underlying25
theorem sz76 : Sz Tryz.prog 76 1 := by unfold Sz; kernel_rfl
theorem sc76 : Sc Tryz.prog 76 := ⟨_, Tryz.underlying76, rfl⟩
theorem cf31 : Callable Tryz.prog 31 := ⟨_, Tryz.func31, by kernel_rfl, rfl⟩
theorem cf35 : Callable Tryz.prog 35 := ⟨_, Tryz.func35, by kernel_rfl, rfl⟩
theorem sl160 : SlT Tryz.prog 160 95 1 8 (.nilFunc) := ⟨Tryz.underlying160, _, rfl, rfl, by kernel_rfl, by kernel_rfl, rfl⟩
theorem cf34 : Callable Tryz.prog 34 := ⟨_, Tryz.func34, by kernel_rfl, rfl⟩
theorem cf32 : Callable Tryz.prog 32 := ⟨_, Tryz.func32, by kernel_rfl, rfl⟩
theorem cf78 : Callable Tryz.prog 78 := ⟨_, Tryz.func78, by kernel_rfl, rfl⟩
theorem cf36 : Callable Tryz.prog 36 := ⟨_, Tryz.func36, by kernel_rfl, rfl⟩
theorem sz85 : Sz Tryz.prog 85 1 := by unfold Sz; kernel_rfl
theorem sc85 : Sc Tryz.prog 85 := ⟨_, Tryz.underlying85, rfl⟩
theorem cf37 : Callable Tryz.prog 37 := ⟨_, Tryz.func37, by kernel_rfl, rfl⟩
theorem cf38 : Callable Tryz.prog 38 := ⟨_, Tryz.func38, by kernel_rfl, rfl⟩
theorem sz77 : Sz Tryz.prog 77 1 := by unfold Sz; kernel_rfl
theorem cf39 : Callable Tryz.prog 39 := ⟨_, Tryz.func39, by kernel_rfl, rfl⟩
theorem zr27 : Zr Tryz.prog 27 (.nilIface) := by unfold Zr; kernel_rfl
theorem sz27 : Sz Tryz.prog 27 1 := by unfold Sz; kernel_rfl
theorem cf50 : Callable Tryz.prog 50 := ⟨_, Tryz.func50, by kernel_rfl, rfl⟩
theorem sz83 : Sz Tryz.prog 83 1 := by unfold Sz; kernel_rfl
theorem sc83 : Sc Tryz.prog 83 := ⟨_, Tryz.underlying83, rfl⟩
theorem cf51 : Callable Tryz.prog 51 := ⟨_, Tryz.func51, by kernel_rfl, rfl⟩
theorem cf53 : Callable Tryz.prog 53 := ⟨_, Tryz.func53, by kernel_rfl, rfl⟩
theorem cf54 : Callable Tryz.prog 54 := ⟨_, Tryz.func54, by kernel_rfl, rfl⟩
theorem cf55 : Callable Tryz.prog 55 := ⟨_, Tryz.func55, by kernel_rfl, rfl⟩
theorem cf56 : Callable Tryz.prog 56 := ⟨_, Tryz.func56, by kernel_rfl, rfl⟩
theorem sz88 : Sz Tryz.prog 88 3 := by unfold Sz; kernel_rfl
theorem cf57 : Callable Tryz.prog 57 := ⟨_, Tryz.func57, by kernel_rfl, rfl⟩
theorem cf58 : Callable Tryz.prog 58 := ⟨_, Tryz.func58, by kernel_rfl, rfl⟩
theorem cf25 : Callable Tryz.prog 25 := ⟨_, Tryz.func25, by kernel_rfl, rfl⟩
theorem cf27 : Callable Tryz.prog 27 := ⟨_, Tryz.func27, by kernel_rfl, rfl⟩
theorem cf26 : Callable Tryz.prog 26 := ⟨_, Tryz.func26, by kernel_rfl, rfl⟩
theorem cf28 : Callable Tryz.prog 28 := ⟨_, Tryz.func28, by kernel_rfl, rfl⟩
theorem cf29 : Callable Tryz.prog 29 := ⟨_, Tryz.func29, by kernel_rfl, rfl⟩
theorem cf30 : Callable Tryz.prog 30 := ⟨_, Tryz.func30, by kernel_rfl, rfl⟩
theorem zr38 : Zr Tryz.prog 38 (.agg (#[U64 (0), U64 (0), .bool (false), I (0), I (0), Str ([]), I (0), I (0), U16 (0), .bool (false)])) := zr_of (l := [U64 (0), U64 (0), .bool (false), I (0), I (0), Str ([]), I (0), I (0), U16 (0), .bool (false)]) (rfl) (by kernel_rfl)
theorem cf41 : Callable Tryz.prog 41 := ⟨_, Tryz.func41, by kernel_rfl, rfl⟩
theorem cf42 : Callable Tryz.prog 42 := ⟨_, Tryz.func42, by kernel_rfl, rfl⟩
theorem cf43 : Callable Tryz.prog 43 := ⟨_, Tryz.func43, by kernel_rfl, rfl⟩
theorem ag38 : Ag Tryz.prog 38 10 := ⟨⟨_, Tryz.underlying38, rfl⟩, by kernel_rfl⟩
theorem cf44 : Callable Tryz.prog 44 := ⟨_, Tryz.func44, by kernel_rfl, rfl⟩
def un38 := Tryz.underlying38
theorem cf45 : Callable Tryz.prog 45 := ⟨_, Tryz.func45, by kernel_rfl, rfl⟩
theorem cf46 : Callable Tryz.prog 46 := ⟨_, Tryz.func46, by kernel_rfl, rfl⟩
theorem cf69 : Callable Tryz.prog 69 := ⟨_, Tryz.func69, by kernel_rfl, rfl⟩
theorem cf97 : Callable Tryz.prog 97 := ⟨_, Tryz.func97, by kernel_rfl, rfl⟩
theorem zr47 : Zr Tryz.prog 47 (.agg (#[U64 (0), U64 (0), .bool (false)])) := zr_of (l := [U64 (0), U64 (0), .bool (false)]) (rfl) (by kernel_rfl)
theorem ag47 : Ag Tryz.prog 47 3 := ⟨⟨_, Tryz.underlying47, rfl⟩, by kernel_rfl⟩
def un47 := Tryz.underlying47
def un48 := Tryz.underlying48
def un50 := Tryz.underlying50
theorem ag50 : Ag Tryz.prog 50 3 := ⟨⟨_, Tryz.underlying50, rfl⟩, by kernel_rfl⟩
theorem cf99 : Callable Tryz.prog 99 := ⟨_, Tryz.func99, by kernel_rfl, rfl⟩
theorem cf98 : Callable Tryz.prog 98 := ⟨_, Tryz.func98, by kernel_rfl, rfl⟩
def un51 := Tryz.underlying51
theorem cf63 : Callable Tryz.prog 63 := ⟨_, Tryz.func63, by kernel_rfl, rfl⟩
theorem zr53 : Zr Tryz.prog 53 (.agg (BV (Vector.replicate 176 0) ++ (BV (Vector.replicate 256 0) ++ #[I (0), U64 (0), U64 (0), .bool (false), (.slice none 0 0), I (0), .bool (false), I (0), U64 (0), (.slice none 0 0), Str ([]), I (0), .bool (false)]))) := zr_of (l := List.replicate 176 (U8 0) ++ (List.replicate 256 (U8 0) ++ ([I (0), U64 (0), U64 (0), .bool (false), (.slice none 0 0), I (0), .bool (false), I (0), U64 (0), (.slice none 0 0), Str ([]), I (0), .bool (false)]))) (by simp only [BV_rep, WV_rep, DV_rep, tol_app]) (by kernel_rfl)
theorem cf47 : Callable Tryz.prog 47 := ⟨_, Tryz.func47, by kernel_rfl, rfl⟩
theorem cf48 : Callable Tryz.prog 48 := ⟨_, Tryz.func48, by kernel_rfl, rfl⟩
theorem cf49 : Callable Tryz.prog 49 := ⟨_, Tryz.func49, by kernel_rfl, rfl⟩
theorem ag53 : Ag Tryz.prog 53 445 := ⟨⟨_, Tryz.underlying53, rfl⟩, by kernel_rfl⟩
theorem sz47 : Sz Tryz.prog 47 3 := by unfold Sz; kernel_rfl
def un53 := Tryz.underlying53
theorem cf64 : Callable Tryz.prog 64 := ⟨_, Tryz.func64, by kernel_rfl, rfl⟩
theorem cf62 : Callable Tryz.prog 62 := ⟨_, Tryz.func62, by kernel_rfl, rfl⟩
theorem sz50 : Sz Tryz.prog 50 3 := by unfold Sz; kernel_rfl
theorem cf65 : Callable Tryz.prog 65 := ⟨_, Tryz.func65, by kernel_rfl, rfl⟩
theorem sz45 : Sz Tryz.prog 45 432 := by unfold Sz; kernel_rfl
theorem cf66 : Callable Tryz.prog 66 := ⟨_, Tryz.func66, by kernel_rfl, rfl⟩
theorem cf59 : Callable Tryz.prog 59 := ⟨_, Tryz.func59, by kernel_rfl, rfl⟩
theorem sz48 : Sz Tryz.prog 48 1 := by unfold Sz; kernel_rfl
theorem sc48 : Sc Tryz.prog 48 := ⟨_, Tryz.underlying48, rfl⟩
theorem cf60 : Callable Tryz.prog 60 := ⟨_, Tryz.func60, by kernel_rfl, rfl⟩
theorem sl48 : SlT Tryz.prog 48 24 1 8 (U64 (0)) := ⟨Tryz.underlying48, _, rfl, rfl, by kernel_rfl, by kernel_rfl, rfl⟩
theorem cf61 : Callable Tryz.prog 61 := ⟨_, Tryz.func61, by kernel_rfl, rfl⟩
theorem sl51 : SlT Tryz.prog 51 36 1 2 (U16 (0)) := ⟨Tryz.underlying51, _, rfl, rfl, by kernel_rfl, by kernel_rfl, rfl⟩
theorem sz51 : Sz Tryz.prog 51 1 := by unfold Sz; kernel_rfl
theorem sc51 : Sc Tryz.prog 51 := ⟨_, Tryz.underlying51, rfl⟩
theorem ec33 : Ec Tryz.prog 33 := ⟨by kernel_rfl, _, Tryz.underlying33⟩
theorem cf9 : Callable Tryz.prog 9 := ⟨_, Tryz.func9, by kernel_rfl, rfl⟩
theorem cf10 : Callable Tryz.prog 10 := ⟨_, Tryz.func10, by kernel_rfl, rfl⟩
theorem cf14 : Callable Tryz.prog 14 := ⟨_, Tryz.func14, by kernel_rfl, rfl⟩
theorem cf12 : Callable Tryz.prog 12 := ⟨_, Tryz.func12, by kernel_rfl, rfl⟩
theorem cf8 : Callable Tryz.prog 8 := ⟨_, Tryz.func8, by kernel_rfl, rfl⟩
theorem cf16 : Callable Tryz.prog 16 := ⟨_, Tryz.func16, by kernel_rfl, rfl⟩
theorem cf23 : Callable Tryz.prog 23 := ⟨_, Tryz.func23, by kernel_rfl, rfl⟩
theorem zr147 : Zr Tryz.prog 147 (.agg (#[.bool (false)] ++ (WV (Vector.replicate 44 0) ++ (WV (Vector.replicate 44 0) ++ (BV (Vector.replicate 16 0) ++ (WV (Vector.replicate 256 0) ++ WV (Vector.replicate 256 0))))))) := zr_of (l := [.bool (false)] ++ (List.replicate 44 (U32 0) ++ (List.replicate 44 (U32 0) ++ (List.replicate 16 (U8 0) ++ (List.replicate 256 (U32 0) ++ (List.replicate 256 (U32 0))))))) (by simp only [BV_rep, WV_rep, DV_rep, tol_app]) (by kernel_rfl)
theorem zr139 : Zr Tryz.prog 139 (.agg (#[(.pointer none)] ++ (BV (Vector.replicate 16 0) ++ (BV (Vector.replicate 16 0) ++ BV (Vector.replicate 1024 0))))) := zr_of (l := [(.pointer none)] ++ (List.replicate 16 (U8 0) ++ (List.replicate 16 (U8 0) ++ (List.replicate 1024 (U8 0))))) (by simp only [BV_rep, WV_rep, DV_rep, tol_app]) (by kernel_rfl)
theorem bu42 (parts : List (Nat × Value)) : Tryz.prog.built 42 parts = Instr.fill (fun i => some (i * 16, 16)) (BV (Vector.replicate 176 0)) parts := bu_a zr42 Tryz.underlying42 sz22 parts
theorem bu147 (parts : List (Nat × Value)) : Tryz.prog.built 147 parts = Instr.fill (fun i => ([(0, 1), (1, 44), (45, 44), (89, 16), (105, 512)] : List (Nat × Nat)).toArray[i]?) (#[.bool (false)] ++ (WV (Vector.replicate 44 0) ++ (WV (Vector.replicate 44 0) ++ (BV (Vector.replicate 16 0) ++ (WV (Vector.replicate 256 0) ++ WV (Vector.replicate 256 0)))))) parts := bu_s zr147 Tryz.underlying147 (by kernel_rfl) parts
theorem bu139 (parts : List (Nat × Value)) : Tryz.prog.built 139 parts = Instr.fill (fun i => ([(0, 1), (1, 16), (17, 16), (33, 1024)] : List (Nat × Nat)).toArray[i]?) (#[(.pointer none)] ++ (BV (Vector.replicate 16 0) ++ (BV (Vector.replicate 16 0) ++ BV (Vector.replicate 1024 0)))) parts := bu_s zr139 Tryz.underlying139 (by kernel_rfl) parts
theorem bu22 (parts : List (Nat × Value)) : Tryz.prog.built 22 parts = Instr.fill (fun i => some (i * 1, 1)) (BV (Vector.replicate 16 0)) parts := bu_a zr22 Tryz.underlying22 sz5 parts
theorem bu45 (parts : List (Nat × Value)) : Tryz.prog.built 45 parts = Instr.fill (fun i => ([(0, 176), (176, 256)] : List (Nat × Nat)).toArray[i]?) (BV (Vector.replicate 176 0) ++ BV (Vector.replicate 256 0)) parts := bu_s zr45 Tryz.underlying45 (by kernel_rfl) parts
theorem bu217 (parts : List (Nat × Value)) : Tryz.prog.built 217 parts = Instr.fill (fun i => ([(0, 1), (1, 16), (17, 16)] : List (Nat × Nat)).toArray[i]?) (#[(.slice none 0 0)] ++ (BV (Vector.replicate 16 0) ++ BV (Vector.replicate 16 0))) parts := bu_s zr217 Tryz.underlying217 (by kernel_rfl) parts
theorem bu53 (parts : List (Nat × Value)) : Tryz.prog.built 53 parts = Instr.fill (fun i => ([(0, 432), (432, 1), (433, 3), (436, 1), (437, 1), (438, 3), (441, 1), (442, 1), (443, 1), (444, 1)] : List (Nat × Nat)).toArray[i]?) (BV (Vector.replicate 176 0) ++ (BV (Vector.replicate 256 0) ++ #[I (0), U64 (0), U64 (0), .bool (false), (.slice none 0 0), I (0), .bool (false), I (0), U64 (0), (.slice none 0 0), Str ([]), I (0), .bool (false)])) parts := bu_s zr53 Tryz.underlying53 (by kernel_rfl) parts
end Go.Proofs.XS
set_option maxRecDepth 100000
set_option maxRecDepth 1000000
namespace Go.Proofs.XS
open Go Go.X Go.Proofs
theorem cf13 : Callable Tryz.prog 13 := ⟨_, Tryz.func13, by kernel_rfl, rfl⟩
theorem cf17 : Callable Tryz.prog 17 := ⟨_, Tryz.func17, by kernel_rfl, rfl⟩
theorem cf15 : Callable Tryz.prog 15 := ⟨_, Tryz.func15, by kernel_rfl, rfl⟩
end Go.Proofs.XS
set_option maxRecDepth 100000
set_option maxRecDepth 1000000
namespace Go.Proofs.XS
open Go Go.X Go.Proofs
theorem cf18 : Callable Tryz.prog 18 := ⟨_, Tryz.func18, by kernel_rfl, rfl⟩
end Go.Proofs.XS
set_option maxRecDepth 100000
namespace Go.X
open Go
section
variable {P : Program} {ops : Array Oper} {n : Nat} {l : Regs} {w w0 w' : World} {K : Regs → World → Prop} {F : List Nat} {L A R X Y : List (Nat × Obj)}
variable {d T S : Nat} {ps : String} {af : Array Edge} {g : Option (Nat × Bool)} {x y : Operand} {v u : Value}
theorem rgs {p : List UInt8} (hu : P.underlying S = some .string) (hS : St w0 F L w) (hg : gval ops l ⟨some d, .range S x, T, ps, af, g⟩ = some true) (hd : Nat.blt d n = true) (hx : ev l x = some (Str p))
    (k : ∀ b w', w0.heap.size ≤ b → St w0 F ((b, .stringIter ⟨p.toArray⟩ 0) :: L) w' → K ((d, Ptr b 0) :: l) w') : WO P ops n ⟨some d, .range S x, T, ps, af, g⟩ l w K :=
  WO.val hg hd (fun a ha => by
    simp only [execOp, ha.ev hx, Str, Instr.range, Sem.run_bind, run_underlying hu, Result.andThen_ok, Sem.run_pure, run_newObj_alloc]) (k w.heap.size _ hS.size (hS.alloc _))
theorem nxt {s : ByteArray} {b pos : Nat} (i : Nat) (hS : St w0 F L w) (hg : gval ops l ⟨some d, .next x true, T, ps, af, g⟩ = some true) (hd : Nat.blt d n = true) (hx : ev l x = some (Ptr b 0)) (hi : L[i]? = some (b, .stringIter s pos)) (hp : pos < s.size)
    (k : ∀ w', St w0 F (L.set i (b, .stringIter s (pos + (Utf8.decode s pos).2))) w' → K ((d, .tuple #[.bool true, I (pos : Int), R32 ((Utf8.decode s pos).1 : Int)]) :: l) w') : WO P ops n ⟨some d, .next x true, T, ps, af, g⟩ l w K := by
  have hb := hS.get i hi
  refine WO.val hg hd (w' := w.iterAt b s (pos + (Utf8.decode s pos).2)) (fun a ha => ?_) (k _ (hS.turn i hi rfl rfl rfl (Lib.iterAt_size ..) (Lib.iterAt_heap w b s pos _ hb) (fun j hj => Lib.iterAt_other w b j s _ hj)))
  simp only [execOp, ha.ev hx, Sem.run_bind, Lib.run_next_any_at w b s pos _ hb hp, Result.andThen_ok, Sem.run_pure]
theorem nxe {s : ByteArray} {b pos : Nat} (i : Nat) (hS : St w0 F L w) (hg : gval ops l ⟨some d, .next x true, T, ps, af, g⟩ = some true) (hd : Nat.blt d n = true) (hx : ev l x = some (Ptr b 0)) (hi : L[i]? = some (b, .stringIter s pos)) (hp : ¬ pos < s.size)
    (k : K ((d, .tuple #[.bool false]) :: l) w) : WO P ops n ⟨some d, .next x true, T, ps, af, g⟩ l w K := by
  have hb := hS.get i hi
  refine WO.val hg hd (fun a ha => ?_) k
  simp only [execOp, ha.ev hx, Sem.run_bind, Lib.run_next_end_at w b s pos _ hb hp, Result.andThen_ok, Sem.run_pure]
theorem bsz (p : List UInt8) : ((⟨p.toArray⟩ : ByteArray).size) = p.length := by simp [ByteArray.size]
theorem nxa {p : List UInt8} {b pos : Nat} (i : Nat) (hS : St w0 F L w) (hg : gval ops l ⟨some d, .next x true, T, ps, af, g⟩ = some true) (hd : Nat.blt d n = true) (hx : ev l x = some (Ptr b 0)) (hi : L[i]? = some (b, .stringIter ⟨p.toArray⟩ pos)) (hp : pos < p.length) (h7 : (gl p pos).toNat < 128)
    (k : ∀ w', St w0 F (L.set i (b, .stringIter ⟨p.toArray⟩ (pos + 1))) w' → K ((d, .tuple #[.bool true, I (pos : Int), R32 ((gl p pos).toNat : Int)]) :: l) w') : WO P ops n ⟨some d, .next x true, T, ps, af, g⟩ l w K := by
  have e : Utf8.decode ⟨p.toArray⟩ pos = ((gl p pos).toNat, 1) := by
    have e : ((⟨p.toArray⟩ : ByteArray).get! pos) = gl p pos := by simp [ByteArray.get!, gl, hp]
    unfold Utf8.decode
    simp only [Nat.add_zero, e, h7, if_true]
  refine nxt i hS hg hd hx hi (by rw [bsz]; exact hp) ?_
  rw [e]; exact k
theorem nxz {p : List UInt8} {b pos : Nat} (i : Nat) (hS : St w0 F L w) (hg : gval ops l ⟨some d, .next x true, T, ps, af, g⟩ = some true) (hd : Nat.blt d n = true) (hx : ev l x = some (Ptr b 0)) (hi : L[i]? = some (b, .stringIter ⟨p.toArray⟩ pos)) (hp : ¬ pos < p.length)
    (k : K ((d, .tuple #[.bool false]) :: l) w) : WO P ops n ⟨some d, .next x true, T, ps, af, g⟩ l w K := nxe i hS hg hd hx hi (by rw [bsz]; exact hp) k
def encX (r : Int) : List UInt8 := (Utf8.encode r).data.toList
theorem cvs {D : Nat} {kd : IntKind} {r : Int} (hu : P.underlying D = some .string) (hs : ∃ dd, P.underlying S = some dd) (hg : gval ops l ⟨some d, .convert S D x, T, ps, af, g⟩ = some true) (hd : Nat.blt d n = true) (hx : ev l x = some (.int kd r)) (k : K ((d, Str (encX r)) :: l) w) :
    WO P ops n ⟨some d, .convert S D x, T, ps, af, g⟩ l w K :=
  WO.val hg hd (fun a ha => by
    obtain ⟨dd, hs⟩ := hs
    have h := run_convert_int_string (P := P) w S D kd r (by rw [hs]; rfl) hu
    simp only [execOp, ha.ev hx, Sem.run_bind, h, Result.andThen_ok, Sem.run_pure]
    rfl) k
theorem ssl {p : List UInt8} {kd : IntKind} {i : Int} (j : Nat) (hu : P.underlying S = some .string) (hg : gval ops l ⟨some d, .slice S x (some y) none none, T, ps, af, g⟩ = some true) (hd : Nat.blt d n = true) (hx : ev l x = some (Str p)) (hy : ev l y = some (.int kd i))
    (hi : i = (j : Int)) (h2 : j ≤ p.length) (k : K ((d, Str (p.drop j)) :: l) w) : WO P ops n ⟨some d, .slice S x (some y) none none, T, ps, af, g⟩ l w K :=
  WO.val hg hd (fun a ha => by
    subst hi
    have hs : ((⟨p.toArray⟩ : ByteArray).size) = p.length := by simp [ByteArray.size]
    have h3 := run_slice_string_l (P := P) w S ⟨p.toArray⟩ hu kd (j : Int) (by omega) (by rw [hs]; omega)
    have e : ((⟨p.toArray⟩ : ByteArray).extract ((j : Nat) : Int).toNat (⟨p.toArray⟩ : ByteArray).size) = ⟨(p.drop j).toArray⟩ := by
      apply WideShapes.bytes_inj
      simp [hs, List.take_of_length_le]
    rw [e] at h3
    simp [execOp, ha.ev hx, ha.ev hy, Str, Instr.sliceAt, run_underlying hu, h3]) k
end
def okR (c : Int) : Bool := decide ((97 ≤ c ∧ c ≤ 122) ∨ (65 ≤ c ∧ c ≤ 90) ∨ (48 ≤ c ∧ c ≤ 57) ∨ c = 46 ∨ c = 58 ∨ c = 45)
def okB (b : UInt8) : Bool := okR (b.toNat : Int)
def okA (s : List UInt8) : Bool := decide (s ≠ [] ∧ s.length ≤ 100) && s.all okB
def badR (x : Nat) : Bool := !okR (x : Int)
theorem dec_lo (l : List UInt8) (i : Nat) (h : i < l.length) : Utf8.decode ⟨l.toArray⟩ i = if (gl l i).toNat < 128 then ((gl l i).toNat, 1) else Utf8.decode ⟨l.toArray⟩ i := by
  split
  · rename_i h1
    have e : ((⟨l.toArray⟩ : ByteArray).get! i) = gl l i := by
      simp [ByteArray.get!, gl, h]
    unfold Utf8.decode
    simp only [Nat.add_zero, e, h1, if_true]
  · rfl
theorem dec_hi (l : List UInt8) (i : Nat) (h : i < l.length) (h1 : ¬ (gl l i).toNat < 128) : 128 ≤ (Utf8.decode ⟨l.toArray⟩ i).1 := by
  have e : ((⟨l.toArray⟩ : ByteArray).get! i) = gl l i := by
    simp [ByteArray.get!, gl, h]
  unfold Utf8.decode
  simp only [Nat.add_zero, e, h1, if_false]
  repeat' split
  all_goals first
    | (simp [Utf8.runeError]; done)
    | (simp_all; done)
    | (simp_all; omega)
theorem idx_ok (l : List UInt8) : ∀ f i, l.length ≤ i + f → (0 ≤ Lib.idxFuncFrom badR true ⟨l.toArray⟩ f i ↔ (l.drop i).all okB = false)
  | 0, i, h => by
    have : l.drop i = [] := List.drop_eq_nil_of_le (by omega)
    simp [Lib.idxFuncFrom, this]
  | f + 1, i, h => by
    have hs : ((⟨l.toArray⟩ : ByteArray).size) = l.length := by simp [ByteArray.size]
    unfold Lib.idxFuncFrom
    rw [hs]
    by_cases hi : i < l.length
    · rw [if_pos hi]
      have hdr : l.drop i = gl l i :: l.drop (i + 1) := by
        rw [List.drop_eq_getElem_cons hi]; simp [gl, hi]
      rw [hdr, List.all_cons]
      by_cases h1 : (gl l i).toNat < 128
      · rw [dec_lo l i hi, if_pos h1]
        by_cases h2 : okB (gl l i) = true
        · have h3 : badR (gl l i).toNat = false := by simpa [badR, okB] using h2
          rw [h3, h2]
          simp only [Bool.true_and]
          simpa using idx_ok l f (i + 1) (by omega)
        · have h2' : okB (gl l i) = false := by simpa using h2
          have h3 : badR (gl l i).toNat = true := by simpa [badR, okB] using h2'
          rw [h3, h2']; simp
      · have h2 := dec_hi l i hi h1
        have h3 : badR (Utf8.decode ⟨l.toArray⟩ i).1 = true := by
          simp only [badR, okR, Bool.not_eq_true', decide_eq_false_iff_not]; omega
        have h4 : okB (gl l i) = false := by
          simp only [okB, okR, decide_eq_false_iff_not]; omega
        rw [h3, h4]; simp
    · rw [if_neg hi]
      have : l.drop i = [] := List.drop_eq_nil_of_le (by omega)
      simp [this]
theorem idx_all (l : List UInt8) : decide (0 ≤ Lib.idxFunc badR true ⟨l.toArray⟩) = !l.all okB := by
  have hs : ((⟨l.toArray⟩ : ByteArray).size) = l.length := by simp [ByteArray.size]
  have h := idx_ok l l.length 0 (by omega)
  unfold Lib.idxFunc; rw [hs]
  cases hb : l.all okB
  · rw [List.drop_zero, hb] at h; simpa using h
  · rw [List.drop_zero, hb] at h; simpa using h
def ixR (r : Int) : Int := if r = 46 then 0 else if r = 58 then 1 else if r = 45 then 2 else -1
theorem ixR_lo (r : Int) (h0 : 0 ≤ r) (h1 : r < 128) : Lib.indexByte [46, 58, 45] r.toNat.toUInt8 = ixR r := by
  have h : ∀ k : Fin 128, Lib.indexByte [46, 58, 45] k.val.toUInt8 = ixR (k.val : Int) := by decide +kernel
  have h2 := h ⟨r.toNat, by omega⟩
  simp only [] at h2
  rw [h2]; congr 1; omega
theorem encR_hi (r : Int) (h0 : 128 ≤ r) (hv : Utf8.valid r = true) : 2 ≤ (encX r).length ∧ (encX r).length ≤ 4 ∧ 128 ≤ (gl (encX r) ((encX r).length - 1)).toNat := by
  have hc : ¬ r.toNat < 0x80 := by omega
  have hr : r ≤ 1114111 := by
    simp only [Utf8.valid, Bool.or_eq_true, Bool.and_eq_true, decide_eq_true_eq] at hv; omega
  unfold encX Utf8.encode
  simp only [hv, if_true, hc, if_false]
  split
  · refine ⟨by simp, by simp, ?_⟩
    show 128 ≤ (UInt8.ofNat (0x80 + r.toNat % 64)).toNat
    simp only [UInt8.toNat_ofNat']; omega
  · split
    · refine ⟨by simp, by simp, ?_⟩
      show 128 ≤ (UInt8.ofNat (0x80 + r.toNat % 64)).toNat
      simp only [UInt8.toNat_ofNat']; omega
    · refine ⟨by simp, by simp, ?_⟩
      show 128 ≤ (UInt8.ofNat (0x80 + r.toNat % 64)).toNat
      simp only [UInt8.toNat_ofNat']; omega
theorem dots (k : Nat) (h : k < 3) : (gl [46, 58, 45] k).toNat < 128 := by
  have h3 : k = 0 ∨ k = 1 ∨ k = 2 := by omega
  rcases h3 with rfl | rfl | rfl <;> decide
theorem ixB_hi (j : Nat) (hj : j ≤ 3) (b : UInt8) (h : 128 ≤ b.toNat) : Lib.indexByte (([46, 58, 45] : List UInt8).drop j) b = -1 := by
  have h4 : j = 0 ∨ j = 1 ∨ j = 2 ∨ j = 3 := by omega
  have n1 : ¬ (46 : UInt8) = b := fun e => by subst e; simp at h
  have n2 : ¬ (58 : UInt8) = b := fun e => by subst e; simp at h
  have n3 : ¬ (45 : UInt8) = b := fun e => by subst e; simp at h
  rcases h4 with rfl | rfl | rfl | rfl <;> simp [Lib.indexByte, List.findIdx?_cons, n1, n2, n3]
theorem ixR_ok (r : Int) : ixR r ≥ 0 ↔ (r = 46 ∨ r = 58 ∨ r = 45) := by
  unfold ixR
  split
  · omega
  · split
    · omega
    · split <;> omega
end Go.X
namespace Go.X
open Go
theorem ofl_bytes (bs : List UInt8) (n : Nat) (h : bs.length = n) : (ofl n bs).toList = bs := by
  apply List.ext_getElem?; intro i
  by_cases hi : i < n
  · simp [ofl, gl, hi, show i < bs.length by omega]
  · rw [List.getElem?_eq_none (by simp; omega), List.getElem?_eq_none (by omega)]
def headV (d : Nat) (s : UInt64) : V8 8 := ofl 8 (bytesL (shl64 (toU64 (d : Int)) 63 ||| s) 8)
def headD (bs : List UInt8) : Nat := (shr64 (number (bs.take 8)) 63).toNat
theorem shr63_lt (x : UInt64) : (shr64 x 63).toNat < 2 := by
  simp only [shr64, UInt64.toNat_ofNat']
  have := x.toNat_lt
  omega
def headS (bs : List UInt8) : UInt64 := number (bs.take 8) &&& 9223372036854775807
def nonceV (h : V8 8) : V8 12 := ofl 12 ((Vector.replicate 4 0 : V8 4).toList ++ h.toList)
def chk (d : Int) (s : UInt64) (n : Nat) : Nat := if d ≠ 0 ∧ d ≠ 1 then 8 else if 9223372036854775807 < s.toNat then 5 else if 1200 < n then 2 else 0
def lng (n : Nat) : Nat := if n < 28 then 1 else if 1228 < n then 2 else 0
def num2 (l : List UInt8) : UInt64 := l.foldl (fun x c => x * 256 + toU64 (c.toNat : Int)) 0
theorem num2_take (l : List UInt8) (k : Nat) (h : k < l.length) : num2 (l.take k) * 256 + toU64 ((gl l k).toNat : Int) = num2 (l.take (k + 1)) := by
  simp only [num2, List.take_add_one, List.foldl_append, gl]
  rw [List.getElem?_eq_getElem h]; simp [h]
def headD2 (bs : List UInt8) : Nat := if 9223372036854775808 ≤ (num2 (bs.take 8)).toNat then 1 else 0
def headS2 (bs : List UInt8) : UInt64 := if 9223372036854775808 ≤ (num2 (bs.take 8)).toNat then num2 (bs.take 8) - 9223372036854775808 else num2 (bs.take 8)
theorem take_ne {a b : List UInt8} {k : Nat} (h : ¬ gl a k = gl b k) : ¬ a = b := fun e => h (by rw [e])
theorem take_step {a b : List UInt8} {k : Nat} (ha : k < a.length) (hb : k < b.length) (h : a.take k = b.take k) (e : gl a k = gl b k) : a.take (k + 1) = b.take (k + 1) := by
  rw [List.take_add_one, List.take_add_one, h]
  simp only [gl, List.getD, ha, hb, List.getElem?_eq_getElem, Option.getD_some] at e
  rw [List.getElem?_eq_getElem ha, List.getElem?_eq_getElem hb, e]
def sameR (d d2 : Int) (s s2 : UInt64) (t t2 e e2 : UInt16) (bs bs2 : List UInt8) : Bool :=
  if d = d2 then if s.toNat = s2.toNat then if t.toNat = t2.toNat then if e.toNat = e2.toNat then decide (bs = bs2) else false else false else false else false
def peekD (bs : List UInt8) : Nat := if lng bs.length = 0 then headD bs else 0
def peekS (bs : List UInt8) : UInt64 := if lng bs.length = 0 then headS bs else 0
theorem lng_0 {n : Nat} (h : lng n = 0) : 28 ≤ n ∧ n ≤ 1228 := by
  simp only [lng] at h
  split at h
  · cases h
  · split at h
    · cases h
    · omega
theorem toU64_ne (k : Nat) (h0 : 0 < k) (h : k < 1000000) : toU64 (k : Int) ≠ 0 := fun e => by
  have := toU64_nat k (by omega)
  rw [e] at this; simp at this; omega
def addO (key : V8 16) (off : V8 16) (k : Nat) : V8 16 := nextO key off (toU64 (k : Int))
def addS (key : V8 16) (sum off part : V8 16) (k : Nat) : V8 16 := xorV sum (enc key (xorV part (addO key off k)))
def restB (key : V8 16) (off : V8 16) (rest : List UInt8) : V8 16 := if rest.length = 0 then Vector.replicate 16 0 else enc key (xorV (padV rest) (xorV off (star key)))
def sumL (key : V8 16) (bs : List UInt8) : Nat → V8 16 × V8 16
  | 0 => (Vector.replicate 16 0, Vector.replicate 16 0)
  | k + 1 => (addS key (sumL key bs k).1 (sumL key bs k).2 (blk bs k) (k + 1), addO key (sumL key bs k).2 (k + 1))
def hashV (key : V8 16) (bs : List UInt8) : V8 16 := xorV (sumL key bs (bs.length / 16)).1 (restB key (sumL key bs (bs.length / 16)).2 (bs.drop (bs.length / 16 * 16)))
def tagV (key ck off : V8 16) (data : List UInt8) : V8 16 := xorV (enc key (xorV ck (xorV off (lastL key 0)))) (hashV key data)
end Go.X
namespace Go.X
open Go
theorem byt_nat (w : UInt32) (r : Nat) : (byt w r).toNat = w.toNat / 2 ^ (24 - 8 * r) % 256 := by
  have h : w.toNat / 2 ^ (24 - 8 * r) ≤ w.toNat := Nat.div_le_self _ _
  have := w.toNat_lt
  simp only [byt, toU8, shr32, UInt8.toNat_ofNat', UInt32.toNat_ofNat']
  rw [Nat.mod_eq_of_lt (a := w.toNat / _) (by omega)]
  omega
theorem byt_xor (x y : UInt32) (r : Nat) : byt (x ^^^ y) r = byt x r ^^^ byt y r := by
  apply UInt8.toNat_inj.1
  have e : 256 = 2 ^ 8 := rfl
  rw [UInt8.toNat_xor, byt_nat, byt_nat, byt_nat, UInt32.toNat_xor, Nat.xor_div_two_pow, e, Nat.xor_mod_two_pow]
theorem or_add (a b i : Nat) (h : b < 2 ^ i) : (a * 2 ^ i) ||| b = a * 2 ^ i + b := by
  have := Nat.two_pow_add_eq_or_of_lt h a
  rw [Nat.mul_comm a]; exact this.symm
theorem u8n (a : UInt8) : ((toU32 (a.toNat : Int))).toNat = a.toNat := by
  have := a.toNat_lt
  simp only [toU32, UInt32.toNat_ofNat']; omega
theorem shl_nat (a : UInt8) (m : Nat) (h : m ≤ 24) : (shl32 (toU32 (a.toNat : Int)) m).toNat = a.toNat * 2 ^ m := by
  have h1 := a.toNat_lt
  have h2 : 2 ^ m ≤ 2 ^ 24 := Nat.pow_le_pow_right (by omega) h
  have h3 : a.toNat * 2 ^ m < 256 * 2 ^ 24 := Nat.lt_of_lt_of_le (Nat.mul_lt_mul_of_pos_right h1 (Nat.two_pow_pos m)) (Nat.mul_le_mul_left _ h2)
  simp only [shl32, UInt32.toNat_ofNat', u8n]
  exact Nat.mod_eq_of_lt (by omega)
theorem col_nat (a b c d : UInt8) : (col a b c d).toNat = a.toNat * 2 ^ 24 + (b.toNat * 2 ^ 16 + (c.toNat * 2 ^ 8 + d.toNat)) := by
  have ha := a.toNat_lt; have hb := b.toNat_lt; have hc := c.toNat_lt; have hd := d.toNat_lt
  simp only [col, UInt32.toNat_or, shl_nat _ _ (show 24 ≤ 24 by omega), shl_nat _ _ (show 16 ≤ 24 by omega), shl_nat _ _ (show 8 ≤ 24 by omega), u8n]
  rw [Nat.or_assoc, Nat.or_assoc, or_add _ d.toNat 8 (by omega), or_add _ _ 16 (by omega), or_add _ _ 24 (by omega)]
theorem byt_col0 (a b c d : UInt8) : byt (col a b c d) 0 = a := by
  have ha := a.toNat_lt; have hb := b.toNat_lt; have hc := c.toNat_lt; have hd := d.toNat_lt
  apply UInt8.toNat_inj.1; rw [byt_nat, col_nat]; omega
theorem byt_col1 (a b c d : UInt8) : byt (col a b c d) 1 = b := by
  have ha := a.toNat_lt; have hb := b.toNat_lt; have hc := c.toNat_lt; have hd := d.toNat_lt
  apply UInt8.toNat_inj.1; rw [byt_nat, col_nat]; omega
theorem byt_col2 (a b c d : UInt8) : byt (col a b c d) 2 = c := by
  have ha := a.toNat_lt; have hb := b.toNat_lt; have hc := c.toNat_lt; have hd := d.toNat_lt
  apply UInt8.toNat_inj.1; rw [byt_nat, col_nat]; omega
theorem byt_col3 (a b c d : UInt8) : byt (col a b c d) 3 = d := by
  have ha := a.toNat_lt; have hb := b.toNat_lt; have hc := c.toNat_lt; have hd := d.toNat_lt
  apply UInt8.toNat_inj.1; rw [byt_nat, col_nat]; omega
theorem rotr_nat (w : UInt32) (q : Nat) (h0 : 0 < q) (h : q < 4) : (rotr w q).toNat = w.toNat % 2 ^ (8 * q) * 2 ^ (32 - 8 * q) + w.toNat / 2 ^ (8 * q) := by
  have hw := w.toNat_lt
  have hq : q = 1 ∨ q = 2 ∨ q = 3 := by omega
  have e1 : (shr32 w (8 * q)).toNat = w.toNat / 2 ^ (8 * q) := by
    have h : w.toNat / 2 ^ (8 * q) ≤ w.toNat := Nat.div_le_self _ _
    simp only [shr32, UInt32.toNat_ofNat']
    exact Nat.mod_eq_of_lt (by omega)
  have e2 : (shl32 w ((32 - 8 * q) % 32)).toNat = w.toNat % 2 ^ (8 * q) * 2 ^ (32 - 8 * q) := by
    simp only [shl32, UInt32.toNat_ofNat']
    rcases hq with rfl | rfl | rfl
    · show w.toNat * 2 ^ 24 % 2 ^ 32 = w.toNat % 2 ^ 8 * 2 ^ 24; omega
    · show w.toNat * 2 ^ 16 % 2 ^ 32 = w.toNat % 2 ^ 16 * 2 ^ 16; omega
    · show w.toNat * 2 ^ 8 % 2 ^ 32 = w.toNat % 2 ^ 24 * 2 ^ 8; omega
  rw [rotr, UInt32.toNat_or, e1, e2, Nat.or_comm, or_add]
  rcases hq with rfl | rfl | rfl <;> omega
theorem four (x : Nat) (h : x < 4294967296) : ∃ a b c d, a < 256 ∧ b < 256 ∧ c < 256 ∧ d < 256 ∧ x = 16777216 * a + 65536 * b + 256 * c + d :=
  ⟨x / 16777216, x / 65536 % 256, x / 256 % 256, x % 256, by omega, by omega, by omega, by omega, by omega⟩
theorem four_b {w : UInt32} {a b c d : Nat} (ha : a < 256) (hb : b < 256) (hc : c < 256) (hd : d < 256) (h : w.toNat = 16777216 * a + 65536 * b + 256 * c + d) : (byt w 0).toNat = a ∧ (byt w 1).toNat = b ∧ (byt w 2).toNat = c ∧ (byt w 3).toNat = d := by
  rw [byt_nat, byt_nat, byt_nat, byt_nat, h]
  have e0 : (16777216 * a + 65536 * b + 256 * c + d) / 16777216 = a := by omega
  have e1 : (16777216 * a + 65536 * b + 256 * c + d) / 65536 = 256 * a + b := by omega
  have e2 : (16777216 * a + 65536 * b + 256 * c + d) / 256 = 65536 * a + 256 * b + c := by omega
  simp only [Nat.reduceMul, Nat.reduceSub, Nat.reducePow, Nat.div_one, e0, e1, e2]
  omega
theorem byt_rotr (w : UInt32) (q r : Nat) (h0 : 0 < q) (h : q < 4) (hr : r < 4) : byt (rotr w q) r = byt w ((r + 4 - q) % 4) := by
  obtain ⟨a, b, c, d, ha, hb, hc, hd, hx⟩ := four w.toNat w.toNat_lt
  have h1 := four_b ha hb hc hd hx
  have hq : q = 1 ∨ q = 2 ∨ q = 3 := by omega
  have hr' : r = 0 ∨ r = 1 ∨ r = 2 ∨ r = 3 := by omega
  apply UInt8.toNat_inj.1
  rcases hq with rfl | rfl | rfl
  · have h2 := rotr_nat w 1 h0 h
    rw [hx] at h2
    have e1 : (16777216 * a + 65536 * b + 256 * c + d) % 256 = d := by omega
    have e2 : (16777216 * a + 65536 * b + 256 * c + d) / 256 = 65536 * a + 256 * b + c := by omega
    simp only [Nat.reduceSub, Nat.reduceMul, Nat.reducePow, e1, e2] at h2
    have h3 := four_b hd ha hb hc (w := rotr w 1) (by omega)
    rcases hr' with rfl | rfl | rfl | rfl <;> simp only [Nat.reduceAdd, Nat.reduceSub, Nat.reduceMod, h1, h3]
  · have h2 := rotr_nat w 2 h0 h
    rw [hx] at h2
    have e1 : (16777216 * a + 65536 * b + 256 * c + d) % 65536 = 256 * c + d := by omega
    have e2 : (16777216 * a + 65536 * b + 256 * c + d) / 65536 = 256 * a + b := by omega
    simp only [Nat.reduceSub, Nat.reduceMul, Nat.reducePow, e1, e2] at h2
    have h3 := four_b hc hd ha hb (w := rotr w 2) (by omega)
    rcases hr' with rfl | rfl | rfl | rfl <;> simp only [Nat.reduceAdd, Nat.reduceSub, Nat.reduceMod, h1, h3]
  · have h2 := rotr_nat w 3 h0 h
    rw [hx] at h2
    have e1 : (16777216 * a + 65536 * b + 256 * c + d) % 16777216 = 65536 * b + 256 * c + d := by omega
    have e2 : (16777216 * a + 65536 * b + 256 * c + d) / 16777216 = a := by omega
    simp only [Nat.reduceSub, Nat.reduceMul, Nat.reducePow, e1, e2] at h2
    have h3 := four_b hb hc hd ha (w := rotr w 3) (by omega)
    rcases hr' with rfl | rfl | rfl | rfl <;> simp only [Nat.reduceAdd, Nat.reduceSub, Nat.reduceMod, h1, h3]
theorem dbl_x (a : UInt8) : dbl a = (a <<< 1) ^^^ ((a >>> 7) * 27) := by
  revert a; refine all_u8 ?_; decide +kernel
theorem top_01 (a : UInt8) : a >>> 7 = 0 ∨ a >>> 7 = 1 := by
  revert a; refine all_u8 ?_; decide +kernel
theorem dbl_xor (a b : UInt8) : dbl (a ^^^ b) = dbl a ^^^ dbl b := by
  have e1 : (a ^^^ b) <<< 1 = (a <<< 1) ^^^ (b <<< 1) := by
    apply UInt8.toBitVec_inj.1; simp [BitVec.shiftLeft_xor_distrib]
  have e2 : (a ^^^ b) >>> 7 = (a >>> 7) ^^^ (b >>> 7) := by
    apply UInt8.toBitVec_inj.1; simp [BitVec.ushiftRight_xor_distrib]
  have e3 : ((a >>> 7) ^^^ (b >>> 7)) * (27 : UInt8) = ((a >>> 7) * (27 : UInt8)) ^^^ ((b >>> 7) * (27 : UInt8)) := by
    rcases top_01 a with h | h <;> rcases top_01 b with h' | h' <;> rw [h, h'] <;> decide
  rw [dbl_x, dbl_x, dbl_x, e1, e2, e3]
  simp only [UInt8.xor_assoc]
  congr 1
  rw [← UInt8.xor_assoc, UInt8.xor_comm (b <<< 1), UInt8.xor_assoc]
def m2 (a : UInt8) : UInt8 := dbl a
def m3 (a : UInt8) : UInt8 := dbl a ^^^ a
def m9 (a : UInt8) : UInt8 := dbl (dbl (dbl a)) ^^^ a
def m11 (a : UInt8) : UInt8 := dbl (dbl (dbl a)) ^^^ dbl a ^^^ a
def m13 (a : UInt8) : UInt8 := dbl (dbl (dbl a)) ^^^ dbl (dbl a) ^^^ a
def m14 (a : UInt8) : UInt8 := dbl (dbl (dbl a)) ^^^ dbl (dbl a) ^^^ dbl a
theorem mul_2 (a : UInt8) : mul a 2 = m2 a := by revert a; refine all_u8 ?_; decide +kernel
theorem mul_3 (a : UInt8) : mul a 3 = m3 a := by revert a; refine all_u8 ?_; decide +kernel
theorem mul_9 (a : UInt8) : mul a 9 = m9 a := by revert a; refine all_u8 ?_; decide +kernel
theorem mul_11 (a : UInt8) : mul a 11 = m11 a := by revert a; refine all_u8 ?_; decide +kernel
theorem mul_13 (a : UInt8) : mul a 13 = m13 a := by revert a; refine all_u8 ?_; decide +kernel
theorem mul_14 (a : UInt8) : mul a 14 = m14 a := by revert a; refine all_u8 ?_; decide +kernel
theorem mul9 (a : UInt8) : mul 9 a = m9 a := by revert a; refine all_u8 ?_; decide +kernel
theorem mul11 (a : UInt8) : mul 11 a = m11 a := by revert a; refine all_u8 ?_; decide +kernel
theorem mul13 (a : UInt8) : mul 13 a = m13 a := by revert a; refine all_u8 ?_; decide +kernel
theorem mul14 (a : UInt8) : mul 14 a = m14 a := by revert a; refine all_u8 ?_; decide +kernel
theorem x4 (a b c d : UInt8) : (a ^^^ b) ^^^ (c ^^^ d) = (a ^^^ c) ^^^ (b ^^^ d) := by
  rw [UInt8.xor_assoc, UInt8.xor_assoc]; congr 1
  rw [← UInt8.xor_assoc, UInt8.xor_comm b, UInt8.xor_assoc]
theorem x6 (p q r s t u : UInt8) : (p ^^^ q) ^^^ (r ^^^ s) ^^^ (t ^^^ u) = (p ^^^ r ^^^ t) ^^^ (q ^^^ s ^^^ u) := by rw [x4 p q r s, x4]
theorem m9_xor (a b : UInt8) : m9 (a ^^^ b) = m9 a ^^^ m9 b := by simp only [m9, dbl_xor]; rw [x4]
theorem m11_xor (a b : UInt8) : m11 (a ^^^ b) = m11 a ^^^ m11 b := by simp only [m11, dbl_xor]; rw [x6]
theorem m13_xor (a b : UInt8) : m13 (a ^^^ b) = m13 a ^^^ m13 b := by simp only [m13, dbl_xor]; rw [x6]
theorem m14_xor (a b : UInt8) : m14 (a ^^^ b) = m14 a ^^^ m14 b := by simp only [m14, dbl_xor]; rw [x6]
def mc (r : Nat) (a b c d : UInt8) : UInt8 :=
  if r = 0 then m2 a ^^^ m3 b ^^^ c ^^^ d else if r = 1 then a ^^^ m2 b ^^^ m3 c ^^^ d else if r = 2 then a ^^^ b ^^^ m2 c ^^^ m3 d else m3 a ^^^ b ^^^ c ^^^ m2 d
def imc (r : Nat) (a b c d : UInt8) : UInt8 :=
  if r = 0 then m14 a ^^^ m11 b ^^^ m13 c ^^^ m9 d else if r = 1 then m9 a ^^^ m14 b ^^^ m11 c ^^^ m13 d else if r = 2 then m13 a ^^^ m9 b ^^^ m14 c ^^^ m11 d else m11 a ^^^ m13 b ^^^ m9 c ^^^ m14 d
theorem x8 (a b c d a' b' c' d' : UInt8) : (a ^^^ b ^^^ c ^^^ d) ^^^ (a' ^^^ b' ^^^ c' ^^^ d') = (a ^^^ a') ^^^ (b ^^^ b') ^^^ (c ^^^ c') ^^^ (d ^^^ d') := by
  rw [x4, x4 (a ^^^ b), x4 a]
theorem imc_xor (r : Nat) (a b c d a' b' c' d' : UInt8) : imc r (a ^^^ a') (b ^^^ b') (c ^^^ c') (d ^^^ d') = imc r a b c d ^^^ imc r a' b' c' d' := by
  simp only [imc]
  split
  · rw [m14_xor, m11_xor, m13_xor, m9_xor, x8]
  split
  · rw [m9_xor, m14_xor, m11_xor, m13_xor, x8]
  split
  · rw [m13_xor, m9_xor, m14_xor, m11_xor, x8]
  · rw [m11_xor, m13_xor, m9_xor, m14_xor, x8]
theorem one_a (a : UInt8) : m14 (m2 a) ^^^ m11 a ^^^ m13 a ^^^ m9 (m3 a) = a ∧ m9 (m2 a) ^^^ m14 a ^^^ m11 a ^^^ m13 (m3 a) = 0 ∧ m13 (m2 a) ^^^ m9 a ^^^ m14 a ^^^ m11 (m3 a) = 0 ∧ m11 (m2 a) ^^^ m13 a ^^^ m9 a ^^^ m14 (m3 a) = 0 := by
  revert a; refine all_u8 ?_; decide +kernel
theorem one_b (a : UInt8) : m14 (m3 a) ^^^ m11 (m2 a) ^^^ m13 a ^^^ m9 a = 0 ∧ m9 (m3 a) ^^^ m14 (m2 a) ^^^ m11 a ^^^ m13 a = a ∧ m13 (m3 a) ^^^ m9 (m2 a) ^^^ m14 a ^^^ m11 a = 0 ∧ m11 (m3 a) ^^^ m13 (m2 a) ^^^ m9 a ^^^ m14 a = 0 := by
  revert a; refine all_u8 ?_; decide +kernel
theorem one_c (a : UInt8) : m14 a ^^^ m11 (m3 a) ^^^ m13 (m2 a) ^^^ m9 a = 0 ∧ m9 a ^^^ m14 (m3 a) ^^^ m11 (m2 a) ^^^ m13 a = 0 ∧ m13 a ^^^ m9 (m3 a) ^^^ m14 (m2 a) ^^^ m11 a = a ∧ m11 a ^^^ m13 (m3 a) ^^^ m9 (m2 a) ^^^ m14 a = 0 := by
  revert a; refine all_u8 ?_; decide +kernel
theorem one_d (a : UInt8) : m14 a ^^^ m11 a ^^^ m13 (m3 a) ^^^ m9 (m2 a) = 0 ∧ m9 a ^^^ m14 a ^^^ m11 (m3 a) ^^^ m13 (m2 a) = 0 ∧ m13 a ^^^ m9 a ^^^ m14 (m3 a) ^^^ m11 (m2 a) = 0 ∧ m11 a ^^^ m13 a ^^^ m9 (m3 a) ^^^ m14 (m2 a) = a := by
  revert a; refine all_u8 ?_; decide +kernel
theorem mc_split (r : Nat) (a b c d : UInt8) : mc r a b c d = mc r a 0 0 0 ^^^ mc r 0 b 0 0 ^^^ mc r 0 0 c 0 ^^^ mc r 0 0 0 d := by
  have e2 : m2 0 = 0 := by decide
  have e3 : m3 0 = 0 := by decide
  simp only [mc]
  split
  · simp [e2, e3]
  split
  · simp [e2, e3]
  split
  · simp [e2, e3]
  · simp [e2, e3]
theorem imc_mc (r : Nat) (hr : r < 4) (a b c d : UInt8) : imc r (mc 0 a b c d) (mc 1 a b c d) (mc 2 a b c d) (mc 3 a b c d) = if r = 0 then a else if r = 1 then b else if r = 2 then c else d := by
  have e2 : m2 0 = 0 := by decide
  have e3 : m3 0 = 0 := by decide
  rw [mc_split 0, mc_split 1, mc_split 2, mc_split 3, imc_xor, imc_xor, imc_xor]
  have ha := one_a a; have hb := one_b b; have hc := one_c c; have hd := one_d d
  have h4 : r = 0 ∨ r = 1 ∨ r = 2 ∨ r = 3 := by omega
  rcases h4 with rfl | rfl | rfl | rfl <;> simp [imc, mc, e2, e3, ha, hb, hc, hd]
def sbl : List UInt8 := [99, 124, 119, 123, 242, 107, 111, 197, 48, 1, 103, 43, 254, 215, 171, 118, 202, 130, 201, 125, 250, 89, 71, 240, 173, 212, 162, 175, 156, 164, 114, 192, 183, 253, 147, 38, 54, 63, 247, 204, 52, 165, 229, 241, 113, 216, 49, 21, 4, 199, 35, 195, 24, 150, 5, 154, 7, 18, 128, 226, 235, 39, 178, 117, 9, 131, 44, 26, 27, 110, 90, 160, 82, 59, 214, 179, 41, 227, 47, 132, 83, 209, 0, 237, 32, 252, 177, 91, 106, 203, 190, 57, 74, 76, 88, 207, 208, 239, 170, 251, 67, 77, 51, 133, 69, 249, 2, 127, 80, 60, 159, 168, 81, 163, 64, 143, 146, 157, 56, 245, 188, 182, 218, 33, 16, 255, 243, 210, 205, 12, 19, 236, 95, 151, 68, 23, 196, 167, 126, 61, 100, 93, 25, 115, 96, 129, 79, 220, 34, 42, 144, 136, 70, 238, 184, 20, 222, 94, 11, 219, 224, 50, 58, 10, 73, 6, 36, 92, 194, 211, 172, 98, 145, 149, 228, 121, 231, 200, 55, 109, 141, 213, 78, 169, 108, 86, 244, 234, 101, 122, 174, 8, 186, 120, 37, 46, 28, 166, 180, 198, 232, 221, 116, 31, 75, 189, 139, 138, 112, 62, 181, 102, 72, 3, 246, 14, 97, 53, 87, 185, 134, 193, 29, 158, 225, 248, 152, 17, 105, 217, 142, 148, 155, 30, 135, 233, 206, 85, 40, 223, 140, 161, 137, 13, 191, 230, 66, 104, 65, 153, 45, 15, 176, 84, 187, 22]
def ibl : List UInt8 := [82, 9, 106, 213, 48, 54, 165, 56, 191, 64, 163, 158, 129, 243, 215, 251, 124, 227, 57, 130, 155, 47, 255, 135, 52, 142, 67, 68, 196, 222, 233, 203, 84, 123, 148, 50, 166, 194, 35, 61, 238, 76, 149, 11, 66, 250, 195, 78, 8, 46, 161, 102, 40, 217, 36, 178, 118, 91, 162, 73, 109, 139, 209, 37, 114, 248, 246, 100, 134, 104, 152, 22, 212, 164, 92, 204, 93, 101, 182, 146, 108, 112, 72, 80, 253, 237, 185, 218, 94, 21, 70, 87, 167, 141, 157, 132, 144, 216, 171, 0, 140, 188, 211, 10, 247, 228, 88, 5, 184, 179, 69, 6, 208, 44, 30, 143, 202, 63, 15, 2, 193, 175, 189, 3, 1, 19, 138, 107, 58, 145, 17, 65, 79, 103, 220, 234, 151, 242, 207, 206, 240, 180, 230, 115, 150, 172, 116, 34, 231, 173, 53, 133, 226, 249, 55, 232, 28, 117, 223, 110, 71, 241, 26, 113, 29, 41, 197, 137, 111, 183, 98, 14, 170, 24, 190, 27, 252, 86, 62, 75, 198, 210, 121, 32, 154, 219, 192, 254, 120, 205, 90, 244, 31, 221, 168, 51, 136, 7, 199, 49, 177, 18, 16, 89, 39, 128, 236, 95, 96, 81, 127, 169, 25, 181, 74, 13, 45, 229, 122, 159, 147, 201, 156, 239, 160, 224, 59, 77, 174, 42, 245, 176, 200, 235, 187, 60, 131, 83, 153, 97, 23, 43, 4, 126, 186, 119, 214, 38, 225, 105, 20, 99, 85, 33, 12, 125]
theorem sbox_lit : ∀ n : Fin 256, sbox (UInt8.ofNat n.val) = gl sbl n.val := by decide +kernel
theorem ibl_lit : ∀ n : Fin 256, gl ibl (gl sbl n.val).toNat = UInt8.ofNat n.val := by decide +kernel
theorem ibl_sbox (a : UInt8) : gl ibl (sbox a).toNat = a := by
  have h1 := sbox_lit ⟨a.toNat, a.toNat_lt⟩
  have h2 := ibl_lit ⟨a.toNat, a.toNat_lt⟩
  simp only [UInt8.ofNat_toNat] at h1 h2
  rw [h1, h2]
theorem sbox_inj {a b : UInt8} (h : sbox a = sbox b) : a = b := by rw [← ibl_sbox a, ← ibl_sbox b, h]
theorem backL_sbox (a : UInt8) : ∀ f k, k ≤ a.toNat → a.toNat < k + f → backL (sbox a) f k = a
  | 0, k, h1, h2 => by omega
  | f + 1, k, h1, h2 => by
    have hk : k < 256 := Nat.lt_of_le_of_lt h1 a.toNat_lt
    rw [backL, sboxV_get k hk]
    split
    · rename_i h; exact sbox_inj h
    · rename_i h
      refine backL_sbox a f (k + 1) ?_ (by omega)
      have : k ≠ a.toNat := fun e => h (by subst e; simp)
      omega
theorem back_sbox (a : UInt8) : back (sbox a) = a := backL_sbox a 256 0 (by omega) (by have := a.toNat_lt; omega)
theorem byt_wds (b : V8 16) (c r : Nat) (hc : c < 4) (hr : r < 4) : byt (gw (wds b) c) r = gv b (4 * c + r) := by
  rw [wds, gw_ofFn _ _ hc, wdf]
  have h4 : r = 0 ∨ r = 1 ∨ r = 2 ∨ r = 3 := by omega
  rcases h4 with rfl | rfl | rfl | rfl
  · rw [byt_col0]; rfl
  · rw [byt_col1]
  · rw [byt_col2]
  · rw [byt_col3]
def rk (key : V8 16) (r : Nat) : V8 16 := seg8 16 (expand key) (r * 16)
theorem gw_fwK (key : V8 16) (r c : Nat) (hc : c < 4) : ∀ m, r < m → m ≤ 11 → gw (fwK key m) (r * 4 + c) = gw (wds (rk key r)) c
  | 0, h, _ => by omega
  | m + 1, h, hm => by
    rw [fwK, gw_put32 _ _ _ _ (by omega)]
    by_cases e : r = m
    · subst e
      rw [if_pos (by omega)]
      have : r * 4 + c - r * 4 = c := by omega
      rw [this]; rfl
    · rw [if_neg (by omega)]
      exact gw_fwK key r c hc m (by omega) (by omega)
theorem gw_bkK (key : V8 16) (r c : Nat) (hc : c < 4) : ∀ m, r < m → m ≤ 11 → gw (bkK key m) ((10 - r) * 4 + c) = gw (wds (bkB key r)) c
  | 0, h, _ => by omega
  | m + 1, h, hm => by
    rw [bkK, gw_put32 _ _ _ _ (by omega)]
    by_cases e : r = m
    · subst e
      rw [if_pos (by omega)]
      have : (10 - r) * 4 + c - (10 - r) * 4 = c := by omega
      rw [this]
    · rw [if_neg (by omega)]
      exact gw_bkK key r c hc m (by omega) (by omega)
def By (s : V32 4) (c r : Nat) : UInt8 := byt (gw s c) r
theorem By_round (kv : V32 44) (tv : V32 256) (step : Nat) (s : V32 4) (n c r : Nat) (hc : c < 4) (hr : r < 4) :
    By (roundf kv tv step s n) c r = byt (gw kv (n * 4 + c)) r ^^^ byt (gw tv (By s (c % 4) 0).toNat) r ^^^ byt (gw tv (By s ((c + step) % 4) 1).toNat) ((r + 3) % 4) ^^^ byt (gw tv (By s ((c + 2 * step) % 4) 2).toNat) ((r + 2) % 4) ^^^ byt (gw tv (By s ((c + 3 * step) % 4) 3).toNat) ((r + 1) % 4) := by
  have e0 : (c + 0 * step) % 4 = c % 4 := by simp
  have e1 : (c + 1 * step) % 4 = (c + step) % 4 := by simp
  have f3 : (r + 4 - 1) = r + 3 := by omega
  have f2 : (r + 4 - 2) = r + 2 := by omega
  have f1 : (r + 4 - 3) = r + 1 := by omega
  simp only [By, roundf, pick]
  rw [gw_ofFn _ _ hc]
  simp only [rowL, pick, Nat.lt_irrefl, if_false, Nat.zero_lt_succ, if_true, e0, e1, show (0 : Nat) < 1 by omega, show (0 : Nat) < 2 by omega, show (0 : Nat) < 3 by omega]
  rw [byt_xor, byt_xor, byt_xor, byt_xor, byt_rotr _ 1 r (by omega) (by omega) hr, byt_rotr _ 2 r (by omega) (by omega) hr, byt_rotr _ 3 r (by omega) (by omega) hr, f3, f2, f1]
theorem gw_fwdT (a : UInt8) : gw fwdT a.toNat = col (m2 (sbox a)) (sbox a) (sbox a) (m3 (sbox a)) := by
  rw [fwdT, gw_ofFn _ _ a.toNat_lt, fwdTf]; simp [mul_2, mul_3]
theorem gw_bckT (a : UInt8) : gw bckT a.toNat = col (m14 (back a)) (m9 (back a)) (m13 (back a)) (m11 (back a)) := by
  rw [bckT, gw_ofFn _ _ a.toNat_lt, bckTf]; simp [mul_14, mul_9, mul_13, mul_11]
theorem By_enc (key : V8 16) (s : V32 4) (n c r : Nat) (hn : n ≤ 10) (hc : c < 4) (hr : r < 4) :
    By (roundf (fwK key 11) fwdT 1 s n) c r = gv (rk key n) (4 * c + r) ^^^ mc r (sbox (By s (c % 4) 0)) (sbox (By s ((c + 1) % 4) 1)) (sbox (By s ((c + 2) % 4) 2)) (sbox (By s ((c + 3) % 4) 3)) := by
  rw [By_round _ _ _ _ _ _ _ hc hr, gw_fwK key n c hc 11 (by omega) (by omega), byt_wds _ _ _ hc hr]
  simp only [gw_fwdT, Nat.mul_one]
  have h4 : r = 0 ∨ r = 1 ∨ r = 2 ∨ r = 3 := by omega
  rcases h4 with rfl | rfl | rfl | rfl <;> simp [mc, byt_col0, byt_col1, byt_col2, byt_col3, UInt8.xor_assoc]
theorem By_dec (key : V8 16) (s : V32 4) (n c r : Nat) (hn : n ≤ 10) (hc : c < 4) (hr : r < 4) :
    By (roundf (bkK key 11) bckT 3 s n) c r = gv (bkB key (10 - n)) (4 * c + r) ^^^ imc r (back (By s (c % 4) 0)) (back (By s ((c + 3) % 4) 1)) (back (By s ((c + 6) % 4) 2)) (back (By s ((c + 9) % 4) 3)) := by
  have e : n * 4 + c = (10 - (10 - n)) * 4 + c := by omega
  rw [By_round _ _ _ _ _ _ _ hc hr, e, gw_bkK key (10 - n) c hc 11 (by omega) (by omega), byt_wds _ _ _ hc hr]
  simp only [gw_bckT]
  have h4 : r = 0 ∨ r = 1 ∨ r = 2 ∨ r = 3 := by omega
  rcases h4 with rfl | rfl | rfl | rfl <;> simp [imc, byt_col0, byt_col1, byt_col2, byt_col3, UInt8.xor_assoc]
theorem seg_gv (b : V8 16) (o i : Nat) (h : i < 4) : gv (seg8 4 b o) i = gv b (o + i) := by rw [seg8, gv_ofFn _ _ h]
theorem unmix_get (b : V8 16) (c r : Nat) (hc : c < 4) (hr : r < 4) : gv (unmix b) (4 * c + r) = imc r (gv b (4 * c)) (gv b (4 * c + 1)) (gv b (4 * c + 2)) (gv b (4 * c + 3)) := by
  rw [unmix, cols, gv_ofFn _ _ (by omega)]
  have e1 : 4 * c + r - (4 * c + r) % 4 = 4 * c := by omega
  have e2 : (4 * c + r) % 4 = r := by omega
  simp only [colf, e1, e2, dot, xorl, seg_gv _ _ _ (show 0 < 4 by omega), seg_gv _ _ _ (show 1 < 4 by omega), seg_gv _ _ _ (show 2 < 4 by omega), seg_gv _ _ _ (show 3 < 4 by omega)]
  have h4 : r = 0 ∨ r = 1 ∨ r = 2 ∨ r = 3 := by omega
  rcases h4 with rfl | rfl | rfl | rfl <;> simp [imc, gv, mul9, mul11, mul13, mul14]
def Se (key b : V8 16) (n c r : Nat) : UInt8 := By (stL (fwK key 11) fwdT 1 b n) c r
theorem Se_0 (key b : V8 16) (c r : Nat) (hc : c < 4) (hr : r < 4) : Se key b 0 c r = gv b (4 * c + r) ^^^ gv (rk key 0) (4 * c + r) := by
  have e : c = 0 * 4 + c := by omega
  simp only [Se, By, stL]
  rw [gw_ofFn _ _ hc, byt_xor, byt_wds _ _ _ hc hr]
  simp only []
  have := gw_fwK key 0 c hc 11 (by omega) (by omega)
  rw [← e] at this
  rw [this, byt_wds _ _ _ hc hr]
theorem Se_s (key b : V8 16) (n c r : Nat) (hn : n < 10) (hc : c < 4) (hr : r < 4) : Se key b (n + 1) c r = gv (rk key (n + 1)) (4 * c + r) ^^^ mc r (sbox (Se key b n (c % 4) 0)) (sbox (Se key b n ((c + 1) % 4) 1)) (sbox (Se key b n ((c + 2) % 4) 2)) (sbox (Se key b n ((c + 3) % 4) 3)) := by
  rw [Se, stL, By_enc _ _ _ _ _ (by omega) hc hr]; rfl
theorem enc_get (key b : V8 16) (c r : Nat) (hc : c < 4) (hr : r < 4) : gv (enc key b) (4 * c + r) = sbox (Se key b 9 ((c + r) % 4) r) ^^^ gv (rk key 10) (4 * c + r) := by
  have e1 : (4 * c + r) / 4 = c := by omega
  have e2 : (4 * c + r) % 4 = r := by omega
  rw [enc, runf, gv_ofFn _ _ (by omega)]
  simp only [lastf, e1, e2, pick, Nat.mul_one]
  have := gw_fwK key 10 c hc 11 (by omega) (by omega)
  rw [show 40 + c = 10 * 4 + c by omega, this, byt_wds _ _ _ hc hr]; rfl
theorem Sd (key b : V8 16) : ∀ n, n ≤ 9 → ∀ c r, c < 4 → r < 4 → By (stL (bkK key 11) bckT 3 (enc key b) n) c r = sbox (Se key b (9 - n) ((c + r) % 4) r)
  | 0, _, c, r, hc, hr => by
    have e : c = (10 - 10) * 4 + c := by omega
    have h := gw_bkK key 10 c hc 11 (by omega) (by omega)
    rw [← e] at h
    have hb : bkB key 10 = rk key 10 := by simp [bkB, rk]
    simp only [By, stL]
    rw [gw_ofFn _ _ hc, byt_xor, byt_wds _ _ _ hc hr]
    simp only []
    rw [h, byt_wds _ _ _ hc hr, enc_get _ _ _ _ hc hr, hb, UInt8.xor_assoc, UInt8.xor_self, UInt8.xor_zero]
  | n + 1, hn, c, r, hc, hr => by
    have ih := Sd key b n (by omega)
    rw [stL, By_dec _ _ _ _ _ (by omega) hc hr, ih _ 0 (by omega) (by omega), ih _ 1 (by omega) (by omega), ih _ 2 (by omega) (by omega), ih _ 3 (by omega) (by omega), back_sbox, back_sbox, back_sbox, back_sbox]
    have e0 : (c % 4 + 0) % 4 = c := by omega
    have e1 : ((c + 3) % 4 + 1) % 4 = c := by omega
    have e2 : ((c + 6) % 4 + 2) % 4 = c := by omega
    have e3 : ((c + 9) % 4 + 3) % 4 = c := by omega
    have em : 9 - n = (8 - n) + 1 := by omega
    have ek : 10 - (n + 1) = (8 - n) + 1 := by omega
    have hb : bkB key (8 - n + 1) = unmix (rk key (8 - n + 1)) := by
      rw [bkB, if_pos (by omega)]; rfl
    have ez : 9 - (n + 1) = 8 - n := by omega
    have c0 : 4 * c + 0 = 4 * c := by omega
    rw [e0, e1, e2, e3, em, ek, hb, unmix_get _ _ _ hc hr, Se_s _ _ _ _ 0 (by omega) hc (by omega), Se_s _ _ _ _ 1 (by omega) hc (by omega), Se_s _ _ _ _ 2 (by omega) hc (by omega), Se_s _ _ _ _ 3 (by omega) hc (by omega), imc_xor, c0, ← UInt8.xor_assoc, UInt8.xor_self, UInt8.zero_xor, imc_mc _ hr, ez]
    have h4 : r = 0 ∨ r = 1 ∨ r = 2 ∨ r = 3 := by omega
    rcases h4 with rfl | rfl | rfl | rfl <;> simp
theorem dec_enc (key b : V8 16) : dec key (enc key b) = b := by
  apply Vector.ext; intro i hi
  have hc : i / 4 < 4 := by omega
  have hr : i % 4 < 4 := by omega
  have ei : 4 * (i / 4) + i % 4 = i := by omega
  rw [← gv_eq _ _ hi, ← gv_eq _ _ hi]
  rw [dec, runf, gv_ofFn _ _ hi]
  simp only [lastf, pick]
  have h := gw_bkK key 0 (i / 4) hc 11 (by omega) (by omega)
  have hb : bkB key 0 = rk key 0 := by simp [bkB, rk]
  have es : ((i / 4 + i % 4 * 3) % 4 + i % 4) % 4 = i / 4 := by omega
  have hs := Sd key b 9 (by omega) ((i / 4 + i % 4 * 3) % 4) (i % 4) (by omega) hr
  simp only [By] at hs
  rw [hs, back_sbox, es, show 40 + i / 4 = (10 - 0) * 4 + i / 4 by omega, h, byt_wds _ _ _ hc hr, hb, Nat.sub_self, Se_0 _ _ _ _ hc hr, ei, UInt8.xor_assoc, UInt8.xor_self, UInt8.xor_zero]
end Go.X
namespace Go.X
open Go
def crO (key : V8 16) (nonce : V8 12) : Nat → V8 16
  | 0 => startV key nonce
  | k + 1 => addO key (crO key nonce k) (k + 1)
def crC (bs : List UInt8) : Nat → V8 16
  | 0 => Vector.replicate 16 0
  | k + 1 => xorV (crC bs k) (blk bs k)
def crB (key : V8 16) (nonce : V8 12) (bs : List UInt8) (k : Nat) : V8 16 := xorV (crO key nonce (k + 1)) (enc key (xorV (blk bs k) (crO key nonce (k + 1))))
def crT (key : V8 16) (nonce : V8 12) (bs : List UInt8) : Nat → List UInt8
  | 0 => []
  | k + 1 => crT key nonce bs k ++ (crB key nonce bs k).toList
def deB (key : V8 16) (nonce : V8 12) (bs : List UInt8) (k : Nat) : V8 16 := xorV (crO key nonce (k + 1)) (dec key (xorV (blk bs k) (crO key nonce (k + 1))))
def deT (key : V8 16) (nonce : V8 12) (bs : List UInt8) : Nat → List UInt8
  | 0 => []
  | k + 1 => deT key nonce bs k ++ (deB key nonce bs k).toList
def deC (key : V8 16) (nonce : V8 12) (bs : List UInt8) : Nat → V8 16
  | 0 => Vector.replicate 16 0
  | k + 1 => xorV (deC key nonce bs k) (deB key nonce bs k)
def resL (bs : List UInt8) : List UInt8 := bs.drop (bs.length / 16 * 16)
def lasO (key : V8 16) (nonce : V8 12) (n : Nat) : V8 16 := xorV (crO key nonce (n / 16)) (star key)
def cryT (key : V8 16) (nonce : V8 12) (bs : List UInt8) : List UInt8 :=
  if (resL bs).length = 0 then crT key nonce bs (bs.length / 16) else crT key nonce bs (bs.length / 16) ++ (xorV (padV (resL bs)) (enc key (lasO key nonce bs.length))).toList.take (resL bs).length
def cryC (bs : List UInt8) : V8 16 := if (resL bs).length = 0 then crC bs (bs.length / 16) else xorV (crC bs (bs.length / 16)) (padV (resL bs))
def cryO (key : V8 16) (nonce : V8 12) (n : Nat) : V8 16 := if n % 16 = 0 then crO key nonce (n / 16) else lasO key nonce n
def resP (key : V8 16) (nonce : V8 12) (bs : List UInt8) : List UInt8 := xorb (resL bs) (enc key (lasO key nonce bs.length)).toList
def decT (key : V8 16) (nonce : V8 12) (bs : List UInt8) : List UInt8 :=
  if (resL bs).length = 0 then deT key nonce bs (bs.length / 16) else deT key nonce bs (bs.length / 16) ++ resP key nonce bs
def decC (key : V8 16) (nonce : V8 12) (bs : List UInt8) : V8 16 :=
  if (resL bs).length = 0 then deC key nonce bs (bs.length / 16) else xorV (deC key nonce bs (bs.length / 16)) (padV (resP key nonce bs))
def sealV (key : V8 16) (nonce : V8 12) (data bs : List UInt8) : List UInt8 := cryT key nonce bs ++ (tagV key (cryC bs) (cryO key nonce bs.length) data).toList
def opnE (key : V8 16) (nonce : V8 12) (data bs : List UInt8) : Nat :=
  if bs.length < 16 then 1 else
    if eqB (tagV key (decC key nonce (bs.take (bs.length - 16))) (cryO key nonce (bs.length - 16)) data).toList (bs.drop (bs.length - 16)) then 0 else 3
def opnT (key : V8 16) (nonce : V8 12) (bs : List UInt8) : List UInt8 := decT key nonce (bs.take (bs.length - 16))
theorem resL_len (bs : List UInt8) : (resL bs).length = bs.length % 16 := by simp [resL]; omega
@[simp] theorem crT_len (key : V8 16) (nonce : V8 12) (bs : List UInt8) (k : Nat) : (crT key nonce bs k).length = k * 16 := by
  induction k with
  | zero => rfl
  | succ k ih => simp [crT, ih]; omega
@[simp] theorem deT_len (key : V8 16) (nonce : V8 12) (bs : List UInt8) (k : Nat) : (deT key nonce bs k).length = k * 16 := by
  induction k with
  | zero => rfl
  | succ k ih => simp [deT, ih]; omega
@[simp] theorem cryT_len (key : V8 16) (nonce : V8 12) (bs : List UInt8) : (cryT key nonce bs).length = bs.length := by
  simp only [cryT]
  have := resL_len bs
  split
  · rw [crT_len]; omega
  · simp; omega
@[simp] theorem decT_len (key : V8 16) (nonce : V8 12) (bs : List UInt8) : (decT key nonce bs).length = bs.length := by
  simp only [decT]
  have := resL_len bs
  split
  · rw [deT_len]; omega
  · simp [resP, xorb_len]; omega
@[simp] theorem sealV_len (key : V8 16) (nonce : V8 12) (data bs : List UInt8) : (sealV key nonce data bs).length = bs.length + 16 := by simp [sealV]
theorem xorV_get (a b : V8 16) (i : Nat) (h : i < 16) : gv (xorV a b) i = gv a i ^^^ gv b i := by rw [xorV, gv_ofFn _ _ h]
theorem v_ext {n : Nat} {a b : V8 n} (h : ∀ i, i < n → gv a i = gv b i) : a = b := by
  apply Vector.ext; intro i hi
  rw [← gv_eq _ _ hi, ← gv_eq _ _ hi]; exact h i hi
theorem xorV_cancel (a b : V8 16) : xorV (xorV a b) a = b := by
  apply v_ext; intro i h
  rw [xorV_get _ _ _ h, xorV_get _ _ _ h, UInt8.xor_comm (gv a i), UInt8.xor_assoc, UInt8.xor_self, UInt8.xor_zero]
theorem xorV_comm (a b : V8 16) : xorV a b = xorV b a := by
  apply v_ext; intro i h
  rw [xorV_get _ _ _ h, xorV_get _ _ _ h, UInt8.xor_comm]
theorem xorV_cancel2 (a b : V8 16) : xorV a (xorV b a) = b := by
  rw [xorV_comm, xorV_comm b, xorV_cancel]
theorem blk_app (x : List UInt8) (v : V8 16) (y : List UInt8) (k : Nat) (h : x.length = k * 16) : blk (x ++ v.toList ++ y) k = v := by
  rw [blk, List.append_assoc, ← h, List.drop_left]
  apply v_ext; intro i hi
  rw [gv_ofl _ _ _ hi, gl_app_lt (by simpa using hi)]
  simp [gl, gv]
theorem blk_crT (key : V8 16) (nonce : V8 12) (bs : List UInt8) (k m : Nat) (h : k < m) (y : List UInt8) : blk (crT key nonce bs m ++ y) k = crB key nonce bs k := by
  induction m generalizing y with
  | zero => omega
  | succ m ih =>
    by_cases e : k = m
    · subst e; rw [crT]; exact blk_app _ _ _ _ (crT_len ..)
    · rw [crT, List.append_assoc]; exact ih (by omega) _
theorem deB_crT (key : V8 16) (nonce : V8 12) (bs : List UInt8) (k m : Nat) (h : k < m) (y : List UInt8) : deB key nonce (crT key nonce bs m ++ y) k = blk bs k := by
  rw [deB, blk_crT _ _ _ _ _ h, crB, xorV_cancel, dec_enc, xorV_cancel2]
theorem blk_list (bs : List UInt8) (k : Nat) (h : k * 16 + 16 ≤ bs.length) : (blk bs k).toList = (bs.drop (k * 16)).take 16 := by
  apply List.ext_getElem?; intro i
  by_cases hi : i < 16
  · have e : k * 16 + i < bs.length := by omega
    simp [blk, ofl, hi, gl, e]
  · rw [List.getElem?_eq_none (by simp; omega), List.getElem?_eq_none (by simp; omega)]
theorem deT_crT (key : V8 16) (nonce : V8 12) (bs : List UInt8) (m : Nat) (y : List UInt8) (hm : m * 16 ≤ bs.length) : ∀ k, k ≤ m → deT key nonce (crT key nonce bs m ++ y) k = bs.take (k * 16)
  | 0, _ => by simp [deT]
  | k + 1, hk => by
    rw [deT, deT_crT key nonce bs m y hm k (by omega), deB_crT _ _ _ _ _ (by omega), blk_list _ _ (by omega)]
    have e : (k + 1) * 16 = k * 16 + 16 := by omega
    rw [e, List.take_add]
theorem deC_crT (key : V8 16) (nonce : V8 12) (bs : List UInt8) (m : Nat) (y : List UInt8) : ∀ k, k ≤ m → deC key nonce (crT key nonce bs m ++ y) k = crC bs k
  | 0, _ => rfl
  | k + 1, hk => by rw [deC, crC, deC_crT key nonce bs m y k (by omega), deB_crT _ _ _ _ _ (by omega)]
theorem padV_get (bs : List UInt8) (i : Nat) (h : i < bs.length) (h2 : bs.length < 16) : gv (padV bs) i = gl bs i := by
  have h3 : i < 16 := by omega
  rw [padV, gv_eq _ _ h3, Vector.getElem_setIfInBounds h3, if_neg (by omega), ofl_get]
theorem l_ext {a b : List UInt8} (h : a.length = b.length) (h2 : ∀ i, i < a.length → gl a i = gl b i) : a = b := by
  apply List.ext_getElem h; intro i h3 h4
  have := h2 i h3
  simpa [gl, h3, h4] using this
theorem gl_toList {n : Nat} (v : V8 n) (i : Nat) : gl v.toList i = gv v i := by simp [gl, gv]
theorem gl_xorb (a b : List UInt8) (i : Nat) (h : i < a.length) (h2 : i < b.length) : gl (xorb a b) i = gl a i ^^^ gl b i := by
  have : i < min a.length b.length := by omega
  simp [gl, xorb, this, h, h2]
theorem rest_back (r : List UInt8) (p : V8 16) (h : r.length < 16) : xorb ((xorV (padV r) p).toList.take r.length) p.toList = r := by
  apply l_ext
  · rw [xorb_len]; simp; omega
  · intro i hi
    rw [xorb_len] at hi
    simp at hi
    rw [gl_xorb _ _ _ (by simp; omega) (by simp; omega), gl_take (by omega), gl_toList, gl_toList, xorV_get _ _ _ (by omega), padV_get _ _ (by omega) h, UInt8.xor_assoc, UInt8.xor_self, UInt8.xor_zero]
theorem resL_cryT (key : V8 16) (nonce : V8 12) (bs : List UInt8) : resL (cryT key nonce bs) = (cryT key nonce bs).drop (bs.length / 16 * 16) := by rw [resL, cryT_len]
theorem resL_0 {bs : List UInt8} (h : (resL bs).length = 0) : bs.take (bs.length / 16 * 16) = bs := by
  rw [resL_len] at h
  exact List.take_of_length_le (by omega)
theorem dec_cry (key : V8 16) (nonce : V8 12) (bs : List UInt8) : decT key nonce (cryT key nonce bs) = bs ∧ decC key nonce (cryT key nonce bs) = cryC bs := by
  have hl := cryT_len key nonce bs
  have h1 := resL_len bs
  have h2 : (resL (cryT key nonce bs)).length = bs.length % 16 := by rw [resL_len, hl]
  by_cases h : (resL bs).length = 0
  · have e : cryT key nonce bs = crT key nonce bs (bs.length / 16) ++ [] := by rw [cryT, if_pos h, List.append_nil]
    rw [decT, decC, cryC, if_pos (by omega), if_pos (by omega), if_pos h, hl, e]
    refine ⟨?_, deC_crT _ _ _ _ _ _ (Nat.le_refl _)⟩
    rw [deT_crT _ _ _ _ _ (by omega) _ (Nat.le_refl _), resL_0 h]
  · have e : cryT key nonce bs = crT key nonce bs (bs.length / 16) ++ (xorV (padV (resL bs)) (enc key (lasO key nonce bs.length))).toList.take (resL bs).length := by rw [cryT, if_neg h]
    have er : resL (cryT key nonce bs) = (xorV (padV (resL bs)) (enc key (lasO key nonce bs.length))).toList.take (resL bs).length := by
      rw [resL_cryT, e]; exact List.drop_left' (crT_len ..)
    have ep : resP key nonce (cryT key nonce bs) = resL bs := by
      rw [resP, er, hl]; exact rest_back _ _ (by omega)
    rw [decT, decC, cryC, if_neg (by omega), if_neg (by omega), if_neg h, ep, hl, e, deC_crT _ _ _ _ _ _ (Nat.le_refl _), deT_crT _ _ _ _ _ (by omega) _ (Nat.le_refl _)]
    exact ⟨List.take_append_drop _ _, rfl⟩
theorem orl_xorb_self (a : List UInt8) : orl (xorb a a) = 0 := by
  have h : ∀ l : List UInt8, (∀ x ∈ l, x = 0) → ∀ o : UInt8, l.foldl (· ||| ·) o = o := by
    intro l
    induction l with
    | nil => intro _ o; rfl
    | cons x r ih =>
      intro h o
      rw [List.foldl_cons, h x (by simp), UInt8.or_zero]
      exact ih (fun y hy => h y (by simp [hy])) o
  refine h _ ?_ 0
  intro x hx
  simp [xorb] at hx
  obtain ⟨i, hi, rfl⟩ := hx
  rfl
theorem eqB_self (a : List UInt8) : eqB a a = true := by rw [eqB, if_pos (orl_xorb_self a)]; simp
theorem opn_seal (key : V8 16) (nonce : V8 12) (data bs : List UInt8) : opnE key nonce data (sealV key nonce data bs) = 0 ∧ opnT key nonce (sealV key nonce data bs) = bs := by
  have hl := sealV_len key nonce data bs
  have hn : (sealV key nonce data bs).length - 16 = bs.length := by omega
  have e1 : (sealV key nonce data bs).take bs.length = cryT key nonce bs := by rw [sealV]; exact List.take_left' (cryT_len ..)
  have e2 : (sealV key nonce data bs).drop bs.length = (tagV key (cryC bs) (cryO key nonce bs.length) data).toList := by rw [sealV]; exact List.drop_left' (cryT_len ..)
  have h := dec_cry key nonce bs
  rw [opnE, opnT, if_neg (by omega), hn, e1, e2, h.1, h.2, eqB_self]
  exact ⟨by simp, rfl⟩
end Go.X
namespace Go.X
open Go
section
variable {w0 w w' : World} {F : List Nat} {L L' M R A X X' : List (Nat × Obj)}
theorem St.callG (h : St w0 F L w) (hp : L.Perm (M ++ R)) (hc : St w (M.map Prod.fst) L' w') : St w0 F (L' ++ R) w' := by
  have h1 := h.perm hp.symm
  have hnd := h1.nodup
  rw [List.map_append, List.nodup_append] at hnd
  refine (h1.sublist (List.sublist_append_right M R)).call hc (fun p hp hg => ?_) (fun g hg => ?_) (fun p hp => (hc.own p hp).1)
  · exact hnd.2.2 _ hg _ (List.mem_map.2 ⟨p, hp, rfl⟩) rfl
  · obtain ⟨q, hq, rfl⟩ := List.mem_map.1 hg
    exact (h1.own q (List.mem_append_left R hq)).1
theorem perm_out {i b : Nat} {o : Obj} (hi : A[i]? = some (b, o)) : (A ++ (X ++ R)).Perm (((b, o) :: X) ++ (A.eraseIdx i ++ R)) := by
  have hlt : i < A.length := (List.getElem?_eq_some_iff.1 hi).1
  have he : A[i] = (b, o) := (List.getElem?_eq_some_iff.1 hi).2
  have h1 : A.Perm ((b, o) :: A.eraseIdx i) := by
    rw [List.eraseIdx_eq_take_drop_succ]
    have h3 : A = A.take i ++ (b, o) :: A.drop (i + 1) := by rw [← he, List.getElem_cons_drop hlt, List.take_append_drop]
    refine List.Perm.trans ?_ List.perm_middle
    rw [← h3]
  refine (List.Perm.append_right _ h1).trans ?_
  simp only [List.cons_append]
  refine List.Perm.cons _ ?_
  rw [← List.append_assoc, ← List.append_assoc]
  exact List.Perm.append_right _ List.perm_append_comm
theorem perm_in {i b : Nat} {o o' : Obj} (hi : A[i]? = some (b, o)) : (((b, o') :: X') ++ (A.eraseIdx i ++ R)).Perm (A.set i (b, o') ++ (X' ++ R)) := by
  have hlt : i < A.length := (List.getElem?_eq_some_iff.1 hi).1
  have h := perm_out (A := A.set i (b, o')) (X := X') (R := R) (i := i) (b := b) (o := o') (by simp [hlt])
  have e : (A.set i (b, o')).eraseIdx i = A.eraseIdx i := by
    rw [List.eraseIdx_eq_take_drop_succ, List.eraseIdx_eq_take_drop_succ, List.set_eq_take_append_cons_drop, if_pos hlt]
    have hl : (A.take i).length = i := by simp; omega
    congr 1
    · rw [List.take_append_of_le_length (by omega), List.take_of_length_le (by omega)]
    · rw [List.drop_append, hl]
      have : i + 1 - i = 0 + 1 := by omega
      rw [this, List.drop_of_length_le (by omega)]
      simp
  rw [e] at h
  exact h.symm
theorem St.call_out {i b : Nat} {o o' : Obj} (h : St w0 F (A ++ (X ++ R)) w) (hi : A[i]? = some (b, o)) (hc : St w (b :: X.map Prod.fst) ((b, o') :: (X' ++ [])) w') : St w0 F (A.set i (b, o') ++ (X' ++ R)) w' := by
  have := h.callG (M := (b, o) :: X) (perm_out hi) hc
  refine this.perm ?_
  have h2 := perm_in (A := A) (X' := X') (R := R) (o := o) (o' := o') hi
  simp only [List.append_nil, List.cons_append] at h2 ⊢
  exact h2.symm
theorem St.nd {i b : Nat} {o : Obj} (h : St w0 F (A ++ (X ++ R)) w) (hi : A[i]? = some (b, o)) : (b :: X.map Prod.fst).Nodup := by
  have h1 := (h.perm (perm_out hi).symm).nodup
  rw [List.map_append, List.nodup_append] at h1
  exact h1.1
theorem perm_out2 {i j b c : Nat} {o u : Obj} (hi : A[i]? = some (b, o)) (hj : (A.eraseIdx i)[j]? = some (c, u)) : (A ++ (X ++ R)).Perm (((b, o) :: (c, u) :: X) ++ ((A.eraseIdx i).eraseIdx j ++ R)) := by
  refine (perm_out hi).trans ?_
  simp only [List.cons_append]
  refine List.Perm.cons _ ?_
  have h := perm_out (X := X) (R := R) hj
  refine List.Perm.trans ?_ h
  rw [← List.append_assoc, ← List.append_assoc]
  exact List.Perm.append_right _ List.perm_append_comm
theorem St.call_out2 {A2 : List (Nat × Obj)} {i j b c : Nat} {o o' u u' : Obj} (h : St w0 F (A ++ (X ++ R)) w) (hi : A[i]? = some (b, o)) (hj : (A.eraseIdx i)[j]? = some (c, u)) (hi2 : A2[i]? = some (b, o')) (hj2 : (A2.eraseIdx i)[j]? = some (c, u')) (hr : (A2.eraseIdx i).eraseIdx j = (A.eraseIdx i).eraseIdx j)
    (hc : St w (b :: c :: X.map Prod.fst) ((b, o') :: (c, u') :: (X' ++ [])) w') : St w0 F (A2 ++ (X' ++ R)) w' := by
  have := h.callG (M := (b, o) :: (c, u) :: X) (perm_out2 hi hj) hc
  refine this.perm ((perm_out2 hi2 hj2).trans ?_)
  rw [hr]
  simp
theorem St.same2 {p q r : Nat × Obj} (h : St w0 (q.1 :: r.1 :: X.map Prod.fst) ([p, q, r] ++ (X ++ [])) w) (hq : w0.heap[q.1]? = some q.2) (hr : w0.heap[r.1]? = some r.2) (hX : ∀ p ∈ X, w0.heap[p.1]? = some p.2) : St w0 [] [p] w := by
  have hw : ∀ s ∈ q :: r :: X, w0.heap[s.1]? = some s.2 ∧ w.heap[s.1]? = some s.2 := by
    intro s hs
    refine ⟨?_, (h.own s (by simp at hs ⊢; exact .inr hs)).2⟩
    rcases List.mem_cons.1 hs with rfl | hs
    · exact hq
    rcases List.mem_cons.1 hs with rfl | hs
    · exact hr
    · exact hX s hs
  have hp := h.own p (by simp)
  have hnd := h.nodup
  refine ⟨h.os, h.tape, h.output, h.size, fun k hk _ => ?_, fun s hs => ?_, by simp⟩
  · by_cases hF : k ∈ q.1 :: r.1 :: X.map Prod.fst
    · have : k ∈ (q :: r :: X).map Prod.fst := by simpa using hF
      obtain ⟨s, hs, rfl⟩ := List.mem_map.1 this
      rw [(hw s hs).1, (hw s hs).2]
    · exact h.frame k hk hF
  · have : s = p := by simpa using hs
    subst this
    refine ⟨.inr ?_, hp.2⟩
    rcases hp.1 with hm | hm
    · simp only [List.cons_append, List.nil_append, List.append_nil, List.map_cons, List.nodup_cons] at hnd
      exact absurd hm (by simpa using hnd.1)
    · exact hm
theorem St.nd2 {i j b c : Nat} {o u : Obj} (h : St w0 F (A ++ (X ++ R)) w) (hi : A[i]? = some (b, o)) (hj : (A.eraseIdx i)[j]? = some (c, u)) : (b :: c :: X.map Prod.fst).Nodup := by
  have h1 := (h.perm (perm_out2 hi hj).symm).nodup
  rw [List.map_append, List.nodup_append] at h1
  exact h1.1
end
section
variable {key : V8 16} {nonce : V8 12} {bs : List UInt8} {n c : Nat} {a : Option Addr} {X : List (Nat × Obj)}
theorem cry_z1 (hn : bs.length = n) (hz : n / 16 * 16 = n) : (.tuple #[.slice a (n / 16 * 16) c, .agg (BV (crC bs (n / 16))), .agg (BV (crO key nonce (n / 16)))] : Value) = .tuple #[.slice a n c, .agg (BV (cryC bs)), .agg (BV (cryO key nonce n))] := by
  rw [cryC, if_pos (by rw [resL_len]; omega), cryO, if_pos (by omega), hz, hn]
theorem cry_z2 (hn : bs.length = n) (hz : n / 16 * 16 = n) (h : Own 1 a (n / 16 * 16) c (c8 (crT key nonce bs (n / 16))) X) : Own 1 a n c (c8 (cryT key nonce bs)) X := by
  rw [cryT, if_pos (by rw [resL_len]; omega), hn]; rw [hz] at h; exact h
theorem cry_r1 (hn : bs.length = n) (hz : ¬ n / 16 * 16 = n) (m : Nat) (hm : m = n) : (.tuple #[.slice a m c, .agg (BV (xorV (crC bs (n / 16)) (padV (bs.drop (n / 16 * 16))))), .agg (BV (xorV (crO key nonce (n / 16)) (star key)))] : Value) = .tuple #[.slice a n c, .agg (BV (cryC bs)), .agg (BV (cryO key nonce n))] := by
  rw [cryC, if_neg (by rw [resL_len]; omega), cryO, if_neg (by omega), hm, resL, hn]; rfl
theorem cry_r2 (hn : bs.length = n) (hz : ¬ n / 16 * 16 = n) (m : Nat) (hm : m = n) (h : Own 1 a m c (c8 (crT key nonce bs (n / 16) ++ (xorV (padV (bs.drop (n / 16 * 16))) (enc key (xorV (crO key nonce (n / 16)) (star key)))).toList.take (n - n / 16 * 16))) X) : Own 1 a n c (c8 (cryT key nonce bs)) X := by
  subst hm
  rw [cryT, if_neg (by rw [resL_len]; omega), resL_len, resL, hn]
  have e : m - m / 16 * 16 = m % 16 := by omega
  rw [e] at h; exact h
theorem dec_z1 (hn : bs.length = n) (hz : n / 16 * 16 = n) : (.tuple #[.slice a (n / 16 * 16) c, .agg (BV (deC key nonce bs (n / 16))), .agg (BV (crO key nonce (n / 16)))] : Value) = .tuple #[.slice a n c, .agg (BV (decC key nonce bs)), .agg (BV (cryO key nonce n))] := by
  rw [decC, if_pos (by rw [resL_len]; omega), cryO, if_pos (by omega), hz, hn]
theorem dec_z2 (hn : bs.length = n) (hz : n / 16 * 16 = n) (h : Own 1 a (n / 16 * 16) c (c8 (deT key nonce bs (n / 16))) X) : Own 1 a n c (c8 (decT key nonce bs)) X := by
  rw [decT, if_pos (by rw [resL_len]; omega), hn]; rw [hz] at h; exact h
theorem dec_r1 (hn : bs.length = n) (hz : ¬ n / 16 * 16 = n) (m : Nat) (hm : m = n) : (.tuple #[.slice a m c, .agg (BV (xorV (deC key nonce bs (n / 16)) (padV (xorb (bs.drop (n / 16 * 16)) (enc key (xorV (crO key nonce (n / 16)) (star key))).toList)))), .agg (BV (xorV (crO key nonce (n / 16)) (star key)))] : Value) = .tuple #[.slice a n c, .agg (BV (decC key nonce bs)), .agg (BV (cryO key nonce n))] := by
  rw [decC, if_neg (by rw [resL_len]; omega), cryO, if_neg (by omega), hm, resP, resL, hn]; rfl
theorem dec_r2 (hn : bs.length = n) (hz : ¬ n / 16 * 16 = n) (m : Nat) (hm : m = n) (h : Own 1 a m c (c8 (deT key nonce bs (n / 16) ++ xorb (bs.drop (n / 16 * 16)) (enc key (xorV (crO key nonce (n / 16)) (star key))).toList)) X) : Own 1 a n c (c8 (decT key nonce bs)) X := by
  subst hm
  rw [decT, if_neg (by rw [resL_len]; omega), resP, resL, hn]; exact h
variable {data : List UInt8} {C : Nat}
theorem opnE_s (hn : bs.length = n) (h : n < 16) : opnE key nonce data bs = 1 := by rw [opnE, if_pos (by omega)]
theorem opnE_f (hn : bs.length = n) (h : ¬ n < 16) (he : eqB (tagV key (decC key nonce (bs.take (n - 16))) (cryO key nonce (n - 16)) data).toList (bs.drop (n - 16)) = false) : opnE key nonce data bs = 3 := by
  subst hn; rw [opnE, if_neg h, he]; rfl
theorem opnE_t (hn : bs.length = n) (h : ¬ n < 16) (he : eqB (tagV key (decC key nonce (bs.take (n - 16))) (cryO key nonce (n - 16)) data).toList (bs.drop (n - 16)) = true) : opnE key nonce data bs = 0 := by
  subst hn; rw [opnE, if_neg h, he]; rfl
theorem opn_e {e : Nat} (h0 : e ≠ 0) (he : opnE key nonce data bs = e) : (.tuple #[.slice none 0 0, .iface C (I (e : Int))] : Value) = .tuple #[.slice none 0 0, errV C (opnE key nonce data bs)] := by rw [he, errV_s C e h0]
theorem opn_o {e : Nat} (h0 : e ≠ 0) (he : opnE key nonce data bs = e) : Own 1 none 0 0 (c8 (if opnE key nonce data bs = 0 then opnT key nonce bs else [])) [] := by rw [he, if_neg h0]; exact Own.nil 1
theorem opn_e0 {m c : Nat} (he : opnE key nonce data bs = 0) : (.tuple #[.slice a m c, .nilIface] : Value) = .tuple #[.slice a m c, errV C (opnE key nonce data bs)] := by rw [he, errV_0]
theorem opn_o0 {m c : Nat} (hn : bs.length = n) (he : opnE key nonce data bs = 0) (h : Own 1 a m c (c8 (decT key nonce (bs.take (n - 16)))) X) : Own 1 a m c (c8 (if opnE key nonce data bs = 0 then opnT key nonce bs else [])) X := by
  rw [he, if_pos rfl, opnT, hn]; exact h
end
def sumN (f : Nat → Nat) : Nat → Nat
  | 0 => 0
  | k + 1 => sumN f k + f k
def catN (f : Nat → List UInt8) : Nat → List UInt8
  | 0 => []
  | k + 1 => catN f k ++ f k
def two {α : Type} (x y : α) (k : Nat) : α := if k = 0 then x else y
theorem two_0 {α : Type} (x y : α) : two x y 0 = x := rfl
end Go.X
namespace Go.X
open Go
theorem chk_0 {d : Int} {s : UInt64} {n : Nat} (h : chk d s n = 0) : (∃ dn : Nat, d = (dn : Int) ∧ dn ≤ 1) ∧ s.toNat ≤ 9223372036854775807 ∧ n ≤ 1200 := by
  simp only [chk] at h
  split at h
  · cases h
  split at h
  · cases h
  split at h
  · cases h
  exact ⟨⟨d.toNat, by omega, by omega⟩, by omega, by omega⟩
def tmV (t e : UInt16) : UInt64 := shl64 (toU64 (t.toNat : Int)) 16 ||| toU64 (e.toNat : Int)
def encV (key : V8 16) (d : Nat) (s : UInt64) (t e : UInt16) (bs : List UInt8) : List UInt8 :=
  (headV d s).toList ++ sealV key (nonceV (headV d s)) [] (bytesL (tmV t e) 4 ++ bs)
def encP (key : V8 16) (d : Int) (s : UInt64) (t e : UInt16) (bs : List UInt8) : List UInt8 := if chk d s bs.length = 0 then encV key d.toNat s t e bs else []
@[simp] theorem encV_len (key : V8 16) (d : Nat) (s : UInt64) (t e : UInt16) (bs : List UInt8) : (encV key d s t e bs).length = bs.length + 28 := by simp [encV]; omega
def dcdE (key : V8 16) (bs : List UInt8) : Nat := if lng bs.length ≠ 0 then lng bs.length else opnE key (nonceV (ofl 8 bs)) [] (bs.drop 8)
def dcdX (key : V8 16) (bs : List UInt8) : List UInt8 := opnT key (nonceV (ofl 8 bs)) (bs.drop 8)
def dcdD (key : V8 16) (bs : List UInt8) : Nat := if dcdE key bs = 0 then headD bs else 0
def dcdS (key : V8 16) (bs : List UInt8) : UInt64 := if dcdE key bs = 0 then headS bs else 0
def dcdT (key : V8 16) (bs : List UInt8) : UInt16 := if dcdE key bs = 0 then toU16 ((shr64 (number ((dcdX key bs).take 4)) 16).toNat : Int) else 0
def dcdM (key : V8 16) (bs : List UInt8) : UInt16 := if dcdE key bs = 0 then toU16 ((number ((dcdX key bs).take 4)).toNat : Int) else 0
def dcdP (key : V8 16) (bs : List UInt8) : List UInt8 := if dcdE key bs = 0 then (dcdX key bs).drop 4 else []
def Rd (a : Option Addr) (bs : List UInt8) (X : List (Nat × Obj)) : Prop := ∀ (w0 : World) (F : List Nat) (L : List (Nat × Obj)) (w : World), St w0 F L w → (∀ p ∈ X, p ∈ L) → Cel w a (c8 bs)
theorem opnT_len (key : V8 16) (nonce : V8 12) (bs : List UInt8) : (opnT key nonce bs).length = bs.length - 16 := by simp [opnT]
theorem dcdX_len (key : V8 16) (bs : List UInt8) : (dcdX key bs).length = bs.length - 24 := by simp [dcdX, opnT_len]; omega
section
variable {key : V8 16} {d : Int} {dn : Nat} {s : UInt64} {t e : UInt16} {bs : List UInt8} {n m c C : Nat} {a : Option Addr} {X : List (Nat × Obj)}
theorem enc_bad (hn : bs.length = n) (h : chk d s n ≠ 0) : Own 1 none 0 0 (c8 (encP key d s t e bs)) [] := by rw [encP, hn, if_neg h]; exact Own.nil 1
theorem enc_ok (hn : bs.length = n) (h : chk d s n = 0) (hd : d = (dn : Int)) (ho : Own 1 a m c (c8 ((headV dn s).toList ++ sealV key (nonceV (headV dn s)) [] (bytesL (tmV t e) 4 ++ bs))) X) : Own 1 a m c (c8 (encP key d s t e bs)) X := by
  rw [encP, hn, if_pos h, hd]; exact ho
theorem enc_e0 (h : chk d s n = 0) : (.tuple #[.slice a m c, .nilIface] : Value) = .tuple #[.slice a m c, errV C (chk d s n)] := by rw [h, errV_0]
def DecR (key : V8 16) (bs : List UInt8) (C : Nat) (v : Value) (X : List (Nat × Obj)) : Prop :=
  ∃ a n c, v = .tuple #[.agg #[I ((dcdD key bs : Nat) : Int), U64 (dcdS key bs), U16 (dcdT key bs), U16 (dcdM key bs), .slice a n c], errV C (dcdE key bs)] ∧ (dcdP key bs).length = n ∧ n ≤ 1000000 ∧ n ≤ c ∧ Rd a (dcdP key bs) X
theorem dec_bad (h : dcdE key bs ≠ 0) : DecR key bs C (.tuple #[.agg #[I 0, U64 0, U16 0, U16 0, .slice none 0 0], errV C (dcdE key bs)]) [] :=
  ⟨none, 0, 0, by rw [dcdD, dcdS, dcdT, dcdM, if_neg h, if_neg h, if_neg h, if_neg h]; rfl, by rw [dcdP, if_neg h]; rfl, by omega, by omega, fun _ _ _ w _ _ => by rw [dcdP, if_neg h]; exact Cel.nil w none⟩
theorem dec_ok (h : dcdE key bs = 0) (hN : bs.length ≤ 1000000) (hm : (dcdX key bs).length = m) (h4 : 4 ≤ m) (hO : Own 1 a m c (c8 (dcdX key bs)) X) :
    DecR key bs C (.tuple #[.agg #[I ((headD bs : Nat) : Int), U64 (headS bs), U16 (toU16 ((shr64 (number ((dcdX key bs).take 4)) 16).toNat : Int)), U16 (toU16 ((number ((dcdX key bs).take 4)).toNat : Int)), .slice (sla a 4 c) (m - 4) (c - 4)], .nilIface]) X :=
  ⟨_, _, _, by rw [dcdD, dcdS, dcdT, dcdM, if_pos h, if_pos h, if_pos h, if_pos h, h, errV_0], by rw [dcdP, if_pos h, List.length_drop, hm], by rw [dcdX_len] at hm; omega, by have := hO.le; omega,
    fun _ _ _ w hS hX => by rw [dcdP, if_pos h]; exact (hO.cel hS hX).drop8 (lo := 4) (cap := c) (by have := hO.le; omega)⟩
theorem dcdE_1 (hn : bs.length = n) (h : lng n ≠ 0) : dcdE key bs = lng n := by rw [dcdE, hn, if_pos h]
theorem dcdE_2 (hn : bs.length = n) (h : lng n = 0) : dcdE key bs = opnE key (nonceV (ofl 8 bs)) [] (bs.drop 8) := by rw [dcdE, hn, if_neg (by omega)]
end
end Go.X
namespace Go.X
open Go
def valN (l : List UInt8) : Nat := l.foldl (fun x c => x * 256 + c.toNat) 0
theorem num_step (x : UInt64) (y : Nat) (c : UInt8) (h : x.toNat = y) (hy : y < 256 ^ 7) : (shl64 x 8 ||| toU64 (c.toNat : Int)).toNat = y * 256 + c.toNat := by
  have hc := c.toNat_lt
  have e1 : (toU64 (c.toNat : Int)).toNat = c.toNat := by simp only [toU64, UInt64.toNat_ofNat']; omega
  have e2 : (shl64 x 8).toNat = y * 2 ^ 8 := by
    simp only [shl64, UInt64.toNat_ofNat', h]
    exact Nat.mod_eq_of_lt (by omega)
  rw [UInt64.toNat_or, e1, e2, or_add _ _ 8 (by omega)]
theorem num2_step (x : UInt64) (y : Nat) (c : UInt8) (h : x.toNat = y) (hy : y < 256 ^ 7) : (x * 256 + toU64 (c.toNat : Int)).toNat = y * 256 + c.toNat := by
  have hc := c.toNat_lt
  have e1 : (toU64 (c.toNat : Int)).toNat = c.toNat := by simp only [toU64, UInt64.toNat_ofNat']; omega
  rw [UInt64.toNat_add, UInt64.toNat_mul, e1, h]
  have : (256 : UInt64).toNat = 256 := rfl
  rw [this]; omega
theorem fold_nat (f : UInt64 → UInt8 → UInt64) (hf : ∀ (x : UInt64) (y : Nat) (c : UInt8), x.toNat = y → y < 256 ^ 7 → (f x c).toNat = y * 256 + c.toNat) :
    ∀ (l : List UInt8) (k : Nat) (x : UInt64) (y : Nat), x.toNat = y → y < 256 ^ k → k + l.length ≤ 8 → (l.foldl f x).toNat = l.foldl (fun x c => x * 256 + c.toNat) y
  | [], _, _, _, h, _, _ => h
  | c :: l, k, x, y, h, hy, hk => by
    simp only [List.length_cons] at hk
    have h7 : 256 ^ k ≤ 256 ^ 7 := Nat.pow_le_pow_right (by omega) (by omega)
    have hc := c.toNat_lt
    have hy' : y * 256 + c.toNat < 256 ^ (k + 1) := by rw [Nat.pow_succ]; omega
    exact fold_nat f hf l (k + 1) _ _ (hf x y c h (by omega)) hy' (by omega)
theorem num_nat (l : List UInt8) (h : l.length ≤ 8) : (num l).toNat = valN l := fold_nat _ num_step l 0 0 0 rfl (by decide) (by omega)
theorem num2_nat (l : List UInt8) (h : l.length ≤ 8) : (num2 l).toNat = valN l := fold_nat _ num2_step l 0 0 0 rfl (by decide) (by omega)
theorem num2_eq (l : List UInt8) (h : l.length ≤ 8) : num2 l = num l := UInt64.toNat_inj.1 (by rw [num_nat l h, num2_nat l h])
theorem number_8 (l : List UInt8) (h : l.length ≤ 8) : number l = num l := by
  have e : l.length - 8 = 0 := by omega
  rw [number, e, List.drop_zero]
theorem valN_fold (l : List UInt8) (y : Nat) : l.foldl (fun x c => x * 256 + c.toNat) y = y * 256 ^ l.length + valN l := by
  induction l generalizing y with
  | nil => simp [valN]
  | cons c l ih =>
    have e : valN (c :: l) = c.toNat * 256 ^ l.length + valN l := by
      show List.foldl _ (0 * 256 + c.toNat) l = _
      rw [ih, Nat.zero_mul, Nat.zero_add]
    rw [List.foldl_cons, ih, e, List.length_cons, Nat.pow_succ, Nat.add_mul, Nat.mul_assoc, Nat.mul_comm 256, Nat.add_assoc]
theorem bytesL_succ (x : UInt64) (n : Nat) : bytesL x (n + 1) = bytf x (n + 1) 0 :: bytesL x n := by
  rw [bytesL, List.range_succ_eq_map, List.map_cons, List.map_map]
  congr 1
  apply List.map_congr_left; intro i _
  have e : n + 1 - 1 - (i + 1) = n - 1 - i := by omega
  simp only [Function.comp_apply, bytf, Nat.succ_eq_add_one, e]
theorem bytf_0 (x : UInt64) (n : Nat) : (bytf x (n + 1) 0).toNat = x.toNat / 256 ^ n % 256 := by
  have e : 8 * (n + 1 - 1 - 0) = 8 * n := by omega
  have e2 : (256 : Nat) ^ n = 2 ^ (8 * n) := by rw [Nat.pow_mul]
  have h : x.toNat / 2 ^ (8 * n) ≤ x.toNat := Nat.div_le_self _ _
  have := x.toNat_lt
  simp only [bytf, e, toU8, shr64, UInt8.toNat_ofNat', UInt64.toNat_ofNat', e2]
  rw [Nat.mod_eq_of_lt (a := x.toNat / _) (by omega)]
  omega
theorem bytesL_val (x : UInt64) (n : Nat) : valN (bytesL x n) = x.toNat % 256 ^ n := by
  induction n with
  | zero => simp [bytesL, valN, Nat.mod_one]
  | succ n ih =>
    rw [bytesL_succ, valN, List.foldl_cons, valN_fold, ih, bytesL_len, bytf_0, Nat.pow_succ, Nat.zero_mul, Nat.zero_add, Nat.mod_mul]
    rw [Nat.mul_comm, Nat.add_comm]
theorem number_bytes (x : UInt64) (n : Nat) (hn : n ≤ 8) (h : x.toNat < 256 ^ n) : number (bytesL x n) = x := by
  rw [number_8 _ (by simpa using hn)]
  apply UInt64.toNat_inj.1
  rw [num_nat _ (by simpa using hn), bytesL_val, Nat.mod_eq_of_lt h]
theorem and63 (x : UInt64) : (x &&& 9223372036854775807).toNat = x.toNat % 2 ^ 63 := by
  rw [UInt64.toNat_and]
  have e : (9223372036854775807 : UInt64).toNat = 2 ^ 63 - 1 := rfl
  rw [e, Nat.and_two_pow_sub_one_eq_mod]
theorem shr63 (x : UInt64) : (shr64 x 63).toNat = x.toNat / 2 ^ 63 := by
  have := x.toNat_lt
  simp only [shr64, UInt64.toNat_ofNat']
  exact Nat.mod_eq_of_lt (by omega)
def hdW (d : Nat) (s : UInt64) : UInt64 := shl64 (toU64 (d : Int)) 63 ||| s
theorem hdW_nat (d : Nat) (s : UInt64) (hd : d ≤ 1) (hs : s.toNat ≤ 9223372036854775807) : (hdW d s).toNat = d * 2 ^ 63 + s.toNat := by
  have e1 : (shl64 (toU64 (d : Int)) 63).toNat = d * 2 ^ 63 := by
    simp only [shl64, toU64, UInt64.toNat_ofNat']; omega
  rw [hdW, UInt64.toNat_or, e1, or_add _ _ 63 (by omega)]
theorem headV_list (d : Nat) (s : UInt64) : (headV d s).toList = bytesL (hdW d s) 8 := ofl_bytes _ _ (by simp)
theorem take_head (d : Nat) (s : UInt64) (r : List UInt8) : ((headV d s).toList ++ r).take 8 = bytesL (hdW d s) 8 := by
  rw [headV_list]; exact List.take_left' (by simp)
theorem headD_head (d : Nat) (s : UInt64) (r : List UInt8) (hd : d ≤ 1) (hs : s.toNat ≤ 9223372036854775807) : headD ((headV d s).toList ++ r) = d := by
  have h := hdW_nat d s hd hs
  rw [headD, take_head, number_bytes _ 8 (by omega) (hdW d s).toNat_lt, shr63, h]; omega
theorem headS_head (d : Nat) (s : UInt64) (r : List UInt8) (hd : d ≤ 1) (hs : s.toNat ≤ 9223372036854775807) : headS ((headV d s).toList ++ r) = s := by
  have h := hdW_nat d s hd hs
  apply UInt64.toNat_inj.1
  rw [headS, take_head, number_bytes _ 8 (by omega) (hdW d s).toNat_lt, and63, h]; omega
theorem ofl_head (d : Nat) (s : UInt64) (r : List UInt8) : ofl 8 ((headV d s).toList ++ r) = headV d s := by
  apply v_ext; intro i hi
  rw [gv_ofl _ _ _ hi, gl_app_lt (by simpa using hi), gl_toList]
theorem headD_2 (bs : List UInt8) : headD2 bs = headD bs := by
  have h8 : (bs.take 8).length ≤ 8 := by simp; omega
  rw [headD2, headD, num2_eq _ h8, number_8 _ h8, shr63]
  have := (num (bs.take 8)).toNat_lt
  split <;> omega
theorem headS_2 (bs : List UInt8) : headS2 bs = headS bs := by
  have h8 : (bs.take 8).length ≤ 8 := by simp; omega
  apply UInt64.toNat_inj.1
  rw [headS2, headS, num2_eq _ h8, number_8 _ h8, and63]
  have h2 := (num (bs.take 8)).toNat_lt
  split
  · rename_i h
    have e : (9223372036854775808 : UInt64).toNat = 9223372036854775808 := rfl
    rw [UInt64.toNat_sub_of_le _ _ (by rw [UInt64.le_iff_toNat_le, e]; exact h), e]
    omega
  · omega
theorem tm_nat (t e : UInt16) : (tmV t e).toNat = t.toNat * 65536 + e.toNat := by
  have ht := t.toNat_lt; have he := e.toNat_lt
  have e1 : (shl64 (toU64 (t.toNat : Int)) 16).toNat = t.toNat * 2 ^ 16 := by
    simp only [shl64, toU64, UInt64.toNat_ofNat']; omega
  have e2 : (toU64 (e.toNat : Int)).toNat = e.toNat := by simp only [toU64, UInt64.toNat_ofNat']; omega
  rw [tmV, UInt64.toNat_or, e1, e2, or_add _ _ 16 (by omega)]
theorem tm_t (t e : UInt16) : toU16 ((shr64 (tmV t e) 16).toNat : Int) = t := by
  have ht := t.toNat_lt; have he := e.toNat_lt
  apply UInt16.toNat_inj.1
  simp only [toU16, shr64, UInt16.toNat_ofNat', UInt64.toNat_ofNat', tm_nat]; omega
theorem tm_e (t e : UInt16) : toU16 ((tmV t e).toNat : Int) = e := by
  have ht := t.toNat_lt; have he := e.toNat_lt
  apply UInt16.toNat_inj.1
  simp only [toU16, UInt16.toNat_ofNat', tm_nat]; omega
theorem lng_ok {n : Nat} (h : 28 ≤ n) (h2 : n ≤ 1228) : lng n = 0 := by
  rw [lng, if_neg (by omega), if_neg (by omega)]
theorem dcd_enc (key : V8 16) (d : Nat) (s : UInt64) (t e : UInt16) (bs : List UInt8) (hd : d ≤ 1) (hs : s.toNat ≤ 9223372036854775807) (hl : bs.length ≤ 1200) :
    dcdE key (encV key d s t e bs) = 0 ∧ dcdD key (encV key d s t e bs) = d ∧ dcdS key (encV key d s t e bs) = s ∧ dcdT key (encV key d s t e bs) = t ∧ dcdM key (encV key d s t e bs) = e ∧ dcdP key (encV key d s t e bs) = bs := by
  have h0 : lng (encV key d s t e bs).length = 0 := lng_ok (by simp) (by simp; omega)
  have h1 : ofl 8 (encV key d s t e bs) = headV d s := ofl_head d s _
  have h2 : (encV key d s t e bs).drop 8 = sealV key (nonceV (headV d s)) [] (bytesL (tmV t e) 4 ++ bs) := by
    rw [encV]; exact List.drop_left' (by simp)
  have h3 := opn_seal key (nonceV (headV d s)) [] (bytesL (tmV t e) 4 ++ bs)
  have hE : dcdE key (encV key d s t e bs) = 0 := by rw [dcdE, h0, if_neg (by omega), h1, h2, h3.1]
  have hX : dcdX key (encV key d s t e bs) = bytesL (tmV t e) 4 ++ bs := by rw [dcdX, h1, h2, h3.2]
  have ht : (dcdX key (encV key d s t e bs)).take 4 = bytesL (tmV t e) 4 := by rw [hX]; exact List.take_left' (by simp)
  have hr : (dcdX key (encV key d s t e bs)).drop 4 = bs := by rw [hX]; exact List.drop_left' (by simp)
  have hn : number (bytesL (tmV t e) 4) = tmV t e := number_bytes _ 4 (by omega) (by
    have ht := t.toNat_lt; have he := e.toNat_lt
    rw [tm_nat]; omega)
  refine ⟨hE, ?_, ?_, ?_, ?_, ?_⟩
  · rw [dcdD, if_pos hE, encV]; exact headD_head d s _ hd hs
  · rw [dcdS, if_pos hE, encV]; exact headS_head d s _ hd hs
  · rw [dcdT, if_pos hE, ht, hn, tm_t]
  · rw [dcdM, if_pos hE, ht, hn, tm_e]
  · rw [dcdP, if_pos hE, hr]
theorem sameR_self (d : Int) (s : UInt64) (t e : UInt16) (bs : List UInt8) : sameR d d s s t t e e bs bs = true := by simp [sameR]
end Go.X
namespace Go.X
open Go
end Go.X
namespace Go.X
open Go
end Go.X
namespace Go.X
open Go
end Go.X
namespace Go.X
open Go
theorem encP_bad {key : V8 16} {d : Int} {s : UInt64} {t e : UInt16} {bs : List UInt8} {n : Nat} (hn : bs.length = n) (h : chk d s n ≠ 0) : (encP key d s t e bs).length = 0 := by rw [encP, hn, if_neg h]; rfl
theorem enc_all {key : V8 16} {d : Int} {s : UInt64} {t e : UInt16} {bs : List UInt8} {n : Nat} (hn : bs.length = n) (h : chk d s n = 0) :
    (encP key d s t e bs).length = n + 28 ∧ dcdE key (encP key d s t e bs) = 0 ∧
    sameR ((dcdD key (encP key d s t e bs) : Nat) : Int) d (dcdS key (encP key d s t e bs)) s (dcdT key (encP key d s t e bs)) t (dcdM key (encP key d s t e bs)) e (dcdP key (encP key d s t e bs)) bs = true := by
  obtain ⟨⟨dn, rfl, hd⟩, hs, hl⟩ := chk_0 h
  have e1 : encP key (dn : Int) s t e bs = encV key dn s t e bs := by rw [encP, hn, if_pos h]; rfl
  obtain ⟨h0, h1, h2, h3, h4, h5⟩ := dcd_enc key dn s t e bs hd hs (by omega)
  rw [e1, encV_len, h0, h1, h2, h3, h4, h5, hn]
  exact ⟨rfl, rfl, sameR_self _ _ _ _ _⟩
end Go.X
namespace Go.X
open Go
section
variable {P : Program} {ops : Array Oper} {n : Nat} {l : Regs} {w w0 : World} {K : Regs → World → Prop} {F : List Nat} {L : List (Nat × Obj)}
variable {d T S : Nat} {ps : String} {af : Array Edge} {g : Option (Nat × Bool)} {x : Operand}
theorem freeze_heap (w : World) (b k E : Nat) (cs : Array Value) (h : w.heap[b]? = some (.cells cs E (0, 0))) :
    (w.freeze ⟨b, k, none⟩ 1).heap[b]? = some (.cells cs E (k, k + 1)) ∧ (∀ j, j ≠ b → (w.freeze ⟨b, k, none⟩ 1).heap[j]? = w.heap[j]?) ∧ (w.freeze ⟨b, k, none⟩ 1).heap.size = w.heap.size := by
  unfold World.freeze
  rw [if_neg (by decide)]
  refine ⟨?_, fun j hj => ?_, by simp⟩
  · simp [Array.getElem?_modify, h]
  · simp [Array.getElem?_modify, hj.symm]
theorem cvb {b m c E e : Nat} {cs : Array Value} (i : Nat) (hu : P.underlying S = some (.slice e)) (he : P.underlying e = some (.int .u8)) (hS : St w0 F L w) (hg : gval ops l ⟨some d, .convert S S x, T, ps, af, g⟩ = some true) (hd : Nat.blt d n = true)
    (hx : ev l x = some (.slice (some ⟨b, 0, none⟩) m c)) (hi : L[i]? = some (b, .cells cs E (0, 0))) (k : ∀ w', St w0 F (L.set i (b, .cells cs E (cs.size, cs.size + 1))) w' → K ((d, .slice (some ⟨b, 0, none⟩) m c) :: l) w') :
    WO P ops n ⟨some d, .convert S S x, T, ps, af, g⟩ l w K := by
  have hb := hS.get i hi
  obtain ⟨h1, h2, h3⟩ := freeze_heap w b cs.size E cs hb
  have hsh : w.shape? b = some (E, cs.size) := by unfold World.shape?; rw [hb]
  have hos : (w.freeze ⟨b, cs.size, none⟩ 1).os = w.os := by unfold World.freeze; split <;> rfl
  have htp : (w.freeze ⟨b, cs.size, none⟩ 1).tape = w.tape := by unfold World.freeze; split <;> rfl
  have hou : (w.freeze ⟨b, cs.size, none⟩ 1).output = w.output := by unfold World.freeze; split <;> rfl
  refine WO.val hg hd (w' := w.freeze ⟨b, cs.size, none⟩ 1) (fun a ha => ?_) (k _ (hS.turn i hi hos htp hou h3 h1 h2))
  simp only [execOp, ha.ev hx, Sem.run_bind]
  simp [convert, run_underlying hu, run_underlying he, markStringish, hsh]
end
end Go.X
namespace Go.X
open Go
def ofT (x : UInt64) : UInt16 := toU16 (x.toNat : Int)
def echoN (s : UInt16) (h : UInt64) : UInt16 := if 1000 < h.toNat then 65535 else s + toU16 (h.toNat : Int)
def heldV (t tick : UInt64) : UInt64 := if tick.toNat < t.toNat then 0 else tick - t
def smpV (now e : UInt16) : UInt16 := if e = 65535 then 0 else now - e
def estN (rc : Nat) (re : UInt32) (x : UInt16) : UInt32 := if rc = 0 then shl32 (toU32 (x.toNat : Int)) 3 else re + (toU32 (x.toNat : Int) - shr32 (re + 4) 3)
def pekE (nx : UInt64) (cl : Bool) : Nat := if cl = true then 7 else if 9223372036854775807 ≤ nx.toNat then 6 else 0
def pekV (nx : UInt64) (cl : Bool) : UInt64 := if pekE nx cl = 0 then nx else 0
def frsh (ls sq : UInt64) : Bool := decide (ls.toNat ≤ sq.toNat ∧ sq.toNat ≤ 9223372036854775807)
def lstV (ls : UInt64) : UInt64 := if ls = 0 then 0 else ls - 1
def fstE (e : Nat → Nat) : Nat → Nat
  | 0 => 0
  | k + 1 => if fstE e k = 0 then e k else fstE e k
theorem fstE_stop (e : Nat → Nat) : ∀ (K k : Nat), k < K → fstE e k = 0 → e k ≠ 0 → fstE e K = e k
  | 0, _, h, _, _ => by omega
  | K + 1, k, h, h0, h1 => by
    by_cases hk : k = K
    · subst hk; simp [fstE, h0]
    · have := fstE_stop e K k (by omega) h0 h1
      simp only [fstE, this, h1, if_false]
theorem fstE_s (e : Nat → Nat) (k : Nat) (h0 : fstE e k = 0) (h1 : e k = 0) : fstE e (k + 1) = 0 := by simp [fstE, h0, h1]
theorem ne_u16 (e : UInt16) : ((e.toNat : Int) != 65535) = decide (e ≠ 65535) := by
  by_cases h : e = 65535
  · subst h; decide
  · have : ¬ (e.toNat : Int) = 65535 := fun h' => h (UInt16.toNat_inj.1 (by simpa using (by omega : e.toNat = 65535)))
    simp [h, this]
theorem nd_of {w0 w : World} {F : List Nat} {L : List (Nat × Obj)} (h : St w0 F L w) : ∀ (is : List Nat) {bl : List Nat} (_ : is.map (fun i => (L[i]?).map Prod.fst) = bl.map some) (_ : is.Nodup), bl.Nodup
  | [], bl, hi, _ => by
    have : bl = [] := by cases bl with | nil => rfl | cons => simp at hi
    subst this; exact List.nodup_nil
  | i :: is, bl, hi, hn => by
    cases bl with
    | nil => simp at hi
    | cons b bl =>
      simp only [List.map_cons, List.cons.injEq] at hi
      obtain ⟨h1, h2⟩ := hi
      rw [List.nodup_cons] at hn
      refine List.nodup_cons.2 ⟨fun hb => hn.1 ?_, nd_of h is h2 hn.2⟩
      have : some b ∈ is.map (fun i => (L[i]?).map Prod.fst) := by rw [h2]; exact List.mem_map.2 ⟨b, hb, rfl⟩
      obtain ⟨j, hj, e⟩ := List.mem_map.1 this
      have k1 : (L.map Prod.fst)[i]? = some b := by rw [List.getElem?_map]; exact h1
      have k2 : (L.map Prod.fst)[j]? = some b := by rw [List.getElem?_map]; exact e
      have : i = j := (List.getElem?_inj (List.getElem?_eq_some_iff.1 k1).1 h.nodup).1 (k1.trans k2.symm)
      subst this; exact hj
def adA (s : List UInt8) : List UInt8 := if okA s = true then s else []
def mvA (fx : Bool) (ad s : List UInt8) : List UInt8 := if fx = false ∧ okA s = true then s else ad
def mvN (fx : Bool) (ad s : List UInt8) (mv : Nat) : Nat := if fx = false ∧ okA s = true ∧ ad ≠ s then mv + 1 else mv
theorem mv_no {fx : Bool} {ad s : List UInt8} {mv : Nat} (h : fx = true ∨ okA s = false ∨ ad = s) : mvA fx ad s = ad ∧ mvN fx ad s mv = mv := by
  unfold mvA mvN
  rcases h with h | h | h
  · simp [h]
  · simp [h]
  · subst h; simp
theorem mv_yes {fx : Bool} {ad s : List UInt8} {mv : Nat} (h : fx = false) (h2 : okA s = true) (h3 : ad ≠ s) : mvA fx ad s = s ∧ mvN fx ad s mv = mv + 1 := by simp [mvA, mvN, h, h2, h3]
end Go.X
