/- Part 6 of the ground of this seat's proofs: rules of a calculus of walks, and what the functions of the lower layers compute; no conditions beyond those that each statement bears. -/
import Derived.Test.YtffhheogdmekdaaGreatDoorBase5
import Derived.Test.YtffhheogdmekdaaGreatDoorProg
set_option linter.unusedVariables false
set_option linter.unusedSimpArgs false
set_option linter.unnecessarySimpa false
/- The reference's functions on bits, blocks and offsets: plain Lean; slices of ints. -/
namespace Go.X
open Go

section
variable {w : World} {a : Option Addr}
theorem Cel.cs {b E : Nat} {fz : Nat × Nat} {cs : Array Value} (h : w.heap[b]? = some (.cells cs E fz)) : Cel w (some ⟨b, 0, none⟩) cs.toList :=
  Cel.row h fun j u hj => by simpa using hj
theorem Cel.takei {l : List Nat} (h : Cel w a (X.ci l)) (k : Nat) : Cel w a (X.ci (l.take k)) := by
  have := h.take k; simpa [X.ci, List.map_take] using this
theorem Cel.dropi {l : List Nat} (h : Cel w a (X.ci l)) {lo cap : Nat} (hc : l.length ≤ cap) : Cel w (sla a lo cap) (X.ci (l.drop lo)) := by
  have := h.drop (lo := lo) (cap := cap) (by rw [ci_len]; exact hc); simpa [X.ci, List.map_drop] using this
theorem Own.leni {l : List Nat} {n cap : Nat} {X : List (Nat × Obj)} (h : Own 1 a n cap (ci l) X) : l.length = n := by have := h.1; rw [ci_len] at this; omega
end
section
variable {P : Program} {ops : Array Oper} {n : Nat} {l : Regs} {w w0 : World} {K : Regs → World → Prop} {F : List Nat} {L A R X : List (Nat × Obj)}
variable {d T S S2 : Nat} {ps : String} {af : Array Edge} {g : Option (Nat × Bool)} {x y : Operand} {v u : Value} {a : Option Addr} {m cap e : Nat}
theorem srci {tx e' : TypeId} (hk : P.underlying tx = some (.slice e')) {a : Option Addr} {bs : List Nat} {m : Nat} (c : Nat) (h : Cel w a (ci bs)) (hm : bs.length = m) (h0 : a = none → m = 0) : Src P 1 tx (.slice a m c) m (ci bs) w :=
  srcv hk c h (by rw [ci_len, hm, Nat.mul_one]) h0 (ci_one bs)
theorem ldxi {bs : List Nat} {a : Option Addr} {j : Nat} (hT : Sc P S) (hg : gval ops l ⟨some d, .load S x, T, ps, af, g⟩ = some true) (hd : Nat.blt d n = true) (hx : ev l x = some (.pointer (some (adr a j)))) (hc : Cel w a (ci bs)) (hj : j < bs.length)
    (k : K ((d, I ((gi bs j : Nat) : Int)) :: l) w) : WO P ops n ⟨some d, .load S x, T, ps, af, g⟩ l w K := ldc hT hg hd hx (hc.ci hj) k
theorem cel_put {b E : Nat} {cur : Array Value} {fz : Nat × Nat} {xs news : List Nat} {W : World} {m : Nat} (h : W.heap[b]? = some (.cells (putAt cur m (ci news).toArray) E fz)) (hm : xs.length = m) (hcur : cur.toList.take m = ci xs) (hle : m + news.length ≤ cur.size) (h1 : 1 ≤ m) :
    Cel W (some ⟨b, 1, none⟩) (ci (xs.drop 1 ++ news)) ∧ Cel W (some ⟨b, 0, none⟩) (ci xs) := by
  have hall : (putAt cur m (ci news).toArray).toList.take (m + news.length) = ci (xs ++ news) := by
    have := put_take cur m (ci news) (by rw [ci_len]; exact hle)
    rw [ci_len, hcur, ci_app] at this; exact this
  have cell : ∀ (j : Nat) (v : Value), (ci (xs ++ news))[j]? = some v → (putAt cur m (ci news).toArray)[j]? = some v := by
    intro j v hj
    rw [← hall, List.getElem?_take] at hj
    split at hj
    · simpa using hj
    · cases hj
  constructor
  · refine Cel.row h fun j v hj => cell (1 + j) v ?_
    have e : ci (xs.drop 1 ++ news) = (ci (xs ++ news)).drop 1 := by
      rw [ci, ci, ← List.map_drop, List.drop_append_of_le_length (by omega)]
    rw [e, List.getElem?_drop] at hj; exact hj
  · refine Cel.row h fun j v hj => cell (0 + j) v ?_
    have hlt : j < (ci xs).length := (List.getElem?_eq_some_iff.1 hj).1
    rw [Nat.zero_add, ← ci_app, List.getElem?_append_left hlt]; exact hj
/-- append to the tail (from place 1) of a slice of one's own -/
theorem apptl {by_ : Nat} {z : Value} {xs : List Nat} {news : List Nat} {q : Nat} (hT : SlT P S e 1 by_ z) (hO : Own 1 a m cap (ci xs) X) (hm : 1 < m) (hS : St w0 F (A ++ (X ++ R)) w) (hg : gval ops l ⟨some d, .call ⟨.builtin .append, #[x, y], #[S, S2]⟩, T, ps, af, g⟩ = some true) (hd : Nat.blt d n = true)
    (hx : ev l x = some (.slice (sla a 1 cap) (m - 1) (cap - 1))) (hy : ev l y = some u) (hsrc : Src P 1 S2 u q (ci news) w) (hb : (m + q) * by_ ≤ 140737488355328) (h63 : m + q ≤ 140737488355328)
    (k : ∀ a' c' X' w', a'.isSome = true → m - 1 + q ≤ c' → (∀ (W0 : World) (F2 : List Nat) (L2 : List (Nat × Obj)) (W : World), St W0 F2 L2 W → (∀ p ∈ X', p ∈ L2) → Cel W a' (ci (xs.drop 1 ++ news)) ∧ Cel W a (ci xs)) → St w0 F (A ++ (X' ++ R)) w' → K ((d, .slice a' (m - 1 + q) c') :: l) w') :
    WO P ops n ⟨some d, .call ⟨.builtin .append, #[x, y], #[S, S2]⟩, T, ps, af, g⟩ l w K := by
  obtain ⟨hu, i, hi, hz, hsz, hby, hzz⟩ := hT
  rcases hO.2.2.2 with ⟨_, h0, _, _⟩ | ⟨b, cur, E, rfl, rfl, hcs, ht⟩
  · omega
  have hle := hO.2.1
  have hmem : (b, Obj.cells cur E (0, 0)) ∈ A ++ ([(b, .cells cur E (0, 0))] ++ R) := by simp
  have hbh := (hS.own _ hmem).2
  have hxl2 : xs.length = m := hO.leni
  have hnl : (ci news).length = q := by have := hsrc.newsLen; omega
  have hnl2 : news.length = q := by rw [ci_len] at hnl; exact hnl
  rw [Nat.mul_one] at hcs ht
  have hsla : sla (some ⟨b, 0, none⟩) 1 cap = some (⟨b, 1, none⟩ : Addr) := by
    rw [sla, if_neg (by omega)]; rfl
  rw [hsla] at hx
  have fin : ∀ (v : Value) (w' : World), (Builtin.append_ #[S, S2] T #[.slice (some ⟨b, 1, none⟩) (m - 1) (cap - 1), u]).run P w = .ok v w' → K ((d, v) :: l) w' → WO P ops n ⟨some d, .call ⟨.builtin .append, #[x, y], #[S, S2]⟩, T, ps, af, g⟩ l w K := by
    intro v w' hr hk act ha
    rw [if_pos (ha.wanted hg)]
    have e1 : (execOp act.eval ⟨some d, .call ⟨.builtin .append, #[x, y], #[S, S2]⟩, T, ps, af, g⟩).run P w = .ok (.value v) w' := by
      simp [execOp, resolve, ha.ev hx, ha.ev hy, invoke, builtin, hr]
    simp only [Oper.wp, e1, Oper.upon]
    exact ⟨_, ha.put _ (by simpa [Nat.blt_eq] using hd), hk⟩
  by_cases hroom : m - 1 + q ≤ cap - 1
  · have hle2 : m + (ci news).length ≤ cur.size := by omega
    have hst := run_storeCells_at P b m E (ci news) 0 cur w hbh (by simpa using hle2) (ci_one news)
    simp only [Nat.add_zero] at hst
    have em : 1 + (m - 1) * i.size = m := by rw [hsz]; omega
    have hne : ¬ (m - 1) * i.size = 0 := by rw [hsz]; omega
    have hr : (Builtin.append_ #[S, S2] T #[.slice (some ⟨b, 1, none⟩) (m - 1) (cap - 1), u]).run P w = .ok (.slice (some ⟨b, 1, none⟩) (m - 1 + q) (cap - 1)) (w.setRow b (putAt cur m (ci news).toArray)) := by
      have hcells := hsrc.cells
      rw [← hsz] at hcells
      rcases hsrc.kind with ⟨e', hk⟩ | hk <;> simp [Builtin.append_, run_underlying hu, run_underlying hk, sizeOf, typeInfo, hi, hsrc.len, hroom, hcells, Addr.add, em, hne, hst, putAt]
    refine fin _ _ hr (k (some ⟨b, 1, none⟩) (cap - 1) [(b, .cells (putAt cur m (ci news).toArray) E (0, 0))] _ rfl hroom (fun W0 F2 L2 W hSt hL => ?_) ?_)
    · exact cel_put (hSt.own _ (hL _ (List.mem_singleton.2 rfl))).2 hxl2 ht (by omega) (by omega)
    · have hS' := hS.setRow A.length (b := b) (cs := cur) (cs' := putAt cur m (ci news).toArray) (T := E) (fz := (0, 0)) (by simp)
      have e2 : (A ++ ([(b, Obj.cells cur E (0, 0))] ++ R)).set A.length (b, .cells (putAt cur m (ci news).toArray) E (0, 0)) = A ++ ([(b, .cells (putAt cur m (ci news).toArray) E (0, 0))] ++ R) := by
        simp [List.set_append]
      rw [e2] at hS'; exact hS'
  · have hg' : cap - 1 < m - 1 + q := by omega
    have hfit : Builtin.nextslicecap (m - 1 + q) (cap - 1) * i.bytes ≤ 281474976710656 := by
      have h1 := nextslicecap_le hg'
      have h2 := Nat.mul_le_mul_right i.bytes h1
      have h3 : (m - 1 + q) * by_ ≤ (m + q) * by_ := Nat.mul_le_mul_right by_ (by omega)
      rw [hby] at h2 ⊢
      rw [Nat.mul_assoc] at h2
      omega
    have hcelx := hO.cel hS (fun p hp => mem_tail A R hp)
    have hold : (Builtin.firstCells i.size (m - 1) (.slice (some ⟨b, 1, none⟩) (m - 1) (cap - 1))).run P w.drew = .ok (ci (xs.drop 1)).toArray w.drew := by
      refine run_firstCells_some w.drew i.size (m - 1) ⟨b, 1, none⟩ (m - 1) (cap - 1) (ci (xs.drop 1)) (by rw [hsz, ci_len, List.length_drop]; omega) (fun j v hj => ?_)
      have h1 : (ci xs)[1 + j]? = some v := by
        have e : ci (xs.drop 1) = (ci xs).drop 1 := by rw [ci, ci, ← List.map_drop]
        rw [e, List.getElem?_drop] at hj; exact hj
      have h2 := (hcelx (1 + j) v h1).2
      have e3 : (⟨b, 1, none⟩ : Addr).add j = adr (some ⟨b, 0, none⟩) (1 + j) := by simp [adr, Addr.add]
      rw [e3]; simpa using h2
    rw [← hsz] at hsrc
    have hr := run_append_grow_src (P := P) w S S2 T e i z hu hi hz (some ⟨b, 1, none⟩) (m - 1) (cap - 1) (ci (xs.drop 1)) hold u q (ci news) hsrc hg' (by omega) hfit
    have hge := grownCap_ge w (m - 1 + q) (cap - 1) e
    refine fin _ _ hr (k (some ⟨w.heap.size, 0, none⟩) _ [(w.heap.size, .cells ((ci (xs.drop 1) ++ ci news).toArray ++ Builtin.zeroCells z.cells (grownCap w (m - 1 + q) (cap - 1) e - (m - 1 + q))) e), (b, .cells cur E (0, 0))] _ rfl hge (fun W0 F2 L2 W hSt hL => ⟨?_, ?_⟩) ?_)
    · refine Cel.row (hSt.own _ (hL _ List.mem_cons_self)).2 fun j v hj => ?_
      rw [← ci_app] at hj
      have hlt : j < (ci (xs.drop 1) ++ ci news).length := (List.getElem?_eq_some_iff.1 hj).1
      rw [Nat.zero_add, Array.getElem?_append_left (by simpa using hlt)]
      simpa using hj
    · refine Cel.row (hSt.own (b, .cells cur E (0, 0)) (hL _ (by simp))).2 fun j v hj => ?_
      rw [← ht, List.getElem?_take] at hj
      split at hj
      · simpa using hj
      · cases hj
    · have hd' : St w0 F (A ++ ([(b, .cells cur E (0, 0))] ++ R)) w.drew := hS.drew
      have ha := hd'.alloc (.cells ((ci (xs.drop 1) ++ ci news).toArray ++ Builtin.zeroCells z.cells (grownCap w (m - 1 + q) (cap - 1) e - (m - 1 + q))) e)
      have hsz' : w.drew.heap.size = w.heap.size := rfl
      rw [hsz'] at ha
      exact ha.perm List.perm_middle
end
end Go.X

/- The reference's bits, blocks, offsets: what they compute, and that it is what the program's compute. -/
namespace Go.X
open Go

/-! bits -/
def btL (b : UInt8) : Nat → List Nat
  | 0 => []
  | k + 1 => btL b k ++ [bt b (7 - k)]
def biL (bs : List UInt8) : Nat → List Nat
  | 0 => []
  | k + 1 => biL bs k ++ btL (gl bs k) 8
def ofS (l : List Nat) : Nat → V8 16
  | 0 => Vector.replicate 16 0
  | k + 1 => (ofS l k).setIfInBounds (k / 8) (gv (ofS l k) (k / 8) * 2 + toU8 ((gi l k : Nat) : Int))
def ofB (l : List Nat) : V8 16 := ofS l 128
/-- eight bits, from the highest -/
def by8 (l : List Nat) (o : Nat) : Nat → UInt8
  | 0 => 0
  | k + 1 => by8 l o k * 2 + toU8 ((gi l (o + k) : Nat) : Int)
theorem ofS_get (l : List Nat) (i : Nat) (hi : i < 16) : ∀ k, k ≤ 128 → gv (ofS l k) i = by8 l (8 * i) (min (k - 8 * i) 8)
  | 0, _ => by rw [ofS, gv_rep]; simp [by8]
  | k + 1, h => by
    rw [ofS, gv_setE _ _ _ _ hi]
    by_cases e : k / 8 = i
    · rw [if_pos e, e, ofS_get l i hi k (by omega)]
      have e1 : min (k - 8 * i) 8 = k - 8 * i := by omega
      have e2 : min (k + 1 - 8 * i) 8 = (k - 8 * i) + 1 := by omega
      have e3 : 8 * i + (k - 8 * i) = k := by omega
      rw [e1, e2, by8, e3]
    · rw [if_neg e, ofS_get l i hi k (by omega)]
      congr 1; omega
theorem ofB_get (l : List Nat) (i : Nat) (hi : i < 16) : gv (ofB l) i = by8 l (8 * i) 8 := by
  rw [ofB, ofS_get l i hi 128 (by omega)]
  have e : min (128 - 8 * i) 8 = 8 := by omega
  rw [e]
theorem by8_congr {l m : List Nat} {o p : Nat} : ∀ k, (∀ q, q < k → gi l (o + q) = gi m (p + q)) → by8 l o k = by8 m p k
  | 0, _ => rfl
  | k + 1, h => by rw [by8, by8, h k (by omega), by8_congr k (fun q hq => h q (by omega))]
@[simp] theorem btL_len (b : UInt8) (k : Nat) : (btL b k).length = k := by
  induction k with
  | zero => rfl
  | succ k ih => simp [btL, ih]
@[simp] theorem biL_len (bs : List UInt8) (k : Nat) : (biL bs k).length = k * 8 := by
  induction k with
  | zero => rfl
  | succ k ih => simp [biL, ih]; omega
theorem gi_app_lt {l m : List Nat} {i : Nat} (h : i < l.length) : gi (l ++ m) i = gi l i := by simp [gi, List.getElem?_append, h]
theorem gi_app_ge {l m : List Nat} {i : Nat} (h : l.length ≤ i) : gi (l ++ m) i = gi m (i - l.length) := by simp [gi, List.getElem?_append, Nat.not_lt.2 h]
theorem gi_drop (l : List Nat) (k i : Nat) : gi (l.drop k) i = gi l (k + i) := by simp [gi]
theorem gi_take {l : List Nat} {k i : Nat} (h : i < k) : gi (l.take k) i = gi l i := by simp [gi, List.getElem?_take, h]
theorem btL_get (b : UInt8) : ∀ k, k ≤ 8 → ∀ j, j < k → gi (btL b k) j = bt b (7 - j)
  | 0, _, j, h => by omega
  | k + 1, hk, j, h => by
    rw [btL]
    by_cases e : j < k
    · rw [gi_app_lt (by simpa using e)]; exact btL_get b k (by omega) j e
    · have : j = k := by omega
      subst this
      rw [gi_app_ge (by simp)]; simp [gi]
theorem biL_get (bs : List UInt8) : ∀ k, ∀ i, i < k → ∀ j, j < 8 → gi (biL bs k) (8 * i + j) = bt (gl bs i) (7 - j)
  | 0, i, h, _, _ => by omega
  | k + 1, i, h, j, hj => by
    rw [biL]
    by_cases e : i < k
    · rw [gi_app_lt (by simp; omega)]; exact biL_get bs k i e j hj
    · have : i = k := by omega
      subst this
      have e2 : 8 * i + j - i * 8 = j := by omega
      rw [gi_app_ge (by simp; omega), biL_len, e2]; exact btL_get _ 8 (by omega) j hj
/-- a byte made of the bits of two -/
def two8 (a b : UInt8) (r : Nat) : Nat → UInt8
  | 0 => 0
  | k + 1 => two8 a b r k * 2 + toU8 (((if r + k < 8 then bt a (7 - (r + k)) else bt b (15 - (r + k))) : Nat) : Int)
theorem by8_two (l : List Nat) (o : Nat) (a b : UInt8) (r : Nat) : ∀ k, (∀ q, q < k → gi l (o + q) = if r + q < 8 then bt a (7 - (r + q)) else bt b (15 - (r + q))) → by8 l o k = two8 a b r k
  | 0, _ => rfl
  | k + 1, h => by rw [by8, two8, h k (by omega), by8_two l o a b r k (fun q hq => h q (by omega))]
theorem two8_hi (a b : UInt8) (r : Nat) : ∀ k, r + k ≤ 8 → two8 a b r k = two8 a 0 r k
  | 0, _ => rfl
  | k + 1, h => by rw [two8, two8, two8_hi a b r k (by omega), if_pos (by omega), if_pos (by omega)]
theorem two8_0 (a : UInt8) : two8 a 0 0 8 = a := by revert a; refine all_u8 ?_; decide +kernel
/-- from place r on: the high part shifted, the low part added -/
theorem two8_add (a b : UInt8) (r : Nat) (hr : r ≤ 8) : ∀ k, k ≤ 8 → two8 a b r (8 - r + k) = two8 a 0 r (8 - r) * UInt8.ofNat (2 ^ k) + two8 b 0 0 k
  | 0, _ => by rw [Nat.add_zero, two8_hi a b r _ (by omega)]; simp [two8]
  | k + 1, hk => by
    rw [← Nat.add_assoc, two8, two8_add a b r hr k (by omega), two8, if_neg (by omega), if_pos (by omega)]
    have e : 15 - (r + (8 - r + k)) = 7 - (0 + k) := by omega
    have e2 : UInt8.ofNat (2 ^ (k + 1)) = UInt8.ofNat (2 ^ k) * 2 := by
      apply UInt8.toNat_inj.1
      rw [Nat.pow_succ]; simp [UInt8.toNat_ofNat', UInt8.toNat_mul]
    rw [e, e2]
    generalize two8 a 0 r (8 - r) = x; generalize UInt8.ofNat (2 ^ k) = y; generalize two8 b 0 0 k = u; generalize toU8 ((bt b (7 - (0 + k)) : Nat) : Int) = t
    rw [UInt8.add_mul, UInt8.mul_assoc, UInt8.add_assoc]
theorem two8_shl : ∀ r : Fin 9, ∀ a : Fin 256, two8 (UInt8.ofNat a.val) 0 r.val (8 - r.val) * UInt8.ofNat (2 ^ r.val) = shl8 (UInt8.ofNat a.val) r.val := by decide +kernel
theorem two8_shr : ∀ r : Fin 9, ∀ a : Fin 256, two8 (UInt8.ofNat a.val) 0 0 r.val = shr8 (UInt8.ofNat a.val) (8 - r.val) := by decide +kernel
theorem two8_eq (a b : UInt8) (r : Nat) (hr : r ≤ 8) : two8 a b r 8 = shl8 a r ||| shr8 b (8 - r) := by
  have h := two8_add a b r hr r hr
  have e : 8 - r + r = 8 := by omega
  have h1 := two8_shl ⟨r, by omega⟩ ⟨a.toNat, a.toNat_lt⟩
  have h2 := two8_shr ⟨r, by omega⟩ ⟨b.toNat, b.toNat_lt⟩
  simp only [UInt8.ofNat_toNat] at h1 h2
  rw [e, h1, h2] at h
  rw [h]
  have ha := a.toNat_lt; have hb := b.toNat_lt
  have h8 : r = 0 ∨ r = 1 ∨ r = 2 ∨ r = 3 ∨ r = 4 ∨ r = 5 ∨ r = 6 ∨ r = 7 ∨ r = 8 := by omega
  have e1 : (shl8 a r).toNat = (a.toNat % 2 ^ (8 - r)) * 2 ^ r := by
    simp only [shl8, UInt8.toNat_ofNat']
    rcases h8 with rfl | rfl | rfl | rfl | rfl | rfl | rfl | rfl | rfl <;> omega
  have e2 : (shr8 b (8 - r)).toNat = b.toNat / 2 ^ (8 - r) := by
    simp only [shr8, UInt8.toNat_ofNat']
    have : b.toNat / 2 ^ (8 - r) ≤ b.toNat := Nat.div_le_self _ _
    exact Nat.mod_eq_of_lt (by omega)
  have e3 : b.toNat / 2 ^ (8 - r) < 2 ^ r := by
    rcases h8 with rfl | rfl | rfl | rfl | rfl | rfl | rfl | rfl | rfl <;> omega
  apply UInt8.toNat_inj.1
  rw [UInt8.toNat_or, e1, e2, or_add _ _ r e3, UInt8.toNat_add, e1, e2]
  refine Nat.mod_eq_of_lt ?_
  rcases h8 with rfl | rfl | rfl | rfl | rfl | rfl | rfl | rfl | rfl <;> omega
theorem shl8_0 (a : UInt8) : shl8 a 0 = a := by revert a; refine all_u8 ?_; decide +kernel
theorem shr8_8 (a : UInt8) : shr8 a 8 = 0 := by revert a; refine all_u8 ?_; decide +kernel
theorem shr8_z (k : Nat) : shr8 0 k = 0 := by
  apply UInt8.toNat_inj.1; simp [shr8]
/-- the reference's shift is the program's -/
def shiftR (b : V8 24) (n : Nat) : V8 16 := ofB (((biL b.toList 24).take (n + 128)).drop n)
theorem shiftR_eq (b : V8 24) (n : Nat) (hn : n < 64) : shiftR b n = shiftV b n := by
  apply v_ext; intro i hi
  rw [shiftR, ofB_get _ _ hi, shiftV, gv_ofFn _ _ hi]
  have key : by8 (((biL b.toList 24).take (n + 128)).drop n) (8 * i) 8 = two8 (gv b (i + n / 8)) (gv b (i + n / 8 + 1)) (n % 8) 8 := by
    refine by8_two _ _ _ _ _ 8 (fun q hq => ?_)
    rw [gi_drop, gi_take (by omega)]
    split
    · rename_i h
      have e : n + (8 * i + q) = 8 * (i + n / 8) + (n % 8 + q) := by omega
      rw [e, biL_get _ _ _ (by omega) _ h, gl_toList]
    · rename_i h
      have e : n + (8 * i + q) = 8 * (i + n / 8 + 1) + (n % 8 + q - 8) := by omega
      have e2 : 7 - (n % 8 + q - 8) = 15 - (n % 8 + q) := by omega
      rw [e, biL_get _ _ _ (by omega) _ (by omega), gl_toList, e2]
  rw [key, two8_eq _ _ _ (by omega), shiftf]
  by_cases h : 0 < n % 8
  · rw [if_pos h]
  · have h0 : n % 8 = 0 := by omega
    rw [if_neg h, h0, Nat.sub_zero, shr8_8, UInt8.or_zero]
/-- doubling -/
def dbR0 (b : V8 16) : V8 16 := ofB ((biL b.toList 16).drop 1 ++ [0])
def dbR (b : V8 16) : V8 16 := if gi (biL b.toList 16) 0 = 1 then (dbR0 b).setIfInBounds 15 (gv (dbR0 b) 15 ^^^ 135) else dbR0 b
theorem dbR0_get (b : V8 16) (i : Nat) (hi : i < 16) : gv (dbR0 b) i = dblf b i := by
  have hb : gv b 16 = 0 := by simp [gv]
  have key : by8 ((biL b.toList 16).drop 1 ++ [0]) (8 * i) 8 = two8 (gv b i) (gv b (i + 1)) 1 8 := by
    refine by8_two _ _ _ _ _ 8 (fun q hq => ?_)
    by_cases hl : 8 * i + q < 127
    · rw [gi_app_lt (by simp; omega), gi_drop]
      split
      · rename_i h
        have e : 1 + (8 * i + q) = 8 * i + (1 + q) := by omega
        rw [e, biL_get _ _ _ hi _ h, gl_toList]
      · rename_i h
        have e : 1 + (8 * i + q) = 8 * (i + 1) + (1 + q - 8) := by omega
        have e2 : 7 - (1 + q - 8) = 15 - (1 + q) := by omega
        rw [e, biL_get _ _ _ (by omega) _ (by omega), gl_toList, e2]
    · have hi15 : i = 15 := by omega
      have hq7 : q = 7 := by omega
      subst hi15 hq7
      rw [if_neg (by omega), hb, gi_app_ge (by simp)]
      simp [gi]; decide
  rw [dbR0, ofB_get _ _ hi, key, two8_eq _ _ _ (by omega), dblf]
  split
  · rfl
  · have : i = 15 := by omega
    subst this
    rw [hb, shr8_z, UInt8.or_zero]
theorem top_bt (a : UInt8) : toU8 (Int.fdiv (IntKind.i8.wrap (a.toNat : Int)) (2 ^ 7)) &&& 135 = if bt a 7 = 1 then 135 else 0 := by
  revert a; refine all_u8 ?_; decide +kernel
theorem dbR_eq (b : V8 16) : dbR b = dblB b := by
  have h0 : dbR0 b = (Vector.ofFn fun i : Fin 16 => dblf b i.val) := by
    apply v_ext; intro i hi
    rw [dbR0_get b i hi, gv_ofFn _ _ hi]
  have h1 : gi (biL b.toList 16) 0 = bt (gv b 0) 7 := by
    have := biL_get b.toList 16 0 (by omega) 0 (by omega)
    rw [gl_toList] at this; exact this
  have h2 : top7 b = if bt (gv b 0) 7 = 1 then 135 else 0 := top_bt _
  rw [dbR, dblB, h1, h2, h0]
  split
  · rfl
  · apply v_ext; intro i hi
    rw [UInt8.xor_zero, gv_setE _ _ _ _ hi]
    split
    · rename_i h; rw [h]
    · rfl

/-! the number of zeros -/
def zrL : Nat → UInt64 → Nat
  | 0, _ => 0
  | f + 1, x => if x % 2 = 0 then 1 + zrL f (x / 2) else 0
def zerosN (x : UInt64) : Nat := zrL 64 x
def zx (x : UInt64) : Nat → UInt64
  | 0 => x
  | k + 1 => zx x k / 2
theorem zr_inv (x : UInt64) : ∀ k, k ≤ 64 → (∀ j, j < k → zx x j % 2 = 0) → zerosN x = k + zrL (64 - k) (zx x k)
  | 0, _, _ => by simp [zerosN, zx]
  | k + 1, hk, h => by
    rw [zr_inv x k (by omega) (fun j hj => h j (by omega))]
    have e : 64 - k = (64 - (k + 1)) + 1 := by omega
    rw [e, zrL, if_pos (h k (by omega)), zx, Nat.add_assoc]
theorem zr_stop (x : UInt64) (k : Nat) (hk : k < 64) (h : ∀ j, j < k → zx x j % 2 = 0) (hs : ¬ zx x k % 2 = 0) : zerosN x = k := by
  rw [zr_inv x k (by omega) h]
  have e : 64 - k = (63 - k) + 1 := by omega
  rw [e, zrL, if_neg hs, Nat.add_zero]
theorem zr_end (x : UInt64) (h : ∀ j, j < 64 → zx x j % 2 = 0) : zerosN x = 64 := by rw [zr_inv x 64 (by omega) h]; rfl
theorem zr_ctz : ∀ n : Fin 256, 0 < n.val → zerosN (UInt64.ofNat n.val) = ctz (UInt64.ofNat n.val) := by decide +kernel
theorem zr_ctz' (k : Nat) (h0 : 0 < k) (h : k < 256) : zerosN (toU64 (k : Int)) = ctz (toU64 (k : Int)) := by
  have e : toU64 (k : Int) = UInt64.ofNat k := by
    apply UInt64.toNat_inj.1; simp only [toU64, UInt64.toNat_ofNat']; omega
  rw [e]; exact zr_ctz ⟨k, h⟩ h0
/-- the block of a number -/
def dbN (s : V8 16) : Nat → V8 16
  | 0 => dblB s
  | k + 1 => dblB (dbN s k)
theorem dbN_last (key : V8 16) : ∀ k, dbN (star key) k = lastL key k
  | 0 => rfl
  | k + 1 => by rw [dbN, lastL, dbN_last key k]
theorem blkL_get (key : V8 16) (i j : Nat) (hj : j < 16) : ∀ m, i < m → m ≤ 64 → gv (blkL key m) (i * 16 + j) = gv (lastL key (i + 1)) j
  | 0, h, _ => by omega
  | m + 1, h, hm => by
    rw [blkL, gv_put8 _ _ _ _ (by omega)]
    by_cases e : i = m
    · subst e; rw [if_pos (by omega)]; exact congrArg (gv _) (by omega)
    · rw [if_neg (by omega)]; exact blkL_get key i j hj m (by omega) (by omega)
def forR (s : V8 16) (x : UInt64) : V8 16 := dbN s (zerosN x + 1)
theorem forR_eq (key : V8 16) (k : Nat) (h0 : 0 < k) (h : k < 256) : forR (star key) (toU64 (k : Int)) = forN key (toU64 (k : Int)) := by
  have hne : toU64 (k : Int) ≠ 0 := toU64_ne k h0 (by omega)
  have hlt := ctz_lt _ hne
  rw [forR, zr_ctz' k h0 h, dbN_last, forN, blkAt]
  apply v_ext; intro j hj
  rw [seg8, gv_ofFn _ _ hj]
  exact (blkL_get key _ j hj 64 hlt (by omega)).symm
end Go.X
namespace Go.X
open Go
theorem part_blk (bs : List UInt8) (i : Nat) : ofl 16 ((bs.take (16 * i + 16)).drop (16 * i)) = blk bs i := by
  apply v_ext; intro j hj
  rw [gv_ofl _ _ _ hj, blk, gv_ofl _ _ _ hj, gl_drop, gl_drop, gl_take (by omega), Nat.mul_comm]
end Go.X
namespace Go.X
open Go
theorem pad_l (bs : List UInt8) (k : Nat) (h : bs.length + 1 + k = 16) : ofl 16 (bs ++ [128] ++ List.replicate k 0) = padV bs := by
  apply v_ext; intro i hi
  rw [gv_ofl _ _ _ hi, padV, gv_setE _ _ _ _ hi, gv_ofl _ _ _ hi]
  by_cases h1 : i < bs.length
  · rw [if_neg (by omega), List.append_assoc, gl_app_lt h1]
  · by_cases h2 : bs.length = i
    · subst h2
      rw [if_pos rfl, List.append_assoc, gl_app_ge (Nat.le_refl _), Nat.sub_self]; rfl
    · rw [if_neg h2, List.append_assoc, gl_app_ge (by omega), gl_ge (l := bs) (by omega)]
      have e : i - bs.length = (i - bs.length - 1) + 1 := by omega
      rw [e]
      simp [gl, List.getElem?_replicate]
      split <;> rfl
def byX (x : UInt64) : Nat → UInt64
  | 0 => x
  | k + 1 => byX x k / 256
theorem byX_nat (x : UInt64) : ∀ k, (byX x k).toNat = x.toNat / 256 ^ k
  | 0 => by simp [byX]
  | k + 1 => by
    rw [byX, UInt64.toNat_div, byX_nat x k, Nat.pow_succ, ← Nat.div_div_eq_div_mul]; rfl
theorem by_cons (x : UInt64) (k : Nat) : [toU8 (((byX x k % 256).toNat : Nat) : Int)] ++ bytesL x k = bytesL x (k + 1) := by
  rw [bytesL_succ, List.singleton_append]
  congr 1
  apply UInt8.toNat_inj.1
  rw [bytf_0, toU8_nat, UInt8.toNat_ofNat', UInt64.toNat_mod, byX_nat]
  have e : (256 : UInt64).toNat = 256 := rfl
  rw [e]; omega
end Go.X
namespace Go.X
open Go
theorem St.drop2 {w0 w : World} {F : List Nat} {A X Y : List (Nat × Obj)} (h : St w0 F (A ++ (X ++ (Y ++ []))) w) : St w0 F (A ++ (X ++ [])) w :=
  h.sublist (List.Sublist.append (List.Sublist.refl A) (List.Sublist.append (List.Sublist.refl X) (List.nil_sublist _)))
end Go.X

/- The reference's mode: what it computes is what the program's computes. -/
namespace Go.X
open Go

/-! encrypting what has been decrypted -/
theorem sbox_back (x : UInt8) : sbox (back x) = x := by
  obtain ⟨a, rfl⟩ := sbox_sur x
  rw [back_sbox]
theorem m2_xor (a b : UInt8) : m2 (a ^^^ b) = m2 a ^^^ m2 b := dbl_xor a b
theorem m3_xor (a b : UInt8) : m3 (a ^^^ b) = m3 a ^^^ m3 b := by simp only [m3, dbl_xor]; rw [x4]
theorem mc_xor (r : Nat) (a b c d a' b' c' d' : UInt8) : mc r (a ^^^ a') (b ^^^ b') (c ^^^ c') (d ^^^ d') = mc r a b c d ^^^ mc r a' b' c' d' := by
  simp only [mc]
  split
  · rw [m2_xor, m3_xor, x8]
  split
  · rw [m2_xor, m3_xor, x8]
  split
  · rw [m2_xor, m3_xor, x8]
  · rw [m2_xor, m3_xor, x8]
theorem imc_split (r : Nat) (a b c d : UInt8) : imc r a b c d = imc r a 0 0 0 ^^^ imc r 0 b 0 0 ^^^ imc r 0 0 c 0 ^^^ imc r 0 0 0 d := by
  have e9 : m9 0 = 0 := by decide
  have e11 : m11 0 = 0 := by decide
  have e13 : m13 0 = 0 := by decide
  have e14 : m14 0 = 0 := by decide
  simp only [imc]
  split
  · simp [e9, e11, e13, e14]
  split
  · simp [e9, e11, e13, e14]
  split
  · simp [e9, e11, e13, e14]
  · simp [e9, e11, e13, e14]
theorem two_a (a : UInt8) : m2 (m14 a) ^^^ m3 (m9 a) ^^^ m13 a ^^^ m11 a = a ∧ m14 a ^^^ m2 (m9 a) ^^^ m3 (m13 a) ^^^ m11 a = 0 ∧ m14 a ^^^ m9 a ^^^ m2 (m13 a) ^^^ m3 (m11 a) = 0 ∧ m3 (m14 a) ^^^ m9 a ^^^ m13 a ^^^ m2 (m11 a) = 0 := by
  revert a; refine all_u8 ?_; decide +kernel
theorem two_b (a : UInt8) : m2 (m11 a) ^^^ m3 (m14 a) ^^^ m9 a ^^^ m13 a = 0 ∧ m11 a ^^^ m2 (m14 a) ^^^ m3 (m9 a) ^^^ m13 a = a ∧ m11 a ^^^ m14 a ^^^ m2 (m9 a) ^^^ m3 (m13 a) = 0 ∧ m3 (m11 a) ^^^ m14 a ^^^ m9 a ^^^ m2 (m13 a) = 0 := by
  revert a; refine all_u8 ?_; decide +kernel
theorem two_c (a : UInt8) : m2 (m13 a) ^^^ m3 (m11 a) ^^^ m14 a ^^^ m9 a = 0 ∧ m13 a ^^^ m2 (m11 a) ^^^ m3 (m14 a) ^^^ m9 a = 0 ∧ m13 a ^^^ m11 a ^^^ m2 (m14 a) ^^^ m3 (m9 a) = a ∧ m3 (m13 a) ^^^ m11 a ^^^ m14 a ^^^ m2 (m9 a) = 0 := by
  revert a; refine all_u8 ?_; decide +kernel
theorem two_d (a : UInt8) : m2 (m9 a) ^^^ m3 (m13 a) ^^^ m11 a ^^^ m14 a = 0 ∧ m9 a ^^^ m2 (m13 a) ^^^ m3 (m11 a) ^^^ m14 a = 0 ∧ m9 a ^^^ m13 a ^^^ m2 (m11 a) ^^^ m3 (m14 a) = 0 ∧ m3 (m9 a) ^^^ m13 a ^^^ m11 a ^^^ m2 (m14 a) = a := by
  revert a; refine all_u8 ?_; decide +kernel
theorem mc_imc (r : Nat) (hr : r < 4) (a b c d : UInt8) : mc r (imc 0 a b c d) (imc 1 a b c d) (imc 2 a b c d) (imc 3 a b c d) = if r = 0 then a else if r = 1 then b else if r = 2 then c else d := by
  have e9 : m9 0 = 0 := by decide
  have e11 : m11 0 = 0 := by decide
  have e13 : m13 0 = 0 := by decide
  have e14 : m14 0 = 0 := by decide
  rw [imc_split 0, imc_split 1, imc_split 2, imc_split 3, mc_xor, mc_xor, mc_xor]
  have ha := two_a a; have hb := two_b b; have hc := two_c c; have hd := two_d d
  have h4 : r = 0 ∨ r = 1 ∨ r = 2 ∨ r = 3 := by omega
  rcases h4 with rfl | rfl | rfl | rfl <;> simp [imc, mc, e9, e11, e13, e14, ha, hb, hc, hd]
theorem dec_get (key b : V8 16) (c r : Nat) (hc : c < 4) (hr : r < 4) : gv (dec key b) (4 * c + r) = back (Td key b 9 ((c + r * 3) % 4) r) ^^^ gv (rk key 0) (4 * c + r) := by
  have e1 : (4 * c + r) / 4 = c := by omega
  have e2 : (4 * c + r) % 4 = r := by omega
  have h := gw_bkK key 0 c hc 11 (by omega) (by omega)
  have hb : bkB key 0 = rk key 0 := by simp [bkB, rk]
  rw [dec, runf, gv_ofFn _ _ (by omega)]
  simp only [lastf, e1, e2, pick]
  rw [show 40 + c = (10 - 0) * 4 + c by omega, h, byt_wds _ _ _ hc hr, hb]; rfl
theorem Se_Td (key x : V8 16) : ∀ n, n ≤ 9 → ∀ c r, c < 4 → r < 4 → Se key (dec key x) n c r = back (Td key x (9 - n) ((c + r * 3) % 4) r)
  | 0, _, c, r, hc, hr => by
    rw [Se_0 _ _ _ _ hc hr, dec_get _ _ _ _ hc hr, UInt8.xor_assoc, UInt8.xor_self, UInt8.xor_zero]
  | n + 1, hn, c, r, hc, hr => by
    have ih := Se_Td key x n (by omega)
    have em : 9 - n = (8 - n) + 1 := by omega
    have ez : 9 - (n + 1) = 8 - n := by omega
    have q0 : (c % 4 + 0 * 3) % 4 = c := by omega
    have q1 : ((c + 1) % 4 + 1 * 3) % 4 = c := by omega
    have q2 : ((c + 2) % 4 + 2 * 3) % 4 = c := by omega
    have q3 : ((c + 3) % 4 + 3 * 3) % 4 = c := by omega
    rw [Se_s _ _ _ _ _ (by omega) hc hr, ih _ 0 (by omega) (by omega), ih _ 1 (by omega) (by omega), ih _ 2 (by omega) (by omega), ih _ 3 (by omega) (by omega), sbox_back, sbox_back, sbox_back, sbox_back, q0, q1, q2, q3, em, ez]
    rw [Td_s _ _ _ _ _ (by omega) hc (by omega), Td_s _ _ _ _ 1 (by omega) hc (by omega), Td_s _ _ _ _ 2 (by omega) hc (by omega), Td_s _ _ _ _ 3 (by omega) hc (by omega), mc_xor, mc_imc _ hr, mc_imc _ hr]
    have ek : 9 - (8 - n) = n + 1 := by omega
    rw [ek]
    have h4 : r = 0 ∨ r = 1 ∨ r = 2 ∨ r = 3 := by omega
    rcases h4 with rfl | rfl | rfl | rfl
    · rw [if_pos rfl, if_pos rfl, ← UInt8.xor_assoc]
      simp only [Nat.add_zero, Nat.zero_mul]
      rw [UInt8.xor_self, UInt8.zero_xor]
    · rw [if_neg (by omega), if_pos rfl, if_neg (by omega), if_pos rfl, ← UInt8.xor_assoc, UInt8.xor_self, UInt8.zero_xor]
    · rw [if_neg (by omega), if_neg (by omega), if_pos rfl, if_neg (by omega), if_neg (by omega), if_pos rfl, ← UInt8.xor_assoc, UInt8.xor_self, UInt8.zero_xor]
    · rw [if_neg (by omega), if_neg (by omega), if_neg (by omega), if_neg (by omega), if_neg (by omega), if_neg (by omega), ← UInt8.xor_assoc, UInt8.xor_self, UInt8.zero_xor]
theorem enc_dec (key x : V8 16) : enc key (dec key x) = x := by
  apply v_ext; intro i hi
  have ei : 4 * (i / 4) + i % 4 = i := by omega
  have hc : i / 4 < 4 := by omega
  have hr : i % 4 < 4 := by omega
  have es : ((i / 4 + i % 4) % 4 + i % 4 * 3) % 4 = i / 4 := by omega
  have h : gv (enc key (dec key x)) (4 * (i / 4) + i % 4) = gv x (4 * (i / 4) + i % 4) := by
    rw [enc_get _ _ _ _ hc hr, Se_Td _ _ 9 (by omega) _ _ (by omega) hr, sbox_back, es, Nat.sub_self, Td_0 _ _ _ _ hc hr, UInt8.xor_assoc, UInt8.xor_self, UInt8.xor_zero]
  rw [ei] at h; exact h

/-! sealing what has been opened -/
theorem blk_deT (key : V8 16) (nonce : V8 12) (bs : List UInt8) (k m : Nat) (h : k < m) (y : List UInt8) : blk (deT key nonce bs m ++ y) k = deB key nonce bs k := by
  induction m generalizing y with
  | zero => omega
  | succ m ih =>
    by_cases e : k = m
    · subst e; rw [deT]; exact blk_app _ _ _ _ (deT_len ..)
    · rw [deT, List.append_assoc]; exact ih (by omega) _
theorem crB_deT (key : V8 16) (nonce : V8 12) (bs : List UInt8) (k m : Nat) (h : k < m) (y : List UInt8) : crB key nonce (deT key nonce bs m ++ y) k = blk bs k := by
  rw [crB, blk_deT _ _ _ _ _ h, deB, xorV_cancel, enc_dec, xorV_cancel2]
theorem crT_deT (key : V8 16) (nonce : V8 12) (bs : List UInt8) (m : Nat) (y : List UInt8) (hm : m * 16 ≤ bs.length) : ∀ k, k ≤ m → crT key nonce (deT key nonce bs m ++ y) k = bs.take (k * 16)
  | 0, _ => by simp [crT]
  | k + 1, hk => by
    rw [crT, crT_deT key nonce bs m y hm k (by omega), crB_deT _ _ _ _ _ (by omega), blk_list _ _ (by omega)]
    have e : (k + 1) * 16 = k * 16 + 16 := by omega
    rw [e, List.take_add]
theorem crC_deT (key : V8 16) (nonce : V8 12) (bs : List UInt8) (m : Nat) (y : List UInt8) : ∀ k, k ≤ m → crC (deT key nonce bs m ++ y) k = deC key nonce bs k
  | 0, _ => rfl
  | k + 1, hk => by rw [deC, crC, crC_deT key nonce bs m y k (by omega), blk_deT _ _ _ _ _ (by omega)]
theorem resL_decT (key : V8 16) (nonce : V8 12) (bs : List UInt8) (h : ¬ (resL bs).length = 0) : resL (decT key nonce bs) = resP key nonce bs := by
  rw [resL, decT_len, decT, if_neg h]; exact List.drop_left' (deT_len ..)
theorem resP_len (key : V8 16) (nonce : V8 12) (bs : List UInt8) : (resP key nonce bs).length = bs.length % 16 := by
  rw [resP, xorb_len, resL_len]; simp; omega
theorem back_rest (r : List UInt8) (p : V8 16) (h : r.length < 16) : (xorV (padV (xorb r p.toList)) p).toList.take (xorb r p.toList).length = r := by
  have hx : (xorb r p.toList).length = r.length := by rw [xorb_len]; simp; omega
  apply l_ext
  · simp [hx]; omega
  · intro i hi
    simp [hx] at hi
    have hi2 : i < r.length := by omega
    rw [hx, gl_take hi2, gl_toList, xorV_get _ _ _ (by omega), padV_get _ _ (by omega) (by omega), gl_xorb _ _ _ hi2 (by simp; omega), gl_toList, UInt8.xor_assoc, UInt8.xor_self, UInt8.xor_zero]
theorem cry_dec (key : V8 16) (nonce : V8 12) (bs : List UInt8) : cryT key nonce (decT key nonce bs) = bs ∧ cryC (decT key nonce bs) = decC key nonce bs := by
  have hl := decT_len key nonce bs
  have h1 := resL_len bs
  have h2 : (resL (decT key nonce bs)).length = bs.length % 16 := by rw [resL_len, hl]
  by_cases h : (resL bs).length = 0
  · have e : decT key nonce bs = deT key nonce bs (bs.length / 16) ++ [] := by rw [decT, if_pos h, List.append_nil]
    rw [cryT, cryC, decC, if_pos (by omega), if_pos (by omega), if_pos h, hl, e]
    refine ⟨?_, crC_deT _ _ _ _ _ _ (Nat.le_refl _)⟩
    rw [crT_deT _ _ _ _ _ (by omega) _ (Nat.le_refl _), resL_0 h]
  · have er := resL_decT key nonce bs h
    have e : decT key nonce bs = deT key nonce bs (bs.length / 16) ++ resP key nonce bs := by rw [decT, if_neg h]
    rw [cryT, cryC, decC, if_neg (by omega), if_neg (by omega), if_neg h, er, hl, e, crC_deT _ _ _ _ _ _ (Nat.le_refl _), crT_deT _ _ _ _ _ (by omega) _ (Nat.le_refl _)]
    refine ⟨?_, rfl⟩
    have hb := back_rest (resL bs) (enc key (lasO key nonce bs.length)) (by omega)
    rw [resP, hb, resL]; exact List.take_append_drop _ _
theorem orl_0 : ∀ (l : List UInt8), orl l = 0 → ∀ x ∈ l, x = 0 := by
  have key : ∀ (l : List UInt8) (o : UInt8), l.foldl (· ||| ·) o = 0 → o = 0 ∧ ∀ x ∈ l, x = 0 := by
    intro l
    induction l with
    | nil => intro o h; exact ⟨h, fun x hx => by cases hx⟩
    | cons y r ih =>
      intro o h
      rw [List.foldl_cons] at h
      obtain ⟨h1, h2⟩ := ih _ h
      have h3 : o = 0 ∧ y = 0 := by
        have := congrArg UInt8.toNat h1
        rw [UInt8.toNat_or] at this
        have h0 : (0 : UInt8).toNat = 0 := rfl
        rw [h0, Nat.or_eq_zero_iff] at this
        exact ⟨UInt8.toNat_inj.1 this.1, UInt8.toNat_inj.1 this.2⟩
      refine ⟨h3.1, fun x hx => ?_⟩
      rcases List.mem_cons.1 hx with rfl | hx
      · exact h3.2
      · exact h2 x hx
  exact fun l h => (key l 0 h).2
theorem eqB_iff (a b : List UInt8) : eqB a b = decide (a = b) := by
  by_cases h : a = b
  · subst h; rw [eqB_self]; simp
  · rw [decide_eq_false h, eqB]
    by_cases h0 : orl (xorb a b) = 0
    · rw [if_pos h0]
      refine decide_eq_false fun hl => h ?_
      refine l_ext hl fun i hi => ?_
      have hz := orl_0 _ h0
      have hg : gl (xorb a b) i = 0 := by
        have hlt : i < (xorb a b).length := by rw [xorb_len]; omega
        have : gl (xorb a b) i = (xorb a b)[i] := by simp [gl, hlt]
        rw [this]; exact hz _ (List.getElem_mem hlt)
      rw [gl_xorb _ _ _ hi (by omega)] at hg
      exact UInt8.xor_eq_zero_iff.1 hg
    · rw [if_neg h0]
/-- the reference's Open -/
def opnR (key : V8 16) (nonce : V8 12) (data bs : List UInt8) : Nat :=
  if bs.length < 16 then 1 else if sealV key nonce data (decT key nonce (bs.take (bs.length - 16))) = bs then 0 else 3
theorem opnR_eq (key : V8 16) (nonce : V8 12) (data bs : List UInt8) : opnR key nonce data bs = opnE key nonce data bs := by
  rw [opnR, opnE]
  by_cases h : bs.length < 16
  · rw [if_pos h, if_pos h]
  · rw [if_neg h, if_neg h, eqB_iff]
    have hc := cry_dec key nonce (bs.take (bs.length - 16))
    have hl : (bs.take (bs.length - 16)).length = bs.length - 16 := by simp
    have e : sealV key nonce data (decT key nonce (bs.take (bs.length - 16))) = bs.take (bs.length - 16) ++ (tagV key (decC key nonce (bs.take (bs.length - 16))) (cryO key nonce (bs.length - 16)) data).toList := by
      rw [sealV, hc.1, hc.2, decT_len, hl]
    rw [e]
    have hs : bs = bs.take (bs.length - 16) ++ bs.drop (bs.length - 16) := (List.take_append_drop _ _).symm
    have : (bs.take (bs.length - 16) ++ (tagV key (decC key nonce (bs.take (bs.length - 16))) (cryO key nonce (bs.length - 16)) data).toList = bs) = ((tagV key (decC key nonce (bs.take (bs.length - 16))) (cryO key nonce (bs.length - 16)) data).toList = bs.drop (bs.length - 16)) := by
      apply propext
      constructor
      · intro h2
        have h3 := congrArg (List.drop (bs.length - 16)) h2
        rw [List.drop_left' hl] at h3; exact h3
      · intro h2; rw [h2]; exact hs.symm
    by_cases h2 : (tagV key (decC key nonce (bs.take (bs.length - 16))) (cryO key nonce (bs.length - 16)) data).toList = bs.drop (bs.length - 16)
    · rw [if_pos (this.mpr h2), if_pos (by simpa using h2)]
    · rw [if_neg (fun h3 => h2 (this.mp h3)), if_neg (by simpa using h2)]
end Go.X

/- What the walks of the reference's mode meet: plain Lean. -/
namespace Go.X
open Go
theorem xorV_zero (a : V8 16) : xorV a (Vector.replicate 16 0) = a := by
  apply v_ext; intro i hi
  rw [xorV_get _ _ _ hi, gv_rep, UInt8.xor_zero]
/-! the nonce's block -/
def topS (nonce : V8 12) : Nat → V8 16
  | 0 => (Vector.replicate 16 0 : V8 16).setIfInBounds 3 1
  | k + 1 => (topS nonce k).setIfInBounds (4 + k) (gv nonce k)
theorem topS_get (nonce : V8 12) : ∀ k, k ≤ 12 → ∀ i, i < 16 → gv (topS nonce k) i = if 4 ≤ i ∧ i < 4 + k then gv nonce (i - 4) else if i = 3 then 1 else 0
  | 0, _, i, hi => by
    have hz : ¬ (4 ≤ i ∧ i < 4 + 0) := by omega
    rw [topS, gv_setE _ _ _ _ hi, gv_rep, if_neg hz]
    by_cases h : 3 = i
    · rw [if_pos h, if_pos h.symm]
    · rw [if_neg h, if_neg (fun e => h e.symm)]
  | k + 1, hk, i, hi => by
    rw [topS, gv_setE _ _ _ _ hi, topS_get nonce k (by omega) i hi]
    by_cases h : 4 + k = i
    · subst h
      have h3 : 4 ≤ 4 + k ∧ 4 + k < 4 + (k + 1) := by omega
      rw [if_pos rfl, if_pos h3]; exact congrArg (gv _) (by omega)
    · rw [if_neg h]
      by_cases h2 : 4 ≤ i ∧ i < 4 + k
      · have h3 : 4 ≤ i ∧ i < 4 + (k + 1) := by omega
        rw [if_pos h2, if_pos h3]
      · have h3 : ¬ (4 ≤ i ∧ i < 4 + (k + 1)) := by omega
        rw [if_neg h2, if_neg h3]
theorem topS_whole (nonce : V8 12) : topS nonce 12 = wholeV nonce := by
  apply v_ext; intro i hi
  rw [topS_get nonce 12 (by omega) i hi, wholeV, putL, gv_ofFn _ _ hi]
  simp only [Vector.length_toList]
  by_cases h : 4 ≤ i ∧ i < 4 + 12
  · rw [if_pos h, if_pos h, gl_toList]
  · rw [if_neg h, if_neg h, gv_setE _ _ _ _ hi, gv_rep]
    by_cases h3 : i = 3
    · rw [if_pos h3, if_pos h3.symm]
    · rw [if_neg h3, if_neg (fun e => h3 e.symm)]
theorem low6 (a : UInt8) : a - a % 64 = a &&& ~~~63 := by revert a; refine all_u8 ?_; decide +kernel
theorem top_eq (nonce : V8 12) : (topS nonce 12).setIfInBounds 15 (gv (topS nonce 12) 15 - gv (topS nonce 12) 15 % 64) = topB nonce := by rw [topS_whole, low6]; rfl
theorem bot_eq (nonce : V8 12) : (gv nonce 11).toNat % 64 = botN nonce := by
  have h : ∀ a : UInt8, a.toNat % 64 = (a &&& 63).toNat := by intro a; revert a; refine all_u8 ?_; decide +kernel
  rw [h]; rfl
def strf (b : V8 16) (i : Nat) : UInt8 := if i < 16 then gv b i else gv b (i - 16) ^^^ gv b (i - 15)
theorem strL_get (b : V8 16) : ∀ k, k ≤ 8 → ∀ i, i < 24 → gv (strL b k) i = if i < 16 then gv b i else if i < 16 + k then gv b (i - 16) ^^^ gv b (i - 15) else 0
  | 0, _, i, hi => by
    rw [strL, putL, gv_ofFn _ _ hi]
    simp only [Vector.length_toList, gv_rep, gl_toList]
    by_cases h : i < 16
    · rw [if_pos (by omega), if_pos h]; rfl
    · rw [if_neg (by omega), if_neg h, if_neg (by omega)]
  | k + 1, hk, i, hi => by
    rw [strL, gv_setE _ _ _ _ hi, strL_get b k (by omega) i hi]
    by_cases h : 16 + k = i
    · subst h
      rw [if_pos rfl, if_neg (by omega), if_pos (by omega)]
      have e1 : 16 + k - 16 = k := by omega
      have e2 : 16 + k - 15 = k + 1 := by omega
      rw [e1, e2]
    · rw [if_neg h]
      by_cases h1 : i < 16
      · rw [if_pos h1, if_pos h1]
      · rw [if_neg h1, if_neg h1]
        by_cases h2 : i < 16 + k
        · rw [if_pos h2, if_pos (by omega)]
        · rw [if_neg h2, if_neg (by omega)]
theorem str_eq (b : V8 16) : (Vector.ofFn fun i : Fin 24 => strf b i.val) = strL b 8 := by
  apply v_ext; intro i hi
  rw [gv_ofFn _ _ hi, strL_get b 8 (by omega) i hi, strf]
  by_cases h : i < 16
  · simp only [if_pos h]
  · simp only [if_neg h]; rw [if_pos (by omega)]
/-! the rest, byte by byte -/
def tlL (bs : List UInt8) (o : Nat) (p : V8 16) : Nat → List UInt8
  | 0 => []
  | m + 1 => tlL bs o p m ++ [gl bs (o + m) ^^^ gv p (o + m - o)]
@[simp] theorem tlL_len (bs : List UInt8) (o : Nat) (p : V8 16) (m : Nat) : (tlL bs o p m).length = m := by
  induction m with
  | zero => rfl
  | succ m ih => simp [tlL, ih]
theorem tlL_get (bs : List UInt8) (o : Nat) (p : V8 16) : ∀ m i, i < m → gl (tlL bs o p m) i = gl bs (o + i) ^^^ gv p i
  | 0, i, h => by omega
  | m + 1, i, h => by
    rw [tlL]
    by_cases e : i < m
    · rw [gl_app_lt (by simpa using e)]; exact tlL_get bs o p m i e
    · have : i = m := by omega
      subst this
      have e2 : o + i - o = i := by omega
      rw [gl_app_ge (by simp)]; simp [gl, e2]
theorem tl_pad (bs : List UInt8) (o : Nat) (p : V8 16) (h : bs.length - o < 16) : tlL bs o p (bs.length - o) = (xorV (padV (bs.drop o)) p).toList.take (bs.drop o).length := by
  apply l_ext
  · simp; omega
  · intro i hi
    simp at hi
    rw [tlL_get _ _ _ _ _ (by omega), gl_take (by simp; omega), gl_toList, xorV_get _ _ _ (by omega), padV_get _ _ (by simp; omega) (by simp; omega), gl_drop]
theorem tl_xorb (bs : List UInt8) (o : Nat) (p : V8 16) (h : bs.length - o < 16) : tlL bs o p (bs.length - o) = xorb (bs.drop o) p.toList := by
  apply l_ext
  · rw [xorb_len]; simp; omega
  · intro i hi
    simp at hi
    rw [tlL_get _ _ _ _ _ (by omega), gl_xorb _ _ _ (by simp; omega) (by simp; omega), gl_drop, gl_toList]
section
variable {key : V8 16} {nonce : V8 12} {bs : List UInt8} {n : Nat}
theorem cryT_0 (hn : bs.length = n) (h : ¬ 0 < n % 16) : crT key nonce bs (n / 16) = cryT key nonce bs := by rw [cryT, if_pos (by rw [resL_len]; omega), hn]
theorem cryC_0 (hn : bs.length = n) (h : ¬ 0 < n % 16) : crC bs (n / 16) = cryC bs := by rw [cryC, if_pos (by rw [resL_len]; omega), hn]
theorem cryO_0 (h : ¬ 0 < n % 16) : crO key nonce (n / 16) = cryO key nonce n := by rw [cryO, if_pos (by omega)]
theorem cryT_1 (hn : bs.length = n) (h : 0 < n % 16) : crT key nonce bs (n / 16) ++ tlL bs (16 * (n / 16)) (enc key (xorV (crO key nonce (n / 16)) (star key))) (n - 16 * (n / 16)) = cryT key nonce bs := by
  have e : 16 * (n / 16) = n / 16 * 16 := Nat.mul_comm _ _
  rw [cryT, if_neg (by rw [resL_len]; omega), e]
  subst hn
  rw [tl_pad _ _ _ (by omega)]; rfl
theorem cryC_1 (hn : bs.length = n) (h : 0 < n % 16) : xorV (crC bs (n / 16)) (padV (bs.drop (16 * (n / 16)))) = cryC bs := by
  rw [cryC, if_neg (by rw [resL_len]; omega), resL, hn, Nat.mul_comm]
theorem cryO_1 (h : 0 < n % 16) : xorV (crO key nonce (n / 16)) (star key) = cryO key nonce n := by rw [cryO, if_neg (by omega)]; rfl
theorem decT_1 (hn : bs.length = n) : deT key nonce bs (n / 16) ++ tlL bs (16 * (n / 16)) (enc key (xorV (crO key nonce (n / 16)) (star key))) (n - 16 * (n / 16)) = decT key nonce bs := by
  have e : 16 * (n / 16) = n / 16 * 16 := Nat.mul_comm _ _
  subst hn
  rw [e, tl_xorb _ _ _ (by omega), decT]
  by_cases h : (resL bs).length = 0
  · rw [if_pos h]
    have h2 : bs.drop (bs.length / 16 * 16) = [] := List.eq_nil_of_length_eq_zero h
    rw [h2]; simp [xorb]
  · rw [if_neg h]; rfl
theorem hash_0 (hn : bs.length = n) (h : ¬ 0 < n % 16) : (sumL key bs (n / 16)).1 = hashV key bs := by
  have h2 : (bs.drop (n / 16 * 16)).length = 0 := by simp; omega
  rw [hashV, hn, restB, if_pos h2, xorV_zero]
theorem hash_1 (hn : bs.length = n) (h : 0 < n % 16) : xorV (sumL key bs (n / 16)).1 (enc key (xorV (padV (bs.drop (16 * (n / 16)))) (xorV (sumL key bs (n / 16)).2 (star key)))) = hashV key bs := by
  have h2 : ¬ (bs.drop (n / 16 * 16)).length = 0 := by simp; omega
  rw [hashV, hn, restB, if_neg h2, Nat.mul_comm]
theorem tag_eq (ck off : V8 16) (data : List UInt8) : xorV (enc key (xorV (xorV ck off) (dblB (star key)))) (hashV key data) = tagV key ck off data := by
  have e : xorV (xorV ck off) (dblB (star key)) = xorV ck (xorV off (lastL key 0)) := by
    apply v_ext; intro i hi
    rw [xorV_get _ _ _ hi, xorV_get _ _ _ hi, xorV_get _ _ _ hi, xorV_get _ _ _ hi, UInt8.xor_assoc]; rfl
  rw [e]; rfl
end
end Go.X

/- The reference's heads and packets are the program's: plain Lean. -/
namespace Go.X
open Go

section
variable {P : Program} {ops : Array Oper} {n : Nat} {l : Regs} {w : World} {K : Regs → World → Prop} {d T S : Nat} {ps : String} {af : Array Edge} {g : Option (Nat × Bool)} {x y : Operand}
theorem neb {R : Nat} {p q : Bool} (hu : P.underlying S = some .bool) (hg : gval ops l ⟨some d, .binOp .neq S x y R, T, ps, af, g⟩ = some true) (hd : Nat.blt d n = true) (hx : ev l x = some (.bool p)) (hy : ev l y = some (.bool q)) (k : K ((d, .bool (p != q)) :: l) w) :
    WO P ops n ⟨some d, .binOp .neq S x y R, T, ps, af, g⟩ l w K :=
  WO.val hg hd (fun a ha => by
    simp only [execOp, ha.ev hx, ha.ev hy, Sem.run_bind]
    simp [run_neq_bool, eqGuard_at_bool, hu, bne]) k
end

section
variable {key : V8 16} {nonce : V8 12} {data bs : List UInt8} {n : Nat}
theorem opnR_s (hn : bs.length = n) (h : n < 16) : opnE key nonce data bs = 1 := by rw [opnE, if_pos (by omega)]
theorem opnR_f (hn : bs.length = n) (h : ¬ n < 16) (he : ¬ sealV key nonce data (decT key nonce (bs.take (n - 16))) = bs) : opnE key nonce data bs = 3 := by
  subst hn; rw [← opnR_eq, opnR, if_neg h, if_neg he]
theorem opnR_t (hn : bs.length = n) (h : ¬ n < 16) (he : sealV key nonce data (decT key nonce (bs.take (n - 16))) = bs) : opnE key nonce data bs = 0 := by
  subst hn; rw [← opnR_eq, opnR, if_neg h, if_pos he]
theorem opnR_0 (h : opnE key nonce data bs = 0) : sealV key nonce data (opnT key nonce bs) = bs := by
  rw [← opnR_eq, opnR] at h
  split at h
  · cases h
  split at h
  · assumption
  · cases h
end
/-! heads -/
theorem hd_1 (s : UInt64) (hs : s.toNat ≤ 9223372036854775807) : s + 9223372036854775808 = hdW 1 s := by
  apply UInt64.toNat_inj.1
  have e : (9223372036854775808 : UInt64).toNat = 9223372036854775808 := rfl
  rw [hdW_nat 1 s (by omega) hs, UInt64.toNat_add, e]; omega
theorem hd_0 (s : UInt64) (hs : s.toNat ≤ 9223372036854775807) : s = hdW 0 s := by
  apply UInt64.toNat_inj.1
  rw [hdW_nat 0 s (by omega) hs]; omega
def mkS (h : V8 8) : Nat → V8 12
  | 0 => Vector.replicate 12 0
  | k + 1 => (mkS h k).setIfInBounds (4 + k) (gv h k)
theorem mkS_get (h : V8 8) : ∀ k, k ≤ 8 → ∀ i, i < 12 → gv (mkS h k) i = if 4 ≤ i ∧ i < 4 + k then gv h (i - 4) else 0
  | 0, _, i, hi => by
    have hz : ¬ (4 ≤ i ∧ i < 4 + 0) := by omega
    rw [mkS, gv_rep, if_neg hz]
  | k + 1, hk, i, hi => by
    rw [mkS, gv_setE _ _ _ _ hi, mkS_get h k (by omega) i hi]
    by_cases h1 : 4 + k = i
    · subst h1
      have h3 : 4 ≤ 4 + k ∧ 4 + k < 4 + (k + 1) := by omega
      rw [if_pos rfl, if_pos h3]; exact congrArg (gv _) (by omega)
    · rw [if_neg h1]
      by_cases h2 : 4 ≤ i ∧ i < 4 + k
      · have h3 : 4 ≤ i ∧ i < 4 + (k + 1) := by omega
        rw [if_pos h2, if_pos h3]
      · have h3 : ¬ (4 ≤ i ∧ i < 4 + (k + 1)) := by omega
        rw [if_neg h2, if_neg h3]
theorem mk_eq (h : V8 8) : mkS h 8 = nonceV h := by
  apply v_ext; intro i hi
  rw [mkS_get h 8 (by omega) i hi, nonceV, gv_ofl _ _ _ hi]
  by_cases h4 : i < 4
  · have hz : ¬ (4 ≤ i ∧ i < 4 + 8) := by omega
    rw [if_neg hz, gl_app_lt (by simpa using h4), gl_toList, gv_rep]
  · have hz : 4 ≤ i ∧ i < 4 + 8 := by omega
    rw [if_pos hz, gl_app_ge (by simp; omega), gl_toList]; simp
/-! numbers there and back -/
theorem valN_lt (l : List UInt8) : valN l < 256 ^ l.length := by
  induction l with
  | nil => simp [valN]
  | cons c l ih =>
    have hc := c.toNat_lt
    have e : valN (c :: l) = c.toNat * 256 ^ l.length + valN l := by
      show List.foldl _ (0 * 256 + c.toNat) l = _
      rw [valN_fold, Nat.zero_mul, Nat.zero_add]
    rw [e, List.length_cons, Nat.pow_succ]
    have : c.toNat * 256 ^ l.length ≤ 255 * 256 ^ l.length := Nat.mul_le_mul_right _ (by omega)
    omega
theorem valN_inj : ∀ (l m : List UInt8), l.length = m.length → valN l = valN m → l = m
  | [], [], _, _ => rfl
  | [], _ :: _, h, _ => by simp at h
  | _ :: _, [], h, _ => by simp at h
  | c :: l, d :: m, h, hv => by
    have hl : l.length = m.length := by simpa using h
    have e : ∀ (c : UInt8) (l : List UInt8), valN (c :: l) = c.toNat * 256 ^ l.length + valN l := by
      intro c l
      show List.foldl _ (0 * 256 + c.toNat) l = _
      rw [valN_fold, Nat.zero_mul, Nat.zero_add]
    rw [e, e, hl] at hv
    have h1 := valN_lt l; have h2 := valN_lt m
    rw [hl] at h1
    generalize 256 ^ m.length = q at hv h1 h2
    have hcd : c.toNat = d.toNat := by
      have a1 : (c.toNat * q + valN l) / q = c.toNat := by rw [Nat.mul_comm, Nat.mul_add_div (by omega), Nat.div_eq_of_lt h1, Nat.add_zero]
      have a2 : (d.toNat * q + valN m) / q = d.toNat := by rw [Nat.mul_comm, Nat.mul_add_div (by omega), Nat.div_eq_of_lt h2, Nat.add_zero]
      rw [← a1, hv, a2]
    have hlm : valN l = valN m := by rw [hcd] at hv; omega
    rw [UInt8.toNat_inj.1 hcd, valN_inj l m hl hlm]
theorem bytes_num (x : UInt64) (l : List UInt8) (n : Nat) (hl : l.length = n) (h : x.toNat = valN l) : bytesL x n = l := by
  refine valN_inj _ _ (by simp [hl]) ?_
  have := valN_lt l
  rw [bytesL_val, h, ← hl]; exact Nat.mod_eq_of_lt this
theorem headS_le (bs : List UInt8) : (headS bs).toNat ≤ 9223372036854775807 := by rw [headS, and63]; omega
theorem headD_le (bs : List UInt8) : headD bs ≤ 1 := by have := shr63_lt (number (bs.take 8)); rw [headD]; omega
theorem head_back (bs : List UInt8) (h : 8 ≤ bs.length) : (headV (headD bs) (headS bs)).toList = bs.take 8 := by
  have h8 : (bs.take 8).length ≤ 8 := by simp; omega
  rw [headV_list]
  refine bytes_num _ _ 8 (by simp; omega) ?_
  rw [hdW_nat _ _ (headD_le bs) (headS_le bs), headD, headS, and63, shr63, ← num_nat _ h8, ← number_8 _ h8]
  generalize (number (bs.take 8)).toNat = x
  omega
theorem head_ofl (bs : List UInt8) (h : 8 ≤ bs.length) : headV (headD bs) (headS bs) = ofl 8 bs := by
  have h1 := ofl_head (headD bs) (headS bs) (bs.drop 8)
  rw [head_back bs h, List.take_append_drop] at h1
  exact h1.symm
theorem head_ofl2 (bs : List UInt8) (h : 8 ≤ bs.length) : headV (headD2 bs) (headS2 bs) = ofl 8 bs := by rw [headD_2, headS_2]; exact head_ofl bs h
theorem u8_16 (t : UInt16) (D k : Nat) (h : t.toNat / D % 256 = k) : UInt8.ofNat (t.toNat / D) = UInt8.ofNat k := by
  apply UInt8.toNat_inj.1; simp only [UInt8.toNat_ofNat']; omega
theorem tm_bytes (t e : UInt16) : [toU8 (((t / 256).toNat : Nat) : Int), toU8 (((t % 256).toNat : Nat) : Int), toU8 (((e / 256).toNat : Nat) : Int), toU8 (((e % 256).toNat : Nat) : Int)] = bytesL (tmV t e) 4 := by
  have ht := t.toNat_lt; have he := e.toNat_lt
  have e256 : (256 : UInt16).toNat = 256 := rfl
  have hz : bytesL (tmV t e) 0 = [] := rfl
  rw [bytesL_succ, bytesL_succ, bytesL_succ, bytesL_succ, hz]
  have h := tm_nat t e
  congr 1
  · apply UInt8.toNat_inj.1; rw [bytf_0, toU8_nat, UInt8.toNat_ofNat', UInt16.toNat_div, e256, h]; omega
  congr 1
  · apply UInt8.toNat_inj.1; rw [bytf_0, toU8_nat, UInt8.toNat_ofNat', UInt16.toNat_mod, e256, h]; omega
  congr 1
  · apply UInt8.toNat_inj.1; rw [bytf_0, toU8_nat, UInt8.toNat_ofNat', UInt16.toNat_div, e256, h]; omega
  congr 1
  · apply UInt8.toNat_inj.1; rw [bytf_0, toU8_nat, UInt8.toNat_ofNat', UInt16.toNat_mod, e256, h]; omega
theorem valN_4 (a b c d : UInt8) : valN [a, b, c, d] = ((a.toNat * 256 + b.toNat) * 256 + c.toNat) * 256 + d.toNat := by simp [valN]
theorem four_l (l : List UInt8) (h : 4 ≤ l.length) : l.take 4 = [gl l 0, gl l 1, gl l 2, gl l 3] := by
  match l, h with
  | a :: b :: c :: d :: r, _ => rfl
theorem num4 (l : List UInt8) (h : 4 ≤ l.length) : (number (l.take 4)).toNat = (((gl l 0).toNat * 256 + (gl l 1).toNat) * 256 + (gl l 2).toNat) * 256 + (gl l 3).toNat := by
  rw [four_l l h, number_8 _ (by simp), num_nat _ (by simp), valN_4]
theorem u16_2 (a b : UInt8) : (toU16 ((a.toNat : Nat) : Int) * 256 + toU16 ((b.toNat : Nat) : Int)).toNat = a.toNat * 256 + b.toNat := by
  have ha := a.toNat_lt; have hb := b.toNat_lt
  have e256 : (256 : UInt16).toNat = 256 := rfl
  have e1 : ∀ x : UInt8, (toU16 ((x.toNat : Nat) : Int)).toNat = x.toNat := by
    intro x; have := x.toNat_lt; simp only [toU16, UInt16.toNat_ofNat']; omega
  rw [UInt16.toNat_add, UInt16.toNat_mul, e1, e1, e256]; omega
theorem tm_d1 (l : List UInt8) (h : 4 ≤ l.length) : toU16 ((gl l 0).toNat : Int) * 256 + toU16 ((gl l 1).toNat : Int) = toU16 ((shr64 (number (l.take 4)) 16).toNat : Int) := by
  have h4 := num4 l h
  have h0 := (gl l 0).toNat_lt; have h1 := (gl l 1).toNat_lt; have h2 := (gl l 2).toNat_lt; have h3 := (gl l 3).toNat_lt
  apply UInt16.toNat_inj.1
  rw [u16_2]
  simp only [toU16, shr64, UInt16.toNat_ofNat', UInt64.toNat_ofNat', h4]; omega
theorem tm_d2 (l : List UInt8) (h : 4 ≤ l.length) : toU16 ((gl l 2).toNat : Int) * 256 + toU16 ((gl l 3).toNat : Int) = toU16 ((number (l.take 4)).toNat : Int) := by
  have h4 := num4 l h
  have h0 := (gl l 0).toNat_lt; have h1 := (gl l 1).toNat_lt; have h2 := (gl l 2).toNat_lt; have h3 := (gl l 3).toNat_lt
  apply UInt16.toNat_inj.1
  rw [u16_2]
  simp only [toU16, UInt16.toNat_ofNat', h4]; omega
theorem tm_back (l : List UInt8) (h : 4 ≤ l.length) : bytesL (tmV (toU16 ((shr64 (number (l.take 4)) 16).toNat : Int)) (toU16 ((number (l.take 4)).toNat : Int))) 4 = l.take 4 := by
  have h4 := num4 l h
  have h0 := (gl l 0).toNat_lt; have h1 := (gl l 1).toNat_lt; have h2 := (gl l 2).toNat_lt; have h3 := (gl l 3).toNat_lt
  refine bytes_num _ _ 4 (by simp; omega) ?_
  rw [tm_nat, ← tm_d1 l h, ← tm_d2 l h, u16_2, u16_2, four_l l h, valN_4]; omega
/-! packets -/
section
variable {key : V8 16} {bs : List UInt8} {n m c C : Nat} {a : Option Addr} {X : List (Nat × Obj)}
/-- what the reference's Decode returns -/
def DecI (key : V8 16) (bs : List UInt8) (v : Value) (X : List (Nat × Obj)) : Prop :=
  ∃ a n c, v = .tuple #[.agg #[I ((dcdD key bs : Nat) : Int), U64 (dcdS key bs), U16 (dcdT key bs), U16 (dcdM key bs), .slice a n c], I ((dcdE key bs : Nat) : Int)] ∧ (dcdP key bs).length = n ∧ n ≤ 1000000 ∧ n ≤ c ∧ Rd a (dcdP key bs) X
theorem decI_bad (h : dcdE key bs ≠ 0) {e : Nat} (he : dcdE key bs = e) : DecI key bs (.tuple #[.agg #[I 0, U64 0, U16 0, U16 0, .slice none 0 0], I (e : Int)]) [] :=
  ⟨none, 0, 0, by rw [dcdD, dcdS, dcdT, dcdM, if_neg h, if_neg h, if_neg h, if_neg h, he]; rfl, by rw [dcdP, if_neg h]; rfl, by omega, by omega, fun _ _ _ w _ _ => by rw [dcdP, if_neg h]; exact Cel.nil w none⟩
theorem decI_ok (h : dcdE key bs = 0) (hN : bs.length ≤ 1000000) (hm : (dcdX key bs).length = m) (h4 : 4 ≤ m) (hO : Own 1 a m c (c8 (dcdX key bs)) X) :
    DecI key bs (.tuple #[.agg #[I ((headD2 bs : Nat) : Int), U64 (headS2 bs), U16 (toU16 ((gl (dcdX key bs) 0).toNat : Int) * 256 + toU16 ((gl (dcdX key bs) 1).toNat : Int)), U16 (toU16 ((gl (dcdX key bs) 2).toNat : Int) * 256 + toU16 ((gl (dcdX key bs) 3).toNat : Int)), .slice (sla a 4 c) (m - 4) (c - 4)], I 0]) X :=
  ⟨_, _, _, by rw [tm_d1 _ (by omega), tm_d2 _ (by omega), headD_2, headS_2, dcdD, dcdS, dcdT, dcdM, if_pos h, if_pos h, if_pos h, if_pos h, h]; rfl, by rw [dcdP, if_pos h, List.length_drop, hm], by rw [dcdX_len] at hm; omega, by have := hO.le; omega,
    fun _ _ _ w hS hX => by rw [dcdP, if_pos h]; exact (hO.cel hS hX).drop8 (lo := 4) (cap := c) (by have := hO.le; omega)⟩
theorem dcd_lng (h : dcdE key bs = 0) : 28 ≤ bs.length ∧ bs.length ≤ 1228 := by
  rw [dcdE] at h
  split at h
  · rename_i h2; exact absurd h h2
  · rename_i h2; exact lng_0 (by omega)
/-- a datagram that is opened is that of its packet -/
theorem again_eq (h : dcdE key bs = 0) : chk ((dcdD key bs : Nat) : Int) (dcdS key bs) (dcdP key bs).length = 0 ∧ encP key ((dcdD key bs : Nat) : Int) (dcdS key bs) (dcdT key bs) (dcdM key bs) (dcdP key bs) = bs := by
  have hl := dcd_lng h
  have hX := dcdX_len key bs
  have hD := headD_le bs
  have hS := headS_le bs
  have e1 : dcdD key bs = headD bs := if_pos h
  have e2 : dcdS key bs = headS bs := if_pos h
  have e3 : dcdT key bs = _ := if_pos h
  have e4 : dcdM key bs = _ := if_pos h
  have e5 : dcdP key bs = (dcdX key bs).drop 4 := if_pos h
  have hc : chk ((dcdD key bs : Nat) : Int) (dcdS key bs) (dcdP key bs).length = 0 := by
    rw [e1, e2, e5, chk, if_neg (by omega), if_neg (by omega), if_neg (by simp; omega)]
  refine ⟨hc, ?_⟩
  rw [encP, if_pos hc, e1, e2, e3, e4, e5, encV, Int.toNat_natCast, tm_back _ (by omega), List.take_append_drop, head_ofl bs (by omega), ← head_ofl bs (by omega), head_back bs (by omega), head_ofl bs (by omega)]
  have ho : opnE key (nonceV (ofl 8 bs)) [] (bs.drop 8) = 0 := by
    rw [dcdE, if_neg (by rw [lng_ok hl.1 hl.2]; decide)] at h; exact h
  have := opnR_0 ho
  rw [dcdX, this, List.take_append_drop]
end
end Go.X

/- walks -/
namespace Go.Proofs.XZ
open Go Go.X Go.Proofs
set_option maxRecDepth 1000000 in
theorem zr147 : Zr Tryz.prog 147 (.agg (NV (Vector.replicate 15 0))) := zr_of (l := List.replicate 15 (I 0)) (by simp only [BV_rep, WV_rep, DV_rep, NV_rep, tol_app]) (by kernel_rfl)
set_option maxRecDepth 1000000 in
theorem cf63 : Callable Tryz.prog 63 := ⟨_, Tryz.func63, by kernel_rfl, rfl⟩
end Go.Proofs.XZ

/- walks -/
namespace Go.Proofs.XZ
open Go Go.X Go.Proofs
set_option maxRecDepth 1000000 in
theorem cf64 : Callable Tryz.prog 64 := ⟨_, Tryz.func64, by kernel_rfl, rfl⟩
set_option maxRecDepth 1000000 in
theorem zr164 : Zr Tryz.prog 164 (.agg (BV (Vector.replicate 16 0))) := zr_of (l := List.replicate 16 (U8 0)) (by simp only [BV_rep, WV_rep, DV_rep, tol_app]) (by kernel_rfl)
set_option maxRecDepth 1000000 in
theorem sz107 : Sz Tryz.prog 107 4 := by unfold Sz; kernel_rfl
set_option maxRecDepth 1000000 in
theorem ag164 : Ag Tryz.prog 164 16 := ⟨⟨_, Tryz.underlying164, rfl⟩, by kernel_rfl⟩
set_option maxRecDepth 1000000 in
theorem cf120 : Callable Tryz.prog 120 := ⟨_, Tryz.func120, by kernel_rfl, rfl⟩
end Go.Proofs.XZ

/- walks -/
namespace Go.Proofs.XZ
open Go Go.X Go.Proofs
set_option maxRecDepth 1000000 in
theorem zr117 : Zr Tryz.prog 117 (.agg (BV (Vector.replicate 176 0))) := zr_of (l := List.replicate 176 (U8 0)) (by simp only [BV_rep, WV_rep, DV_rep, tol_app]) (by kernel_rfl)
set_option maxRecDepth 1000000 in
theorem cf41 : Callable Tryz.prog 41 := ⟨_, Tryz.func41, by kernel_rfl, rfl⟩
set_option maxRecDepth 1000000 in
theorem cf99 : Callable Tryz.prog 99 := ⟨_, Tryz.func99, by kernel_rfl, rfl⟩
set_option maxRecDepth 1000000 in
theorem ag117 : Ag Tryz.prog 117 176 := ⟨⟨_, Tryz.underlying117, rfl⟩, by kernel_rfl⟩
set_option maxRecDepth 1000000 in
theorem cf62 : Callable Tryz.prog 62 := ⟨_, Tryz.func62, by kernel_rfl, rfl⟩
set_option maxRecDepth 1000000 in
theorem zr48 : Zr Tryz.prog 48 (.agg (BV (Vector.replicate 176 0) ++ BV (Vector.replicate 256 0))) := zr_of (l := List.replicate 176 (U8 0) ++ (List.replicate 256 (U8 0))) (by simp only [BV_rep, WV_rep, DV_rep, tol_app]) (by kernel_rfl)
set_option maxRecDepth 1000000 in
theorem cf40 : Callable Tryz.prog 40 := ⟨_, Tryz.func40, by kernel_rfl, rfl⟩
set_option maxRecDepth 1000000 in
theorem ag48 : Ag Tryz.prog 48 432 := ⟨⟨_, Tryz.underlying48, rfl⟩, by kernel_rfl⟩
set_option maxRecDepth 1000000 in
theorem sz45 : Sz Tryz.prog 45 176 := by unfold Sz; kernel_rfl
set_option maxRecDepth 1000000 in
theorem cf119 : Callable Tryz.prog 119 := ⟨_, Tryz.func119, by kernel_rfl, rfl⟩
set_option maxRecDepth 1000000 in
theorem sz46 : Sz Tryz.prog 46 256 := by unfold Sz; kernel_rfl
set_option maxRecDepth 1000000 in
theorem cf122 : Callable Tryz.prog 122 := ⟨_, Tryz.func122, by kernel_rfl, rfl⟩
set_option maxRecDepth 1000000 in
theorem cf121 : Callable Tryz.prog 121 := ⟨_, Tryz.func121, by kernel_rfl, rfl⟩
set_option maxRecDepth 1000000 in
theorem cf123 : Callable Tryz.prog 123 := ⟨_, Tryz.func123, by kernel_rfl, rfl⟩
set_option maxRecDepth 1000000 in
theorem cf124 : Callable Tryz.prog 124 := ⟨_, Tryz.func124, by kernel_rfl, rfl⟩
set_option maxRecDepth 1000000 in
theorem cf127 : Callable Tryz.prog 127 := ⟨_, Tryz.func127, by kernel_rfl, rfl⟩
set_option maxRecDepth 1000000 in
theorem cf128 : Callable Tryz.prog 128 := ⟨_, Tryz.func128, by kernel_rfl, rfl⟩
set_option maxRecDepth 1000000 in
theorem bu48 (parts : List (Nat × Value)) : Tryz.prog.built 48 parts = Instr.fill (fun i => ([(0, 176), (176, 256)] : List (Nat × Nat)).toArray[i]?) (BV (Vector.replicate 176 0) ++ BV (Vector.replicate 256 0)) parts := bu_s zr48 Tryz.underlying48 (by kernel_rfl) parts
end Go.Proofs.XZ

/- walks -/
namespace Go.Proofs.XZ
open Go Go.X Go.Proofs
set_option maxRecDepth 1000000 in
theorem cf98 : Callable Tryz.prog 98 := ⟨_, Tryz.func98, by kernel_rfl, rfl⟩
set_option maxRecDepth 1000000 in
theorem cf60 : Callable Tryz.prog 60 := ⟨_, Tryz.func60, by kernel_rfl, rfl⟩
set_option maxRecDepth 1000000 in
theorem cf61 : Callable Tryz.prog 61 := ⟨_, Tryz.func61, by kernel_rfl, rfl⟩
set_option maxRecDepth 1000000 in
theorem cf100 : Callable Tryz.prog 100 := ⟨_, Tryz.func100, by kernel_rfl, rfl⟩
set_option maxRecDepth 1000000 in
theorem cf66 : Callable Tryz.prog 66 := ⟨_, Tryz.func66, by kernel_rfl, rfl⟩
set_option maxRecDepth 1000000 in
theorem cf38 : Callable Tryz.prog 38 := ⟨_, Tryz.func38, by kernel_rfl, rfl⟩
set_option maxRecDepth 1000000 in
theorem cf59 : Callable Tryz.prog 59 := ⟨_, Tryz.func59, by kernel_rfl, rfl⟩
set_option maxRecDepth 1000000 in
theorem cf37 : Callable Tryz.prog 37 := ⟨_, Tryz.func37, by kernel_rfl, rfl⟩
end Go.Proofs.XZ

/- walks -/
namespace Go.Proofs.XZ
open Go Go.X Go.Proofs
set_option maxRecDepth 1000000 in
theorem cf39 : Callable Tryz.prog 39 := ⟨_, Tryz.func39, by kernel_rfl, rfl⟩
set_option maxRecDepth 1000000 in
theorem cf42 : Callable Tryz.prog 42 := ⟨_, Tryz.func42, by kernel_rfl, rfl⟩
set_option maxRecDepth 1000000 in
theorem cf43 : Callable Tryz.prog 43 := ⟨_, Tryz.func43, by kernel_rfl, rfl⟩
end Go.Proofs.XZ

/- walks -/
namespace Go.Proofs.XZ
open Go Go.X Go.Proofs
set_option maxRecDepth 1000000 in
theorem sl170 : SlT Tryz.prog 170 3 1 8 (I (0)) := ⟨Tryz.underlying170, _, rfl, rfl, by kernel_rfl, by kernel_rfl, rfl⟩
set_option maxRecDepth 1000000 in
theorem cf125 : Callable Tryz.prog 125 := ⟨_, Tryz.func125, by kernel_rfl, rfl⟩
set_option maxRecDepth 1000000 in
theorem cf126 : Callable Tryz.prog 126 := ⟨_, Tryz.func126, by kernel_rfl, rfl⟩
end Go.Proofs.XZ

/- walks -/
namespace Go.Proofs.XZ
open Go Go.X Go.Proofs
set_option maxRecDepth 1000000 in
theorem cf95 : Callable Tryz.prog 95 := ⟨_, Tryz.func95, by kernel_rfl, rfl⟩
set_option maxRecDepth 1000000 in
theorem cf97 : Callable Tryz.prog 97 := ⟨_, Tryz.func97, by kernel_rfl, rfl⟩
set_option maxRecDepth 1000000 in
theorem cf118 : Callable Tryz.prog 118 := ⟨_, Tryz.func118, by kernel_rfl, rfl⟩
set_option maxRecDepth 1000000 in
theorem cf117 : Callable Tryz.prog 117 := ⟨_, Tryz.func117, by kernel_rfl, rfl⟩
set_option maxRecDepth 1000000 in
theorem cf115 : Callable Tryz.prog 115 := ⟨_, Tryz.func115, by kernel_rfl, rfl⟩
set_option maxRecDepth 1000000 in
theorem cf114 : Callable Tryz.prog 114 := ⟨_, Tryz.func114, by kernel_rfl, rfl⟩
set_option maxRecDepth 1000000 in
theorem cf116 : Callable Tryz.prog 116 := ⟨_, Tryz.func116, by kernel_rfl, rfl⟩
set_option maxRecDepth 1000000 in
theorem cf113 : Callable Tryz.prog 113 := ⟨_, Tryz.func113, by kernel_rfl, rfl⟩
set_option maxRecDepth 1000000 in
theorem cf90 : Callable Tryz.prog 90 := ⟨_, Tryz.func90, by kernel_rfl, rfl⟩
set_option maxRecDepth 1000000 in
theorem cf94 : Callable Tryz.prog 94 := ⟨_, Tryz.func94, by kernel_rfl, rfl⟩
set_option maxRecDepth 1000000 in
theorem cf93 : Callable Tryz.prog 93 := ⟨_, Tryz.func93, by kernel_rfl, rfl⟩
set_option maxRecDepth 1000000 in
theorem cf92 : Callable Tryz.prog 92 := ⟨_, Tryz.func92, by kernel_rfl, rfl⟩
set_option maxRecDepth 1000000 in
theorem cf96 : Callable Tryz.prog 96 := ⟨_, Tryz.func96, by kernel_rfl, rfl⟩
set_option maxRecDepth 1000000 in
theorem zr114 : Zr Tryz.prog 114 (.agg (#[(.slice none 0 0)] ++ (BV (Vector.replicate 16 0) ++ BV (Vector.replicate 16 0)))) := zr_of (l := [(.slice none 0 0)] ++ (List.replicate 16 (U8 0) ++ (List.replicate 16 (U8 0)))) (by simp only [BV_rep, WV_rep, DV_rep, tol_app]) (by kernel_rfl)
set_option maxRecDepth 1000000 in
theorem cf91 : Callable Tryz.prog 91 := ⟨_, Tryz.func91, by kernel_rfl, rfl⟩
set_option maxRecDepth 1000000 in
theorem ag114 : Ag Tryz.prog 114 33 := ⟨⟨_, Tryz.underlying114, rfl⟩, by kernel_rfl⟩
set_option maxRecDepth 1000000 in
theorem bu114 (parts : List (Nat × Value)) : Tryz.prog.built 114 parts = Instr.fill (fun i => ([(0, 1), (1, 16), (17, 16)] : List (Nat × Nat)).toArray[i]?) (#[(.slice none 0 0)] ++ (BV (Vector.replicate 16 0) ++ BV (Vector.replicate 16 0))) parts := bu_s zr114 Tryz.underlying114 (by kernel_rfl) parts
end Go.Proofs.XZ

/- walks -/
namespace Go.Proofs.XZ
open Go Go.X Go.Proofs
set_option maxRecDepth 100000 in
theorem sp_mooringref06_Of (b : V8 16) (w0 : World) : Calls Tryz.prog 120 #[.agg (BV b)] w0 (Ret w0 (.agg (BV (ofG b)))) := by
  refine enter (args := [.agg (BV b)]) Tryz.func120 rfl rfl ?_
  refine startw fun w hS => ?_
  refine rg ?_
  refine bxa hS rfl rfl rfl ?_
  intro b1 w hb1 hS
  refine ala zr164 hS rfl rfl ?_
  intro b2 w hb2 hS
  refine wq_then ?_
  refine rg ?_
  refine ala zr164 hS rfl rfl ?_
  intro b3 w hb3 hS
  refine wq_then ?_
  refine wc_seq ?_
  refine rg ?_
  refine asg rfl rfl rfl ?_
  refine wq_then ?_
  refine wc_block ?_
  refine wc_loop (σ := Nat) (fun k => [(1, Ptr b1 0), (2, Ptr b2 0), (3, Ptr b3 0), (4, I ((k : Int)))])
    (fun k w => (k ≤ 16) ∧ St w0 [] [(b3, .cells (BV (gfill (ofGf b) (Vector.replicate 16 0) (k / 4) (k % 4))) 164), (b2, .cells (BV (Vector.replicate 16 0)) 164), (b1, .cells (BV b) 22)] w) (fun k => 16 - k) 0 ⟨rfl, rfl, rfl, rfl, trivial⟩ ⟨by omega, (by rw [show (0 / 4 : Nat) = 0 from rfl, show (0 % 4 : Nat) = 0 from rfl, gfill_0]; exact hS)⟩ ?_
  rintro k w ⟨hk, hS⟩
  refine wc_seq ?_
  refine rg ?_
  refine mv rfl rfl rfl ?_
  refine lss rfl rfl rfl rfl ?_
  refine wq_then ?_
  refine wc_if rfl (fun hc1 => ?_) (fun hc1 => ?_)
  · skip
    try simp only [SB] at hc1
    refine wc_skip ?_
    refine wq_then ?_
    refine wc_seq ?_
    refine wc_block ?_
    refine wc_draw mo 10 (fun w => St w0 [] [(b2, .cells (BV (Vector.replicate 16 0)) 164), (b1, .cells (BV b) 22)] w) ?_
    have hS := hS.drew
    refine dq 0 rfl (by kernel_rfl) (by kernel_rfl) (by kernel_rfl) rfl rfl (fun w hS => mv rfl rfl rfl ⟨rfl, rfl⟩) (hS.sublist (.cons _ (.cons_cons _ (.cons_cons _ (List.nil_sublist _))))) ?_
    refine dq 1 rfl (by kernel_rfl) (by kernel_rfl) (by kernel_rfl) rfl rfl (fun w hS => remi (by omega) (by omega) rfl rfl rfl rfl ⟨rfl, rfl⟩) (hS.sublist (.cons _ (.cons_cons _ (.cons_cons _ (List.nil_sublist _))))) ?_
    refine dq 2 rfl (by kernel_rfl) (by kernel_rfl) (by kernel_rfl) rfl rfl (fun w hS => mv rfl rfl rfl ⟨rfl, rfl⟩) (hS.sublist (.cons _ (.cons_cons _ (.cons_cons _ (List.nil_sublist _))))) ?_
    refine dq 3 rfl (by kernel_rfl) (by kernel_rfl) (by kernel_rfl) rfl rfl (fun w hS => quoi (by omega) (by omega) (by omega) rfl rfl rfl rfl ⟨rfl, rfl⟩) (hS.sublist (.cons _ (.cons_cons _ (.cons_cons _ (List.nil_sublist _))))) ?_
    refine dq 4 rfl (by kernel_rfl) (by kernel_rfl) (by kernel_rfl) rfl rfl (fun w hS => mv rfl rfl rfl ⟨rfl, rfl⟩) (hS.sublist (.cons _ (.cons_cons _ (.cons_cons _ (List.nil_sublist _))))) ?_
    refine dq 5 rfl (by kernel_rfl) (by kernel_rfl) (by kernel_rfl) rfl rfl (fun w hS => ian (k) (k) Tryz.underlying22 sz5 rfl rfl rfl rfl (by omega) (by omega) (by omega) ⟨rfl, rfl⟩) (hS.sublist (.cons _ (.cons_cons _ (.cons_cons _ (List.nil_sublist _))))) ?_
    refine dq 6 rfl (by kernel_rfl) (by kernel_rfl) (by kernel_rfl) rfl rfl (fun w hS => lo 1 sc5 hS rfl rfl rfl rfl (BV_get _ k (by omega)) ⟨rfl, rfl⟩) (hS.sublist (.cons _ (.cons_cons _ (.cons_cons _ (List.nil_sublist _))))) ?_
    refine dq 7 rfl (by kernel_rfl) (by kernel_rfl) (by kernel_rfl) rfl rfl (fun w hS => ian (k % 4) ((k % 4) * 4) Tryz.underlying164 sz107 rfl rfl rfl rfl (by omega) (by omega) (by omega) ⟨rfl, rfl⟩) (hS.sublist (.cons _ (.cons_cons _ (.cons_cons _ (List.nil_sublist _))))) ?_
    refine dq 8 rfl (by kernel_rfl) (by kernel_rfl) (by kernel_rfl) rfl rfl (fun w hS => ian (k / 4) ((k % 4) * 4 + (k / 4)) Tryz.underlying107 sz5 rfl rfl rfl rfl (by omega) (by omega) (by omega) ⟨rfl, rfl⟩) (hS.sublist (.cons _ (.cons_cons _ (.cons_cons _ (List.nil_sublist _))))) ?_
    refine dl 9 rfl (by kernel_rfl) ?_
    refine st (cs' := BV (gfill (ofGf b) (Vector.replicate 16 0) ((k + 1) / 4) ((k + 1) % 4))) 0 sz5 hS rfl rfl rfl rfl rfl rfl (by rw [BV_size]; omega) (by rw [BV_set, show gv b k = ofGf b (k % 4 * 4 + k / 4) by (rw [ofGf]; exact congrArg (gv b) (by omega))]; exact congrArg BV (gfill_of (ofGf b) _ (by omega))) ?_
    intro w hS
    refine ⟨fun _ => (hS.sublist (.cons _ (.cons_cons _ (.cons_cons _ (List.nil_sublist _))))), ?_⟩
    refine de (by kernel_rfl) ?_
    refine q_block_norm ?_
    refine wq_then ?_
    refine wc_region ?_
    refine mv rfl rfl rfl ?_
    refine addi (by omega) (by omega) rfl rfl rfl rfl ?_
    refine asg rfl rfl rfl ?_
    refine again_q (k + 1) ⟨rfl, rfl, rfl, lkI rfl (by first | omega | rfl), trivial⟩ ⟨by omega, hS⟩ (by omega)
  · skip
    try simp only [SB] at hc1
    refine wc_exit ?_
    refine q_then_exit ?_
    refine q_then_exit ?_
    refine q_block_hit ?_
    refine wq_then ?_
    refine rg ?_
    refine la 0 ag164 hS rfl rfl rfl rfl (BV_size _) ?_
    refine sa 1 ag164 hS rfl rfl rfl (BV_one _) rfl (BV_size _) (BV_size _) ?_
    intro w hS
    refine wq_then ?_
    refine wc_ret ?_
    refine fin1 (v := .agg (BV (gfill (ofGf b) (Vector.replicate 16 0) (k / 4) (k % 4)))) rfl ⟨_, rfl, lv_a ag164 (hS.get 1 rfl) (BV_size _)⟩ ?_
    refine ⟨?_, hS.drop⟩
    have hk5 : k = 16 := by omega
    rw [hk5, show (16 / 4 : Nat) = 4 from rfl, show (16 % 4 : Nat) = 0 from rfl, gfill_end]; rfl
end Go.Proofs.XZ

/- walks -/
namespace Go.Proofs.XZ
open Go Go.X Go.Proofs
set_option maxRecDepth 100000 in
theorem sp_mooringref06_Block (g : V8 16) (w0 : World) : Calls Tryz.prog 124 #[.agg (BV g)] w0 (Ret w0 (.agg (BV (blG g)))) := by
  refine enter (args := [.agg (BV g)]) Tryz.func124 rfl rfl ?_
  refine startw fun w hS => ?_
  refine rg ?_
  refine bxa hS rfl rfl rfl ?_
  intro b1 w hb1 hS
  refine ala zr22 hS rfl rfl ?_
  intro b2 w hb2 hS
  refine wq_then ?_
  refine rg ?_
  refine ala zr22 hS rfl rfl ?_
  intro b3 w hb3 hS
  refine wq_then ?_
  refine wc_seq ?_
  refine rg ?_
  refine asg rfl rfl rfl ?_
  refine wq_then ?_
  refine wc_block ?_
  refine wc_loop (σ := Nat) (fun k => [(1, Ptr b1 0), (2, Ptr b2 0), (3, Ptr b3 0), (4, I ((k : Int)))])
    (fun k w => (k ≤ 16) ∧ St w0 [] [(b3, .cells (BV (fill8 16 (blGf g) (Vector.replicate 16 0) k)) 22), (b2, .cells (BV (Vector.replicate 16 0)) 22), (b1, .cells (BV g) 164)] w) (fun k => 16 - k) 0 ⟨rfl, rfl, rfl, rfl, trivial⟩ ⟨by omega, (by simp only [Nat.zero_mul, Nat.add_zero, fill8_0, fill32_0]; exact hS)⟩ ?_
  rintro k w ⟨hk, hS⟩
  refine wc_seq ?_
  refine rg ?_
  refine mv rfl rfl rfl ?_
  refine lss rfl rfl rfl rfl ?_
  refine wq_then ?_
  refine wc_if rfl (fun hc1 => ?_) (fun hc1 => ?_)
  · skip
    try simp only [SB] at hc1
    refine wc_skip ?_
    refine wq_then ?_
    refine wc_seq ?_
    refine wc_block ?_
    refine wc_region ?_
    refine mv rfl rfl rfl ?_
    refine mv rfl rfl rfl ?_
    refine remi (by omega) (by omega) rfl rfl rfl rfl ?_
    refine mv rfl rfl rfl ?_
    refine quoi (by omega) (by omega) (by omega) rfl rfl rfl rfl ?_
    refine ian (k % 4) ((k % 4) * 4) Tryz.underlying164 sz107 rfl rfl rfl rfl (by omega) (by omega) (by omega) ?_
    refine ian (k / 4) ((k % 4) * 4 + (k / 4)) Tryz.underlying107 sz5 rfl rfl rfl rfl (by omega) (by omega) (by omega) ?_
    refine lo 2 sc5 hS rfl rfl rfl rfl (BV_get _ ((k % 4) * 4 + (k / 4)) (by omega)) ?_
    refine ian (k) (k) Tryz.underlying22 sz5 rfl rfl rfl rfl (by omega) (by omega) (by omega) ?_
    refine st (cs' := BV (fill8 16 (blGf g) (Vector.replicate 16 0) (k + 1))) 0 sz5 hS rfl rfl rfl rfl rfl rfl (by rw [BV_size]; omega) (by rw [BV_set]; exact congrArg BV (fill8_succ (blGf g) (Vector.replicate 16 0) k)) ?_
    intro w hS
    refine q_block_norm ?_
    refine wq_then ?_
    refine wc_region ?_
    refine mv rfl rfl rfl ?_
    refine addi (by omega) (by omega) rfl rfl rfl rfl ?_
    refine asg rfl rfl rfl ?_
    refine again_q (k + 1) ⟨rfl, rfl, rfl, lkI rfl (by first | omega | rfl), trivial⟩ ⟨by omega, hS⟩ (by omega)
  · skip
    try simp only [SB] at hc1
    refine wc_exit ?_
    refine q_then_exit ?_
    refine q_then_exit ?_
    refine q_block_hit ?_
    refine wq_then ?_
    refine rg ?_
    refine la 0 ag22 hS rfl rfl rfl rfl (BV_size _) ?_
    refine sa 1 ag22 hS rfl rfl rfl (BV_one _) rfl (BV_size _) (BV_size _) ?_
    intro w hS
    refine wq_then ?_
    refine wc_ret ?_
    refine fin1 (v := .agg (BV (fill8 16 (blGf g) (Vector.replicate 16 0) k))) rfl ⟨_, rfl, lv_a ag22 (hS.get 1 rfl) (BV_size _)⟩ ?_
    refine ⟨?_, hS.drop⟩
    have hk4 : k = 16 := by omega
    subst hk4; rw [fill8_n]; rfl
end Go.Proofs.XZ

/- walks -/
namespace Go.Proofs.XZ
open Go Go.X Go.Proofs
set_option maxRecDepth 100000 in
theorem sp_mooringref06_Sub (g : V8 16) (t : V8 256) (w0 : World) : Calls Tryz.prog 122 #[.agg (BV g), .agg (BV t)] w0 (Ret w0 (.agg (BV (subG g t)))) := by
  refine enter (args := [.agg (BV g), .agg (BV t)]) Tryz.func122 rfl rfl ?_
  refine startw fun w hS => ?_
  refine rg ?_
  refine bxa hS rfl rfl rfl ?_
  intro b2 w hb2 hS
  refine bxa hS rfl rfl rfl ?_
  intro b3 w hb3 hS
  refine ala zr164 hS rfl rfl ?_
  intro b4 w hb4 hS
  refine wq_then ?_
  refine wc_seq ?_
  refine rg ?_
  refine asg rfl rfl rfl ?_
  refine wq_then ?_
  refine wc_block ?_
  refine wc_loop (σ := Nat) (fun m => [(2, Ptr b2 0), (3, Ptr b3 0), (4, Ptr b4 0), (5, I ((m : Int)))])
    (fun m w => (m ≤ 4) ∧ St w0 [] [(b4, .cells (BV (Vector.replicate 16 0)) 164), (b3, .cells (BV t) 46), (b2, .cells (BV (fill8 16 (subGf g t) g (m * 4))) 164)] w) (fun m => 4 - m) 0 ⟨rfl, rfl, rfl, rfl, trivial⟩ ⟨by omega, (by rw [Nat.zero_mul, fill8_0]; exact hS)⟩ ?_
  rintro m w ⟨hk, hS⟩
  refine wc_seq ?_
  refine rg ?_
  refine mv rfl rfl rfl ?_
  refine lss rfl rfl rfl rfl ?_
  refine wq_then ?_
  refine wc_if rfl (fun hc1 => ?_) (fun hc1 => ?_)
  · skip
    try simp only [SB] at hc1
    refine wc_skip ?_
    refine wq_then ?_
    refine wc_seq ?_
    refine wc_block ?_
    refine rg ?_
    refine asg rfl rfl rfl ?_
    refine wq_then ?_
    refine wc_block ?_
    refine wc_loop (σ := Nat) (fun k => [(2, Ptr b2 0), (3, Ptr b3 0), (4, Ptr b4 0), (5, I ((m : Int))), (6, I ((k : Int)))])
      (fun k w => (k ≤ 4) ∧ St w0 [] [(b4, .cells (BV (Vector.replicate 16 0)) 164), (b3, .cells (BV t) 46), (b2, .cells (BV (fill8 16 (subGf g t) g (m * 4 + k))) 164)] w) (fun k => 4 - k) 0 ⟨rfl, rfl, rfl, rfl, rfl, trivial⟩ ⟨by omega, (by rw [Nat.add_zero]; exact hS)⟩ ?_
    rintro k w ⟨hk, hS⟩
    refine wc_seq ?_
    refine rg ?_
    refine mv rfl rfl rfl ?_
    refine lss rfl rfl rfl rfl ?_
    refine wq_then ?_
    refine wc_if rfl (fun hc2 => ?_) (fun hc2 => ?_)
    · skip
      try simp only [SB] at hc2
      refine wc_skip ?_
      refine wq_then ?_
      refine wc_seq ?_
      refine wc_block ?_
      refine wc_draw mo 12 (fun w => St w0 [] [(b4, .cells (BV (Vector.replicate 16 0)) 164), (b3, .cells (BV t) 46)] w) ?_
      have hS := hS.drew
      refine dq 0 rfl (by kernel_rfl) (by kernel_rfl) (by kernel_rfl) rfl rfl (fun w hS => mv rfl rfl rfl ⟨rfl, rfl⟩) (hS.sublist (.cons_cons _ (.cons_cons _ (.cons _ (List.nil_sublist _))))) ?_
      refine dq 1 rfl (by kernel_rfl) (by kernel_rfl) (by kernel_rfl) rfl rfl (fun w hS => mv rfl rfl rfl ⟨rfl, rfl⟩) (hS.sublist (.cons_cons _ (.cons_cons _ (.cons _ (List.nil_sublist _))))) ?_
      refine dq 2 rfl (by kernel_rfl) (by kernel_rfl) (by kernel_rfl) rfl rfl (fun w hS => mv rfl rfl rfl ⟨rfl, rfl⟩) (hS.sublist (.cons_cons _ (.cons_cons _ (.cons _ (List.nil_sublist _))))) ?_
      refine dq 3 rfl (by kernel_rfl) (by kernel_rfl) (by kernel_rfl) rfl rfl (fun w hS => mv rfl rfl rfl ⟨rfl, rfl⟩) (hS.sublist (.cons_cons _ (.cons_cons _ (.cons _ (List.nil_sublist _))))) ?_
      refine dq 4 rfl (by kernel_rfl) (by kernel_rfl) (by kernel_rfl) rfl rfl (fun w hS => ian (m) (m * 4) Tryz.underlying164 sz107 rfl rfl rfl rfl (by omega) (by omega) (by omega) ⟨rfl, rfl⟩) (hS.sublist (.cons_cons _ (.cons_cons _ (.cons _ (List.nil_sublist _))))) ?_
      refine dq 5 rfl (by kernel_rfl) (by kernel_rfl) (by kernel_rfl) rfl rfl (fun w hS => ian (k) (m * 4 + k) Tryz.underlying107 sz5 rfl rfl rfl rfl (by omega) (by omega) (by omega) ⟨rfl, rfl⟩) (hS.sublist (.cons_cons _ (.cons_cons _ (.cons _ (List.nil_sublist _))))) ?_
      refine dq 9 rfl (by kernel_rfl) (by kernel_rfl) (by kernel_rfl) rfl rfl (fun w hS => ian (m) (m * 4) Tryz.underlying164 sz107 rfl rfl rfl rfl (by omega) (by omega) (by omega) ⟨rfl, rfl⟩) (hS.sublist (.cons_cons _ (.cons_cons _ (.cons _ (List.nil_sublist _))))) ?_
      refine dl 6 rfl (by kernel_rfl) ?_
      refine lo 2 sc5 hS rfl rfl rfl rfl (BV_get _ (m * 4 + k) (by omega)) ?_
      refine ⟨fun _ => (hS.sublist (.cons_cons _ (.cons_cons _ (.cons _ (List.nil_sublist _))))), ?_⟩
      refine dq 7 rfl (by kernel_rfl) (by kernel_rfl) (by kernel_rfl) rfl rfl (fun w hS => ian ((gv (fill8 16 (subGf g t) g (m * 4 + k)) (m * 4 + k)).toNat) (((gv (fill8 16 (subGf g t) g (m * 4 + k)) (m * 4 + k)).toNat)) Tryz.underlying46 sz5 rfl rfl rfl rfl (by omega) (by have := (gv (fill8 16 (subGf g t) g (m * 4 + k)) (m * 4 + k)).toNat_lt; omega) (by omega) ⟨rfl, rfl⟩) (hS.sublist (.cons_cons _ (.cons_cons _ (.cons _ (List.nil_sublist _))))) ?_
      refine dq 8 rfl (by kernel_rfl) (by kernel_rfl) (by kernel_rfl) rfl rfl (fun w hS => lo 1 sc5 hS rfl rfl rfl rfl (BV_get _ ((gv (fill8 16 (subGf g t) g (m * 4 + k)) (m * 4 + k)).toNat) (by have := (gv (fill8 16 (subGf g t) g (m * 4 + k)) (m * 4 + k)).toNat_lt; omega)) ⟨rfl, rfl⟩) (hS.sublist (.cons_cons _ (.cons_cons _ (.cons _ (List.nil_sublist _))))) ?_
      refine dq 10 rfl (by kernel_rfl) (by kernel_rfl) (by kernel_rfl) rfl rfl (fun w hS => ian (k) (m * 4 + k) Tryz.underlying107 sz5 rfl rfl rfl rfl (by omega) (by omega) (by omega) ⟨rfl, rfl⟩) (hS.sublist (.cons_cons _ (.cons_cons _ (.cons _ (List.nil_sublist _))))) ?_
      refine dl 11 rfl (by kernel_rfl) ?_
      refine st (cs' := BV (fill8 16 (subGf g t) g (m * 4 + k + 1))) 2 sz5 hS rfl rfl rfl rfl rfl rfl (by rw [BV_size]; omega) (by rw [BV_set, gv_fill_ge _ _ (Nat.le_refl _)]; exact congrArg BV (fill8_succ (subGf g t) g (m * 4 + k))) ?_
      intro w hS
      refine ⟨fun _ => (hS.sublist (.cons_cons _ (.cons_cons _ (.cons _ (List.nil_sublist _))))), ?_⟩
      refine de (by kernel_rfl) ?_
      refine q_block_norm ?_
      refine wq_then ?_
      refine wc_region ?_
      refine mv rfl rfl rfl ?_
      refine addi (by omega) (by omega) rfl rfl rfl rfl ?_
      refine asg rfl rfl rfl ?_
      refine again_q (k + 1) ⟨rfl, rfl, rfl, rfl, lkI rfl (by first | omega | rfl), trivial⟩ ⟨by omega, (by rw [Nat.add_assoc] at hS; exact hS)⟩ (by omega)
    · skip
      try simp only [SB] at hc2
      have hk4 : k = 4 := by omega
      rw [hk4, show m * 4 + 4 = (m + 1) * 4 by omega] at hS
      refine wc_exit ?_
      refine q_then_exit ?_
      refine q_then_exit ?_
      refine q_block_hit ?_
      refine q_block_norm ?_
      refine wq_then ?_
      refine wc_region ?_
      refine mv rfl rfl rfl ?_
      refine addi (by omega) (by omega) rfl rfl rfl rfl ?_
      refine asg rfl rfl rfl ?_
      refine again_q (m + 1) ⟨rfl, rfl, rfl, lkI rfl (by first | omega | rfl), trivial⟩ ⟨by omega, hS⟩ (by omega)
  · skip
    try simp only [SB] at hc1
    refine wc_exit ?_
    refine q_then_exit ?_
    refine q_then_exit ?_
    refine q_block_hit ?_
    refine wq_then ?_
    refine rg ?_
    refine la 2 ag164 hS rfl rfl rfl rfl (BV_size _) ?_
    refine sa 0 ag164 hS rfl rfl rfl (BV_one _) rfl (BV_size _) (BV_size _) ?_
    intro w hS
    refine wq_then ?_
    refine wc_ret ?_
    refine fin1 (v := .agg (BV (fill8 16 (subGf g t) g (m * 4)))) rfl ⟨_, rfl, lv_a ag164 (hS.get 0 rfl) (BV_size _)⟩ ?_
    refine ⟨?_, hS.drop⟩
    have hm4 : m = 4 := by omega
    rw [hm4, show 4 * 4 = 16 from rfl, fill8_n]; rfl
end Go.Proofs.XZ

/- walks -/
namespace Go.Proofs.XZ
open Go Go.X Go.Proofs
set_option maxRecDepth 100000 in
theorem sp_mooringref06_Add (g h : V8 16) (w0 : World) : Calls Tryz.prog 119 #[.agg (BV g), .agg (BV h)] w0 (Ret w0 (.agg (BV (addG g h)))) := by
  refine enter (args := [.agg (BV g), .agg (BV h)]) Tryz.func119 rfl rfl ?_
  refine startw fun w hS => ?_
  refine rg ?_
  refine bxa hS rfl rfl rfl ?_
  intro b2 w hb2 hS
  refine bxa hS rfl rfl rfl ?_
  intro b3 w hb3 hS
  refine ala zr164 hS rfl rfl ?_
  intro b4 w hb4 hS
  refine wq_then ?_
  refine rg ?_
  refine la 1 ag22 hS rfl rfl rfl rfl (BV_size _) ?_
  refine cv cf120 hS rfl rfl rfl rfl rfl (sp_mooringref06_Of (h) _) ?_
  intro w hS
  refine ala zr164 hS rfl rfl ?_
  intro b5 w hb5 hS
  refine sa 0 ag164 hS rfl rfl rfl (BV_one _) rfl (BV_size _) (BV_size _) ?_
  intro w hS
  refine wq_then ?_
  refine wc_seq ?_
  refine rg ?_
  refine asg rfl rfl rfl ?_
  refine wq_then ?_
  refine wc_block ?_
  refine wc_loop (σ := Nat) (fun m => [(2, Ptr b2 0), (4, Ptr b4 0), (5, Ptr b5 0), (6, I ((m : Int)))])
    (fun m w => (m ≤ 4) ∧ St w0 [] [(b5, .cells (BV (ofG h)) 164), (b4, .cells (BV (Vector.replicate 16 0)) 164), (b3, .cells (BV h) 22), (b2, .cells (BV (fill8 16 (addGf g h) g (m * 4))) 164)] w) (fun m => 4 - m) 0 ⟨rfl, rfl, rfl, rfl, trivial⟩ ⟨by omega, (by rw [Nat.zero_mul, fill8_0]; exact hS)⟩ ?_
  rintro m w ⟨hk, hS⟩
  refine wc_seq ?_
  refine rg ?_
  refine mv rfl rfl rfl ?_
  refine lss rfl rfl rfl rfl ?_
  refine wq_then ?_
  refine wc_if rfl (fun hc1 => ?_) (fun hc1 => ?_)
  · skip
    try simp only [SB] at hc1
    refine wc_skip ?_
    refine wq_then ?_
    refine wc_seq ?_
    refine wc_block ?_
    refine rg ?_
    refine asg rfl rfl rfl ?_
    refine wq_then ?_
    refine wc_block ?_
    refine wc_loop (σ := Nat) (fun k => [(2, Ptr b2 0), (4, Ptr b4 0), (5, Ptr b5 0), (6, I ((m : Int))), (7, I ((k : Int)))])
      (fun k w => (k ≤ 4) ∧ St w0 [] [(b5, .cells (BV (ofG h)) 164), (b4, .cells (BV (Vector.replicate 16 0)) 164), (b3, .cells (BV h) 22), (b2, .cells (BV (fill8 16 (addGf g h) g (m * 4 + k))) 164)] w) (fun k => 4 - k) 0 ⟨rfl, rfl, rfl, rfl, rfl, trivial⟩ ⟨by omega, (by rw [Nat.add_zero]; exact hS)⟩ ?_
    rintro k w ⟨hk, hS⟩
    refine wc_seq ?_
    refine rg ?_
    refine mv rfl rfl rfl ?_
    refine lss rfl rfl rfl rfl ?_
    refine wq_then ?_
    refine wc_if rfl (fun hc2 => ?_) (fun hc2 => ?_)
    · skip
      try simp only [SB] at hc2
      refine wc_skip ?_
      refine wq_then ?_
      refine wc_seq ?_
      refine wc_block ?_
      refine wc_draw mo 16 (fun w => St w0 [] [(b5, .cells (BV (ofG h)) 164), (b4, .cells (BV (Vector.replicate 16 0)) 164), (b3, .cells (BV h) 22)] w) ?_
      have hS := hS.drew
      refine dq 0 rfl (by kernel_rfl) (by kernel_rfl) (by kernel_rfl) rfl rfl (fun w hS => mv rfl rfl rfl ⟨rfl, rfl⟩) (hS.sublist (.cons_cons _ (.cons_cons _ (.cons_cons _ (.cons _ (List.nil_sublist _)))))) ?_
      refine dq 1 rfl (by kernel_rfl) (by kernel_rfl) (by kernel_rfl) rfl rfl (fun w hS => mv rfl rfl rfl ⟨rfl, rfl⟩) (hS.sublist (.cons_cons _ (.cons_cons _ (.cons_cons _ (.cons _ (List.nil_sublist _)))))) ?_
      refine dq 2 rfl (by kernel_rfl) (by kernel_rfl) (by kernel_rfl) rfl rfl (fun w hS => mv rfl rfl rfl ⟨rfl, rfl⟩) (hS.sublist (.cons_cons _ (.cons_cons _ (.cons_cons _ (.cons _ (List.nil_sublist _)))))) ?_
      refine dq 3 rfl (by kernel_rfl) (by kernel_rfl) (by kernel_rfl) rfl rfl (fun w hS => mv rfl rfl rfl ⟨rfl, rfl⟩) (hS.sublist (.cons_cons _ (.cons_cons _ (.cons_cons _ (.cons _ (List.nil_sublist _)))))) ?_
      refine dq 4 rfl (by kernel_rfl) (by kernel_rfl) (by kernel_rfl) rfl rfl (fun w hS => ian (m) (m * 4) Tryz.underlying164 sz107 rfl rfl rfl rfl (by omega) (by omega) (by omega) ⟨rfl, rfl⟩) (hS.sublist (.cons_cons _ (.cons_cons _ (.cons_cons _ (.cons _ (List.nil_sublist _)))))) ?_
      refine dq 5 rfl (by kernel_rfl) (by kernel_rfl) (by kernel_rfl) rfl rfl (fun w hS => ian (k) (m * 4 + k) Tryz.underlying107 sz5 rfl rfl rfl rfl (by omega) (by omega) (by omega) ⟨rfl, rfl⟩) (hS.sublist (.cons_cons _ (.cons_cons _ (.cons_cons _ (.cons _ (List.nil_sublist _)))))) ?_
      refine dq 7 rfl (by kernel_rfl) (by kernel_rfl) (by kernel_rfl) rfl rfl (fun w hS => mv rfl rfl rfl ⟨rfl, rfl⟩) (hS.sublist (.cons_cons _ (.cons_cons _ (.cons_cons _ (.cons _ (List.nil_sublist _)))))) ?_
      refine dq 8 rfl (by kernel_rfl) (by kernel_rfl) (by kernel_rfl) rfl rfl (fun w hS => mv rfl rfl rfl ⟨rfl, rfl⟩) (hS.sublist (.cons_cons _ (.cons_cons _ (.cons_cons _ (.cons _ (List.nil_sublist _)))))) ?_
      refine dq 9 rfl (by kernel_rfl) (by kernel_rfl) (by kernel_rfl) rfl rfl (fun w hS => ian (m) (m * 4) Tryz.underlying164 sz107 rfl rfl rfl rfl (by omega) (by omega) (by omega) ⟨rfl, rfl⟩) (hS.sublist (.cons_cons _ (.cons_cons _ (.cons_cons _ (.cons _ (List.nil_sublist _)))))) ?_
      refine dq 10 rfl (by kernel_rfl) (by kernel_rfl) (by kernel_rfl) rfl rfl (fun w hS => ian (k) (m * 4 + k) Tryz.underlying107 sz5 rfl rfl rfl rfl (by omega) (by omega) (by omega) ⟨rfl, rfl⟩) (hS.sublist (.cons_cons _ (.cons_cons _ (.cons_cons _ (.cons _ (List.nil_sublist _)))))) ?_
      refine dq 11 rfl (by kernel_rfl) (by kernel_rfl) (by kernel_rfl) rfl rfl (fun w hS => lo 0 sc5 hS rfl rfl rfl rfl (BV_get _ (m * 4 + k) (by omega)) ⟨rfl, rfl⟩) (hS.sublist (.cons_cons _ (.cons_cons _ (.cons_cons _ (.cons _ (List.nil_sublist _)))))) ?_
      refine dq 13 rfl (by kernel_rfl) (by kernel_rfl) (by kernel_rfl) rfl rfl (fun w hS => ian (m) (m * 4) Tryz.underlying164 sz107 rfl rfl rfl rfl (by omega) (by omega) (by omega) ⟨rfl, rfl⟩) (hS.sublist (.cons_cons _ (.cons_cons _ (.cons_cons _ (.cons _ (List.nil_sublist _)))))) ?_
      refine dl 6 rfl (by kernel_rfl) ?_
      refine lo 3 sc5 hS rfl rfl rfl rfl (BV_get _ (m * 4 + k) (by omega)) ?_
      refine ⟨fun _ => (hS.sublist (.cons_cons _ (.cons_cons _ (.cons_cons _ (.cons _ (List.nil_sublist _)))))), ?_⟩
      refine dq 12 rfl (by kernel_rfl) (by kernel_rfl) (by kernel_rfl) rfl rfl (fun w hS => xor8 rfl rfl rfl rfl ⟨rfl, rfl⟩) (hS.sublist (.cons_cons _ (.cons_cons _ (.cons_cons _ (.cons _ (List.nil_sublist _)))))) ?_
      refine dq 14 rfl (by kernel_rfl) (by kernel_rfl) (by kernel_rfl) rfl rfl (fun w hS => ian (k) (m * 4 + k) Tryz.underlying107 sz5 rfl rfl rfl rfl (by omega) (by omega) (by omega) ⟨rfl, rfl⟩) (hS.sublist (.cons_cons _ (.cons_cons _ (.cons_cons _ (.cons _ (List.nil_sublist _)))))) ?_
      refine dl 15 rfl (by kernel_rfl) ?_
      refine st (cs' := BV (fill8 16 (addGf g h) g (m * 4 + k + 1))) 3 sz5 hS rfl rfl rfl rfl rfl rfl (by rw [BV_size]; omega) (by rw [BV_set, gv_fill_ge _ _ (Nat.le_refl _)]; exact congrArg BV (fill8_succ (addGf g h) g (m * 4 + k))) ?_
      intro w hS
      refine ⟨fun _ => (hS.sublist (.cons_cons _ (.cons_cons _ (.cons_cons _ (.cons _ (List.nil_sublist _)))))), ?_⟩
      refine de (by kernel_rfl) ?_
      refine q_block_norm ?_
      refine wq_then ?_
      refine wc_region ?_
      refine mv rfl rfl rfl ?_
      refine addi (by omega) (by omega) rfl rfl rfl rfl ?_
      refine asg rfl rfl rfl ?_
      refine again_q (k + 1) ⟨rfl, rfl, rfl, rfl, lkI rfl (by first | omega | rfl), trivial⟩ ⟨by omega, (by rw [Nat.add_assoc] at hS; exact hS)⟩ (by omega)
    · skip
      try simp only [SB] at hc2
      have hk4 : k = 4 := by omega
      rw [hk4, show m * 4 + 4 = (m + 1) * 4 by omega] at hS
      refine wc_exit ?_
      refine q_then_exit ?_
      refine q_then_exit ?_
      refine q_block_hit ?_
      refine q_block_norm ?_
      refine wq_then ?_
      refine wc_region ?_
      refine mv rfl rfl rfl ?_
      refine addi (by omega) (by omega) rfl rfl rfl rfl ?_
      refine asg rfl rfl rfl ?_
      refine again_q (m + 1) ⟨rfl, rfl, rfl, lkI rfl (by first | omega | rfl), trivial⟩ ⟨by omega, hS⟩ (by omega)
  · skip
    try simp only [SB] at hc1
    refine wc_exit ?_
    refine q_then_exit ?_
    refine q_then_exit ?_
    refine q_block_hit ?_
    refine wq_then ?_
    refine rg ?_
    refine la 3 ag164 hS rfl rfl rfl rfl (BV_size _) ?_
    refine sa 1 ag164 hS rfl rfl rfl (BV_one _) rfl (BV_size _) (BV_size _) ?_
    intro w hS
    refine wq_then ?_
    refine wc_ret ?_
    refine fin1 (v := .agg (BV (fill8 16 (addGf g h) g (m * 4)))) rfl ⟨_, rfl, lv_a ag164 (hS.get 1 rfl) (BV_size _)⟩ ?_
    refine ⟨?_, hS.drop⟩
    have hm4 : m = 4 := by omega
    rw [hm4, show 4 * 4 = 16 from rfl, fill8_n]; rfl
end Go.Proofs.XZ

/- walks -/
namespace Go.Proofs.XZ
open Go Go.X Go.Proofs
set_option maxRecDepth 100000 in
theorem sp_mooringref03_Mul (a b : UInt8) (w0 : World) : Calls Tryz.prog 63 #[U8 a, U8 b] w0 (Ret w0 (U8 (mulR a b))) := by
  refine enter (args := [U8 a, U8 b]) Tryz.func63 rfl rfl ?_
  refine startw fun w hS => ?_
  refine rg ?_
  refine asg rfl rfl rfl ?_
  refine wq_then ?_
  refine rg ?_
  refine ala zr147 hS rfl rfl ?_
  intro b5 w hb5 hS
  refine wq_then ?_
  refine wc_seq ?_
  refine rg ?_
  refine asg rfl rfl rfl ?_
  refine wq_then ?_
  refine wc_block ?_
  refine wc_loop (σ := Nat) (fun m => [(0, U8 (a)), (1, U8 (b)), (4, U8 (0)), (5, Ptr b5 0), (6, I ((m : Int)))])
    (fun m w => (m ≤ 8) ∧ St w0 [] [(b5, .cells (NV (mOut a b m)) 147)] w) (fun m => 8 - m) 0 ⟨rfl, rfl, rfl, rfl, rfl, trivial⟩ ⟨by omega, hS⟩ ?_
  rintro m w ⟨hk, hS⟩
  refine wc_seq ?_
  refine rg ?_
  refine mv rfl rfl rfl ?_
  refine lss rfl rfl rfl rfl ?_
  refine wq_then ?_
  refine wc_if rfl (fun hc1 => ?_) (fun hc1 => ?_)
  · skip
    try simp only [SB] at hc1
    refine wc_skip ?_
    refine wq_then ?_
    refine wc_seq ?_
    refine wc_block ?_
    refine rg ?_
    refine asg rfl rfl rfl ?_
    refine wq_then ?_
    refine wc_block ?_
    refine wc_loop (σ := Nat) (fun k => [(0, U8 (a)), (1, U8 (b)), (4, U8 (0)), (5, Ptr b5 0), (6, I ((m : Int))), (7, I ((k : Int)))])
      (fun k w => (k ≤ 8) ∧ St w0 [] [(b5, .cells (NV (mIn a b (mOut a b m) m k)) 147)] w) (fun k => 8 - k) 0 ⟨rfl, rfl, rfl, rfl, rfl, rfl, trivial⟩ ⟨by omega, hS⟩ ?_
    rintro k w ⟨hk, hS⟩
    have hb := mIn_le a b (mOut a b m) (8 * m) m (mOut_le a b m) k (m + k)
    have hm := mm (shr8 a m).toNat (shr8 b k).toNat
    have hm2 := mmN (shr8 a m).toNat (shr8 b k).toNat
    refine wc_seq ?_
    refine rg ?_
    refine mv rfl rfl rfl ?_
    refine lss rfl rfl rfl rfl ?_
    refine wq_then ?_
    refine wc_if rfl (fun hc2 => ?_) (fun hc2 => ?_)
    · skip
      try simp only [SB] at hc2
      refine wc_skip ?_
      refine wq_then ?_
      refine wc_seq ?_
      refine wc_block ?_
      refine wc_region ?_
      refine mv rfl rfl rfl ?_
      refine mv rfl rfl rfl ?_
      refine addi (by omega) (by omega) rfl rfl rfl rfl ?_
      refine mv rfl rfl rfl ?_
      refine mv rfl rfl rfl ?_
      refine addi (by omega) (by omega) rfl rfl rfl rfl ?_
      refine ian (m + k) ((m + k)) Tryz.underlying147 sz3 rfl rfl rfl rfl (by omega) (by omega) (by omega) ?_
      refine lo 0 sc3 hS rfl rfl rfl rfl (NV_get _ (m + k) (by omega)) ?_
      refine mv rfl rfl rfl ?_
      refine mv rfl rfl rfl ?_
      refine cvu64 Tryz.underlying79 ⟨_, Tryz.underlying3⟩ rfl rfl rfl ?_
      refine shrn8 (m) (toU64_un (by omega) (by omega)) rfl rfl rfl rfl ?_
      refine cvi Tryz.underlying3 ⟨_, Tryz.underlying5⟩ (by have := (shr8 a m).toNat_lt; omega) (by have := (shr8 a m).toNat_lt; omega) rfl rfl rfl ?_
      refine remi (by omega) (by omega) rfl rfl rfl rfl ?_
      refine mv rfl rfl rfl ?_
      refine mv rfl rfl rfl ?_
      refine cvu64 Tryz.underlying79 ⟨_, Tryz.underlying3⟩ rfl rfl rfl ?_
      refine shrn8 (k) (toU64_un (by omega) (by omega)) rfl rfl rfl rfl ?_
      refine cvi Tryz.underlying3 ⟨_, Tryz.underlying5⟩ (by have := (shr8 b k).toNat_lt; omega) (by have := (shr8 b k).toNat_lt; omega) rfl rfl rfl ?_
      refine remi (by omega) (by omega) rfl rfl rfl rfl ?_
      refine muli (by omega) (by omega) rfl rfl rfl rfl ?_
      refine addi (by omega) (by omega) rfl rfl rfl rfl ?_
      refine ian (m + k) ((m + k)) Tryz.underlying147 sz3 rfl rfl rfl rfl (by omega) (by omega) (by omega) ?_
      refine st 0 sz3 hS rfl rfl rfl rfl rfl rfl (by rw [NV_size]; omega) (NV_seti _ _ ((gn (mIn a b (mOut a b m) m k) (m + k)) + ((((shr8 a m).toNat) % 2) * (((shr8 b k).toNat) % 2))) (by first | rfl | omega | (simp; done) | (simp; omega))) ?_
      intro w hS
      refine q_block_norm ?_
      refine wq_then ?_
      refine wc_region ?_
      refine mv rfl rfl rfl ?_
      refine addi (by omega) (by omega) rfl rfl rfl rfl ?_
      refine asg rfl rfl rfl ?_
      refine again_q (k + 1) ⟨rfl, rfl, rfl, rfl, rfl, lkI rfl (by first | omega | rfl), trivial⟩ ⟨by omega, hS⟩ (by omega)
    · skip
      try simp only [SB] at hc2
      have hk8 : k = 8 := by omega
      rw [hk8] at hS
      refine wc_exit ?_
      refine q_then_exit ?_
      refine q_then_exit ?_
      refine q_block_hit ?_
      refine q_block_norm ?_
      refine wq_then ?_
      refine wc_region ?_
      refine mv rfl rfl rfl ?_
      refine addi (by omega) (by omega) rfl rfl rfl rfl ?_
      refine asg rfl rfl rfl ?_
      refine again_q (m + 1) ⟨rfl, rfl, rfl, rfl, lkI rfl (by first | omega | rfl), trivial⟩ ⟨by omega, hS⟩ (by omega)
  · skip
    try simp only [SB] at hc1
    have hm8 : m = 8 := by omega
    rw [hm8] at hS
    refine wc_exit ?_
    refine q_then_exit ?_
    refine q_then_exit ?_
    refine q_block_hit ?_
    refine wq_then ?_
    refine wc_seq ?_
    refine rg ?_
    refine asg rfl rfl rfl ?_
    refine wq_then ?_
    refine wc_block ?_
    refine wc_loop (σ := Nat) (fun j => [(4, U8 (0)), (5, Ptr b5 0), (8, I ((14 : Int) - j))])
      (fun j w => (j ≤ 7) ∧ St w0 [] [(b5, .cells (NV (rdR (mOut a b 8) j)) 147)] w) (fun j => 7 - j) 0 ⟨rfl, rfl, rfl, trivial⟩ ⟨by omega, hS⟩ ?_
    rintro j w ⟨hk, hS⟩
    have hb := fun x => rd_le (mOut a b 8) 64 (fun j => mOut_le a b 8 j) j x
    have hb0 := hb (14 - j)
    refine wc_seq ?_
    refine rg ?_
    refine mv rfl rfl rfl ?_
    refine geq rfl rfl rfl rfl ?_
    refine wq_then ?_
    refine wc_if rfl (fun hc3 => ?_) (fun hc3 => ?_)
    · skip
      try simp only [SB] at hc3
      refine wc_skip ?_
      refine wq_then ?_
      refine wc_seq ?_
      refine wc_block ?_
      refine rg ?_
      refine mv rfl rfl rfl ?_
      refine ian (14 - j) ((14 - j)) Tryz.underlying147 sz3 rfl rfl rfl rfl (by omega) (by omega) (by omega) ?_
      refine lo 0 sc3 hS rfl rfl rfl rfl (NV_get _ (14 - j) (by omega)) ?_
      refine remi (by omega) (by omega) rfl rfl rfl rfl ?_
      refine eqi rfl rfl rfl rfl ?_
      refine wq_then ?_
      refine wc_if rfl (fun hc4 => ?_) (fun hc4 => ?_)
      · skip
        try simp only [SB] at hc4
        have hq : gn (rdR (mOut a b 8) j) (14 - j) % 2 = 1 := by omega
        have q1 := hb (14 - j - 4)
        have q2 := inc_le (rdR (mOut a b 8) j) (14 - j - 4) (14 - j - 5)
        have q2b := hb (14 - j - 5)
        have q3 := inc_le (rdR (mOut a b 8) j) (14 - j - 4) (14 - j - 7)
        have q3b := hb (14 - j - 7)
        have q4 := inc_le (incN (rdR (mOut a b 8) j) (14 - j - 4)) (14 - j - 5) (14 - j - 7)
        have q5 := inc_le (rdR (mOut a b 8) j) (14 - j - 4) (14 - j - 8)
        have q5b := hb (14 - j - 8)
        have q6 := inc_le (incN (rdR (mOut a b 8) j) (14 - j - 4)) (14 - j - 5) (14 - j - 8)
        have q7 := inc_le (incN (incN (rdR (mOut a b 8) j) (14 - j - 4)) (14 - j - 5)) (14 - j - 7) (14 - j - 8)
        simp only [incN] at q4 q6 q7
        refine rg ?_
        refine mv rfl rfl rfl ?_
        refine subi (by omega) (by omega) rfl rfl rfl rfl ?_
        refine ian ((14 - j) - 4) (((14 - j) - 4)) Tryz.underlying147 sz3 rfl rfl rfl rfl (by omega) (by omega) (by omega) ?_
        refine lo 0 sc3 hS rfl rfl rfl rfl (NV_get _ ((14 - j) - 4) (by omega)) ?_
        refine addi (by omega) (by omega) rfl rfl rfl rfl ?_
        refine ian ((14 - j) - 4) (((14 - j) - 4)) Tryz.underlying147 sz3 rfl rfl rfl rfl (by omega) (by omega) (by omega) ?_
        refine st 0 sz3 hS rfl rfl rfl rfl rfl rfl (by rw [NV_size]; omega) (NV_seti _ _ ((gn (rdR (mOut a b 8) j) ((14 - j) - 4)) + 1) (by first | rfl | omega | (simp; done) | (simp; omega))) ?_
        intro w hS
        refine wq_then ?_
        refine rg ?_
        refine mv rfl rfl rfl ?_
        refine subi (by omega) (by omega) rfl rfl rfl rfl ?_
        refine ian ((14 - j) - 5) (((14 - j) - 5)) Tryz.underlying147 sz3 rfl rfl rfl rfl (by omega) (by omega) (by omega) ?_
        refine lo 0 sc3 hS rfl rfl rfl rfl (NV_get _ ((14 - j) - 5) (by omega)) ?_
        refine addi (by omega) (by omega) rfl rfl rfl rfl ?_
        refine ian ((14 - j) - 5) (((14 - j) - 5)) Tryz.underlying147 sz3 rfl rfl rfl rfl (by omega) (by omega) (by omega) ?_
        refine st 0 sz3 hS rfl rfl rfl rfl rfl rfl (by rw [NV_size]; omega) (NV_seti _ _ ((gn ((rdR (mOut a b 8) j).setIfInBounds ((14 - j) - 4) ((gn (rdR (mOut a b 8) j) ((14 - j) - 4)) + 1)) ((14 - j) - 5)) + 1) (by first | rfl | omega | (simp; done) | (simp; omega))) ?_
        intro w hS
        refine wq_then ?_
        refine rg ?_
        refine mv rfl rfl rfl ?_
        refine subi (by omega) (by omega) rfl rfl rfl rfl ?_
        refine ian ((14 - j) - 7) (((14 - j) - 7)) Tryz.underlying147 sz3 rfl rfl rfl rfl (by omega) (by omega) (by omega) ?_
        refine lo 0 sc3 hS rfl rfl rfl rfl (NV_get _ ((14 - j) - 7) (by omega)) ?_
        refine addi (by omega) (by omega) rfl rfl rfl rfl ?_
        refine ian ((14 - j) - 7) (((14 - j) - 7)) Tryz.underlying147 sz3 rfl rfl rfl rfl (by omega) (by omega) (by omega) ?_
        refine st 0 sz3 hS rfl rfl rfl rfl rfl rfl (by rw [NV_size]; omega) (NV_seti _ _ ((gn (((rdR (mOut a b 8) j).setIfInBounds ((14 - j) - 4) ((gn (rdR (mOut a b 8) j) ((14 - j) - 4)) + 1)).setIfInBounds ((14 - j) - 5) ((gn ((rdR (mOut a b 8) j).setIfInBounds ((14 - j) - 4) ((gn (rdR (mOut a b 8) j) ((14 - j) - 4)) + 1)) ((14 - j) - 5)) + 1)) ((14 - j) - 7)) + 1) (by first | rfl | omega | (simp; done) | (simp; omega))) ?_
        intro w hS
        refine wq_then ?_
        refine wc_region ?_
        refine mv rfl rfl rfl ?_
        refine subi (by omega) (by omega) rfl rfl rfl rfl ?_
        refine ian ((14 - j) - 8) (((14 - j) - 8)) Tryz.underlying147 sz3 rfl rfl rfl rfl (by omega) (by omega) (by omega) ?_
        refine lo 0 sc3 hS rfl rfl rfl rfl (NV_get _ ((14 - j) - 8) (by omega)) ?_
        refine addi (by omega) (by omega) rfl rfl rfl rfl ?_
        refine ian ((14 - j) - 8) (((14 - j) - 8)) Tryz.underlying147 sz3 rfl rfl rfl rfl (by omega) (by omega) (by omega) ?_
        refine st 0 sz3 hS rfl rfl rfl rfl rfl rfl (by rw [NV_size]; omega) (NV_seti _ _ ((gn ((((rdR (mOut a b 8) j).setIfInBounds ((14 - j) - 4) ((gn (rdR (mOut a b 8) j) ((14 - j) - 4)) + 1)).setIfInBounds ((14 - j) - 5) ((gn ((rdR (mOut a b 8) j).setIfInBounds ((14 - j) - 4) ((gn (rdR (mOut a b 8) j) ((14 - j) - 4)) + 1)) ((14 - j) - 5)) + 1)).setIfInBounds ((14 - j) - 7) ((gn (((rdR (mOut a b 8) j).setIfInBounds ((14 - j) - 4) ((gn (rdR (mOut a b 8) j) ((14 - j) - 4)) + 1)).setIfInBounds ((14 - j) - 5) ((gn ((rdR (mOut a b 8) j).setIfInBounds ((14 - j) - 4) ((gn (rdR (mOut a b 8) j) ((14 - j) - 4)) + 1)) ((14 - j) - 5)) + 1)) ((14 - j) - 7)) + 1)) ((14 - j) - 8)) + 1) (by first | rfl | omega | (simp; done) | (simp; omega))) ?_
        intro w hS
        refine q_block_norm ?_
        refine wq_then ?_
        refine wc_region ?_
        refine mv rfl rfl rfl ?_
        refine subi (by omega) (by omega) rfl rfl rfl rfl ?_
        refine asg rfl rfl rfl ?_
        refine again_q (j + 1) ⟨rfl, rfl, lkI rfl (by first | omega | rfl), trivial⟩ ⟨by omega, (by rw [rd_t hq]; exact hS)⟩ (by omega)
      · skip
        try simp only [SB] at hc4
        have hq : ¬ gn (rdR (mOut a b 8) j) (14 - j) % 2 = 1 := by omega
        refine wc_skip ?_
        refine q_block_norm ?_
        refine wq_then ?_
        refine wc_region ?_
        refine mv rfl rfl rfl ?_
        refine subi (by omega) (by omega) rfl rfl rfl rfl ?_
        refine asg rfl rfl rfl ?_
        refine again_q (j + 1) ⟨rfl, rfl, lkI rfl (by first | omega | rfl), trivial⟩ ⟨by omega, (by rw [rd_f hq]; exact hS)⟩ (by omega)
    · skip
      try simp only [SB] at hc3
      have hj7 : j = 7 := by omega
      rw [hj7] at hS
      refine wc_exit ?_
      refine q_then_exit ?_
      refine q_then_exit ?_
      refine q_block_hit ?_
      refine wq_then ?_
      refine rg ?_
      refine asg rfl rfl rfl ?_
      refine wq_then ?_
      refine wc_seq ?_
      refine rg ?_
      refine asg rfl rfl rfl ?_
      refine wq_then ?_
      refine wc_block ?_
      refine wc_loop (σ := Nat) (fun k => [(4, U8 (0)), (5, Ptr b5 0), (9, I (((smR (rdR (mOut a b 8) 7) k : Nat) : Int))), (10, I ((k : Int)))])
        (fun k w => (k ≤ 8) ∧ St w0 [] [(b5, .cells (NV (rdR (mOut a b 8) 7)) 147)] w) (fun k => 8 - k) 0 ⟨rfl, rfl, rfl, rfl, trivial⟩ ⟨by omega, hS⟩ ?_
      rintro k w ⟨hk, hS⟩
      have hs := sm_le (rdR (mOut a b 8) 7) k (by omega)
      refine wc_seq ?_
      refine rg ?_
      refine mv rfl rfl rfl ?_
      refine lss rfl rfl rfl rfl ?_
      refine wq_then ?_
      refine wc_if rfl (fun hc5 => ?_) (fun hc5 => ?_)
      · skip
        try simp only [SB] at hc5
        refine wc_skip ?_
        refine wq_then ?_
        refine wc_seq ?_
        refine wc_block ?_
        refine wc_region ?_
        refine mv rfl rfl rfl ?_
        refine mv rfl rfl rfl ?_
        refine ian (k) (k) Tryz.underlying147 sz3 rfl rfl rfl rfl (by omega) (by omega) (by omega) ?_
        refine lo 0 sc3 hS rfl rfl rfl rfl (NV_get _ k (by omega)) ?_
        refine remi (by omega) (by omega) rfl rfl rfl rfl ?_
        refine mv rfl rfl rfl ?_
        refine cvu64 Tryz.underlying79 ⟨_, Tryz.underlying3⟩ rfl rfl rfl ?_
        refine shlin (k) (toU64_un (by omega) (by omega)) (by omega) (by have h := shb (gn (rdR (mOut a b 8) 7) k) k (by omega); omega) (by have h := shb (gn (rdR (mOut a b 8) 7) k) k (by omega); omega) rfl rfl rfl rfl ?_
        refine addi (by have h := shb (gn (rdR (mOut a b 8) 7) k) k (by omega); omega) (by have h := shb (gn (rdR (mOut a b 8) 7) k) k (by omega); omega) rfl rfl rfl rfl ?_
        refine asg rfl rfl rfl ?_
        refine q_block_norm ?_
        refine wq_then ?_
        refine wc_region ?_
        refine mv rfl rfl rfl ?_
        refine addi (by omega) (by omega) rfl rfl rfl rfl ?_
        refine asg rfl rfl rfl ?_
        refine again_q (k + 1) ⟨rfl, rfl, lkI rfl (by simp [smR]), lkI rfl (by first | omega | rfl), trivial⟩ ⟨by omega, hS⟩ (by omega)
      · skip
        try simp only [SB] at hc5
        refine wc_exit ?_
        refine q_then_exit ?_
        refine q_then_exit ?_
        refine q_block_hit ?_
        refine wq_then ?_
        refine rg ?_
        refine mv rfl rfl rfl ?_
        refine cvu8 Tryz.underlying5 ⟨_, Tryz.underlying3⟩ rfl rfl rfl ?_
        refine asg rfl rfl rfl ?_
        refine wq_then ?_
        refine wc_ret ?_
        refine fin1 (v := U8 (toU8 (((smR (rdR (mOut a b 8) 7) k : Nat) : Int)))) rfl rfl ?_
        have hk8 : k = 8 := by omega
        subst hk8
        exact ⟨rfl, hS.drop⟩
end Go.Proofs.XZ

/- walks -/
namespace Go.Proofs.XZ
open Go Go.X Go.Proofs
set_option maxRecDepth 100000 in
theorem sp_mooringref06_Mix (g : V8 16) (w0 : World) : Calls Tryz.prog 123 #[.agg (BV g)] w0 (Ret w0 (.agg (BV (mixG g)))) := by
  refine enter (args := [.agg (BV g)]) Tryz.func123 rfl rfl ?_
  refine startw fun w hS => ?_
  refine rg ?_
  refine bxa hS rfl rfl rfl ?_
  intro b1 w hb1 hS
  refine ala zr164 hS rfl rfl ?_
  intro b2 w hb2 hS
  refine wq_then ?_
  refine rg ?_
  refine ala zr164 hS rfl rfl ?_
  intro b3 w hb3 hS
  refine wq_then ?_
  refine wc_seq ?_
  refine rg ?_
  refine asg rfl rfl rfl ?_
  refine wq_then ?_
  refine wc_block ?_
  refine wc_loop (σ := Nat) (fun c => [(1, Ptr b1 0), (2, Ptr b2 0), (3, Ptr b3 0), (4, I ((c : Int)))])
    (fun c w => (c ≤ 4) ∧ St w0 [] [(b3, .cells (BV (gfill (mixGf g) (Vector.replicate 16 0) c 0)) 164), (b2, .cells (BV (Vector.replicate 16 0)) 164), (b1, .cells (BV g) 164)] w) (fun c => 4 - c) 0 ⟨rfl, rfl, rfl, rfl, trivial⟩ ⟨by omega, (by rw [gfill_0]; exact hS)⟩ ?_
  rintro c w ⟨hk, hS⟩
  refine wc_seq ?_
  refine rg ?_
  refine mv rfl rfl rfl ?_
  refine lss rfl rfl rfl rfl ?_
  refine wq_then ?_
  refine wc_if rfl (fun hc1 => ?_) (fun hc1 => ?_)
  · skip
    try simp only [SB] at hc1
    refine wc_skip ?_
    refine wq_then ?_
    refine wc_seq ?_
    refine wc_block ?_
    refine rg ?_
    refine asg rfl rfl rfl ?_
    refine wq_then ?_
    refine wc_block ?_
    refine wc_loop (σ := Nat) (fun k => [(1, Ptr b1 0), (2, Ptr b2 0), (3, Ptr b3 0), (4, I ((c : Int))), (5, I ((k : Int)))])
      (fun k w => (k ≤ 4) ∧ St w0 [] [(b3, .cells (BV (gfill (mixGf g) (Vector.replicate 16 0) c k)) 164), (b2, .cells (BV (Vector.replicate 16 0)) 164), (b1, .cells (BV g) 164)] w) (fun k => 4 - k) 0 ⟨rfl, rfl, rfl, rfl, rfl, trivial⟩ ⟨by omega, hS⟩ ?_
    rintro k w ⟨hk, hS⟩
    refine wc_seq ?_
    refine rg ?_
    refine mv rfl rfl rfl ?_
    refine lss rfl rfl rfl rfl ?_
    refine wq_then ?_
    refine wc_if rfl (fun hc2 => ?_) (fun hc2 => ?_)
    · skip
      try simp only [SB] at hc2
      refine wc_skip ?_
      refine wq_then ?_
      refine wc_seq ?_
      refine wc_block ?_
      refine rd mo 15 (fun w => St w0 [] [(b3, .cells (BV (gfill (mixGf g) (Vector.replicate 16 0) c k)) 164), (b2, .cells (BV (Vector.replicate 16 0)) 164), (b1, .cells (BV g) 164)] w) ?_
      have hS := hS.drew
      refine dq 0 rfl (by kernel_rfl) (by kernel_rfl) (by kernel_rfl) rfl rfl (fun w hS => mv rfl rfl rfl ⟨rfl, rfl⟩) hS ?_
      refine dq 1 rfl (by kernel_rfl) (by kernel_rfl) (by kernel_rfl) rfl rfl (fun w hS => mv rfl rfl rfl ⟨rfl, rfl⟩) hS ?_
      refine dq 2 rfl (by kernel_rfl) (by kernel_rfl) (by kernel_rfl) rfl rfl (fun w hS => ian (k) (k * 4) Tryz.underlying164 sz107 rfl rfl rfl rfl (by omega) (by omega) (by omega) ⟨rfl, rfl⟩) hS ?_
      refine dq 3 rfl (by kernel_rfl) (by kernel_rfl) (by kernel_rfl) rfl rfl (fun w hS => ian (c) (k * 4 + c) Tryz.underlying107 sz5 rfl rfl rfl rfl (by omega) (by omega) (by omega) ⟨rfl, rfl⟩) hS ?_
      refine dq 4 rfl (by kernel_rfl) (by kernel_rfl) (by kernel_rfl) rfl rfl (fun w hS => lo 2 sc5 hS rfl rfl rfl rfl (BV_get _ (k * 4 + c) (by omega)) ⟨rfl, rfl⟩) hS ?_
      refine dq 6 rfl (by kernel_rfl) (by kernel_rfl) (by kernel_rfl) rfl rfl (fun w hS => mv rfl rfl rfl ⟨rfl, rfl⟩) hS ?_
      refine dq 7 rfl (by kernel_rfl) (by kernel_rfl) (by kernel_rfl) rfl rfl (fun w hS => addi (by omega) (by omega) rfl rfl rfl rfl ⟨rfl, rfl⟩) hS ?_
      refine dq 8 rfl (by kernel_rfl) (by kernel_rfl) (by kernel_rfl) rfl rfl (fun w hS => remi (by omega) (by omega) rfl rfl rfl rfl ⟨rfl, rfl⟩) hS ?_
      refine dq 9 rfl (by kernel_rfl) (by kernel_rfl) (by kernel_rfl) rfl rfl (fun w hS => mv rfl rfl rfl ⟨rfl, rfl⟩) hS ?_
      refine dq 10 rfl (by kernel_rfl) (by kernel_rfl) (by kernel_rfl) rfl rfl (fun w hS => ian ((k + 1) % 4) (((k + 1) % 4) * 4) Tryz.underlying164 sz107 rfl rfl rfl rfl (by omega) (by omega) (by omega) ⟨rfl, rfl⟩) hS ?_
      refine dq 11 rfl (by kernel_rfl) (by kernel_rfl) (by kernel_rfl) rfl rfl (fun w hS => ian (c) (((k + 1) % 4) * 4 + c) Tryz.underlying107 sz5 rfl rfl rfl rfl (by omega) (by omega) (by omega) ⟨rfl, rfl⟩) hS ?_
      refine dq 12 rfl (by kernel_rfl) (by kernel_rfl) (by kernel_rfl) rfl rfl (fun w hS => lo 2 sc5 hS rfl rfl rfl rfl (BV_get _ (((k + 1) % 4) * 4 + c) (by omega)) ⟨rfl, rfl⟩) hS ?_
      refine dl 5 rfl (by kernel_rfl) ?_
      refine cv cf63 hS rfl rfl rfl rfl rfl (sp_mooringref03_Mul (2) ((gv g (k * 4 + c))) _) ?_
      intro w hS
      refine ⟨fun _ => hS, ?_⟩
      refine dl 13 rfl (by kernel_rfl) ?_
      refine cv cf63 hS rfl rfl rfl rfl rfl (sp_mooringref03_Mul (3) ((gv g (((k + 1) % 4) * 4 + c))) _) ?_
      intro w hS
      refine ⟨fun _ => hS, ?_⟩
      refine dq 14 rfl (by kernel_rfl) (by kernel_rfl) (by kernel_rfl) rfl rfl (fun w hS => xor8 rfl rfl rfl rfl ⟨rfl, rfl⟩) hS ?_
      refine dl 15 rfl (by kernel_rfl) ?_
      refine asg rfl rfl rfl ?_
      refine ⟨fun h => (by cases h), ?_⟩
      refine de (by kernel_rfl) ?_
      refine wq_then ?_
      refine wc_draw mo 22 (fun w => St w0 [] [(b2, .cells (BV (Vector.replicate 16 0)) 164), (b1, .cells (BV g) 164)] w) ?_
      have hS := hS.drew
      refine dq 0 rfl (by kernel_rfl) (by kernel_rfl) (by kernel_rfl) rfl rfl (fun w hS => mv rfl rfl rfl ⟨rfl, rfl⟩) (hS.sublist (.cons _ (.cons_cons _ (.cons_cons _ (List.nil_sublist _))))) ?_
      refine dq 1 rfl (by kernel_rfl) (by kernel_rfl) (by kernel_rfl) rfl rfl (fun w hS => mv rfl rfl rfl ⟨rfl, rfl⟩) (hS.sublist (.cons _ (.cons_cons _ (.cons_cons _ (List.nil_sublist _))))) ?_
      refine dq 2 rfl (by kernel_rfl) (by kernel_rfl) (by kernel_rfl) rfl rfl (fun w hS => mv rfl rfl rfl ⟨rfl, rfl⟩) (hS.sublist (.cons _ (.cons_cons _ (.cons_cons _ (List.nil_sublist _))))) ?_
      refine dq 3 rfl (by kernel_rfl) (by kernel_rfl) (by kernel_rfl) rfl rfl (fun w hS => mv rfl rfl rfl ⟨rfl, rfl⟩) (hS.sublist (.cons _ (.cons_cons _ (.cons_cons _ (List.nil_sublist _))))) ?_
      refine dq 4 rfl (by kernel_rfl) (by kernel_rfl) (by kernel_rfl) rfl rfl (fun w hS => addi (by omega) (by omega) rfl rfl rfl rfl ⟨rfl, rfl⟩) (hS.sublist (.cons _ (.cons_cons _ (.cons_cons _ (List.nil_sublist _))))) ?_
      refine dq 5 rfl (by kernel_rfl) (by kernel_rfl) (by kernel_rfl) rfl rfl (fun w hS => remi (by omega) (by omega) rfl rfl rfl rfl ⟨rfl, rfl⟩) (hS.sublist (.cons _ (.cons_cons _ (.cons_cons _ (List.nil_sublist _))))) ?_
      refine dq 6 rfl (by kernel_rfl) (by kernel_rfl) (by kernel_rfl) rfl rfl (fun w hS => mv rfl rfl rfl ⟨rfl, rfl⟩) (hS.sublist (.cons _ (.cons_cons _ (.cons_cons _ (List.nil_sublist _))))) ?_
      refine dq 7 rfl (by kernel_rfl) (by kernel_rfl) (by kernel_rfl) rfl rfl (fun w hS => ian ((k + 2) % 4) (((k + 2) % 4) * 4) Tryz.underlying164 sz107 rfl rfl rfl rfl (by omega) (by omega) (by omega) ⟨rfl, rfl⟩) (hS.sublist (.cons _ (.cons_cons _ (.cons_cons _ (List.nil_sublist _))))) ?_
      refine dq 8 rfl (by kernel_rfl) (by kernel_rfl) (by kernel_rfl) rfl rfl (fun w hS => ian (c) (((k + 2) % 4) * 4 + c) Tryz.underlying107 sz5 rfl rfl rfl rfl (by omega) (by omega) (by omega) ⟨rfl, rfl⟩) (hS.sublist (.cons _ (.cons_cons _ (.cons_cons _ (List.nil_sublist _))))) ?_
      refine dq 9 rfl (by kernel_rfl) (by kernel_rfl) (by kernel_rfl) rfl rfl (fun w hS => lo 1 sc5 hS rfl rfl rfl rfl (BV_get _ (((k + 2) % 4) * 4 + c) (by omega)) ⟨rfl, rfl⟩) (hS.sublist (.cons _ (.cons_cons _ (.cons_cons _ (List.nil_sublist _))))) ?_
      refine dq 10 rfl (by kernel_rfl) (by kernel_rfl) (by kernel_rfl) rfl rfl (fun w hS => xor8 rfl rfl rfl rfl ⟨rfl, rfl⟩) (hS.sublist (.cons _ (.cons_cons _ (.cons_cons _ (List.nil_sublist _))))) ?_
      refine dq 11 rfl (by kernel_rfl) (by kernel_rfl) (by kernel_rfl) rfl rfl (fun w hS => mv rfl rfl rfl ⟨rfl, rfl⟩) (hS.sublist (.cons _ (.cons_cons _ (.cons_cons _ (List.nil_sublist _))))) ?_
      refine dq 12 rfl (by kernel_rfl) (by kernel_rfl) (by kernel_rfl) rfl rfl (fun w hS => addi (by omega) (by omega) rfl rfl rfl rfl ⟨rfl, rfl⟩) (hS.sublist (.cons _ (.cons_cons _ (.cons_cons _ (List.nil_sublist _))))) ?_
      refine dq 13 rfl (by kernel_rfl) (by kernel_rfl) (by kernel_rfl) rfl rfl (fun w hS => remi (by omega) (by omega) rfl rfl rfl rfl ⟨rfl, rfl⟩) (hS.sublist (.cons _ (.cons_cons _ (.cons_cons _ (List.nil_sublist _))))) ?_
      refine dq 14 rfl (by kernel_rfl) (by kernel_rfl) (by kernel_rfl) rfl rfl (fun w hS => mv rfl rfl rfl ⟨rfl, rfl⟩) (hS.sublist (.cons _ (.cons_cons _ (.cons_cons _ (List.nil_sublist _))))) ?_
      refine dq 15 rfl (by kernel_rfl) (by kernel_rfl) (by kernel_rfl) rfl rfl (fun w hS => ian ((k + 3) % 4) (((k + 3) % 4) * 4) Tryz.underlying164 sz107 rfl rfl rfl rfl (by omega) (by omega) (by omega) ⟨rfl, rfl⟩) (hS.sublist (.cons _ (.cons_cons _ (.cons_cons _ (List.nil_sublist _))))) ?_
      refine dq 16 rfl (by kernel_rfl) (by kernel_rfl) (by kernel_rfl) rfl rfl (fun w hS => ian (c) (((k + 3) % 4) * 4 + c) Tryz.underlying107 sz5 rfl rfl rfl rfl (by omega) (by omega) (by omega) ⟨rfl, rfl⟩) (hS.sublist (.cons _ (.cons_cons _ (.cons_cons _ (List.nil_sublist _))))) ?_
      refine dq 17 rfl (by kernel_rfl) (by kernel_rfl) (by kernel_rfl) rfl rfl (fun w hS => lo 1 sc5 hS rfl rfl rfl rfl (BV_get _ (((k + 3) % 4) * 4 + c) (by omega)) ⟨rfl, rfl⟩) (hS.sublist (.cons _ (.cons_cons _ (.cons_cons _ (List.nil_sublist _))))) ?_
      refine dq 18 rfl (by kernel_rfl) (by kernel_rfl) (by kernel_rfl) rfl rfl (fun w hS => xor8 rfl rfl rfl rfl ⟨rfl, rfl⟩) (hS.sublist (.cons _ (.cons_cons _ (.cons_cons _ (List.nil_sublist _))))) ?_
      refine dq 19 rfl (by kernel_rfl) (by kernel_rfl) (by kernel_rfl) rfl rfl (fun w hS => ian (k) (k * 4) Tryz.underlying164 sz107 rfl rfl rfl rfl (by omega) (by omega) (by omega) ⟨rfl, rfl⟩) (hS.sublist (.cons _ (.cons_cons _ (.cons_cons _ (List.nil_sublist _))))) ?_
      refine dq 20 rfl (by kernel_rfl) (by kernel_rfl) (by kernel_rfl) rfl rfl (fun w hS => ian (c) (k * 4 + c) Tryz.underlying107 sz5 rfl rfl rfl rfl (by omega) (by omega) (by omega) ⟨rfl, rfl⟩) (hS.sublist (.cons _ (.cons_cons _ (.cons_cons _ (List.nil_sublist _))))) ?_
      refine dl 21 rfl (by kernel_rfl) ?_
      refine st (cs' := BV (gfill (mixGf g) (Vector.replicate 16 0) c (k + 1))) 0 sz5 hS rfl rfl rfl rfl rfl rfl (by rw [BV_size]; omega) (by rw [BV_set, show (((mulR 2 (gv g (k * 4 + c))) ^^^ (mulR 3 (gv g (((k + 1) % 4) * 4 + c)))) ^^^ (gv g (((k + 2) % 4) * 4 + c))) ^^^ (gv g (((k + 3) % 4) * 4 + c)) = (mixGf g) (k * 4 + c) by (simp only [mixGf, unGf, show (k * 4 + c) / 4 = k by omega, show (k * 4 + c) % 4 = c by omega])]; exact congrArg BV (gfill_set (mixGf g) _ (by omega) (by omega))) ?_
      intro w hS
      refine ⟨fun _ => (hS.sublist (.cons _ (.cons_cons _ (.cons_cons _ (List.nil_sublist _))))), ?_⟩
      refine de (by kernel_rfl) ?_
      refine q_block_norm ?_
      refine wq_then ?_
      refine wc_region ?_
      refine mv rfl rfl rfl ?_
      refine addi (by omega) (by omega) rfl rfl rfl rfl ?_
      refine asg rfl rfl rfl ?_
      refine again_q (k + 1) ⟨rfl, rfl, rfl, rfl, lkI rfl (by first | omega | rfl), trivial⟩ ⟨by omega, hS⟩ (by omega)
    · skip
      try simp only [SB] at hc2
      have hk4 : k = 4 := by omega
      rw [hk4, gfill_next] at hS
      refine wc_exit ?_
      refine q_then_exit ?_
      refine q_then_exit ?_
      refine q_block_hit ?_
      refine q_block_norm ?_
      refine wq_then ?_
      refine wc_region ?_
      refine mv rfl rfl rfl ?_
      refine addi (by omega) (by omega) rfl rfl rfl rfl ?_
      refine asg rfl rfl rfl ?_
      refine again_q (c + 1) ⟨rfl, rfl, rfl, lkI rfl (by first | omega | rfl), trivial⟩ ⟨by omega, hS⟩ (by omega)
  · skip
    try simp only [SB] at hc1
    refine wc_exit ?_
    refine q_then_exit ?_
    refine q_then_exit ?_
    refine q_block_hit ?_
    refine wq_then ?_
    refine rg ?_
    refine la 0 ag164 hS rfl rfl rfl rfl (BV_size _) ?_
    refine sa 1 ag164 hS rfl rfl rfl (BV_one _) rfl (BV_size _) (BV_size _) ?_
    intro w hS
    refine wq_then ?_
    refine wc_ret ?_
    refine fin1 (v := .agg (BV (gfill (mixGf g) (Vector.replicate 16 0) c 0))) rfl ⟨_, rfl, lv_a ag164 (hS.get 1 rfl) (BV_size _)⟩ ?_
    refine ⟨?_, hS.drop⟩
    have hc4 : c = 4 := by omega
    rw [hc4, gfill_end]; rfl
end Go.Proofs.XZ

/- walks -/
namespace Go.Proofs.XZ
open Go Go.X Go.Proofs
set_option maxRecDepth 100000 in
theorem sp_mooringref06_Shift (g : V8 16) (w0 : World) : Calls Tryz.prog 121 #[.agg (BV g)] w0 (Ret w0 (.agg (BV (shG g)))) := by
  refine enter (args := [.agg (BV g)]) Tryz.func121 rfl rfl ?_
  refine startw fun w hS => ?_
  refine rg ?_
  refine bxa hS rfl rfl rfl ?_
  intro b1 w hb1 hS
  refine ala zr164 hS rfl rfl ?_
  intro b2 w hb2 hS
  refine wq_then ?_
  refine wc_seq ?_
  refine rg ?_
  refine asg rfl rfl rfl ?_
  refine wq_then ?_
  refine wc_block ?_
  refine wc_loop (σ := Nat) (fun m => [(1, Ptr b1 0), (2, Ptr b2 0), (3, I ((m : Int)))])
    (fun m w => (1 ≤ m ∧ m ≤ 4) ∧ St w0 [] [(b2, .cells (BV (Vector.replicate 16 0)) 164), (b1, .cells (BV (shS g m 0)) 164)] w) (fun m => 4 - m) 1 ⟨rfl, rfl, rfl, trivial⟩ ⟨⟨by omega, by omega⟩, (by rw [shS_10]; exact hS)⟩ ?_
  rintro m w ⟨⟨hm1, hm⟩, hS⟩
  refine wc_seq ?_
  refine rg ?_
  refine mv rfl rfl rfl ?_
  refine lss rfl rfl rfl rfl ?_
  refine wq_then ?_
  refine wc_if rfl (fun hc1 => ?_) (fun hc1 => ?_)
  · skip
    try simp only [SB] at hc1
    refine wc_skip ?_
    refine wq_then ?_
    refine wc_seq ?_
    refine wc_block ?_
    refine rg ?_
    refine asg rfl rfl rfl ?_
    refine wq_then ?_
    refine wc_block ?_
    refine wc_loop (σ := Nat) (fun k => [(1, Ptr b1 0), (2, Ptr b2 0), (3, I ((m : Int))), (4, I ((k : Int)))])
      (fun k w => (k ≤ m) ∧ St w0 [] [(b2, .cells (BV (Vector.replicate 16 0)) 164), (b1, .cells (BV (shS g m k)) 164)] w) (fun k => m - k) 0 ⟨rfl, rfl, rfl, rfl, trivial⟩ ⟨by omega, hS⟩ ?_
    rintro k w ⟨hk, hS⟩
    refine wc_seq ?_
    refine rg ?_
    refine mv rfl rfl rfl ?_
    refine mv rfl rfl rfl ?_
    refine lss rfl rfl rfl rfl ?_
    refine wq_then ?_
    refine wc_if rfl (fun hc2 => ?_) (fun hc2 => ?_)
    · skip
      try simp only [SB] at hc2
      refine wc_skip ?_
      refine wq_then ?_
      refine wc_seq ?_
      refine wc_block ?_
      refine wc_draw mo 18 (fun w => St w0 [] [(b2, .cells (BV (Vector.replicate 16 0)) 164), (b1, .cells (BV (shS g m k)) 164)] w) ?_
      have hS := hS.drew
      refine dq 0 rfl (by kernel_rfl) (by kernel_rfl) (by kernel_rfl) rfl rfl (fun w hS => mv rfl rfl rfl ⟨rfl, rfl⟩) hS ?_
      refine dq 1 rfl (by kernel_rfl) (by kernel_rfl) (by kernel_rfl) rfl rfl (fun w hS => mv rfl rfl rfl ⟨rfl, rfl⟩) hS ?_
      refine dq 2 rfl (by kernel_rfl) (by kernel_rfl) (by kernel_rfl) rfl rfl (fun w hS => ian (m) (m * 4) Tryz.underlying164 sz107 rfl rfl rfl rfl (by omega) (by omega) (by omega) ⟨rfl, rfl⟩) hS ?_
      refine dq 3 rfl (by kernel_rfl) (by kernel_rfl) (by kernel_rfl) rfl rfl (fun w hS => ian (1) (m * 4 + 1) Tryz.underlying107 sz5 rfl rfl rfl rfl (by omega) (by omega) (by omega) ⟨rfl, rfl⟩) hS ?_
      refine dq 4 rfl (by kernel_rfl) (by kernel_rfl) (by kernel_rfl) rfl rfl (fun w hS => lo 1 sc5 hS rfl rfl rfl rfl (BV_get _ (m * 4 + 1) (by omega)) ⟨rfl, rfl⟩) hS ?_
      refine dq 5 rfl (by kernel_rfl) (by kernel_rfl) (by kernel_rfl) rfl rfl (fun w hS => mv rfl rfl rfl ⟨rfl, rfl⟩) hS ?_
      refine dq 6 rfl (by kernel_rfl) (by kernel_rfl) (by kernel_rfl) rfl rfl (fun w hS => ian (m) (m * 4) Tryz.underlying164 sz107 rfl rfl rfl rfl (by omega) (by omega) (by omega) ⟨rfl, rfl⟩) hS ?_
      refine dq 7 rfl (by kernel_rfl) (by kernel_rfl) (by kernel_rfl) rfl rfl (fun w hS => ian (2) (m * 4 + 2) Tryz.underlying107 sz5 rfl rfl rfl rfl (by omega) (by omega) (by omega) ⟨rfl, rfl⟩) hS ?_
      refine dq 8 rfl (by kernel_rfl) (by kernel_rfl) (by kernel_rfl) rfl rfl (fun w hS => lo 1 sc5 hS rfl rfl rfl rfl (BV_get _ (m * 4 + 2) (by omega)) ⟨rfl, rfl⟩) hS ?_
      refine dq 9 rfl (by kernel_rfl) (by kernel_rfl) (by kernel_rfl) rfl rfl (fun w hS => mv rfl rfl rfl ⟨rfl, rfl⟩) hS ?_
      refine dq 10 rfl (by kernel_rfl) (by kernel_rfl) (by kernel_rfl) rfl rfl (fun w hS => ian (m) (m * 4) Tryz.underlying164 sz107 rfl rfl rfl rfl (by omega) (by omega) (by omega) ⟨rfl, rfl⟩) hS ?_
      refine dq 11 rfl (by kernel_rfl) (by kernel_rfl) (by kernel_rfl) rfl rfl (fun w hS => ian (3) (m * 4 + 3) Tryz.underlying107 sz5 rfl rfl rfl rfl (by omega) (by omega) (by omega) ⟨rfl, rfl⟩) hS ?_
      refine dq 12 rfl (by kernel_rfl) (by kernel_rfl) (by kernel_rfl) rfl rfl (fun w hS => lo 1 sc5 hS rfl rfl rfl rfl (BV_get _ (m * 4 + 3) (by omega)) ⟨rfl, rfl⟩) hS ?_
      refine dq 13 rfl (by kernel_rfl) (by kernel_rfl) (by kernel_rfl) rfl rfl (fun w hS => mv rfl rfl rfl ⟨rfl, rfl⟩) hS ?_
      refine dq 14 rfl (by kernel_rfl) (by kernel_rfl) (by kernel_rfl) rfl rfl (fun w hS => ian (m) (m * 4) Tryz.underlying164 sz107 rfl rfl rfl rfl (by omega) (by omega) (by omega) ⟨rfl, rfl⟩) hS ?_
      refine dq 15 rfl (by kernel_rfl) (by kernel_rfl) (by kernel_rfl) rfl rfl (fun w hS => ian (0) (m * 4) Tryz.underlying107 sz5 rfl rfl rfl rfl (by omega) (by omega) (by omega) ⟨rfl, rfl⟩) hS ?_
      refine dq 16 rfl (by kernel_rfl) (by kernel_rfl) (by kernel_rfl) rfl rfl (fun w hS => lo 1 sc5 hS rfl rfl rfl rfl (BV_get _ (m * 4) (by omega)) ⟨rfl, rfl⟩) hS ?_
      refine dq 17 rfl (by kernel_rfl) (by kernel_rfl) (by kernel_rfl) rfl rfl (fun w hS => bd (cs := BV (#v[gv (shS g m k) (m * 4 + 1), gv (shS g m k) (m * 4 + 2), gv (shS g m k) (m * 4 + 3), gv (shS g m k) (m * 4)])) rfl rfl rfl (by kernel_rfl) ⟨rfl, rfl⟩) hS ?_
      refine dl 18 rfl (by kernel_rfl) ?_
      refine ian (m) (m * 4) Tryz.underlying164 sz107 rfl rfl rfl rfl (by omega) (by omega) (by omega) ?_
      refine ⟨fun h => (by cases h), ?_⟩
      refine dl 19 rfl (by kernel_rfl) ?_
      refine spp (cs' := BV (shS g m (k + 1))) 1 ag107 hS rfl rfl rfl (BV_one _) rfl (le_sz (a := 16) (BV_size _) (by omega)) (BV_size _) (by rw [BV_put _ _ _ (by omega)]; exact congrArg BV (shS_set g (by omega) hm1)) ?_
      intro w hS
      refine ⟨fun h => (by cases h), ?_⟩
      refine de (by kernel_rfl) ?_
      refine q_block_norm ?_
      refine wq_then ?_
      refine wc_region ?_
      refine mv rfl rfl rfl ?_
      refine addi (by omega) (by omega) rfl rfl rfl rfl ?_
      refine asg rfl rfl rfl ?_
      refine again_q (k + 1) ⟨rfl, rfl, rfl, lkI rfl (by first | omega | rfl), trivial⟩ ⟨by omega, hS⟩ (by omega)
    · skip
      try simp only [SB] at hc2
      have hk4 : k = m := by omega
      rw [hk4, shS_next] at hS
      refine wc_exit ?_
      refine q_then_exit ?_
      refine q_then_exit ?_
      refine q_block_hit ?_
      refine q_block_norm ?_
      refine wq_then ?_
      refine wc_region ?_
      refine mv rfl rfl rfl ?_
      refine addi (by omega) (by omega) rfl rfl rfl rfl ?_
      refine asg rfl rfl rfl ?_
      refine again_q (m + 1) ⟨rfl, rfl, lkI rfl (by first | omega | rfl), trivial⟩ ⟨⟨by omega, by omega⟩, hS⟩ (by omega)
  · skip
    try simp only [SB] at hc1
    refine wc_exit ?_
    refine q_then_exit ?_
    refine q_then_exit ?_
    refine q_block_hit ?_
    refine wq_then ?_
    refine rg ?_
    refine la 1 ag164 hS rfl rfl rfl rfl (BV_size _) ?_
    refine sa 0 ag164 hS rfl rfl rfl (BV_one _) rfl (BV_size _) (BV_size _) ?_
    intro w hS
    refine wq_then ?_
    refine wc_ret ?_
    refine fin1 (v := .agg (BV (shS g m 0))) rfl ⟨_, rfl, lv_a ag164 (hS.get 0 rfl) (BV_size _)⟩ ?_
    refine ⟨?_, hS.drop⟩
    have hm4 : m = 4 := by omega
    rw [hm4, shS_end]
end Go.Proofs.XZ

/- walks -/
namespace Go.Proofs.XZ
open Go Go.X Go.Proofs
set_option maxRecDepth 100000 in
theorem sp_mooringref06_Encrypt (key b : V8 16) (w0 : World) : Calls Tryz.prog 95 #[.agg (BV (expand key) ++ BV sboxV), .agg (BV b)] w0 (Ret w0 (.agg (BV (enc key b)))) := by
  refine enter (args := [.agg (BV (expand key) ++ BV sboxV), .agg (BV b)]) Tryz.func95 rfl rfl ?_
  refine startw fun w hS => ?_
  refine rg ?_
  refine bxa hS rfl rfl rfl ?_
  intro b2 w hb2 hS
  refine bxa hS rfl rfl rfl ?_
  intro b3 w hb3 hS
  refine ala zr22 hS rfl rfl ?_
  intro b4 w hb4 hS
  refine wq_then ?_
  refine rd mo 7 (fun w => St w0 [] [(b4, .cells (BV (Vector.replicate 16 0)) 22), (b3, .cells (BV b) 22), (b2, .cells (BV (expand key) ++ BV sboxV) 48)] w) ?_
  have hS := hS.drew
  refine dq 0 rfl (by kernel_rfl) (by kernel_rfl) (by kernel_rfl) rfl rfl (fun w hS => la 1 ag22 hS rfl rfl rfl rfl (BV_size _) ⟨rfl, rfl⟩) hS ?_
  refine dq 2 rfl (by kernel_rfl) (by kernel_rfl) (by kernel_rfl) rfl rfl (fun w hS => fan (0) (0) Tryz.underlying48 rfl sz45 (by decide) rfl rfl rfl rfl (by omega) ⟨rfl, rfl⟩) hS ?_
  refine dq 3 rfl (by kernel_rfl) (by kernel_rfl) (by kernel_rfl) rfl rfl (fun w hS => ian (0) (0) Tryz.underlying45 sz22 rfl rfl rfl rfl (by omega) (by omega) (by omega) ⟨rfl, rfl⟩) hS ?_
  refine dq 4 rfl (by kernel_rfl) (by kernel_rfl) (by kernel_rfl) rfl rfl (fun w hS => lp (u := .agg (BV (seg8 16 (expand key) 0))) 2 ag22 hS rfl rfl rfl rfl (le_sz (a := 432) (cat_size (a := 176) (b := 256) (BV_size _) (BV_size _)) (by omega)) (cat_xl (a := 176) (BV_size _) (by omega) (BV_extract 16 _ 0 (by omega))) rfl ⟨rfl, rfl⟩) hS ?_
  refine dl2 1 6 rfl rfl (by kernel_rfl) ?_ ?_
  · skip
    refine cv cf120 hS rfl rfl rfl rfl rfl (sp_mooringref06_Of (b) _) ?_
    intro w hS
    refine ⟨fun _ => hS, ?_⟩
    refine dl2 5 6 rfl rfl (by kernel_rfl) ?_ ?_
    · skip
      refine cv cf119 hS rfl rfl rfl rfl rfl (sp_mooringref06_Add ((ofG b)) ((seg8 16 (expand key) 0)) _) ?_
      intro w hS
      refine ⟨fun _ => hS, ?_⟩
      refine dl 6 rfl (by kernel_rfl) ?_
      refine ala zr164 hS rfl rfl ?_
      intro b5 w hb5 hS
      refine ⟨fun _ => hS.tl, ?_⟩
      refine dl 7 rfl (by kernel_rfl) ?_
      refine sa 0 ag164 hS rfl rfl rfl (BV_one _) rfl (BV_size _) (BV_size _) ?_
      intro w hS
      refine ⟨fun h => (by cases h), ?_⟩
      refine de (by kernel_rfl) ?_
      refine wq_then ?_
      refine wc_seq ?_
      refine rg ?_
      refine asg rfl rfl rfl ?_
      refine wq_then ?_
      refine wc_block ?_
      refine wc_loop (σ := Nat) (fun j => [(2, Ptr b2 0), (4, Ptr b4 0), (5, Ptr b5 0), (6, I ((j : Int) + 1))])
        (fun j w => (j ≤ 10) ∧ St w0 [] [(b5, .cells (BV (enG key b j)) 164), (b4, .cells (BV (Vector.replicate 16 0)) 22), (b3, .cells (BV b) 22), (b2, .cells (BV (expand key) ++ BV sboxV) 48)] w) (fun j => 10 - j) 0 ⟨rfl, rfl, rfl, rfl, trivial⟩ ⟨by omega, hS⟩ ?_
      rintro j w ⟨hk, hS⟩
      refine wc_seq ?_
      refine rg ?_
      refine mv rfl rfl rfl ?_
      refine leq rfl rfl rfl rfl ?_
      refine wq_then ?_
      refine wc_if rfl (fun hc1 => ?_) (fun hc1 => ?_)
      · skip
        try simp only [SB] at hc1
        refine wc_skip ?_
        refine wq_then ?_
        refine wc_seq ?_
        refine wc_block ?_
        refine rg ?_
        refine la 0 ag164 hS rfl rfl rfl rfl (BV_size _) ?_
        refine fan (176) (176) Tryz.underlying48 rfl sz46 (by decide) rfl rfl rfl rfl (by omega) ?_
        refine lp (u := .agg (BV sboxV)) 3 ag46 hS rfl rfl rfl rfl (le_sz (a := 432) (cat_size (a := 176) (b := 256) (BV_size _) (BV_size _)) (by omega)) (cat_xr (a := 176) (o' := 0) (BV_size _) (by omega) (ext_all (BV_size _))) rfl ?_
        refine cv cf122 hS rfl rfl rfl rfl rfl (sp_mooringref06_Sub ((enG key b j)) (sboxV) _) ?_
        intro w hS
        refine cv cf121 hS rfl rfl rfl rfl rfl (sp_mooringref06_Shift ((subG (enG key b j) sboxV)) _) ?_
        intro w hS
        refine sa 0 ag164 hS rfl rfl rfl (BV_one _) rfl (BV_size _) (BV_size _) ?_
        intro w hS
        refine wq_then ?_
        refine wc_seq ?_
        refine rg ?_
        refine mv rfl rfl rfl ?_
        refine lss rfl rfl rfl rfl ?_
        refine wq_then ?_
        refine wc_if rfl (fun hc2 => ?_) (fun hc2 => ?_)
        · skip
          try simp only [SB] at hc2
          refine wc_region ?_
          refine la 0 ag164 hS rfl rfl rfl rfl (BV_size _) ?_
          refine cv cf123 hS rfl rfl rfl rfl rfl (sp_mooringref06_Mix ((shG (subG (enG key b j) sboxV))) _) ?_
          intro w hS
          refine sa 0 ag164 hS rfl rfl rfl (BV_one _) rfl (BV_size _) (BV_size _) ?_
          intro w hS
          refine wq_then ?_
          refine wc_draw mo 6 (fun w => St w0 [] [(b4, .cells (BV (Vector.replicate 16 0)) 22), (b3, .cells (BV b) 22), (b2, .cells (BV (expand key) ++ BV sboxV) 48)] w) ?_
          have hS := hS.drew
          refine dq 1 rfl (by kernel_rfl) (by kernel_rfl) (by kernel_rfl) rfl rfl (fun w hS => mv rfl rfl rfl ⟨rfl, rfl⟩) (hS.sublist (.cons _ (.cons_cons _ (.cons_cons _ (.cons_cons _ (List.nil_sublist _)))))) ?_
          refine dq 2 rfl (by kernel_rfl) (by kernel_rfl) (by kernel_rfl) rfl rfl (fun w hS => fan (0) (0) Tryz.underlying48 rfl sz45 (by decide) rfl rfl rfl rfl (by omega) ⟨rfl, rfl⟩) (hS.sublist (.cons _ (.cons_cons _ (.cons_cons _ (.cons_cons _ (List.nil_sublist _)))))) ?_
          refine dq 3 rfl (by kernel_rfl) (by kernel_rfl) (by kernel_rfl) rfl rfl (fun w hS => ian (j + 1) ((j + 1) * 16) Tryz.underlying45 sz22 rfl rfl rfl rfl (by omega) (by omega) (by omega) ⟨rfl, rfl⟩) (hS.sublist (.cons _ (.cons_cons _ (.cons_cons _ (.cons_cons _ (List.nil_sublist _)))))) ?_
          refine dq 4 rfl (by kernel_rfl) (by kernel_rfl) (by kernel_rfl) rfl rfl (fun w hS => lp (u := .agg (BV (seg8 16 (expand key) ((j + 1) * 16)))) 2 ag22 hS rfl rfl rfl rfl (le_sz (a := 432) (cat_size (a := 176) (b := 256) (BV_size _) (BV_size _)) (by omega)) (cat_xl (a := 176) (BV_size _) (by omega) (BV_extract 16 _ ((j + 1) * 16) (by omega))) rfl ⟨rfl, rfl⟩) (hS.sublist (.cons _ (.cons_cons _ (.cons_cons _ (.cons_cons _ (List.nil_sublist _)))))) ?_
          refine dl 0 rfl (by kernel_rfl) ?_
          refine la 0 ag164 hS rfl rfl rfl rfl (BV_size _) ?_
          refine ⟨fun _ => (hS.sublist (.cons _ (.cons_cons _ (.cons_cons _ (.cons_cons _ (List.nil_sublist _)))))), ?_⟩
          refine dl 5 rfl (by kernel_rfl) ?_
          refine cv cf119 hS rfl rfl rfl rfl rfl (sp_mooringref06_Add ((mixG (shG (subG (enG key b j) sboxV)))) ((seg8 16 (expand key) ((j + 1) * 16))) _) ?_
          intro w hS
          refine ⟨fun _ => (hS.sublist (.cons _ (.cons_cons _ (.cons_cons _ (.cons_cons _ (List.nil_sublist _)))))), ?_⟩
          refine dl 6 rfl (by kernel_rfl) ?_
          refine sa 0 ag164 hS rfl rfl rfl (BV_one _) rfl (BV_size _) (BV_size _) ?_
          intro w hS
          refine ⟨fun h => (by cases h), ?_⟩
          refine de (by kernel_rfl) ?_
          refine q_block_norm ?_
          refine wq_then ?_
          refine wc_region ?_
          refine mv rfl rfl rfl ?_
          refine addi (by omega) (by omega) rfl rfl rfl rfl ?_
          refine asg rfl rfl rfl ?_
          refine again_q (j + 1) ⟨rfl, rfl, rfl, lkI rfl (by first | omega | rfl), trivial⟩ ⟨by omega, (by rw [en_lo (by omega)]; exact hS)⟩ (by omega)
        · skip
          try simp only [SB] at hc2
          refine wc_skip ?_
          refine wq_then ?_
          refine wc_draw mo 6 (fun w => St w0 [] [(b4, .cells (BV (Vector.replicate 16 0)) 22), (b3, .cells (BV b) 22), (b2, .cells (BV (expand key) ++ BV sboxV) 48)] w) ?_
          have hS := hS.drew
          refine dq 1 rfl (by kernel_rfl) (by kernel_rfl) (by kernel_rfl) rfl rfl (fun w hS => mv rfl rfl rfl ⟨rfl, rfl⟩) (hS.sublist (.cons _ (.cons_cons _ (.cons_cons _ (.cons_cons _ (List.nil_sublist _)))))) ?_
          refine dq 2 rfl (by kernel_rfl) (by kernel_rfl) (by kernel_rfl) rfl rfl (fun w hS => fan (0) (0) Tryz.underlying48 rfl sz45 (by decide) rfl rfl rfl rfl (by omega) ⟨rfl, rfl⟩) (hS.sublist (.cons _ (.cons_cons _ (.cons_cons _ (.cons_cons _ (List.nil_sublist _)))))) ?_
          refine dq 3 rfl (by kernel_rfl) (by kernel_rfl) (by kernel_rfl) rfl rfl (fun w hS => ian (j + 1) ((j + 1) * 16) Tryz.underlying45 sz22 rfl rfl rfl rfl (by omega) (by omega) (by omega) ⟨rfl, rfl⟩) (hS.sublist (.cons _ (.cons_cons _ (.cons_cons _ (.cons_cons _ (List.nil_sublist _)))))) ?_
          refine dq 4 rfl (by kernel_rfl) (by kernel_rfl) (by kernel_rfl) rfl rfl (fun w hS => lp (u := .agg (BV (seg8 16 (expand key) ((j + 1) * 16)))) 2 ag22 hS rfl rfl rfl rfl (le_sz (a := 432) (cat_size (a := 176) (b := 256) (BV_size _) (BV_size _)) (by omega)) (cat_xl (a := 176) (BV_size _) (by omega) (BV_extract 16 _ ((j + 1) * 16) (by omega))) rfl ⟨rfl, rfl⟩) (hS.sublist (.cons _ (.cons_cons _ (.cons_cons _ (.cons_cons _ (List.nil_sublist _)))))) ?_
          refine dl 0 rfl (by kernel_rfl) ?_
          refine la 0 ag164 hS rfl rfl rfl rfl (BV_size _) ?_
          refine ⟨fun _ => (hS.sublist (.cons _ (.cons_cons _ (.cons_cons _ (.cons_cons _ (List.nil_sublist _)))))), ?_⟩
          refine dl 5 rfl (by kernel_rfl) ?_
          refine cv cf119 hS rfl rfl rfl rfl rfl (sp_mooringref06_Add ((shG (subG (enG key b j) sboxV))) ((seg8 16 (expand key) ((j + 1) * 16))) _) ?_
          intro w hS
          refine ⟨fun _ => (hS.sublist (.cons _ (.cons_cons _ (.cons_cons _ (.cons_cons _ (List.nil_sublist _)))))), ?_⟩
          refine dl 6 rfl (by kernel_rfl) ?_
          refine sa 0 ag164 hS rfl rfl rfl (BV_one _) rfl (BV_size _) (BV_size _) ?_
          intro w hS
          refine ⟨fun h => (by cases h), ?_⟩
          refine de (by kernel_rfl) ?_
          refine q_block_norm ?_
          refine wq_then ?_
          refine wc_region ?_
          refine mv rfl rfl rfl ?_
          refine addi (by omega) (by omega) rfl rfl rfl rfl ?_
          refine asg rfl rfl rfl ?_
          refine again_q (j + 1) ⟨rfl, rfl, rfl, lkI rfl (by first | omega | rfl), trivial⟩ ⟨by omega, (by rw [en_hi (by omega)]; exact hS)⟩ (by omega)
      · skip
        try simp only [SB] at hc1
        refine wc_exit ?_
        refine q_then_exit ?_
        refine q_then_exit ?_
        refine q_block_hit ?_
        refine wq_then ?_
        refine rg ?_
        refine la 0 ag164 hS rfl rfl rfl rfl (BV_size _) ?_
        refine cv cf124 hS rfl rfl rfl rfl rfl (sp_mooringref06_Block ((enG key b j)) _) ?_
        intro w hS
        refine sa 1 ag22 hS rfl rfl rfl (BV_one _) rfl (BV_size _) (BV_size _) ?_
        intro w hS
        refine wq_then ?_
        refine wc_ret ?_
        refine fin1 (v := .agg (BV (blG (enG key b j)))) rfl ⟨_, rfl, lv_a ag22 (hS.get 1 rfl) (BV_size _)⟩ ?_
        refine ⟨?_, hS.drop⟩
        have hj : j = 10 := by omega
        rw [hj]
        exact congrArg (fun x => Ending.returned (.agg (BV x))) (encG_enc key b)
    · skip
      refine ala zr164 hS rfl rfl ?_
      intro b5 w hb5 hS
      refine ⟨fun _ => hS.tl, ?_⟩
      refine dl 5 rfl (by kernel_rfl) ?_
      refine cv cf119 hS rfl rfl rfl rfl rfl (sp_mooringref06_Add ((ofG b)) ((seg8 16 (expand key) 0)) _) ?_
      intro w hS
      refine ⟨fun _ => hS.tl, ?_⟩
      refine dl 7 rfl (by kernel_rfl) ?_
      refine sa 0 ag164 hS rfl rfl rfl (BV_one _) rfl (BV_size _) (BV_size _) ?_
      intro w hS
      refine ⟨fun h => (by cases h), ?_⟩
      refine de (by kernel_rfl) ?_
      refine wq_then ?_
      refine wc_seq ?_
      refine rg ?_
      refine asg rfl rfl rfl ?_
      refine wq_then ?_
      refine wc_block ?_
      refine wc_loop (σ := Nat) (fun j => [(2, Ptr b2 0), (4, Ptr b4 0), (5, Ptr b5 0), (6, I ((j : Int) + 1))])
        (fun j w => (j ≤ 10) ∧ St w0 [] [(b5, .cells (BV (enG key b j)) 164), (b4, .cells (BV (Vector.replicate 16 0)) 22), (b3, .cells (BV b) 22), (b2, .cells (BV (expand key) ++ BV sboxV) 48)] w) (fun j => 10 - j) 0 ⟨rfl, rfl, rfl, rfl, trivial⟩ ⟨by omega, hS⟩ ?_
      rintro j w ⟨hk, hS⟩
      refine wc_seq ?_
      refine rg ?_
      refine mv rfl rfl rfl ?_
      refine leq rfl rfl rfl rfl ?_
      refine wq_then ?_
      refine wc_if rfl (fun hc3 => ?_) (fun hc3 => ?_)
      · skip
        try simp only [SB] at hc3
        refine wc_skip ?_
        refine wq_then ?_
        refine wc_seq ?_
        refine wc_block ?_
        refine rg ?_
        refine la 0 ag164 hS rfl rfl rfl rfl (BV_size _) ?_
        refine fan (176) (176) Tryz.underlying48 rfl sz46 (by decide) rfl rfl rfl rfl (by omega) ?_
        refine lp (u := .agg (BV sboxV)) 3 ag46 hS rfl rfl rfl rfl (le_sz (a := 432) (cat_size (a := 176) (b := 256) (BV_size _) (BV_size _)) (by omega)) (cat_xr (a := 176) (o' := 0) (BV_size _) (by omega) (ext_all (BV_size _))) rfl ?_
        refine cv cf122 hS rfl rfl rfl rfl rfl (sp_mooringref06_Sub ((enG key b j)) (sboxV) _) ?_
        intro w hS
        refine cv cf121 hS rfl rfl rfl rfl rfl (sp_mooringref06_Shift ((subG (enG key b j) sboxV)) _) ?_
        intro w hS
        refine sa 0 ag164 hS rfl rfl rfl (BV_one _) rfl (BV_size _) (BV_size _) ?_
        intro w hS
        refine wq_then ?_
        refine wc_seq ?_
        refine rg ?_
        refine mv rfl rfl rfl ?_
        refine lss rfl rfl rfl rfl ?_
        refine wq_then ?_
        refine wc_if rfl (fun hc4 => ?_) (fun hc4 => ?_)
        · skip
          try simp only [SB] at hc4
          refine wc_region ?_
          refine la 0 ag164 hS rfl rfl rfl rfl (BV_size _) ?_
          refine cv cf123 hS rfl rfl rfl rfl rfl (sp_mooringref06_Mix ((shG (subG (enG key b j) sboxV))) _) ?_
          intro w hS
          refine sa 0 ag164 hS rfl rfl rfl (BV_one _) rfl (BV_size _) (BV_size _) ?_
          intro w hS
          refine wq_then ?_
          refine wc_draw mo 6 (fun w => St w0 [] [(b4, .cells (BV (Vector.replicate 16 0)) 22), (b3, .cells (BV b) 22), (b2, .cells (BV (expand key) ++ BV sboxV) 48)] w) ?_
          have hS := hS.drew
          refine dq 1 rfl (by kernel_rfl) (by kernel_rfl) (by kernel_rfl) rfl rfl (fun w hS => mv rfl rfl rfl ⟨rfl, rfl⟩) (hS.sublist (.cons _ (.cons_cons _ (.cons_cons _ (.cons_cons _ (List.nil_sublist _)))))) ?_
          refine dq 2 rfl (by kernel_rfl) (by kernel_rfl) (by kernel_rfl) rfl rfl (fun w hS => fan (0) (0) Tryz.underlying48 rfl sz45 (by decide) rfl rfl rfl rfl (by omega) ⟨rfl, rfl⟩) (hS.sublist (.cons _ (.cons_cons _ (.cons_cons _ (.cons_cons _ (List.nil_sublist _)))))) ?_
          refine dq 3 rfl (by kernel_rfl) (by kernel_rfl) (by kernel_rfl) rfl rfl (fun w hS => ian (j + 1) ((j + 1) * 16) Tryz.underlying45 sz22 rfl rfl rfl rfl (by omega) (by omega) (by omega) ⟨rfl, rfl⟩) (hS.sublist (.cons _ (.cons_cons _ (.cons_cons _ (.cons_cons _ (List.nil_sublist _)))))) ?_
          refine dq 4 rfl (by kernel_rfl) (by kernel_rfl) (by kernel_rfl) rfl rfl (fun w hS => lp (u := .agg (BV (seg8 16 (expand key) ((j + 1) * 16)))) 2 ag22 hS rfl rfl rfl rfl (le_sz (a := 432) (cat_size (a := 176) (b := 256) (BV_size _) (BV_size _)) (by omega)) (cat_xl (a := 176) (BV_size _) (by omega) (BV_extract 16 _ ((j + 1) * 16) (by omega))) rfl ⟨rfl, rfl⟩) (hS.sublist (.cons _ (.cons_cons _ (.cons_cons _ (.cons_cons _ (List.nil_sublist _)))))) ?_
          refine dl 0 rfl (by kernel_rfl) ?_
          refine la 0 ag164 hS rfl rfl rfl rfl (BV_size _) ?_
          refine ⟨fun _ => (hS.sublist (.cons _ (.cons_cons _ (.cons_cons _ (.cons_cons _ (List.nil_sublist _)))))), ?_⟩
          refine dl 5 rfl (by kernel_rfl) ?_
          refine cv cf119 hS rfl rfl rfl rfl rfl (sp_mooringref06_Add ((mixG (shG (subG (enG key b j) sboxV)))) ((seg8 16 (expand key) ((j + 1) * 16))) _) ?_
          intro w hS
          refine ⟨fun _ => (hS.sublist (.cons _ (.cons_cons _ (.cons_cons _ (.cons_cons _ (List.nil_sublist _)))))), ?_⟩
          refine dl 6 rfl (by kernel_rfl) ?_
          refine sa 0 ag164 hS rfl rfl rfl (BV_one _) rfl (BV_size _) (BV_size _) ?_
          intro w hS
          refine ⟨fun h => (by cases h), ?_⟩
          refine de (by kernel_rfl) ?_
          refine q_block_norm ?_
          refine wq_then ?_
          refine wc_region ?_
          refine mv rfl rfl rfl ?_
          refine addi (by omega) (by omega) rfl rfl rfl rfl ?_
          refine asg rfl rfl rfl ?_
          refine again_q (j + 1) ⟨rfl, rfl, rfl, lkI rfl (by first | omega | rfl), trivial⟩ ⟨by omega, (by rw [en_lo (by omega)]; exact hS)⟩ (by omega)
        · skip
          try simp only [SB] at hc4
          refine wc_skip ?_
          refine wq_then ?_
          refine wc_draw mo 6 (fun w => St w0 [] [(b4, .cells (BV (Vector.replicate 16 0)) 22), (b3, .cells (BV b) 22), (b2, .cells (BV (expand key) ++ BV sboxV) 48)] w) ?_
          have hS := hS.drew
          refine dq 1 rfl (by kernel_rfl) (by kernel_rfl) (by kernel_rfl) rfl rfl (fun w hS => mv rfl rfl rfl ⟨rfl, rfl⟩) (hS.sublist (.cons _ (.cons_cons _ (.cons_cons _ (.cons_cons _ (List.nil_sublist _)))))) ?_
          refine dq 2 rfl (by kernel_rfl) (by kernel_rfl) (by kernel_rfl) rfl rfl (fun w hS => fan (0) (0) Tryz.underlying48 rfl sz45 (by decide) rfl rfl rfl rfl (by omega) ⟨rfl, rfl⟩) (hS.sublist (.cons _ (.cons_cons _ (.cons_cons _ (.cons_cons _ (List.nil_sublist _)))))) ?_
          refine dq 3 rfl (by kernel_rfl) (by kernel_rfl) (by kernel_rfl) rfl rfl (fun w hS => ian (j + 1) ((j + 1) * 16) Tryz.underlying45 sz22 rfl rfl rfl rfl (by omega) (by omega) (by omega) ⟨rfl, rfl⟩) (hS.sublist (.cons _ (.cons_cons _ (.cons_cons _ (.cons_cons _ (List.nil_sublist _)))))) ?_
          refine dq 4 rfl (by kernel_rfl) (by kernel_rfl) (by kernel_rfl) rfl rfl (fun w hS => lp (u := .agg (BV (seg8 16 (expand key) ((j + 1) * 16)))) 2 ag22 hS rfl rfl rfl rfl (le_sz (a := 432) (cat_size (a := 176) (b := 256) (BV_size _) (BV_size _)) (by omega)) (cat_xl (a := 176) (BV_size _) (by omega) (BV_extract 16 _ ((j + 1) * 16) (by omega))) rfl ⟨rfl, rfl⟩) (hS.sublist (.cons _ (.cons_cons _ (.cons_cons _ (.cons_cons _ (List.nil_sublist _)))))) ?_
          refine dl 0 rfl (by kernel_rfl) ?_
          refine la 0 ag164 hS rfl rfl rfl rfl (BV_size _) ?_
          refine ⟨fun _ => (hS.sublist (.cons _ (.cons_cons _ (.cons_cons _ (.cons_cons _ (List.nil_sublist _)))))), ?_⟩
          refine dl 5 rfl (by kernel_rfl) ?_
          refine cv cf119 hS rfl rfl rfl rfl rfl (sp_mooringref06_Add ((shG (subG (enG key b j) sboxV))) ((seg8 16 (expand key) ((j + 1) * 16))) _) ?_
          intro w hS
          refine ⟨fun _ => (hS.sublist (.cons _ (.cons_cons _ (.cons_cons _ (.cons_cons _ (List.nil_sublist _)))))), ?_⟩
          refine dl 6 rfl (by kernel_rfl) ?_
          refine sa 0 ag164 hS rfl rfl rfl (BV_one _) rfl (BV_size _) (BV_size _) ?_
          intro w hS
          refine ⟨fun h => (by cases h), ?_⟩
          refine de (by kernel_rfl) ?_
          refine q_block_norm ?_
          refine wq_then ?_
          refine wc_region ?_
          refine mv rfl rfl rfl ?_
          refine addi (by omega) (by omega) rfl rfl rfl rfl ?_
          refine asg rfl rfl rfl ?_
          refine again_q (j + 1) ⟨rfl, rfl, rfl, lkI rfl (by first | omega | rfl), trivial⟩ ⟨by omega, (by rw [en_hi (by omega)]; exact hS)⟩ (by omega)
      · skip
        try simp only [SB] at hc3
        refine wc_exit ?_
        refine q_then_exit ?_
        refine q_then_exit ?_
        refine q_block_hit ?_
        refine wq_then ?_
        refine rg ?_
        refine la 0 ag164 hS rfl rfl rfl rfl (BV_size _) ?_
        refine cv cf124 hS rfl rfl rfl rfl rfl (sp_mooringref06_Block ((enG key b j)) _) ?_
        intro w hS
        refine sa 1 ag22 hS rfl rfl rfl (BV_one _) rfl (BV_size _) (BV_size _) ?_
        intro w hS
        refine wq_then ?_
        refine wc_ret ?_
        refine fin1 (v := .agg (BV (blG (enG key b j)))) rfl ⟨_, rfl, lv_a ag22 (hS.get 1 rfl) (BV_size _)⟩ ?_
        refine ⟨?_, hS.drop⟩
        have hj : j = 10 := by omega
        rw [hj]
        exact congrArg (fun x => Ending.returned (.agg (BV x))) (encG_enc key b)
  · skip
    refine ala zr164 hS rfl rfl ?_
    intro b5 w hb5 hS
    refine ⟨fun _ => hS.tl, ?_⟩
    refine dl 1 rfl (by kernel_rfl) ?_
    refine cv cf120 hS rfl rfl rfl rfl rfl (sp_mooringref06_Of (b) _) ?_
    intro w hS
    refine ⟨fun _ => hS.tl, ?_⟩
    refine dl 5 rfl (by kernel_rfl) ?_
    refine cv cf119 hS rfl rfl rfl rfl rfl (sp_mooringref06_Add ((ofG b)) ((seg8 16 (expand key) 0)) _) ?_
    intro w hS
    refine ⟨fun _ => hS.tl, ?_⟩
    refine dl 7 rfl (by kernel_rfl) ?_
    refine sa 0 ag164 hS rfl rfl rfl (BV_one _) rfl (BV_size _) (BV_size _) ?_
    intro w hS
    refine ⟨fun h => (by cases h), ?_⟩
    refine de (by kernel_rfl) ?_
    refine wq_then ?_
    refine wc_seq ?_
    refine rg ?_
    refine asg rfl rfl rfl ?_
    refine wq_then ?_
    refine wc_block ?_
    refine wc_loop (σ := Nat) (fun j => [(2, Ptr b2 0), (4, Ptr b4 0), (5, Ptr b5 0), (6, I ((j : Int) + 1))])
      (fun j w => (j ≤ 10) ∧ St w0 [] [(b5, .cells (BV (enG key b j)) 164), (b4, .cells (BV (Vector.replicate 16 0)) 22), (b3, .cells (BV b) 22), (b2, .cells (BV (expand key) ++ BV sboxV) 48)] w) (fun j => 10 - j) 0 ⟨rfl, rfl, rfl, rfl, trivial⟩ ⟨by omega, hS⟩ ?_
    rintro j w ⟨hk, hS⟩
    refine wc_seq ?_
    refine rg ?_
    refine mv rfl rfl rfl ?_
    refine leq rfl rfl rfl rfl ?_
    refine wq_then ?_
    refine wc_if rfl (fun hc5 => ?_) (fun hc5 => ?_)
    · skip
      try simp only [SB] at hc5
      refine wc_skip ?_
      refine wq_then ?_
      refine wc_seq ?_
      refine wc_block ?_
      refine rg ?_
      refine la 0 ag164 hS rfl rfl rfl rfl (BV_size _) ?_
      refine fan (176) (176) Tryz.underlying48 rfl sz46 (by decide) rfl rfl rfl rfl (by omega) ?_
      refine lp (u := .agg (BV sboxV)) 3 ag46 hS rfl rfl rfl rfl (le_sz (a := 432) (cat_size (a := 176) (b := 256) (BV_size _) (BV_size _)) (by omega)) (cat_xr (a := 176) (o' := 0) (BV_size _) (by omega) (ext_all (BV_size _))) rfl ?_
      refine cv cf122 hS rfl rfl rfl rfl rfl (sp_mooringref06_Sub ((enG key b j)) (sboxV) _) ?_
      intro w hS
      refine cv cf121 hS rfl rfl rfl rfl rfl (sp_mooringref06_Shift ((subG (enG key b j) sboxV)) _) ?_
      intro w hS
      refine sa 0 ag164 hS rfl rfl rfl (BV_one _) rfl (BV_size _) (BV_size _) ?_
      intro w hS
      refine wq_then ?_
      refine wc_seq ?_
      refine rg ?_
      refine mv rfl rfl rfl ?_
      refine lss rfl rfl rfl rfl ?_
      refine wq_then ?_
      refine wc_if rfl (fun hc6 => ?_) (fun hc6 => ?_)
      · skip
        try simp only [SB] at hc6
        refine wc_region ?_
        refine la 0 ag164 hS rfl rfl rfl rfl (BV_size _) ?_
        refine cv cf123 hS rfl rfl rfl rfl rfl (sp_mooringref06_Mix ((shG (subG (enG key b j) sboxV))) _) ?_
        intro w hS
        refine sa 0 ag164 hS rfl rfl rfl (BV_one _) rfl (BV_size _) (BV_size _) ?_
        intro w hS
        refine wq_then ?_
        refine wc_draw mo 6 (fun w => St w0 [] [(b4, .cells (BV (Vector.replicate 16 0)) 22), (b3, .cells (BV b) 22), (b2, .cells (BV (expand key) ++ BV sboxV) 48)] w) ?_
        have hS := hS.drew
        refine dq 1 rfl (by kernel_rfl) (by kernel_rfl) (by kernel_rfl) rfl rfl (fun w hS => mv rfl rfl rfl ⟨rfl, rfl⟩) (hS.sublist (.cons _ (.cons_cons _ (.cons_cons _ (.cons_cons _ (List.nil_sublist _)))))) ?_
        refine dq 2 rfl (by kernel_rfl) (by kernel_rfl) (by kernel_rfl) rfl rfl (fun w hS => fan (0) (0) Tryz.underlying48 rfl sz45 (by decide) rfl rfl rfl rfl (by omega) ⟨rfl, rfl⟩) (hS.sublist (.cons _ (.cons_cons _ (.cons_cons _ (.cons_cons _ (List.nil_sublist _)))))) ?_
        refine dq 3 rfl (by kernel_rfl) (by kernel_rfl) (by kernel_rfl) rfl rfl (fun w hS => ian (j + 1) ((j + 1) * 16) Tryz.underlying45 sz22 rfl rfl rfl rfl (by omega) (by omega) (by omega) ⟨rfl, rfl⟩) (hS.sublist (.cons _ (.cons_cons _ (.cons_cons _ (.cons_cons _ (List.nil_sublist _)))))) ?_
        refine dq 4 rfl (by kernel_rfl) (by kernel_rfl) (by kernel_rfl) rfl rfl (fun w hS => lp (u := .agg (BV (seg8 16 (expand key) ((j + 1) * 16)))) 2 ag22 hS rfl rfl rfl rfl (le_sz (a := 432) (cat_size (a := 176) (b := 256) (BV_size _) (BV_size _)) (by omega)) (cat_xl (a := 176) (BV_size _) (by omega) (BV_extract 16 _ ((j + 1) * 16) (by omega))) rfl ⟨rfl, rfl⟩) (hS.sublist (.cons _ (.cons_cons _ (.cons_cons _ (.cons_cons _ (List.nil_sublist _)))))) ?_
        refine dl 0 rfl (by kernel_rfl) ?_
        refine la 0 ag164 hS rfl rfl rfl rfl (BV_size _) ?_
        refine ⟨fun _ => (hS.sublist (.cons _ (.cons_cons _ (.cons_cons _ (.cons_cons _ (List.nil_sublist _)))))), ?_⟩
        refine dl 5 rfl (by kernel_rfl) ?_
        refine cv cf119 hS rfl rfl rfl rfl rfl (sp_mooringref06_Add ((mixG (shG (subG (enG key b j) sboxV)))) ((seg8 16 (expand key) ((j + 1) * 16))) _) ?_
        intro w hS
        refine ⟨fun _ => (hS.sublist (.cons _ (.cons_cons _ (.cons_cons _ (.cons_cons _ (List.nil_sublist _)))))), ?_⟩
        refine dl 6 rfl (by kernel_rfl) ?_
        refine sa 0 ag164 hS rfl rfl rfl (BV_one _) rfl (BV_size _) (BV_size _) ?_
        intro w hS
        refine ⟨fun h => (by cases h), ?_⟩
        refine de (by kernel_rfl) ?_
        refine q_block_norm ?_
        refine wq_then ?_
        refine wc_region ?_
        refine mv rfl rfl rfl ?_
        refine addi (by omega) (by omega) rfl rfl rfl rfl ?_
        refine asg rfl rfl rfl ?_
        refine again_q (j + 1) ⟨rfl, rfl, rfl, lkI rfl (by first | omega | rfl), trivial⟩ ⟨by omega, (by rw [en_lo (by omega)]; exact hS)⟩ (by omega)
      · skip
        try simp only [SB] at hc6
        refine wc_skip ?_
        refine wq_then ?_
        refine wc_draw mo 6 (fun w => St w0 [] [(b4, .cells (BV (Vector.replicate 16 0)) 22), (b3, .cells (BV b) 22), (b2, .cells (BV (expand key) ++ BV sboxV) 48)] w) ?_
        have hS := hS.drew
        refine dq 1 rfl (by kernel_rfl) (by kernel_rfl) (by kernel_rfl) rfl rfl (fun w hS => mv rfl rfl rfl ⟨rfl, rfl⟩) (hS.sublist (.cons _ (.cons_cons _ (.cons_cons _ (.cons_cons _ (List.nil_sublist _)))))) ?_
        refine dq 2 rfl (by kernel_rfl) (by kernel_rfl) (by kernel_rfl) rfl rfl (fun w hS => fan (0) (0) Tryz.underlying48 rfl sz45 (by decide) rfl rfl rfl rfl (by omega) ⟨rfl, rfl⟩) (hS.sublist (.cons _ (.cons_cons _ (.cons_cons _ (.cons_cons _ (List.nil_sublist _)))))) ?_
        refine dq 3 rfl (by kernel_rfl) (by kernel_rfl) (by kernel_rfl) rfl rfl (fun w hS => ian (j + 1) ((j + 1) * 16) Tryz.underlying45 sz22 rfl rfl rfl rfl (by omega) (by omega) (by omega) ⟨rfl, rfl⟩) (hS.sublist (.cons _ (.cons_cons _ (.cons_cons _ (.cons_cons _ (List.nil_sublist _)))))) ?_
        refine dq 4 rfl (by kernel_rfl) (by kernel_rfl) (by kernel_rfl) rfl rfl (fun w hS => lp (u := .agg (BV (seg8 16 (expand key) ((j + 1) * 16)))) 2 ag22 hS rfl rfl rfl rfl (le_sz (a := 432) (cat_size (a := 176) (b := 256) (BV_size _) (BV_size _)) (by omega)) (cat_xl (a := 176) (BV_size _) (by omega) (BV_extract 16 _ ((j + 1) * 16) (by omega))) rfl ⟨rfl, rfl⟩) (hS.sublist (.cons _ (.cons_cons _ (.cons_cons _ (.cons_cons _ (List.nil_sublist _)))))) ?_
        refine dl 0 rfl (by kernel_rfl) ?_
        refine la 0 ag164 hS rfl rfl rfl rfl (BV_size _) ?_
        refine ⟨fun _ => (hS.sublist (.cons _ (.cons_cons _ (.cons_cons _ (.cons_cons _ (List.nil_sublist _)))))), ?_⟩
        refine dl 5 rfl (by kernel_rfl) ?_
        refine cv cf119 hS rfl rfl rfl rfl rfl (sp_mooringref06_Add ((shG (subG (enG key b j) sboxV))) ((seg8 16 (expand key) ((j + 1) * 16))) _) ?_
        intro w hS
        refine ⟨fun _ => (hS.sublist (.cons _ (.cons_cons _ (.cons_cons _ (.cons_cons _ (List.nil_sublist _)))))), ?_⟩
        refine dl 6 rfl (by kernel_rfl) ?_
        refine sa 0 ag164 hS rfl rfl rfl (BV_one _) rfl (BV_size _) (BV_size _) ?_
        intro w hS
        refine ⟨fun h => (by cases h), ?_⟩
        refine de (by kernel_rfl) ?_
        refine q_block_norm ?_
        refine wq_then ?_
        refine wc_region ?_
        refine mv rfl rfl rfl ?_
        refine addi (by omega) (by omega) rfl rfl rfl rfl ?_
        refine asg rfl rfl rfl ?_
        refine again_q (j + 1) ⟨rfl, rfl, rfl, lkI rfl (by first | omega | rfl), trivial⟩ ⟨by omega, (by rw [en_hi (by omega)]; exact hS)⟩ (by omega)
    · skip
      try simp only [SB] at hc5
      refine wc_exit ?_
      refine q_then_exit ?_
      refine q_then_exit ?_
      refine q_block_hit ?_
      refine wq_then ?_
      refine rg ?_
      refine la 0 ag164 hS rfl rfl rfl rfl (BV_size _) ?_
      refine cv cf124 hS rfl rfl rfl rfl rfl (sp_mooringref06_Block ((enG key b j)) _) ?_
      intro w hS
      refine sa 1 ag22 hS rfl rfl rfl (BV_one _) rfl (BV_size _) (BV_size _) ?_
      intro w hS
      refine wq_then ?_
      refine wc_ret ?_
      refine fin1 (v := .agg (BV (blG (enG key b j)))) rfl ⟨_, rfl, lv_a ag22 (hS.get 1 rfl) (BV_size _)⟩ ?_
      refine ⟨?_, hS.drop⟩
      have hj : j = 10 := by omega
      rw [hj]
      exact congrArg (fun x => Ending.returned (.agg (BV x))) (encG_enc key b)
end Go.Proofs.XZ

/- walks -/
namespace Go.Proofs.XZ
open Go Go.X Go.Proofs
set_option maxRecDepth 100000 in
theorem sp_mooringref08_Xor (a b : V8 16) (w0 : World) : Calls Tryz.prog 93 #[.agg (BV a), .agg (BV b)] w0 (Ret w0 (.agg (BV (xorV a b)))) := by
  refine enter (args := [.agg (BV a), .agg (BV b)]) Tryz.func93 rfl rfl ?_
  refine startw fun w hS => ?_
  refine rg ?_
  refine bxa hS rfl rfl rfl ?_
  intro b2 w hb2 hS
  refine bxa hS rfl rfl rfl ?_
  intro b3 w hb3 hS
  refine ala zr22 hS rfl rfl ?_
  intro b4 w hb4 hS
  refine wq_then ?_
  refine wc_seq ?_
  refine rg ?_
  refine asg rfl rfl rfl ?_
  refine wq_then ?_
  refine wc_block ?_
  refine wc_loop (σ := Nat) (fun k => [(2, Ptr b2 0), (3, Ptr b3 0), (4, Ptr b4 0), (5, I ((k : Int)))])
    (fun k w => (k ≤ 16) ∧ St w0 [] [(b4, .cells (BV (Vector.replicate 16 0)) 22), (b3, .cells (BV b) 22), (b2, .cells (BV (fill8 16 (fun i => gv a i ^^^ gv b i) a k)) 22)] w) (fun k => 16 - k) 0 ⟨rfl, rfl, rfl, rfl, trivial⟩ ⟨by omega, (by simp only [Nat.zero_mul, Nat.add_zero, fill8_0, fill32_0]; exact hS)⟩ ?_
  rintro k w ⟨hk, hS⟩
  refine wc_seq ?_
  refine rg ?_
  refine mv rfl rfl rfl ?_
  refine lss rfl rfl rfl rfl ?_
  refine wq_then ?_
  refine wc_if rfl (fun hc1 => ?_) (fun hc1 => ?_)
  · skip
    try simp only [SB] at hc1
    refine wc_skip ?_
    refine wq_then ?_
    refine wc_seq ?_
    refine wc_block ?_
    refine wc_draw mo 8 (fun w => St w0 [] [(b4, .cells (BV (Vector.replicate 16 0)) 22), (b3, .cells (BV b) 22)] w) ?_
    have hS := hS.drew
    refine dq 0 rfl (by kernel_rfl) (by kernel_rfl) (by kernel_rfl) rfl rfl (fun w hS => mv rfl rfl rfl ⟨rfl, rfl⟩) (hS.sublist (.cons_cons _ (.cons_cons _ (.cons _ (List.nil_sublist _))))) ?_
    refine dq 1 rfl (by kernel_rfl) (by kernel_rfl) (by kernel_rfl) rfl rfl (fun w hS => mv rfl rfl rfl ⟨rfl, rfl⟩) (hS.sublist (.cons_cons _ (.cons_cons _ (.cons _ (List.nil_sublist _))))) ?_
    refine dq 2 rfl (by kernel_rfl) (by kernel_rfl) (by kernel_rfl) rfl rfl (fun w hS => ian (k) (k) Tryz.underlying22 sz5 rfl rfl rfl rfl (by omega) (by omega) (by omega) ⟨rfl, rfl⟩) (hS.sublist (.cons_cons _ (.cons_cons _ (.cons _ (List.nil_sublist _))))) ?_
    refine dq 4 rfl (by kernel_rfl) (by kernel_rfl) (by kernel_rfl) rfl rfl (fun w hS => mv rfl rfl rfl ⟨rfl, rfl⟩) (hS.sublist (.cons_cons _ (.cons_cons _ (.cons _ (List.nil_sublist _))))) ?_
    refine dq 5 rfl (by kernel_rfl) (by kernel_rfl) (by kernel_rfl) rfl rfl (fun w hS => ian (k) (k) Tryz.underlying22 sz5 rfl rfl rfl rfl (by omega) (by omega) (by omega) ⟨rfl, rfl⟩) (hS.sublist (.cons_cons _ (.cons_cons _ (.cons _ (List.nil_sublist _))))) ?_
    refine dq 6 rfl (by kernel_rfl) (by kernel_rfl) (by kernel_rfl) rfl rfl (fun w hS => lo 1 sc5 hS rfl rfl rfl rfl (BV_get _ k (by omega)) ⟨rfl, rfl⟩) (hS.sublist (.cons_cons _ (.cons_cons _ (.cons _ (List.nil_sublist _))))) ?_
    refine dl 3 rfl (by kernel_rfl) ?_
    refine lo 2 sc5 hS rfl rfl rfl rfl (BV_get _ k (by omega)) ?_
    refine ⟨fun _ => (hS.sublist (.cons_cons _ (.cons_cons _ (.cons _ (List.nil_sublist _))))), ?_⟩
    refine dq 7 rfl (by kernel_rfl) (by kernel_rfl) (by kernel_rfl) rfl rfl (fun w hS => xor8 rfl rfl rfl rfl ⟨rfl, rfl⟩) (hS.sublist (.cons_cons _ (.cons_cons _ (.cons _ (List.nil_sublist _))))) ?_
    refine dl 8 rfl (by kernel_rfl) ?_
    refine ian (k) (k) Tryz.underlying22 sz5 rfl rfl rfl rfl (by omega) (by omega) (by omega) ?_
    refine ⟨fun h => (by cases h), ?_⟩
    refine dl 9 rfl (by kernel_rfl) ?_
    refine st (cs' := BV (fill8 16 (fun i => gv a i ^^^ gv b i) a (k + 1))) 2 sz5 hS rfl rfl rfl rfl rfl rfl (by rw [BV_size]; omega) (by rw [BV_set, gv_fill_ge _ _ (Nat.le_refl _)]; exact congrArg BV (fill8_succ (fun i => gv a i ^^^ gv b i) a k)) ?_
    intro w hS
    refine ⟨fun h => (by cases h), ?_⟩
    refine de (by kernel_rfl) ?_
    refine q_block_norm ?_
    refine wq_then ?_
    refine wc_region ?_
    refine mv rfl rfl rfl ?_
    refine addi (by omega) (by omega) rfl rfl rfl rfl ?_
    refine asg rfl rfl rfl ?_
    refine again_q (k + 1) ⟨rfl, rfl, rfl, lkI rfl (by first | omega | rfl), trivial⟩ ⟨by omega, hS⟩ (by omega)
  · skip
    try simp only [SB] at hc1
    refine wc_exit ?_
    refine q_then_exit ?_
    refine q_then_exit ?_
    refine q_block_hit ?_
    refine wq_then ?_
    refine rg ?_
    refine la 2 ag22 hS rfl rfl rfl rfl (BV_size _) ?_
    refine sa 0 ag22 hS rfl rfl rfl (BV_one _) rfl (BV_size _) (BV_size _) ?_
    intro w hS
    refine wq_then ?_
    refine wc_ret ?_
    refine fin1 (v := .agg (BV (fill8 16 (fun i => gv a i ^^^ gv b i) a k))) rfl ⟨_, rfl, lv_a ag22 (hS.get 0 rfl) (BV_size _)⟩ ?_
    refine ⟨?_, hS.drop⟩
    have hk4 : k = 16 := by omega
    subst hk4; rw [fill8_n]; rfl
end Go.Proofs.XZ

/- walks -/
namespace Go.Proofs.XZ
open Go Go.X Go.Proofs
set_option maxRecDepth 100000 in
theorem sp_mooringref08_Part (a : Option Addr) (n cap : Nat) (bs : List UInt8) (i : Nat) (i_ : Int) (w0 : World) (hi_ : i_ = (i : Int)) (hn : bs.length = n) (hN : n ≤ 1000000) (hc : Cel w0 a (c8 bs)) (hcap : n ≤ cap) (hi : i * 16 + 16 ≤ n) : Calls Tryz.prog 92 #[.slice a n cap, I i_] w0 (Ret w0 (.agg (BV (blk bs i)))) := by
  subst hi_
  refine enter (args := [.slice a n cap, I (i : Int)]) Tryz.func92 rfl rfl ?_
  refine startw fun w hS => ?_
  refine rg ?_
  refine ala zr22 hS rfl rfl ?_
  intro b4 w hb4 hS
  refine wq_then ?_
  refine rg ?_
  refine mv rfl rfl rfl ?_
  refine mv rfl rfl rfl ?_
  refine muli (by omega) (by omega) rfl rfl rfl rfl ?_
  refine mv rfl rfl rfl ?_
  refine muli (by omega) (by omega) rfl rfl rfl rfl ?_
  refine addi (by omega) (by omega) rfl rfl rfl rfl ?_
  refine s_lh (16 * i) ((16 * i) + 16) Tryz.underlying25 sz5 rfl rfl rfl rfl rfl (by omega) (by omega) (by omega) (by omega) ?_
  refine s2b Tryz.underlying22 rfl rfl rfl (by omega) ((((hc.st hS).take8 ((16 * i) + 16)).drop8 (lo := 16 * i) (cap := cap) (by first | omega | (simp; omega) | simp)).some8 (j := 0) (by first | omega | (simp; omega) | simp)) ?_
  refine ld rfl rfl rfl (lv_celj 0 ag22 (((hc.st hS).take8 ((16 * i) + 16)).drop8 (lo := 16 * i) (cap := cap) (by first | omega | (simp; omega) | simp)) (by first | omega | (simp; done) | (simp; omega)) (by omega)) ?_
  refine sa 0 ag22 hS rfl rfl rfl (BV_one _) rfl (BV_size _) (BV_size _) ?_
  intro w hS
  refine wq_then ?_
  refine wc_ret ?_
  refine fin1 (v := .agg (BV (ofl 16 (((bs).take ((16 * i) + 16)).drop (16 * i))))) rfl ⟨_, rfl, lv_a ag22 (hS.get 0 rfl) (BV_size _)⟩ ?_
  refine ⟨?_, hS.drop⟩
  rw [part_blk]
end Go.Proofs.XZ

/- walks -/
namespace Go.Proofs.XZ
open Go Go.X Go.Proofs
set_option maxRecDepth 100000 in
theorem sp_mooringref08_Pad (a : Option Addr) (n cap : Nat) (bs : List UInt8) (w0 : World) (hn : bs.length = n) (hN : n ≤ 1000000) (hc : Cel w0 a (c8 bs)) (h16 : n < 16) : Calls Tryz.prog 96 #[.slice a n cap] w0 (Ret w0 (.agg (BV (padV bs)))) := by
  refine enter (args := [.slice a n cap]) Tryz.func96 rfl rfl ?_
  refine startw fun w hS => ?_
  refine rg ?_
  refine ala zr22 hS rfl rfl ?_
  intro b2 w hb2 hS
  refine wq_then ?_
  refine rg ?_
  refine bsl (cs := #[]) sl25 hS rfl rfl rfl rfl (by kernel_rfl) ?_
  intro b4 w hb4 hS
  refine mv rfl rfl rfl ?_
  refine app (A := [(b2, .cells (BV (Vector.replicate 16 0)) 22)]) (X := [(b4, .cells (#[]) 5)]) (R := []) sl25 (Own.blk (n := 0) rfl (by decide)) ((hS.napp).toend 0 rfl) rfl rfl rfl rfl (src8 Tryz.underlying25 _ (hc.st hS) (by first | rfl | omega | (simp; omega) | (simp; done))) (by omega) (by omega) ?_
  intro a6 c6 X6 w hO6 hS
  have hO6 : Own _ a6 (0 + n) c6 (c8 (bs)) X6 := hO6
  refine bsl (cs := #[U8 (128)]) sl25 hS rfl rfl rfl rfl (by kernel_rfl) ?_
  intro b7 w hb7 hS
  refine app (A := [(b7, .cells (#[U8 (128)]) 5), (b2, .cells (BV (Vector.replicate 16 0)) 22)]) (R := []) sl25 hO6 hS rfl rfl rfl rfl (src8 Tryz.underlying25 _ (Cel.lb (l := [128]) (hS.get 0 rfl)) (by first | rfl | omega | (simp; omega) | (simp; done))) (by omega) (by omega) ?_
  intro a8 cq8 X8 w hO8 hS
  try simp only [c8_app] at hO8
  refine asg rfl rfl rfl ?_
  refine wq_then ?_
  refine wc_seq ?_
  refine wc_block ?_
  refine wc_loop (σ := (Nat × Option Addr × Nat × List (Nat × Obj))) (fun s => [(2, Ptr b2 0), (3, .slice s.2.1 (0 + n + 1 + s.1) s.2.2.1)])
    (fun s w => (0 + n + 1 + s.1 ≤ 16 ∧ Own 1 s.2.1 (0 + n + 1 + s.1) s.2.2.1 (c8 (bs ++ [128] ++ List.replicate s.1 0)) s.2.2.2) ∧ St w0 [] ([(b7, .cells (#[U8 (128)]) 5), (b2, .cells (BV (Vector.replicate 16 0)) 22)] ++ (s.2.2.2 ++ [])) w) (fun s => 16 - s.1) (0, a8, cq8, X8) ⟨rfl, rfl, trivial⟩ ⟨⟨by omega, by simpa using hO8⟩, hS⟩ ?_
  rintro s w ⟨⟨hk, hO⟩, hS⟩
  refine wc_seq ?_
  refine rg ?_
  refine mv rfl rfl rfl ?_
  refine lens Tryz.underlying25 rfl rfl rfl ?_
  refine lss rfl rfl rfl rfl ?_
  refine wq_then ?_
  refine wc_if rfl (fun hc1 => ?_) (fun hc1 => ?_)
  · skip
    try simp only [SB] at hc1
    refine wc_skip ?_
    refine wq_then ?_
    refine wc_block ?_
    refine wc_region ?_
    refine mv rfl rfl rfl ?_
    refine bsl (cs := #[U8 (0)]) sl25 hS rfl rfl rfl rfl (by kernel_rfl) ?_
    intro b13 w hb13 hS
    refine app (A := [(b13, .cells (#[U8 (0)]) 5), (b7, .cells (#[U8 (128)]) 5), (b2, .cells (BV (Vector.replicate 16 0)) 22)]) (R := []) sl25 hO hS rfl rfl rfl rfl (src8 Tryz.underlying25 _ (Cel.lb (l := [0]) (hS.get 0 rfl)) (by first | rfl | omega | (simp; omega) | (simp; done))) (by omega) (by omega) ?_
    intro a14 c14 X14 w hO14 hS
    try simp only [c8_app] at hO14
    refine asg rfl rfl rfl ?_
    refine q_block_norm ?_
    refine again_q (s.1 + 1, a14, c14, X14) ⟨rfl, rfl, trivial⟩ ⟨⟨by omega, by rw [List.replicate_succ', ← List.append_assoc]; exact hO14⟩, hS.tl⟩ (by omega)
  · skip
    try simp only [SB] at hc1
    have hk4 : 0 + n + 1 + s.1 = 16 := by omega
    refine wc_exit ?_
    refine q_then_exit ?_
    refine q_then_exit ?_
    refine q_block_hit ?_
    refine wq_then ?_
    refine rg ?_
    refine mv rfl rfl rfl ?_
    refine s2b Tryz.underlying22 rfl rfl rfl (by omega) ((hO.cel hS (fun p hp => by simp [hp])).some8 (j := 0) (by first | omega | (simp; omega) | simp)) ?_
    refine ld rfl rfl rfl (lv_celj 0 ag22 (hO.cel hS (fun p hp => by simp [hp])) (by first | omega | (simp; done) | (simp; omega)) (by omega)) ?_
    refine sa 1 ag22 hS rfl rfl rfl (BV_one _) rfl (BV_size _) (BV_size _) ?_
    intro w hS
    refine wq_then ?_
    refine wc_ret ?_
    refine fin1 (v := .agg (BV (ofl 16 (bs ++ [128] ++ List.replicate s.1 0)))) rfl ⟨_, rfl, lv_a ag22 (hS.get 1 rfl) (BV_size _)⟩ ?_
    refine ⟨?_, hS.drop⟩
    rw [pad_l bs s.1 (by omega)]
end Go.Proofs.XZ

/- walks -/
namespace Go.Proofs.XZ
open Go Go.X Go.Proofs
set_option maxRecDepth 100000 in
theorem sp_mooringref08_Xor2 (a b : V8 16) (w0 : World) : Calls Tryz.prog 93 #[.agg (BV a), .agg (BV b)] w0 (Ret w0 (.agg (BV (xorV b a)))) := by
  refine enter (args := [.agg (BV a), .agg (BV b)]) Tryz.func93 rfl rfl ?_
  refine startw fun w hS => ?_
  refine rg ?_
  refine bxa hS rfl rfl rfl ?_
  intro b2 w hb2 hS
  refine bxa hS rfl rfl rfl ?_
  intro b3 w hb3 hS
  refine ala zr22 hS rfl rfl ?_
  intro b4 w hb4 hS
  refine wq_then ?_
  refine wc_seq ?_
  refine rg ?_
  refine asg rfl rfl rfl ?_
  refine wq_then ?_
  refine wc_block ?_
  refine wc_loop (σ := Nat) (fun k => [(2, Ptr b2 0), (3, Ptr b3 0), (4, Ptr b4 0), (5, I ((k : Int)))])
    (fun k w => (k ≤ 16) ∧ St w0 [] [(b4, .cells (BV (Vector.replicate 16 0)) 22), (b3, .cells (BV b) 22), (b2, .cells (BV (fill8 16 (fun i => gv a i ^^^ gv b i) a k)) 22)] w) (fun k => 16 - k) 0 ⟨rfl, rfl, rfl, rfl, trivial⟩ ⟨by omega, (by simp only [Nat.zero_mul, Nat.add_zero, fill8_0, fill32_0]; exact hS)⟩ ?_
  rintro k w ⟨hk, hS⟩
  refine wc_seq ?_
  refine rg ?_
  refine mv rfl rfl rfl ?_
  refine lss rfl rfl rfl rfl ?_
  refine wq_then ?_
  refine wc_if rfl (fun hc1 => ?_) (fun hc1 => ?_)
  · skip
    try simp only [SB] at hc1
    refine wc_skip ?_
    refine wq_then ?_
    refine wc_seq ?_
    refine wc_block ?_
    refine wc_draw mo 8 (fun w => St w0 [] [(b4, .cells (BV (Vector.replicate 16 0)) 22), (b3, .cells (BV b) 22)] w) ?_
    have hS := hS.drew
    refine dq 0 rfl (by kernel_rfl) (by kernel_rfl) (by kernel_rfl) rfl rfl (fun w hS => mv rfl rfl rfl ⟨rfl, rfl⟩) (hS.sublist (.cons_cons _ (.cons_cons _ (.cons _ (List.nil_sublist _))))) ?_
    refine dq 1 rfl (by kernel_rfl) (by kernel_rfl) (by kernel_rfl) rfl rfl (fun w hS => mv rfl rfl rfl ⟨rfl, rfl⟩) (hS.sublist (.cons_cons _ (.cons_cons _ (.cons _ (List.nil_sublist _))))) ?_
    refine dq 2 rfl (by kernel_rfl) (by kernel_rfl) (by kernel_rfl) rfl rfl (fun w hS => ian (k) (k) Tryz.underlying22 sz5 rfl rfl rfl rfl (by omega) (by omega) (by omega) ⟨rfl, rfl⟩) (hS.sublist (.cons_cons _ (.cons_cons _ (.cons _ (List.nil_sublist _))))) ?_
    refine dq 4 rfl (by kernel_rfl) (by kernel_rfl) (by kernel_rfl) rfl rfl (fun w hS => mv rfl rfl rfl ⟨rfl, rfl⟩) (hS.sublist (.cons_cons _ (.cons_cons _ (.cons _ (List.nil_sublist _))))) ?_
    refine dq 5 rfl (by kernel_rfl) (by kernel_rfl) (by kernel_rfl) rfl rfl (fun w hS => ian (k) (k) Tryz.underlying22 sz5 rfl rfl rfl rfl (by omega) (by omega) (by omega) ⟨rfl, rfl⟩) (hS.sublist (.cons_cons _ (.cons_cons _ (.cons _ (List.nil_sublist _))))) ?_
    refine dq 6 rfl (by kernel_rfl) (by kernel_rfl) (by kernel_rfl) rfl rfl (fun w hS => lo 1 sc5 hS rfl rfl rfl rfl (BV_get _ k (by omega)) ⟨rfl, rfl⟩) (hS.sublist (.cons_cons _ (.cons_cons _ (.cons _ (List.nil_sublist _))))) ?_
    refine dl 3 rfl (by kernel_rfl) ?_
    refine lo 2 sc5 hS rfl rfl rfl rfl (BV_get _ k (by omega)) ?_
    refine ⟨fun _ => (hS.sublist (.cons_cons _ (.cons_cons _ (.cons _ (List.nil_sublist _))))), ?_⟩
    refine dq 7 rfl (by kernel_rfl) (by kernel_rfl) (by kernel_rfl) rfl rfl (fun w hS => xor8 rfl rfl rfl rfl ⟨rfl, rfl⟩) (hS.sublist (.cons_cons _ (.cons_cons _ (.cons _ (List.nil_sublist _))))) ?_
    refine dl 8 rfl (by kernel_rfl) ?_
    refine ian (k) (k) Tryz.underlying22 sz5 rfl rfl rfl rfl (by omega) (by omega) (by omega) ?_
    refine ⟨fun h => (by cases h), ?_⟩
    refine dl 9 rfl (by kernel_rfl) ?_
    refine st (cs' := BV (fill8 16 (fun i => gv a i ^^^ gv b i) a (k + 1))) 2 sz5 hS rfl rfl rfl rfl rfl rfl (by rw [BV_size]; omega) (by rw [BV_set, gv_fill_ge _ _ (Nat.le_refl _)]; exact congrArg BV (fill8_succ (fun i => gv a i ^^^ gv b i) a k)) ?_
    intro w hS
    refine ⟨fun h => (by cases h), ?_⟩
    refine de (by kernel_rfl) ?_
    refine q_block_norm ?_
    refine wq_then ?_
    refine wc_region ?_
    refine mv rfl rfl rfl ?_
    refine addi (by omega) (by omega) rfl rfl rfl rfl ?_
    refine asg rfl rfl rfl ?_
    refine again_q (k + 1) ⟨rfl, rfl, rfl, lkI rfl (by first | omega | rfl), trivial⟩ ⟨by omega, hS⟩ (by omega)
  · skip
    try simp only [SB] at hc1
    refine wc_exit ?_
    refine q_then_exit ?_
    refine q_then_exit ?_
    refine q_block_hit ?_
    refine wq_then ?_
    refine rg ?_
    refine la 2 ag22 hS rfl rfl rfl rfl (BV_size _) ?_
    refine sa 0 ag22 hS rfl rfl rfl (BV_one _) rfl (BV_size _) (BV_size _) ?_
    intro w hS
    refine wq_then ?_
    refine wc_ret ?_
    refine fin1 (v := .agg (BV (fill8 16 (fun i => gv a i ^^^ gv b i) a k))) rfl ⟨_, rfl, lv_a ag22 (hS.get 0 rfl) (BV_size _)⟩ ?_
    refine ⟨?_, hS.drop⟩
    have hk4 : k = 16 := by omega
    subst hk4; rw [fill8_n, xorV_comm b a]; rfl
end Go.Proofs.XZ

/- walks -/
namespace Go.Proofs.XZ
open Go Go.X Go.Proofs
set_option maxRecDepth 100000 in
theorem sp_mooringref09_Star (key : V8 16) (w0 : World) : Calls Tryz.prog 90 #[.agg (BV (expand key) ++ BV sboxV)] w0 (Ret w0 (.agg (BV (star key)))) := by
  refine enter (args := [.agg (BV (expand key) ++ BV sboxV)]) Tryz.func90 rfl rfl ?_
  refine startw fun w hS => ?_
  refine rg ?_
  refine bxa hS rfl rfl rfl ?_
  intro b1 w hb1 hS
  refine ala zr22 hS rfl rfl ?_
  intro b2 w hb2 hS
  refine wq_then ?_
  refine rg ?_
  refine la 1 ag48 hS rfl rfl rfl rfl (cat_size (a := 176) (b := 256) (BV_size _) (BV_size _)) ?_
  refine bd (cs := BV (Vector.replicate 16 0)) rfl rfl rfl (by kernel_rfl) ?_
  refine cv cf95 hS rfl rfl rfl rfl rfl (sp_mooringref06_Encrypt (key) ((Vector.replicate 16 0)) _) ?_
  intro w hS
  refine sa 0 ag22 hS rfl rfl rfl (BV_one _) rfl (BV_size _) (BV_size _) ?_
  intro w hS
  refine wq_then ?_
  refine wc_ret ?_
  refine fin1 (v := .agg (BV (enc key (Vector.replicate 16 0)))) rfl ⟨_, rfl, lv_a ag22 (hS.get 0 rfl) (BV_size _)⟩ ?_
  exact ⟨rfl, hS.drop⟩
end Go.Proofs.XZ

/- walks -/
namespace Go.Proofs.XZ
open Go Go.X Go.Proofs
set_option maxRecDepth 100000 in
theorem sp_mooringref01_Zeros (x : UInt64) (w0 : World) : Calls Tryz.prog 118 #[U64 x] w0 (Ret w0 (I ((zerosN x : Nat) : Int))) := by
  refine enter (args := [U64 x]) Tryz.func118 rfl rfl ?_
  refine startw fun w hS => ?_
  refine rg ?_
  refine asg rfl rfl rfl ?_
  refine wq_then ?_
  refine rg ?_
  refine asg rfl rfl rfl ?_
  refine wq_then ?_
  refine wc_seq ?_
  refine wc_block ?_
  refine wc_loop (σ := Nat) (fun k => [(0, U64 (zx x k)), (2, I (0)), (3, I ((k : Int)))])
    (fun k w => (k ≤ 64 ∧ ∀ j, j < k → zx x j % 2 = 0) ∧ St w0 [] [] w) (fun k => 64 - k) 0 ⟨rfl, rfl, rfl, trivial⟩ ⟨⟨by omega, fun j hj => by omega⟩, hS⟩ ?_
  rintro k w ⟨⟨hk, hz⟩, hS⟩
  refine wc_seq ?_
  refine rg ?_
  refine mv rfl rfl rfl ?_
  refine lss rfl rfl rfl rfl ?_
  refine mv rfl rfl rfl ?_
  refine spl 6 rfl (fun hb1 => ?_) (fun hb1 => ?_)
  · skip
    try simp only [SB] at hb1
    refine mv rfl rfl rfl ?_
    refine rem64 (q := (2 : UInt64)) (by decide) rfl rfl rfl rfl ?_
    refine eqi rfl rfl rfl rfl ?_
    refine pk_t rfl rfl rfl rfl ?_
    refine wq_then ?_
    refine wc_if rfl (fun hc1 => ?_) (fun hc1 => ?_)
    · skip
      try simp only [SB] at hc1
      have he : zx x k % 2 = 0 := UInt64.toNat_inj.1 (show (zx x k % 2).toNat = 0 by omega)
      refine wc_skip ?_
      refine wq_then ?_
      refine wc_block ?_
      refine rg ?_
      refine mv rfl rfl rfl ?_
      refine quo64 (q := (2 : UInt64)) (by decide) rfl rfl rfl rfl ?_
      refine asg rfl rfl rfl ?_
      refine wq_then ?_
      refine wc_region ?_
      refine mv rfl rfl rfl ?_
      refine addi (by omega) (by omega) rfl rfl rfl rfl ?_
      refine asg rfl rfl rfl ?_
      refine q_block_norm ?_
      refine again_q (k + 1) ⟨rfl, rfl, lkI rfl (by first | omega | rfl), trivial⟩ ⟨⟨by omega, fun j hj => by by_cases e : j = k; exact e ▸ he; exact hz j (by omega)⟩, hS⟩ (by omega)
    · skip
      try simp only [SB] at hc1
      have he : ¬ zx x k % 2 = 0 := fun e => hc1 (by rw [e]; rfl)
      refine wc_exit ?_
      refine q_then_exit ?_
      refine q_then_exit ?_
      refine q_block_hit ?_
      refine wq_then ?_
      refine rg ?_
      refine mv rfl rfl rfl ?_
      refine asg rfl rfl rfl ?_
      refine wq_then ?_
      refine wc_ret ?_
      refine fin1 (v := I ((k : Int))) rfl rfl ?_
      refine ⟨?_, hS.drop⟩
      first | (rw [zr_stop x k (by omega) hz he]) | (rw [hk64] at hz ⊢; rw [zr_end x hz])
  · skip
    try simp only [SB] at hb1
    have hk64 : k = 64 := by omega
    refine no rfl rfl ?_
    refine no rfl rfl ?_
    refine no rfl rfl ?_
    refine pk_f rfl rfl rfl rfl ?_
    refine wq_then ?_
    refine wc_if_f rfl ?_
    refine wc_exit ?_
    refine q_then_exit ?_
    refine q_then_exit ?_
    refine q_block_hit ?_
    refine wq_then ?_
    refine rg ?_
    refine mv rfl rfl rfl ?_
    refine asg rfl rfl rfl ?_
    refine wq_then ?_
    refine wc_ret ?_
    refine fin1 (v := I ((k : Int))) rfl rfl ?_
    refine ⟨?_, hS.drop⟩
    first | (rw [zr_stop x k (by omega) hz he]) | (rw [hk64] at hz ⊢; rw [zr_end x hz])
end Go.Proofs.XZ

/- walks -/
namespace Go.Proofs.XZ
open Go Go.X Go.Proofs
set_option maxRecDepth 100000 in
theorem sp_mooringref08_Bits (a : Option Addr) (n cap : Nat) (bs : List UInt8) (w0 : World) (hn : bs.length = n) (hN : n ≤ 1000000) (hc : Cel w0 a (c8 bs)) : Calls Tryz.prog 125 #[.slice a n cap] w0 (RetS w0 (fun v X => ∃ a' c', v = .slice a' (n * 8) c' ∧ Own 1 a' (n * 8) c' (ci (biL bs n)) X)) := by
  refine enter (args := [.slice a n cap]) Tryz.func125 rfl rfl ?_
  refine startw fun w hS => ?_
  refine rg ?_
  refine asg rfl rfl rfl ?_
  refine wq_then ?_
  refine rg ?_
  refine asg rfl rfl rfl ?_
  refine wq_then ?_
  refine wc_seq ?_
  refine rg ?_
  refine asg rfl rfl rfl ?_
  refine wq_then ?_
  refine wc_block ?_
  refine wc_loop (σ := (Nat × Option Addr × Nat × List (Nat × Obj))) (fun s => [(0, .slice a n cap), (2, (.slice none 0 0)), (3, .slice s.2.1 (s.1 * 8) s.2.2.1), (4, I ((s.1 : Int)))])
    (fun s w => (s.1 ≤ n ∧ Own 1 s.2.1 (s.1 * 8) s.2.2.1 (ci (biL bs s.1)) s.2.2.2) ∧ St w0 [] ([] ++ (s.2.2.2 ++ [])) w) (fun s => n - s.1) (0, none, 0, []) ⟨rfl, rfl, rfl, rfl, trivial⟩ ⟨⟨by omega, Own.nil 1⟩, (by simpa using hS)⟩ ?_
  rintro s w ⟨⟨hk, hO⟩, hS⟩
  refine wc_seq ?_
  refine rg ?_
  refine mv rfl rfl rfl ?_
  refine mv rfl rfl rfl ?_
  refine lens Tryz.underlying25 rfl rfl rfl ?_
  refine lss rfl rfl rfl rfl ?_
  refine wq_then ?_
  refine wc_if rfl (fun hc1 => ?_) (fun hc1 => ?_)
  · skip
    try simp only [SB] at hc1
    refine wc_skip ?_
    refine wq_then ?_
    refine wc_seq ?_
    refine wc_block ?_
    refine rg ?_
    refine asg rfl rfl rfl ?_
    refine wq_then ?_
    refine wc_block ?_
    refine wc_loop (σ := (Nat × Option Addr × Nat × List (Nat × Obj))) (fun u => [(0, .slice a n cap), (2, (.slice none 0 0)), (3, .slice u.2.1 (s.1 * 8 + u.1) u.2.2.1), (4, I ((s.1 : Int))), (5, I ((7 : Int) - (u.1 : Int)))])
      (fun u w => (u.1 ≤ 8 ∧ Own 1 u.2.1 (s.1 * 8 + u.1) u.2.2.1 (ci (biL bs s.1 ++ btL (gl bs s.1) u.1)) u.2.2.2) ∧ St w0 [] ([] ++ (u.2.2.2 ++ [])) w) (fun u => 8 - u.1) (0, s.2.1, s.2.2.1, s.2.2.2) ⟨rfl, rfl, rfl, rfl, rfl, trivial⟩ ⟨⟨by omega, by simpa [btL] using hO⟩, hS⟩ ?_
    rintro u w ⟨⟨hj, hO⟩, hS⟩
    refine wc_seq ?_
    refine rg ?_
    refine mv rfl rfl rfl ?_
    refine geq rfl rfl rfl rfl ?_
    refine wq_then ?_
    refine wc_if rfl (fun hc2 => ?_) (fun hc2 => ?_)
    · skip
      try simp only [SB] at hc2
      refine wc_skip ?_
      refine wq_then ?_
      refine wc_seq ?_
      refine wc_block ?_
      refine wc_region ?_
      refine mv rfl rfl rfl ?_
      refine mv rfl rfl rfl ?_
      refine mv rfl rfl rfl ?_
      refine slx (s.1) Tryz.underlying25 sz5 rfl rfl rfl rfl (by omega) (by omega) ((hc.st hS).some8 (j := s.1) (by first | omega | (simp; done) | (simp; omega))) ?_
      refine ldx sc5 rfl rfl rfl (hc.st hS) (by first | omega | (simp; done) | (simp; omega)) ?_
      refine mv rfl rfl rfl ?_
      refine cvu64 Tryz.underlying79 ⟨_, Tryz.underlying3⟩ rfl rfl rfl ?_
      refine shrn8 (7 - u.1) (toU64_un (by omega) (by omega)) rfl rfl rfl rfl ?_
      refine cvi Tryz.underlying3 ⟨_, Tryz.underlying5⟩ (by have := (shr8 (gl bs s.1) (7 - u.1)).toNat_lt; omega) (by have := (shr8 (gl bs s.1) (7 - u.1)).toNat_lt; omega) rfl rfl rfl ?_
      refine remi (by omega) (by omega) rfl rfl rfl rfl ?_
      refine bsl (cs := #[I (((shr8 (gl bs s.1) (7 - u.1)).toNat : Int) % 2)]) sl170 hS rfl rfl rfl rfl (by kernel_rfl) ?_
      intro b26 w hb26 hS
      refine app (A := [(b26, .cells (#[I (((shr8 (gl bs s.1) (7 - u.1)).toNat : Int) % 2)]) 3)]) (R := []) sl170 hO hS rfl rfl rfl rfl (srci Tryz.underlying170 _ (show Cel _ _ (ci ([((shr8 (gl bs s.1) (7 - u.1)).toNat) % 2])) from Cel.cs (hS.get 0 rfl)) rfl (fun h => by cases h)) (by omega) (by omega) ?_
      intro a27 c27 X27 w hO27 hS
      try simp only [ci_app] at hO27
      refine asg rfl rfl rfl ?_
      refine q_block_norm ?_
      refine wq_then ?_
      refine wc_region ?_
      refine mv rfl rfl rfl ?_
      refine subi (by omega) (by omega) rfl rfl rfl rfl ?_
      refine asg rfl rfl rfl ?_
      refine again_q (u.1 + 1, a27, c27, X27) ⟨rfl, rfl, rfl, rfl, lkI rfl (by omega), trivial⟩ ⟨⟨by omega, by have h := hO27; rw [List.append_assoc] at h; exact h⟩, hS.tl⟩ (by omega)
    · skip
      try simp only [SB] at hc2
      have hj8 : u.1 = 8 := by omega
      have e8 : s.1 * 8 + u.1 = (s.1 + 1) * 8 := by omega
      rw [e8]
      rw [e8, hj8] at hO
      have hO : Own 1 u.2.1 ((s.1 + 1) * 8) u.2.2.1 (ci (biL bs (s.1 + 1))) u.2.2.2 := hO
      refine wc_exit ?_
      refine q_then_exit ?_
      refine q_then_exit ?_
      refine q_block_hit ?_
      refine q_block_norm ?_
      refine wq_then ?_
      refine wc_region ?_
      refine mv rfl rfl rfl ?_
      refine addi (by omega) (by omega) rfl rfl rfl rfl ?_
      refine asg rfl rfl rfl ?_
      refine again_q (s.1 + 1, u.2.1, u.2.2.1, u.2.2.2) ⟨rfl, rfl, rfl, lkI rfl (by first | omega | rfl), trivial⟩ ⟨⟨by omega, hO⟩, hS⟩ (by omega)
  · skip
    try simp only [SB] at hc1
    refine wc_exit ?_
    refine q_then_exit ?_
    refine q_then_exit ?_
    refine q_block_hit ?_
    refine wq_then ?_
    refine rg ?_
    refine mv rfl rfl rfl ?_
    refine asg rfl rfl rfl ?_
    refine wq_then ?_
    refine wc_ret ?_
    refine fin1 (v := .slice s.2.1 (s.1 * 8) s.2.2.1) rfl rfl ?_
    have hk4 : s.1 = n := by omega
    rw [hk4] at hO
    exact ⟨_, _, rfl, ⟨_, _, by rw [hk4], hO⟩, by simpa using hS⟩
end Go.Proofs.XZ

/- walks -/
namespace Go.Proofs.XZ
open Go Go.X Go.Proofs
set_option maxRecDepth 100000 in
theorem sp_mooringref08_Of (a : Option Addr) (n cap : Nat) (bs : List Nat) (w0 : World) (hn : bs.length = n) (hN : n ≤ 1000000) (hc : Cel w0 a (ci bs)) (h128 : 128 ≤ n) : Calls Tryz.prog 126 #[.slice a n cap] w0 (Ret w0 (.agg (BV (ofB bs)))) := by
  refine enter (args := [.slice a n cap]) Tryz.func126 rfl rfl ?_
  refine startw fun w hS => ?_
  refine rg ?_
  refine ala zr22 hS rfl rfl ?_
  intro b2 w hb2 hS
  refine wq_then ?_
  refine rg ?_
  refine ala zr22 hS rfl rfl ?_
  intro b3 w hb3 hS
  refine wq_then ?_
  refine wc_seq ?_
  refine rg ?_
  refine asg rfl rfl rfl ?_
  refine wq_then ?_
  refine wc_block ?_
  refine wc_loop (σ := Nat) (fun k => [(0, .slice a n cap), (2, Ptr b2 0), (3, Ptr b3 0), (4, I ((k : Int)))])
    (fun k w => (k ≤ 128) ∧ St w0 [] [(b3, .cells (BV (ofS bs k)) 22), (b2, .cells (BV (Vector.replicate 16 0)) 22)] w) (fun k => 128 - k) 0 ⟨rfl, rfl, rfl, rfl, trivial⟩ ⟨by omega, hS⟩ ?_
  rintro k w ⟨hk, hS⟩
  refine wc_seq ?_
  refine rg ?_
  refine mv rfl rfl rfl ?_
  refine lss rfl rfl rfl rfl ?_
  refine wq_then ?_
  refine wc_if rfl (fun hc1 => ?_) (fun hc1 => ?_)
  · skip
    try simp only [SB] at hc1
    refine wc_skip ?_
    refine wq_then ?_
    refine wc_seq ?_
    refine wc_block ?_
    refine wc_draw mo 13 (fun w => St w0 [] [(b2, .cells (BV (Vector.replicate 16 0)) 22)] w) ?_
    have hS := hS.drew
    refine dq 0 rfl (by kernel_rfl) (by kernel_rfl) (by kernel_rfl) rfl rfl (fun w hS => mv rfl rfl rfl ⟨rfl, rfl⟩) (hS.sublist (.cons _ (.cons_cons _ (List.nil_sublist _)))) ?_
    refine dq 1 rfl (by kernel_rfl) (by kernel_rfl) (by kernel_rfl) rfl rfl (fun w hS => quoi (by omega) (by omega) (by omega) rfl rfl rfl rfl ⟨rfl, rfl⟩) (hS.sublist (.cons _ (.cons_cons _ (List.nil_sublist _)))) ?_
    refine dq 2 rfl (by kernel_rfl) (by kernel_rfl) (by kernel_rfl) rfl rfl (fun w hS => mv rfl rfl rfl ⟨rfl, rfl⟩) (hS.sublist (.cons _ (.cons_cons _ (List.nil_sublist _)))) ?_
    refine dq 3 rfl (by kernel_rfl) (by kernel_rfl) (by kernel_rfl) rfl rfl (fun w hS => quoi (by omega) (by omega) (by omega) rfl rfl rfl rfl ⟨rfl, rfl⟩) (hS.sublist (.cons _ (.cons_cons _ (List.nil_sublist _)))) ?_
    refine dq 4 rfl (by kernel_rfl) (by kernel_rfl) (by kernel_rfl) rfl rfl (fun w hS => ian (k / 8) ((k / 8)) Tryz.underlying22 sz5 rfl rfl rfl rfl (by omega) (by omega) (by omega) ⟨rfl, rfl⟩) (hS.sublist (.cons _ (.cons_cons _ (List.nil_sublist _)))) ?_
    refine dq 7 rfl (by kernel_rfl) (by kernel_rfl) (by kernel_rfl) rfl rfl (fun w hS => mv rfl rfl rfl ⟨rfl, rfl⟩) (hS.sublist (.cons _ (.cons_cons _ (List.nil_sublist _)))) ?_
    refine dq 8 rfl (by kernel_rfl) (by kernel_rfl) (by kernel_rfl) rfl rfl (fun w hS => mv rfl rfl rfl ⟨rfl, rfl⟩) (hS.sublist (.cons _ (.cons_cons _ (List.nil_sublist _)))) ?_
    refine dq 9 rfl (by kernel_rfl) (by kernel_rfl) (by kernel_rfl) rfl rfl (fun w hS => slx (k) Tryz.underlying170 sz3 rfl rfl rfl rfl (by omega) (by omega) ((hc.st hS).somei (j := k) (by first | omega | (simp; done) | (simp; omega))) ⟨rfl, rfl⟩) (hS.sublist (.cons _ (.cons_cons _ (List.nil_sublist _)))) ?_
    refine dq 10 rfl (by kernel_rfl) (by kernel_rfl) (by kernel_rfl) rfl rfl (fun w hS => ldxi sc3 rfl rfl rfl (hc.st hS) (by first | omega | (simp; done) | (simp; omega)) ⟨rfl, rfl⟩) (hS.sublist (.cons _ (.cons_cons _ (List.nil_sublist _)))) ?_
    refine dq 11 rfl (by kernel_rfl) (by kernel_rfl) (by kernel_rfl) rfl rfl (fun w hS => cvu8 Tryz.underlying5 ⟨_, Tryz.underlying3⟩ rfl rfl rfl ⟨rfl, rfl⟩) (hS.sublist (.cons _ (.cons_cons _ (List.nil_sublist _)))) ?_
    refine dl 5 rfl (by kernel_rfl) ?_
    refine lo 0 sc5 hS rfl rfl rfl rfl (BV_get _ (k / 8) (by omega)) ?_
    refine ⟨fun _ => (hS.sublist (.cons _ (.cons_cons _ (List.nil_sublist _)))), ?_⟩
    refine dq 6 rfl (by kernel_rfl) (by kernel_rfl) (by kernel_rfl) rfl rfl (fun w hS => mul8 (q := (2 : UInt8)) rfl rfl rfl rfl ⟨rfl, rfl⟩) (hS.sublist (.cons _ (.cons_cons _ (List.nil_sublist _)))) ?_
    refine dq 12 rfl (by kernel_rfl) (by kernel_rfl) (by kernel_rfl) rfl rfl (fun w hS => add8 rfl rfl rfl rfl ⟨rfl, rfl⟩) (hS.sublist (.cons _ (.cons_cons _ (List.nil_sublist _)))) ?_
    refine dl 13 rfl (by kernel_rfl) ?_
    refine ian (k / 8) ((k / 8)) Tryz.underlying22 sz5 rfl rfl rfl rfl (by omega) (by omega) (by omega) ?_
    refine ⟨fun h => (by cases h), ?_⟩
    refine dl 14 rfl (by kernel_rfl) ?_
    refine st 0 sz5 hS rfl rfl rfl rfl rfl rfl (by rw [BV_size]; omega) (BV_set _ _ (((gv (ofS bs k) (k / 8)) * 2) + (toU8 (((gi bs k : Nat) : Int))) : UInt8)) ?_
    intro w hS
    refine ⟨fun h => (by cases h), ?_⟩
    refine de (by kernel_rfl) ?_
    refine q_block_norm ?_
    refine wq_then ?_
    refine wc_region ?_
    refine mv rfl rfl rfl ?_
    refine addi (by omega) (by omega) rfl rfl rfl rfl ?_
    refine asg rfl rfl rfl ?_
    refine again_q (k + 1) ⟨rfl, rfl, rfl, lkI rfl (by first | omega | rfl), trivial⟩ ⟨by omega, hS⟩ (by omega)
  · skip
    try simp only [SB] at hc1
    refine wc_exit ?_
    refine q_then_exit ?_
    refine q_then_exit ?_
    refine q_block_hit ?_
    refine wq_then ?_
    refine rg ?_
    refine la 0 ag22 hS rfl rfl rfl rfl (BV_size _) ?_
    refine sa 1 ag22 hS rfl rfl rfl (BV_one _) rfl (BV_size _) (BV_size _) ?_
    intro w hS
    refine wq_then ?_
    refine wc_ret ?_
    refine fin1 (v := .agg (BV (ofS bs k))) rfl ⟨_, rfl, lv_a ag22 (hS.get 1 rfl) (BV_size _)⟩ ?_
    refine ⟨?_, hS.drop⟩
    have hk4 : k = 128 := by omega
    rw [hk4]; rfl
end Go.Proofs.XZ

/- walks -/
namespace Go.Proofs.XZ
open Go Go.X Go.Proofs
set_option maxRecDepth 100000 in
theorem sp_mooringref08_Double (b : V8 16) (w0 : World) : Calls Tryz.prog 97 #[.agg (BV b)] w0 (Ret w0 (.agg (BV (dblB b)))) := by
  refine enter (args := [.agg (BV b)]) Tryz.func97 rfl rfl ?_
  refine startw fun w hS => ?_
  refine rg ?_
  refine bxa hS rfl rfl rfl ?_
  intro b1 w hb1 hS
  refine ala zr22 hS rfl rfl ?_
  intro b2 w hb2 hS
  refine wq_then ?_
  refine rg ?_
  refine a_all Tryz.underlying22 ⟨_, sz5⟩ rfl rfl rfl ?_
  refine cs cf125 hS rfl rfl rfl rfl rfl (sp_mooringref08_Bits ((some ⟨b1, 0, none⟩)) (16) (16) (b.toList) _ Vector.length_toList (by omega) (Cel.bv (hS.get 1 rfl))) ?_
  rintro _ X6 w ⟨a6, c6, rfl, hO6⟩ hS
  have hS := St.tailin (X := X6) hS [(b2, .cells (BV (Vector.replicate 16 0)) 22), (b1, .cells (BV b) 22)] [] rfl
  refine asg rfl rfl rfl ?_
  refine wq_then ?_
  refine rg ?_
  refine mv rfl rfl rfl ?_
  refine s_l (1) Tryz.underlying170 sz3 rfl rfl rfl rfl (by omega) (by omega) ?_
  refine bsl (cs := #[I (0)]) sl170 hS rfl rfl rfl rfl (by kernel_rfl) ?_
  intro b9 w hb9 hS
  refine apptl (A := [(b9, .cells (#[I (0)]) 3), (b2, .cells (BV (Vector.replicate 16 0)) 22), (b1, .cells (BV b) 22)]) (R := []) sl170 hO6 (by omega) hS rfl rfl rfl rfl (srci Tryz.underlying170 _ (show Cel _ _ (ci ([0])) from Cel.cs (hS.get 0 rfl)) rfl (fun h => by cases h)) (by omega) (by omega) ?_
  intro a10 c10 X10 w hs10 hle10 hk10 hS
  refine cv cf126 hS rfl rfl rfl rfl rfl (sp_mooringref08_Of (a10) (((16 * 8) - 1 + 1)) (c10) (((biL b.toList 16).drop 1 ++ ([0]))) _ (by first | (simp; done) | (simp; omega)) (by omega) ((hk10 _ _ _ _ hS (fun p hp => by simp [hp])).1) (by omega)) ?_
  intro w hS
  refine ala zr22 hS rfl rfl ?_
  intro b4 w hb4 hS
  refine sa 0 ag22 hS rfl rfl rfl (BV_one _) rfl (BV_size _) (BV_size _) ?_
  intro w hS
  refine wq_then ?_
  refine wc_seq ?_
  refine rg ?_
  refine mv rfl rfl rfl ?_
  refine slx (0) Tryz.underlying170 sz3 rfl rfl rfl rfl (by omega) (by omega) (((hk10 _ _ _ _ hS (fun p hp => by simp [hp])).2).somei (j := 0) (by first | omega | (simp; done) | (simp; omega))) ?_
  refine ldxi sc3 rfl rfl rfl ((hk10 _ _ _ _ hS (fun p hp => by simp [hp])).2) (by first | omega | (simp; done) | (simp; omega)) ?_
  refine eqi rfl rfl rfl rfl ?_
  refine wq_then ?_
  refine wc_if rfl (fun hc1 => ?_) (fun hc1 => ?_)
  · skip
    try simp only [SB] at hc1
    have hq : gi (biL b.toList 16) 0 = 1 := by omega
    refine wc_region ?_
    refine ian (15) (15) Tryz.underlying22 sz5 rfl rfl rfl rfl (by omega) (by omega) (by omega) ?_
    refine lo 0 sc5 hS rfl rfl rfl rfl (BV_get _ 15 (by omega)) ?_
    refine xor8 (q := (135 : UInt8)) rfl rfl rfl rfl ?_
    refine ian (15) (15) Tryz.underlying22 sz5 rfl rfl rfl rfl (by omega) (by omega) (by omega) ?_
    refine st 0 sz5 hS rfl rfl rfl rfl rfl rfl (by rw [BV_size]; omega) (BV_set _ _ ((gv (ofB ((biL b.toList 16).drop 1 ++ ([0]))) 15) ^^^ 135 : UInt8)) ?_
    intro w hS
    refine wq_then ?_
    refine rg ?_
    refine la 0 ag22 hS rfl rfl rfl rfl (BV_size _) ?_
    refine sa 2 ag22 hS rfl rfl rfl (BV_one _) rfl (BV_size _) (BV_size _) ?_
    intro w hS
    refine wq_then ?_
    refine wc_ret ?_
    refine fin1 (v := .agg (BV ((ofB ((biL b.toList 16).drop 1 ++ ([0]))).setIfInBounds 15 ((gv (ofB ((biL b.toList 16).drop 1 ++ ([0]))) 15) ^^^ 135)))) rfl ⟨_, rfl, lv_a ag22 (hS.get 2 rfl) (BV_size _)⟩ ?_
    refine ⟨?_, hS.drop⟩
    rw [← dbR_eq, dbR, if_pos hq]; rfl
  · skip
    try simp only [SB] at hc1
    have hq : ¬ gi (biL b.toList 16) 0 = 1 := by omega
    refine wc_skip ?_
    refine wq_then ?_
    refine rg ?_
    refine la 0 ag22 hS rfl rfl rfl rfl (BV_size _) ?_
    refine sa 2 ag22 hS rfl rfl rfl (BV_one _) rfl (BV_size _) (BV_size _) ?_
    intro w hS
    refine wq_then ?_
    refine wc_ret ?_
    refine fin1 (v := .agg (BV (ofB ((biL b.toList 16).drop 1 ++ ([0]))))) rfl ⟨_, rfl, lv_a ag22 (hS.get 2 rfl) (BV_size _)⟩ ?_
    refine ⟨?_, hS.drop⟩
    rw [← dbR_eq, dbR, if_neg hq]; rfl
end Go.Proofs.XZ

/- walks -/
namespace Go.Proofs.XZ
open Go Go.X Go.Proofs
set_option maxRecDepth 100000 in
theorem sp_mooringref09_At (s : V8 16) (i : Nat) (i_ : Int) (w0 : World) (hi_ : i_ = (i : Int)) (hi : i ≤ 64) : Calls Tryz.prog 117 #[.agg (BV s), I i_] w0 (Ret w0 (.agg (BV (dbN s (i + 1))))) := by
  subst hi_
  refine enter (args := [.agg (BV s), I (i : Int)]) Tryz.func117 rfl rfl ?_
  refine startw fun w hS => ?_
  refine rg ?_
  refine bxa hS rfl rfl rfl ?_
  intro b2 w hb2 hS
  refine ala zr22 hS rfl rfl ?_
  intro b4 w hb4 hS
  refine wq_then ?_
  refine rg ?_
  refine la 1 ag22 hS rfl rfl rfl rfl (BV_size _) ?_
  refine cv cf97 hS rfl rfl rfl rfl rfl (sp_mooringref08_Double (s) _) ?_
  intro w hS
  refine ala zr22 hS rfl rfl ?_
  intro b5 w hb5 hS
  refine sa 0 ag22 hS rfl rfl rfl (BV_one _) rfl (BV_size _) (BV_size _) ?_
  intro w hS
  refine wq_then ?_
  refine wc_seq ?_
  refine rg ?_
  refine asg rfl rfl rfl ?_
  refine wq_then ?_
  refine wc_block ?_
  refine wc_loop (σ := Nat) (fun k => [(1, I ((i : Int))), (4, Ptr b4 0), (5, Ptr b5 0), (6, I ((k : Int)))])
    (fun k w => (k ≤ i + 1) ∧ St w0 [] [(b5, .cells (BV (dbN s k)) 22), (b4, .cells (BV (Vector.replicate 16 0)) 22), (b2, .cells (BV s) 22)] w) (fun k => i + 1 - k) 0 ⟨rfl, rfl, rfl, rfl, trivial⟩ ⟨by omega, hS⟩ ?_
  rintro k w ⟨hk, hS⟩
  refine wc_seq ?_
  refine rg ?_
  refine mv rfl rfl rfl ?_
  refine mv rfl rfl rfl ?_
  refine leq rfl rfl rfl rfl ?_
  refine wq_then ?_
  refine wc_if rfl (fun hc1 => ?_) (fun hc1 => ?_)
  · skip
    try simp only [SB] at hc1
    refine wc_skip ?_
    refine wq_then ?_
    refine wc_seq ?_
    refine wc_block ?_
    refine wc_region ?_
    refine la 0 ag22 hS rfl rfl rfl rfl (BV_size _) ?_
    refine cv cf97 hS rfl rfl rfl rfl rfl (sp_mooringref08_Double ((dbN s k)) _) ?_
    intro w hS
    refine sa 0 ag22 hS rfl rfl rfl (BV_one _) rfl (BV_size _) (BV_size _) ?_
    intro w hS
    refine q_block_norm ?_
    refine wq_then ?_
    refine wc_region ?_
    refine mv rfl rfl rfl ?_
    refine addi (by omega) (by omega) rfl rfl rfl rfl ?_
    refine asg rfl rfl rfl ?_
    refine again_q (k + 1) ⟨rfl, rfl, rfl, lkI rfl (by first | omega | rfl), trivial⟩ ⟨by omega, hS⟩ (by omega)
  · skip
    try simp only [SB] at hc1
    refine wc_exit ?_
    refine q_then_exit ?_
    refine q_then_exit ?_
    refine q_block_hit ?_
    refine wq_then ?_
    refine rg ?_
    refine la 0 ag22 hS rfl rfl rfl rfl (BV_size _) ?_
    refine sa 1 ag22 hS rfl rfl rfl (BV_one _) rfl (BV_size _) (BV_size _) ?_
    intro w hS
    refine wq_then ?_
    refine wc_ret ?_
    refine fin1 (v := .agg (BV (dbN s k))) rfl ⟨_, rfl, lv_a ag22 (hS.get 1 rfl) (BV_size _)⟩ ?_
    refine ⟨?_, hS.drop⟩
    have hk4 : k = i + 1 := by omega
    rw [hk4]
end Go.Proofs.XZ

/- walks -/
namespace Go.Proofs.XZ
open Go Go.X Go.Proofs
set_option maxRecDepth 100000 in
theorem sp_mooringref09_For (key : V8 16) (q : Nat) (s : V8 16) (x : UInt64) (w0 : World) (hs : s = star key) (hx : x = toU64 ((q : Nat) : Int)) (h0 : 0 < q) (h256 : q < 256) : Calls Tryz.prog 94 #[.agg (BV s), U64 x] w0 (Ret w0 (.agg (BV (forN key (toU64 ((q : Nat) : Int)))))) := by
  refine enter (args := [.agg (BV s), U64 x]) Tryz.func94 rfl rfl ?_
  refine startw fun w hS => ?_
  have hz : zerosN x ≤ 64 := by rw [hx, zr_ctz' q h0 h256]; exact Nat.le_of_lt (ctz_lt _ (toU64_ne q h0 (by omega)))
  refine rg ?_
  refine bxa hS rfl rfl rfl ?_
  intro b2 w hb2 hS
  refine ala zr22 hS rfl rfl ?_
  intro b4 w hb4 hS
  refine wq_then ?_
  refine rd mo 4 (fun w => St w0 [] [(b4, .cells (BV (Vector.replicate 16 0)) 22), (b2, .cells (BV s) 22)] w) ?_
  have hS := hS.drew
  refine dq 0 rfl (by kernel_rfl) (by kernel_rfl) (by kernel_rfl) rfl rfl (fun w hS => la 1 ag22 hS rfl rfl rfl rfl (BV_size _) ⟨rfl, rfl⟩) hS ?_
  refine dq 1 rfl (by kernel_rfl) (by kernel_rfl) (by kernel_rfl) rfl rfl (fun w hS => mv rfl rfl rfl ⟨rfl, rfl⟩) hS ?_
  refine dl 2 rfl (by kernel_rfl) ?_
  refine cv cf118 hS rfl rfl rfl rfl rfl (sp_mooringref01_Zeros (x) _) ?_
  intro w hS
  refine ⟨fun _ => hS, ?_⟩
  refine dl 3 rfl (by kernel_rfl) ?_
  refine cv cf117 hS rfl rfl rfl rfl rfl (sp_mooringref09_At (s) ((zerosN x)) _ _ (by omega) (by omega)) ?_
  intro w hS
  refine ⟨fun _ => hS, ?_⟩
  refine dl 4 rfl (by kernel_rfl) ?_
  refine sa 0 ag22 hS rfl rfl rfl (BV_one _) rfl (BV_size _) (BV_size _) ?_
  intro w hS
  refine ⟨fun h => (by cases h), ?_⟩
  refine de (by kernel_rfl) ?_
  refine wq_then ?_
  refine wc_ret ?_
  refine fin1 (v := .agg (BV (dbN s ((zerosN x) + 1)))) rfl ⟨_, rfl, lv_a ag22 (hS.get 0 rfl) (BV_size _)⟩ ?_
  refine ⟨?_, hS.drop⟩
  subst hs hx
  exact congrArg (fun v => Ending.returned (Value.agg (BV v))) (forR_eq key q h0 h256)
end Go.Proofs.XZ

/- walks -/
namespace Go.Proofs.XZ
open Go Go.X Go.Proofs
set_option maxRecDepth 100000 in
theorem sp_mooringref08_Shift (b : V8 24) (n : Nat) (n_ : Int) (w0 : World) (hn_ : n_ = (n : Int)) (hn : n < 64) : Calls Tryz.prog 113 #[.agg (BV b), I n_] w0 (Ret w0 (.agg (BV (shiftV b n)))) := by
  subst hn_
  refine enter (args := [.agg (BV b), I (n : Int)]) Tryz.func113 rfl rfl ?_
  refine startw fun w hS => ?_
  refine rg ?_
  refine bxa hS rfl rfl rfl ?_
  intro b2 w hb2 hS
  refine ala zr22 hS rfl rfl ?_
  intro b4 w hb4 hS
  refine wq_then ?_
  refine rg ?_
  refine a_all Tryz.underlying151 ⟨_, sz5⟩ rfl rfl rfl ?_
  refine cs cf125 hS rfl rfl rfl rfl rfl (sp_mooringref08_Bits ((some ⟨b2, 0, none⟩)) (24) (24) (b.toList) _ Vector.length_toList (by omega) (Cel.bv (hS.get 1 rfl))) ?_
  rintro _ X7 w ⟨a7, c7, rfl, hO7⟩ hS
  have hS := St.tailin (X := X7) hS [(b4, .cells (BV (Vector.replicate 16 0)) 22), (b2, .cells (BV b) 151)] [] rfl
  have hle7 := hO7.le
  refine asg rfl rfl rfl ?_
  refine wq_then ?_
  refine rg ?_
  refine mv rfl rfl rfl ?_
  refine mv rfl rfl rfl ?_
  refine mv rfl rfl rfl ?_
  refine addi (by omega) (by omega) rfl rfl rfl rfl ?_
  refine s_lh (n) (n + 128) Tryz.underlying170 sz3 rfl rfl rfl rfl rfl (by omega) (by omega) (by omega) (by omega) ?_
  refine cv cf126 hS rfl rfl rfl rfl rfl (sp_mooringref08_Of ((sla a7 n c7)) (((n + 128) - n)) ((c7 - n)) ((((biL b.toList 24).take (n + 128)).drop n)) _ (by first | rfl | omega | (simp; omega) | (simp; done)) (by omega) (((hO7.cel hS (fun p hp => by simp [hp])).takei (n + 128)).dropi (lo := n) (cap := c7) (by first | omega | (simp; omega) | simp)) (by omega)) ?_
  intro w hS
  refine sa 0 ag22 hS rfl rfl rfl (BV_one _) rfl (BV_size _) (BV_size _) ?_
  intro w hS
  refine wq_then ?_
  refine wc_ret ?_
  refine fin1 (v := .agg (BV (ofB (((biL b.toList 24).take (n + 128)).drop n)))) rfl ⟨_, rfl, lv_a ag22 (hS.get 0 rfl) (BV_size _)⟩ ?_
  refine ⟨?_, hS.drop⟩
  rw [← shiftR_eq b n hn]; rfl
end Go.Proofs.XZ

/- walks -/
namespace Go.Proofs.XZ
open Go Go.X Go.Proofs
set_option maxRecDepth 100000 in
theorem sp_mooringref10_Bottom (nonce : V8 12) (w0 : World) : Calls Tryz.prog 116 #[.agg (BV nonce)] w0 (Ret w0 (I ((botN nonce : Nat) : Int))) := by
  refine enter (args := [.agg (BV nonce)]) Tryz.func116 rfl rfl ?_
  refine startw fun w hS => ?_
  refine rg ?_
  refine bxa hS rfl rfl rfl ?_
  intro b1 w hb1 hS
  refine asg rfl rfl rfl ?_
  refine wq_then ?_
  refine rg ?_
  refine ian (11) (11) Tryz.underlying81 sz5 rfl rfl rfl rfl (by omega) (by omega) (by omega) ?_
  refine lo 0 sc5 hS rfl rfl rfl rfl (BV_get _ 11 (by omega)) ?_
  refine cvi Tryz.underlying3 ⟨_, Tryz.underlying5⟩ (by have := (gv nonce 11).toNat_lt; omega) (by have := (gv nonce 11).toNat_lt; omega) rfl rfl rfl ?_
  refine remi (by omega) (by omega) rfl rfl rfl rfl ?_
  refine asg rfl rfl rfl ?_
  refine wq_then ?_
  refine wc_ret ?_
  refine fin1 (v := I (((gv nonce 11).toNat : Int) % 64)) rfl rfl ?_
  refine ⟨?_, hS.drop⟩
  rw [← bot_eq]; rfl
end Go.Proofs.XZ
