/- Part 3 of the ground of this seat's proofs: rules of a calculus of walks, and what the functions of the lower layers compute; no conditions beyond those that each statement bears. -/
import Derived.Test.YtdcophmboncacaaGreatDoorBase2
import Derived.Lib.SlBytesConst
import Derived.Laws.IdiomStrings
import Derived.Laws.BytesArg
import Derived.Laws.StructEq
set_option linter.unusedVariables false
set_option linter.unusedSimpArgs false
set_option linter.unnecessarySimpa false
/- What sealing and opening compute, and that the one undoes the other: plain Lean, no program in sight. -/
namespace Go.X
open Go

/-- the offset behind k blocks -/
def crO (key : V8 16) (nonce : V8 12) : Nat → V8 16
  | 0 => startV key nonce
  | k + 1 => addO key (crO key nonce k) (k + 1)
/-- the checksum of k blocks -/
def crC (bs : List UInt8) : Nat → V8 16
  | 0 => Vector.replicate 16 0
  | k + 1 => xorV (crC bs k) (blk bs k)
def crB (key : V8 16) (nonce : V8 12) (bs : List UInt8) (k : Nat) : V8 16 := xorV (crO key nonce (k + 1)) (enc key (xorV (blk bs k) (crO key nonce (k + 1))))
def crT (key : V8 16) (nonce : V8 12) (bs : List UInt8) : Nat → List UInt8
  | 0 => []
  | k + 1 => crT key nonce bs k ++ (crB key nonce bs k).toList
def deB (key : V8 16) (nonce : V8 12) (bs : List UInt8) (k : Nat) : V8 16 := xorV (crO key nonce (k + 1)) (dec key (xorV (blk bs k) (crO key nonce (k + 1))))
def deT (key : V8 16) (nonce : V8 12) (bs : List UInt8) : Nat → List UInt8
  | 0 => []
  | k + 1 => deT key nonce bs k ++ (deB key nonce bs k).toList
def deC (key : V8 16) (nonce : V8 12) (bs : List UInt8) : Nat → V8 16
  | 0 => Vector.replicate 16 0
  | k + 1 => xorV (deC key nonce bs k) (deB key nonce bs k)
def resL (bs : List UInt8) : List UInt8 := bs.drop (bs.length / 16 * 16)
def lasO (key : V8 16) (nonce : V8 12) (n : Nat) : V8 16 := xorV (crO key nonce (n / 16)) (star key)
/-- what Crypt returns -/
def cryT (key : V8 16) (nonce : V8 12) (bs : List UInt8) : List UInt8 :=
  if (resL bs).length = 0 then crT key nonce bs (bs.length / 16) else crT key nonce bs (bs.length / 16) ++ (xorV (padV (resL bs)) (enc key (lasO key nonce bs.length))).toList.take (resL bs).length
def cryC (bs : List UInt8) : V8 16 := if (resL bs).length = 0 then crC bs (bs.length / 16) else xorV (crC bs (bs.length / 16)) (padV (resL bs))
def cryO (key : V8 16) (nonce : V8 12) (n : Nat) : V8 16 := if n % 16 = 0 then crO key nonce (n / 16) else lasO key nonce n
/-- what Decrypt returns -/
def resP (key : V8 16) (nonce : V8 12) (bs : List UInt8) : List UInt8 := xorb (resL bs) (enc key (lasO key nonce bs.length)).toList
def decT (key : V8 16) (nonce : V8 12) (bs : List UInt8) : List UInt8 :=
  if (resL bs).length = 0 then deT key nonce bs (bs.length / 16) else deT key nonce bs (bs.length / 16) ++ resP key nonce bs
def decC (key : V8 16) (nonce : V8 12) (bs : List UInt8) : V8 16 :=
  if (resL bs).length = 0 then deC key nonce bs (bs.length / 16) else xorV (deC key nonce bs (bs.length / 16)) (padV (resP key nonce bs))
def sealV (key : V8 16) (nonce : V8 12) (data bs : List UInt8) : List UInt8 := cryT key nonce bs ++ (tagV key (cryC bs) (cryO key nonce bs.length) data).toList
/-- the code of Open's error -/
def opnE (key : V8 16) (nonce : V8 12) (data bs : List UInt8) : Nat :=
  if bs.length < 16 then 1 else
    if eqB (tagV key (decC key nonce (bs.take (bs.length - 16))) (cryO key nonce (bs.length - 16)) data).toList (bs.drop (bs.length - 16)) then 0 else 3
def opnT (key : V8 16) (nonce : V8 12) (bs : List UInt8) : List UInt8 := decT key nonce (bs.take (bs.length - 16))

/-! lengths -/
theorem resL_len (bs : List UInt8) : (resL bs).length = bs.length % 16 := by simp [resL]; omega
@[simp] theorem crT_len (key : V8 16) (nonce : V8 12) (bs : List UInt8) (k : Nat) : (crT key nonce bs k).length = k * 16 := by
  induction k with
  | zero => rfl
  | succ k ih => simp [crT, ih]; omega
@[simp] theorem deT_len (key : V8 16) (nonce : V8 12) (bs : List UInt8) (k : Nat) : (deT key nonce bs k).length = k * 16 := by
  induction k with
  | zero => rfl
  | succ k ih => simp [deT, ih]; omega
@[simp] theorem cryT_len (key : V8 16) (nonce : V8 12) (bs : List UInt8) : (cryT key nonce bs).length = bs.length := by
  simp only [cryT]
  have := resL_len bs
  split
  · rw [crT_len]; omega
  · simp; omega
@[simp] theorem decT_len (key : V8 16) (nonce : V8 12) (bs : List UInt8) : (decT key nonce bs).length = bs.length := by
  simp only [decT]
  have := resL_len bs
  split
  · rw [deT_len]; omega
  · simp [resP, xorb_len]; omega
@[simp] theorem sealV_len (key : V8 16) (nonce : V8 12) (data bs : List UInt8) : (sealV key nonce data bs).length = bs.length + 16 := by simp [sealV]

/-! there and back -/
theorem xorV_get (a b : V8 16) (i : Nat) (h : i < 16) : gv (xorV a b) i = gv a i ^^^ gv b i := by rw [xorV, gv_ofFn _ _ h]
theorem v_ext {n : Nat} {a b : V8 n} (h : ∀ i, i < n → gv a i = gv b i) : a = b := by
  apply Vector.ext; intro i hi
  rw [← gv_eq _ _ hi, ← gv_eq _ _ hi]; exact h i hi
theorem xorV_cancel (a b : V8 16) : xorV (xorV a b) a = b := by
  apply v_ext; intro i h
  rw [xorV_get _ _ _ h, xorV_get _ _ _ h, UInt8.xor_comm (gv a i), UInt8.xor_assoc, UInt8.xor_self, UInt8.xor_zero]
theorem xorV_comm (a b : V8 16) : xorV a b = xorV b a := by
  apply v_ext; intro i h
  rw [xorV_get _ _ _ h, xorV_get _ _ _ h, UInt8.xor_comm]
theorem xorV_cancel2 (a b : V8 16) : xorV a (xorV b a) = b := by
  rw [xorV_comm, xorV_comm b, xorV_cancel]
theorem blk_app (x : List UInt8) (v : V8 16) (y : List UInt8) (k : Nat) (h : x.length = k * 16) : blk (x ++ v.toList ++ y) k = v := by
  rw [blk, List.append_assoc, ← h, List.drop_left]
  apply v_ext; intro i hi
  rw [gv_ofl _ _ _ hi, gl_app_lt (by simpa using hi)]
  simp [gl, gv]
theorem blk_crT (key : V8 16) (nonce : V8 12) (bs : List UInt8) (k m : Nat) (h : k < m) (y : List UInt8) : blk (crT key nonce bs m ++ y) k = crB key nonce bs k := by
  induction m generalizing y with
  | zero => omega
  | succ m ih =>
    by_cases e : k = m
    · subst e; rw [crT]; exact blk_app _ _ _ _ (crT_len ..)
    · rw [crT, List.append_assoc]; exact ih (by omega) _
theorem deB_crT (key : V8 16) (nonce : V8 12) (bs : List UInt8) (k m : Nat) (h : k < m) (y : List UInt8) : deB key nonce (crT key nonce bs m ++ y) k = blk bs k := by
  rw [deB, blk_crT _ _ _ _ _ h, crB, xorV_cancel, dec_enc, xorV_cancel2]
theorem blk_list (bs : List UInt8) (k : Nat) (h : k * 16 + 16 ≤ bs.length) : (blk bs k).toList = (bs.drop (k * 16)).take 16 := by
  apply List.ext_getElem?; intro i
  by_cases hi : i < 16
  · have e : k * 16 + i < bs.length := by omega
    simp [blk, ofl, hi, gl, e]
  · rw [List.getElem?_eq_none (by simp; omega), List.getElem?_eq_none (by simp; omega)]
theorem deT_crT (key : V8 16) (nonce : V8 12) (bs : List UInt8) (m : Nat) (y : List UInt8) (hm : m * 16 ≤ bs.length) : ∀ k, k ≤ m → deT key nonce (crT key nonce bs m ++ y) k = bs.take (k * 16)
  | 0, _ => by simp [deT]
  | k + 1, hk => by
    rw [deT, deT_crT key nonce bs m y hm k (by omega), deB_crT _ _ _ _ _ (by omega), blk_list _ _ (by omega)]
    have e : (k + 1) * 16 = k * 16 + 16 := by omega
    rw [e, List.take_add]
theorem deC_crT (key : V8 16) (nonce : V8 12) (bs : List UInt8) (m : Nat) (y : List UInt8) : ∀ k, k ≤ m → deC key nonce (crT key nonce bs m ++ y) k = crC bs k
  | 0, _ => rfl
  | k + 1, hk => by rw [deC, crC, deC_crT key nonce bs m y k (by omega), deB_crT _ _ _ _ _ (by omega)]
theorem padV_get (bs : List UInt8) (i : Nat) (h : i < bs.length) (h2 : bs.length < 16) : gv (padV bs) i = gl bs i := by
  have h3 : i < 16 := by omega
  rw [padV, gv_eq _ _ h3, Vector.getElem_setIfInBounds h3, if_neg (by omega), ofl_get]
theorem l_ext {a b : List UInt8} (h : a.length = b.length) (h2 : ∀ i, i < a.length → gl a i = gl b i) : a = b := by
  apply List.ext_getElem h; intro i h3 h4
  have := h2 i h3
  simpa [gl, h3, h4] using this
theorem gl_toList {n : Nat} (v : V8 n) (i : Nat) : gl v.toList i = gv v i := by simp [gl, gv]
theorem gl_xorb (a b : List UInt8) (i : Nat) (h : i < a.length) (h2 : i < b.length) : gl (xorb a b) i = gl a i ^^^ gl b i := by
  have : i < min a.length b.length := by omega
  simp [gl, xorb, this, h, h2]
theorem rest_back (r : List UInt8) (p : V8 16) (h : r.length < 16) : xorb ((xorV (padV r) p).toList.take r.length) p.toList = r := by
  apply l_ext
  · rw [xorb_len]; simp; omega
  · intro i hi
    rw [xorb_len] at hi
    simp at hi
    rw [gl_xorb _ _ _ (by simp; omega) (by simp; omega), gl_take (by omega), gl_toList, gl_toList, xorV_get _ _ _ (by omega), padV_get _ _ (by omega) h, UInt8.xor_assoc, UInt8.xor_self, UInt8.xor_zero]
theorem resL_cryT (key : V8 16) (nonce : V8 12) (bs : List UInt8) : resL (cryT key nonce bs) = (cryT key nonce bs).drop (bs.length / 16 * 16) := by rw [resL, cryT_len]
theorem resL_0 {bs : List UInt8} (h : (resL bs).length = 0) : bs.take (bs.length / 16 * 16) = bs := by
  rw [resL_len] at h
  exact List.take_of_length_le (by omega)
theorem dec_cry (key : V8 16) (nonce : V8 12) (bs : List UInt8) : decT key nonce (cryT key nonce bs) = bs ∧ decC key nonce (cryT key nonce bs) = cryC bs := by
  have hl := cryT_len key nonce bs
  have h1 := resL_len bs
  have h2 : (resL (cryT key nonce bs)).length = bs.length % 16 := by rw [resL_len, hl]
  by_cases h : (resL bs).length = 0
  · have e : cryT key nonce bs = crT key nonce bs (bs.length / 16) ++ [] := by rw [cryT, if_pos h, List.append_nil]
    rw [decT, decC, cryC, if_pos (by omega), if_pos (by omega), if_pos h, hl, e]
    refine ⟨?_, deC_crT _ _ _ _ _ _ (Nat.le_refl _)⟩
    rw [deT_crT _ _ _ _ _ (by omega) _ (Nat.le_refl _), resL_0 h]
  · have e : cryT key nonce bs = crT key nonce bs (bs.length / 16) ++ (xorV (padV (resL bs)) (enc key (lasO key nonce bs.length))).toList.take (resL bs).length := by rw [cryT, if_neg h]
    have er : resL (cryT key nonce bs) = (xorV (padV (resL bs)) (enc key (lasO key nonce bs.length))).toList.take (resL bs).length := by
      rw [resL_cryT, e]; exact List.drop_left' (crT_len ..)
    have ep : resP key nonce (cryT key nonce bs) = resL bs := by
      rw [resP, er, hl]; exact rest_back _ _ (by omega)
    rw [decT, decC, cryC, if_neg (by omega), if_neg (by omega), if_neg h, ep, hl, e, deC_crT _ _ _ _ _ _ (Nat.le_refl _), deT_crT _ _ _ _ _ (by omega) _ (Nat.le_refl _)]
    exact ⟨List.take_append_drop _ _, rfl⟩
theorem orl_xorb_self (a : List UInt8) : orl (xorb a a) = 0 := by
  have h : ∀ l : List UInt8, (∀ x ∈ l, x = 0) → ∀ o : UInt8, l.foldl (· ||| ·) o = o := by
    intro l
    induction l with
    | nil => intro _ o; rfl
    | cons x r ih =>
      intro h o
      rw [List.foldl_cons, h x (by simp), UInt8.or_zero]
      exact ih (fun y hy => h y (by simp [hy])) o
  refine h _ ?_ 0
  intro x hx
  simp [xorb] at hx
  obtain ⟨i, hi, rfl⟩ := hx
  rfl
theorem eqB_self (a : List UInt8) : eqB a a = true := by rw [eqB, if_pos (orl_xorb_self a)]; simp
theorem opn_seal (key : V8 16) (nonce : V8 12) (data bs : List UInt8) : opnE key nonce data (sealV key nonce data bs) = 0 ∧ opnT key nonce (sealV key nonce data bs) = bs := by
  have hl := sealV_len key nonce data bs
  have hn : (sealV key nonce data bs).length - 16 = bs.length := by omega
  have e1 : (sealV key nonce data bs).take bs.length = cryT key nonce bs := by rw [sealV]; exact List.take_left' (cryT_len ..)
  have e2 : (sealV key nonce data bs).drop bs.length = (tagV key (cryC bs) (cryO key nonce bs.length) data).toList := by rw [sealV]; exact List.drop_left' (cryT_len ..)
  have h := dec_cry key nonce bs
  rw [opnE, opnT, if_neg (by omega), hn, e1, e2, h.1, h.2, eqB_self]
  exact ⟨by simp, rfl⟩
end Go.X

/- Calls that turn blocks of their caller; what Crypt, Decrypt, Seal, Open return, as the walks meet it. -/
namespace Go.X
open Go

section
variable {w0 w w' : World} {F : List Nat} {L L' M R A X X' : List (Nat × Obj)}
/-- the blocks M of a call's own were handed to a callee, who turned them -/
theorem St.callG (h : St w0 F L w) (hp : L.Perm (M ++ R)) (hc : St w (M.map Prod.fst) L' w') : St w0 F (L' ++ R) w' := by
  have h1 := h.perm hp.symm
  have hnd := h1.nodup
  rw [List.map_append, List.nodup_append] at hnd
  refine (h1.sublist (List.sublist_append_right M R)).call hc (fun p hp hg => ?_) (fun g hg => ?_) (fun p hp => (hc.own p hp).1)
  · exact hnd.2.2 _ hg _ (List.mem_map.2 ⟨p, hp, rfl⟩) rfl
  · obtain ⟨q, hq, rfl⟩ := List.mem_map.1 hg
    exact (h1.own q (List.mem_append_left R hq)).1
theorem perm_out {i b : Nat} {o : Obj} (hi : A[i]? = some (b, o)) : (A ++ (X ++ R)).Perm (((b, o) :: X) ++ (A.eraseIdx i ++ R)) := by
  have hlt : i < A.length := (List.getElem?_eq_some_iff.1 hi).1
  have he : A[i] = (b, o) := (List.getElem?_eq_some_iff.1 hi).2
  have h1 : A.Perm ((b, o) :: A.eraseIdx i) := by
    rw [List.eraseIdx_eq_take_drop_succ]
    have h3 : A = A.take i ++ (b, o) :: A.drop (i + 1) := by rw [← he, List.getElem_cons_drop hlt, List.take_append_drop]
    refine List.Perm.trans ?_ List.perm_middle
    rw [← h3]
  refine (List.Perm.append_right _ h1).trans ?_
  simp only [List.cons_append]
  refine List.Perm.cons _ ?_
  rw [← List.append_assoc, ← List.append_assoc]
  exact List.Perm.append_right _ List.perm_append_comm
theorem perm_in {i b : Nat} {o o' : Obj} (hi : A[i]? = some (b, o)) : (((b, o') :: X') ++ (A.eraseIdx i ++ R)).Perm (A.set i (b, o') ++ (X' ++ R)) := by
  have hlt : i < A.length := (List.getElem?_eq_some_iff.1 hi).1
  have h := perm_out (A := A.set i (b, o')) (X := X') (R := R) (i := i) (b := b) (o := o') (by simp [hlt])
  have e : (A.set i (b, o')).eraseIdx i = A.eraseIdx i := by
    rw [List.eraseIdx_eq_take_drop_succ, List.eraseIdx_eq_take_drop_succ, List.set_eq_take_append_cons_drop, if_pos hlt]
    have hl : (A.take i).length = i := by simp; omega
    congr 1
    · rw [List.take_append_of_le_length (by omega), List.take_of_length_le (by omega)]
    · rw [List.drop_append, hl]
      have : i + 1 - i = 0 + 1 := by omega
      rw [this, List.drop_of_length_le (by omega)]
      simp
  rw [e] at h
  exact h.symm
/-- a cell that holds a slice of one's own, and the slice's block, were handed out -/
theorem St.call_out {i b : Nat} {o o' : Obj} (h : St w0 F (A ++ (X ++ R)) w) (hi : A[i]? = some (b, o)) (hc : St w (b :: X.map Prod.fst) ((b, o') :: (X' ++ [])) w') : St w0 F (A.set i (b, o') ++ (X' ++ R)) w' := by
  have := h.callG (M := (b, o) :: X) (perm_out hi) hc
  refine this.perm ?_
  have h2 := perm_in (A := A) (X' := X') (R := R) (o := o) (o' := o') hi
  simp only [List.append_nil, List.cons_append] at h2 ⊢
  exact h2.symm
theorem St.nd {i b : Nat} {o : Obj} (h : St w0 F (A ++ (X ++ R)) w) (hi : A[i]? = some (b, o)) : (b :: X.map Prod.fst).Nodup := by
  have h1 := (h.perm (perm_out hi).symm).nodup
  rw [List.map_append, List.nodup_append] at h1
  exact h1.1
/-- two such cells -/
theorem perm_out2 {i j b c : Nat} {o u : Obj} (hi : A[i]? = some (b, o)) (hj : (A.eraseIdx i)[j]? = some (c, u)) : (A ++ (X ++ R)).Perm (((b, o) :: (c, u) :: X) ++ ((A.eraseIdx i).eraseIdx j ++ R)) := by
  refine (perm_out hi).trans ?_
  simp only [List.cons_append]
  refine List.Perm.cons _ ?_
  have h := perm_out (X := X) (R := R) hj
  refine List.Perm.trans ?_ h
  rw [← List.append_assoc, ← List.append_assoc]
  exact List.Perm.append_right _ List.perm_append_comm
theorem St.call_out2 {A2 : List (Nat × Obj)} {i j b c : Nat} {o o' u u' : Obj} (h : St w0 F (A ++ (X ++ R)) w) (hi : A[i]? = some (b, o)) (hj : (A.eraseIdx i)[j]? = some (c, u)) (hi2 : A2[i]? = some (b, o')) (hj2 : (A2.eraseIdx i)[j]? = some (c, u')) (hr : (A2.eraseIdx i).eraseIdx j = (A.eraseIdx i).eraseIdx j)
    (hc : St w (b :: c :: X.map Prod.fst) ((b, o') :: (c, u') :: (X' ++ [])) w') : St w0 F (A2 ++ (X' ++ R)) w' := by
  have := h.callG (M := (b, o) :: (c, u) :: X) (perm_out2 hi hj) hc
  refine this.perm ((perm_out2 hi2 hj2).trans ?_)
  rw [hr]
  simp
theorem St.same2 {p q r : Nat × Obj} (h : St w0 (q.1 :: r.1 :: X.map Prod.fst) ([p, q, r] ++ (X ++ [])) w) (hq : w0.heap[q.1]? = some q.2) (hr : w0.heap[r.1]? = some r.2) (hX : ∀ p ∈ X, w0.heap[p.1]? = some p.2) : St w0 [] [p] w := by
  have hw : ∀ s ∈ q :: r :: X, w0.heap[s.1]? = some s.2 ∧ w.heap[s.1]? = some s.2 := by
    intro s hs
    refine ⟨?_, (h.own s (by simp at hs ⊢; exact .inr hs)).2⟩
    rcases List.mem_cons.1 hs with rfl | hs
    · exact hq
    rcases List.mem_cons.1 hs with rfl | hs
    · exact hr
    · exact hX s hs
  have hp := h.own p (by simp)
  have hnd := h.nodup
  refine ⟨h.os, h.tape, h.output, h.size, fun k hk _ => ?_, fun s hs => ?_, by simp⟩
  · by_cases hF : k ∈ q.1 :: r.1 :: X.map Prod.fst
    · have : k ∈ (q :: r :: X).map Prod.fst := by simpa using hF
      obtain ⟨s, hs, rfl⟩ := List.mem_map.1 this
      rw [(hw s hs).1, (hw s hs).2]
    · exact h.frame k hk hF
  · have : s = p := by simpa using hs
    subst this
    refine ⟨.inr ?_, hp.2⟩
    rcases hp.1 with hm | hm
    · simp only [List.cons_append, List.nil_append, List.append_nil, List.map_cons, List.nodup_cons] at hnd
      exact absurd hm (by simpa using hnd.1)
    · exact hm
theorem St.nd2 {i j b c : Nat} {o u : Obj} (h : St w0 F (A ++ (X ++ R)) w) (hi : A[i]? = some (b, o)) (hj : (A.eraseIdx i)[j]? = some (c, u)) : (b :: c :: X.map Prod.fst).Nodup := by
  have h1 := (h.perm (perm_out2 hi hj).symm).nodup
  rw [List.map_append, List.nodup_append] at h1
  exact h1.1
end

section
variable {key : V8 16} {nonce : V8 12} {bs : List UInt8} {n c : Nat} {a : Option Addr} {X : List (Nat × Obj)}
theorem cry_z1 (hn : bs.length = n) (hz : n / 16 * 16 = n) : (.tuple #[.slice a (n / 16 * 16) c, .agg (BV (crC bs (n / 16))), .agg (BV (crO key nonce (n / 16)))] : Value) = .tuple #[.slice a n c, .agg (BV (cryC bs)), .agg (BV (cryO key nonce n))] := by
  rw [cryC, if_pos (by rw [resL_len]; omega), cryO, if_pos (by omega), hz, hn]
theorem cry_z2 (hn : bs.length = n) (hz : n / 16 * 16 = n) (h : Own 1 a (n / 16 * 16) c (c8 (crT key nonce bs (n / 16))) X) : Own 1 a n c (c8 (cryT key nonce bs)) X := by
  rw [cryT, if_pos (by rw [resL_len]; omega), hn]; rw [hz] at h; exact h
theorem cry_r1 (hn : bs.length = n) (hz : ¬ n / 16 * 16 = n) (m : Nat) (hm : m = n) : (.tuple #[.slice a m c, .agg (BV (xorV (crC bs (n / 16)) (padV (bs.drop (n / 16 * 16))))), .agg (BV (xorV (crO key nonce (n / 16)) (star key)))] : Value) = .tuple #[.slice a n c, .agg (BV (cryC bs)), .agg (BV (cryO key nonce n))] := by
  rw [cryC, if_neg (by rw [resL_len]; omega), cryO, if_neg (by omega), hm, resL, hn]; rfl
theorem cry_r2 (hn : bs.length = n) (hz : ¬ n / 16 * 16 = n) (m : Nat) (hm : m = n) (h : Own 1 a m c (c8 (crT key nonce bs (n / 16) ++ (xorV (padV (bs.drop (n / 16 * 16))) (enc key (xorV (crO key nonce (n / 16)) (star key)))).toList.take (n - n / 16 * 16))) X) : Own 1 a n c (c8 (cryT key nonce bs)) X := by
  subst hm
  rw [cryT, if_neg (by rw [resL_len]; omega), resL_len, resL, hn]
  have e : m - m / 16 * 16 = m % 16 := by omega
  rw [e] at h; exact h
theorem dec_z1 (hn : bs.length = n) (hz : n / 16 * 16 = n) : (.tuple #[.slice a (n / 16 * 16) c, .agg (BV (deC key nonce bs (n / 16))), .agg (BV (crO key nonce (n / 16)))] : Value) = .tuple #[.slice a n c, .agg (BV (decC key nonce bs)), .agg (BV (cryO key nonce n))] := by
  rw [decC, if_pos (by rw [resL_len]; omega), cryO, if_pos (by omega), hz, hn]
theorem dec_z2 (hn : bs.length = n) (hz : n / 16 * 16 = n) (h : Own 1 a (n / 16 * 16) c (c8 (deT key nonce bs (n / 16))) X) : Own 1 a n c (c8 (decT key nonce bs)) X := by
  rw [decT, if_pos (by rw [resL_len]; omega), hn]; rw [hz] at h; exact h
theorem dec_r1 (hn : bs.length = n) (hz : ¬ n / 16 * 16 = n) (m : Nat) (hm : m = n) : (.tuple #[.slice a m c, .agg (BV (xorV (deC key nonce bs (n / 16)) (padV (xorb (bs.drop (n / 16 * 16)) (enc key (xorV (crO key nonce (n / 16)) (star key))).toList)))), .agg (BV (xorV (crO key nonce (n / 16)) (star key)))] : Value) = .tuple #[.slice a n c, .agg (BV (decC key nonce bs)), .agg (BV (cryO key nonce n))] := by
  rw [decC, if_neg (by rw [resL_len]; omega), cryO, if_neg (by omega), hm, resP, resL, hn]; rfl
theorem dec_r2 (hn : bs.length = n) (hz : ¬ n / 16 * 16 = n) (m : Nat) (hm : m = n) (h : Own 1 a m c (c8 (deT key nonce bs (n / 16) ++ xorb (bs.drop (n / 16 * 16)) (enc key (xorV (crO key nonce (n / 16)) (star key))).toList)) X) : Own 1 a n c (c8 (decT key nonce bs)) X := by
  subst hm
  rw [decT, if_neg (by rw [resL_len]; omega), resP, resL, hn]; exact h
variable {data : List UInt8} {C : Nat}
theorem opnE_s (hn : bs.length = n) (h : n < 16) : opnE key nonce data bs = 1 := by rw [opnE, if_pos (by omega)]
theorem opnE_f (hn : bs.length = n) (h : ¬ n < 16) (he : eqB (tagV key (decC key nonce (bs.take (n - 16))) (cryO key nonce (n - 16)) data).toList (bs.drop (n - 16)) = false) : opnE key nonce data bs = 3 := by
  subst hn; rw [opnE, if_neg h, he]; rfl
theorem opnE_t (hn : bs.length = n) (h : ¬ n < 16) (he : eqB (tagV key (decC key nonce (bs.take (n - 16))) (cryO key nonce (n - 16)) data).toList (bs.drop (n - 16)) = true) : opnE key nonce data bs = 0 := by
  subst hn; rw [opnE, if_neg h, he]; rfl
theorem opn_e {e : Nat} (h0 : e ≠ 0) (he : opnE key nonce data bs = e) : (.tuple #[.slice none 0 0, .iface C (I (e : Int))] : Value) = .tuple #[.slice none 0 0, errV C (opnE key nonce data bs)] := by rw [he, errV_s C e h0]
theorem opn_o {e : Nat} (h0 : e ≠ 0) (he : opnE key nonce data bs = e) : Own 1 none 0 0 (c8 (if opnE key nonce data bs = 0 then opnT key nonce bs else [])) [] := by rw [he, if_neg h0]; exact Own.nil 1
theorem opn_e0 {m c : Nat} (he : opnE key nonce data bs = 0) : (.tuple #[.slice a m c, .nilIface] : Value) = .tuple #[.slice a m c, errV C (opnE key nonce data bs)] := by rw [he, errV_0]
theorem opn_o0 {m c : Nat} (hn : bs.length = n) (he : opnE key nonce data bs = 0) (h : Own 1 a m c (c8 (decT key nonce (bs.take (n - 16)))) X) : Own 1 a m c (c8 (if opnE key nonce data bs = 0 then opnT key nonce bs else [])) X := by
  rw [he, if_pos rfl, opnT, hn]; exact h
end
def sumN (f : Nat → Nat) : Nat → Nat
  | 0 => 0
  | k + 1 => sumN f k + f k
def catN (f : Nat → List UInt8) : Nat → List UInt8
  | 0 => []
  | k + 1 => catN f k ++ f k
def two {α : Type} (x y : α) (k : Nat) : α := if k = 0 then x else y
theorem two_0 {α : Type} (x y : α) : two x y 0 = x := rfl
theorem two_1 {α : Type} (x y : α) : two x y 1 = y := rfl
theorem two_all {α : Type} {p : α → Prop} {x y : α} (hx : p x) (hy : p y) (k : Nat) : p (two x y k) := by unfold two; split <;> assumption
end Go.X

/- What Encode and Decode return: plain Lean. -/
namespace Go.X
open Go

theorem chk_0 {d : Int} {s : UInt64} {n : Nat} (h : chk d s n = 0) : (∃ dn : Nat, d = (dn : Int) ∧ dn ≤ 1) ∧ s.toNat ≤ 9223372036854775807 ∧ n ≤ 1200 := by
  simp only [chk] at h
  split at h
  · cases h
  split at h
  · cases h
  split at h
  · cases h
  exact ⟨⟨d.toNat, by omega, by omega⟩, by omega, by omega⟩
def tmV (t e : UInt16) : UInt64 := shl64 (toU64 (t.toNat : Int)) 16 ||| toU64 (e.toNat : Int)
def encV (key : V8 16) (d : Nat) (s : UInt64) (t e : UInt16) (bs : List UInt8) : List UInt8 :=
  (headV d s).toList ++ sealV key (nonceV (headV d s)) [] (bytesL (tmV t e) 4 ++ bs)
def encP (key : V8 16) (d : Int) (s : UInt64) (t e : UInt16) (bs : List UInt8) : List UInt8 := if chk d s bs.length = 0 then encV key d.toNat s t e bs else []
@[simp] theorem encV_len (key : V8 16) (d : Nat) (s : UInt64) (t e : UInt16) (bs : List UInt8) : (encV key d s t e bs).length = bs.length + 28 := by simp [encV]; omega
/-- the code of Decode's error -/
def dcdE (key : V8 16) (bs : List UInt8) : Nat := if lng bs.length ≠ 0 then lng bs.length else opnE key (nonceV (ofl 8 bs)) [] (bs.drop 8)
def dcdX (key : V8 16) (bs : List UInt8) : List UInt8 := opnT key (nonceV (ofl 8 bs)) (bs.drop 8)
def dcdD (key : V8 16) (bs : List UInt8) : Nat := if dcdE key bs = 0 then headD bs else 0
def dcdS (key : V8 16) (bs : List UInt8) : UInt64 := if dcdE key bs = 0 then headS bs else 0
def dcdT (key : V8 16) (bs : List UInt8) : UInt16 := if dcdE key bs = 0 then toU16 ((shr64 (number ((dcdX key bs).take 4)) 16).toNat : Int) else 0
def dcdM (key : V8 16) (bs : List UInt8) : UInt16 := if dcdE key bs = 0 then toU16 ((number ((dcdX key bs).take 4)).toNat : Int) else 0
def dcdP (key : V8 16) (bs : List UInt8) : List UInt8 := if dcdE key bs = 0 then (dcdX key bs).drop 4 else []
/-- bytes can be read there, as long as the blocks X stand -/
def Rd (a : Option Addr) (bs : List UInt8) (X : List (Nat × Obj)) : Prop := ∀ (w0 : World) (F : List Nat) (L : List (Nat × Obj)) (w : World), St w0 F L w → (∀ p ∈ X, p ∈ L) → Cel w a (c8 bs)
theorem opnT_len (key : V8 16) (nonce : V8 12) (bs : List UInt8) : (opnT key nonce bs).length = bs.length - 16 := by simp [opnT]
theorem dcdX_len (key : V8 16) (bs : List UInt8) : (dcdX key bs).length = bs.length - 24 := by simp [dcdX, opnT_len]; omega

section
variable {key : V8 16} {d : Int} {dn : Nat} {s : UInt64} {t e : UInt16} {bs : List UInt8} {n m c C : Nat} {a : Option Addr} {X : List (Nat × Obj)}
theorem enc_bad (hn : bs.length = n) (h : chk d s n ≠ 0) : Own 1 none 0 0 (c8 (encP key d s t e bs)) [] := by rw [encP, hn, if_neg h]; exact Own.nil 1
theorem enc_ok (hn : bs.length = n) (h : chk d s n = 0) (hd : d = (dn : Int)) (ho : Own 1 a m c (c8 ((headV dn s).toList ++ sealV key (nonceV (headV dn s)) [] (bytesL (tmV t e) 4 ++ bs))) X) : Own 1 a m c (c8 (encP key d s t e bs)) X := by
  rw [encP, hn, if_pos h, hd]; exact ho
theorem enc_e0 (h : chk d s n = 0) : (.tuple #[.slice a m c, .nilIface] : Value) = .tuple #[.slice a m c, errV C (chk d s n)] := by rw [h, errV_0]
def pkV (D : Nat) (S : UInt64) (T M : UInt16) (a : Option Addr) (n c : Nat) : Value := .agg #[I (D : Int), U64 S, U16 T, U16 M, .slice a n c]
/-- what Decode returns -/
def DecR (key : V8 16) (bs : List UInt8) (C : Nat) (v : Value) (X : List (Nat × Obj)) : Prop :=
  ∃ a n c, v = .tuple #[.agg #[I ((dcdD key bs : Nat) : Int), U64 (dcdS key bs), U16 (dcdT key bs), U16 (dcdM key bs), .slice a n c], errV C (dcdE key bs)] ∧ (dcdP key bs).length = n ∧ n ≤ 1000000 ∧ n ≤ c ∧ Rd a (dcdP key bs) X
theorem dec_bad (h : dcdE key bs ≠ 0) : DecR key bs C (.tuple #[.agg #[I 0, U64 0, U16 0, U16 0, .slice none 0 0], errV C (dcdE key bs)]) [] :=
  ⟨none, 0, 0, by rw [dcdD, dcdS, dcdT, dcdM, if_neg h, if_neg h, if_neg h, if_neg h]; rfl, by rw [dcdP, if_neg h]; rfl, by omega, by omega, fun _ _ _ w _ _ => by rw [dcdP, if_neg h]; exact Cel.nil w none⟩
theorem dec_ok (h : dcdE key bs = 0) (hN : bs.length ≤ 1000000) (hm : (dcdX key bs).length = m) (h4 : 4 ≤ m) (hO : Own 1 a m c (c8 (dcdX key bs)) X) :
    DecR key bs C (.tuple #[.agg #[I ((headD bs : Nat) : Int), U64 (headS bs), U16 (toU16 ((shr64 (number ((dcdX key bs).take 4)) 16).toNat : Int)), U16 (toU16 ((number ((dcdX key bs).take 4)).toNat : Int)), .slice (sla a 4 c) (m - 4) (c - 4)], .nilIface]) X :=
  ⟨_, _, _, by rw [dcdD, dcdS, dcdT, dcdM, if_pos h, if_pos h, if_pos h, if_pos h, h, errV_0], by rw [dcdP, if_pos h, List.length_drop, hm], by rw [dcdX_len] at hm; omega, by have := hO.le; omega,
    fun _ _ _ w hS hX => by rw [dcdP, if_pos h]; exact (hO.cel hS hX).drop8 (lo := 4) (cap := c) (by have := hO.le; omega)⟩
theorem dcdE_1 (hn : bs.length = n) (h : lng n ≠ 0) : dcdE key bs = lng n := by rw [dcdE, hn, if_pos h]
theorem dcdE_2 (hn : bs.length = n) (h : lng n = 0) : dcdE key bs = opnE key (nonceV (ofl 8 bs)) [] (bs.drop 8) := by rw [dcdE, hn, if_neg (by omega)]
end
end Go.X

/- Packets there and back; heads; comparing packets: plain Lean, no program in sight. -/
namespace Go.X
open Go

/-! numbers in bytes -/
def valN (l : List UInt8) : Nat := l.foldl (fun x c => x * 256 + c.toNat) 0
theorem num_step (x : UInt64) (y : Nat) (c : UInt8) (h : x.toNat = y) (hy : y < 256 ^ 7) : (shl64 x 8 ||| toU64 (c.toNat : Int)).toNat = y * 256 + c.toNat := by
  have hc := c.toNat_lt
  have e1 : (toU64 (c.toNat : Int)).toNat = c.toNat := by simp only [toU64, UInt64.toNat_ofNat']; omega
  have e2 : (shl64 x 8).toNat = y * 2 ^ 8 := by
    simp only [shl64, UInt64.toNat_ofNat', h]
    exact Nat.mod_eq_of_lt (by omega)
  rw [UInt64.toNat_or, e1, e2, or_add _ _ 8 (by omega)]
theorem num2_step (x : UInt64) (y : Nat) (c : UInt8) (h : x.toNat = y) (hy : y < 256 ^ 7) : (x * 256 + toU64 (c.toNat : Int)).toNat = y * 256 + c.toNat := by
  have hc := c.toNat_lt
  have e1 : (toU64 (c.toNat : Int)).toNat = c.toNat := by simp only [toU64, UInt64.toNat_ofNat']; omega
  rw [UInt64.toNat_add, UInt64.toNat_mul, e1, h]
  have : (256 : UInt64).toNat = 256 := rfl
  rw [this]; omega
theorem fold_nat (f : UInt64 → UInt8 → UInt64) (hf : ∀ (x : UInt64) (y : Nat) (c : UInt8), x.toNat = y → y < 256 ^ 7 → (f x c).toNat = y * 256 + c.toNat) :
    ∀ (l : List UInt8) (k : Nat) (x : UInt64) (y : Nat), x.toNat = y → y < 256 ^ k → k + l.length ≤ 8 → (l.foldl f x).toNat = l.foldl (fun x c => x * 256 + c.toNat) y
  | [], _, _, _, h, _, _ => h
  | c :: l, k, x, y, h, hy, hk => by
    simp only [List.length_cons] at hk
    have h7 : 256 ^ k ≤ 256 ^ 7 := Nat.pow_le_pow_right (by omega) (by omega)
    have hc := c.toNat_lt
    have hy' : y * 256 + c.toNat < 256 ^ (k + 1) := by rw [Nat.pow_succ]; omega
    exact fold_nat f hf l (k + 1) _ _ (hf x y c h (by omega)) hy' (by omega)
theorem num_nat (l : List UInt8) (h : l.length ≤ 8) : (num l).toNat = valN l := fold_nat _ num_step l 0 0 0 rfl (by decide) (by omega)
theorem num2_nat (l : List UInt8) (h : l.length ≤ 8) : (num2 l).toNat = valN l := fold_nat _ num2_step l 0 0 0 rfl (by decide) (by omega)
theorem num2_eq (l : List UInt8) (h : l.length ≤ 8) : num2 l = num l := UInt64.toNat_inj.1 (by rw [num_nat l h, num2_nat l h])
theorem number_8 (l : List UInt8) (h : l.length ≤ 8) : number l = num l := by
  have e : l.length - 8 = 0 := by omega
  rw [number, e, List.drop_zero]
theorem valN_fold (l : List UInt8) (y : Nat) : l.foldl (fun x c => x * 256 + c.toNat) y = y * 256 ^ l.length + valN l := by
  induction l generalizing y with
  | nil => simp [valN]
  | cons c l ih =>
    have e : valN (c :: l) = c.toNat * 256 ^ l.length + valN l := by
      show List.foldl _ (0 * 256 + c.toNat) l = _
      rw [ih, Nat.zero_mul, Nat.zero_add]
    rw [List.foldl_cons, ih, e, List.length_cons, Nat.pow_succ, Nat.add_mul, Nat.mul_assoc, Nat.mul_comm 256, Nat.add_assoc]
theorem bytesL_succ (x : UInt64) (n : Nat) : bytesL x (n + 1) = bytf x (n + 1) 0 :: bytesL x n := by
  rw [bytesL, List.range_succ_eq_map, List.map_cons, List.map_map]
  congr 1
  apply List.map_congr_left; intro i _
  have e : n + 1 - 1 - (i + 1) = n - 1 - i := by omega
  simp only [Function.comp_apply, bytf, Nat.succ_eq_add_one, e]
theorem bytf_0 (x : UInt64) (n : Nat) : (bytf x (n + 1) 0).toNat = x.toNat / 256 ^ n % 256 := by
  have e : 8 * (n + 1 - 1 - 0) = 8 * n := by omega
  have e2 : (256 : Nat) ^ n = 2 ^ (8 * n) := by rw [Nat.pow_mul]
  have h : x.toNat / 2 ^ (8 * n) ≤ x.toNat := Nat.div_le_self _ _
  have := x.toNat_lt
  simp only [bytf, e, toU8, shr64, UInt8.toNat_ofNat', UInt64.toNat_ofNat', e2]
  rw [Nat.mod_eq_of_lt (a := x.toNat / _) (by omega)]
  omega
theorem bytesL_val (x : UInt64) (n : Nat) : valN (bytesL x n) = x.toNat % 256 ^ n := by
  induction n with
  | zero => simp [bytesL, valN, Nat.mod_one]
  | succ n ih =>
    rw [bytesL_succ, valN, List.foldl_cons, valN_fold, ih, bytesL_len, bytf_0, Nat.pow_succ, Nat.zero_mul, Nat.zero_add, Nat.mod_mul]
    rw [Nat.mul_comm, Nat.add_comm]
theorem number_bytes (x : UInt64) (n : Nat) (hn : n ≤ 8) (h : x.toNat < 256 ^ n) : number (bytesL x n) = x := by
  rw [number_8 _ (by simpa using hn)]
  apply UInt64.toNat_inj.1
  rw [num_nat _ (by simpa using hn), bytesL_val, Nat.mod_eq_of_lt h]

/-! heads -/
theorem and63 (x : UInt64) : (x &&& 9223372036854775807).toNat = x.toNat % 2 ^ 63 := by
  rw [UInt64.toNat_and]
  have e : (9223372036854775807 : UInt64).toNat = 2 ^ 63 - 1 := rfl
  rw [e, Nat.and_two_pow_sub_one_eq_mod]
theorem shr63 (x : UInt64) : (shr64 x 63).toNat = x.toNat / 2 ^ 63 := by
  have := x.toNat_lt
  simp only [shr64, UInt64.toNat_ofNat']
  exact Nat.mod_eq_of_lt (by omega)
def hdW (d : Nat) (s : UInt64) : UInt64 := shl64 (toU64 (d : Int)) 63 ||| s
theorem hdW_nat (d : Nat) (s : UInt64) (hd : d ≤ 1) (hs : s.toNat ≤ 9223372036854775807) : (hdW d s).toNat = d * 2 ^ 63 + s.toNat := by
  have e1 : (shl64 (toU64 (d : Int)) 63).toNat = d * 2 ^ 63 := by
    simp only [shl64, toU64, UInt64.toNat_ofNat']; omega
  rw [hdW, UInt64.toNat_or, e1, or_add _ _ 63 (by omega)]
theorem headV_list (d : Nat) (s : UInt64) : (headV d s).toList = bytesL (hdW d s) 8 := ofl_bytes _ _ (by simp)
theorem take_head (d : Nat) (s : UInt64) (r : List UInt8) : ((headV d s).toList ++ r).take 8 = bytesL (hdW d s) 8 := by
  rw [headV_list]; exact List.take_left' (by simp)
theorem headD_head (d : Nat) (s : UInt64) (r : List UInt8) (hd : d ≤ 1) (hs : s.toNat ≤ 9223372036854775807) : headD ((headV d s).toList ++ r) = d := by
  have h := hdW_nat d s hd hs
  rw [headD, take_head, number_bytes _ 8 (by omega) (hdW d s).toNat_lt, shr63, h]; omega
theorem headS_head (d : Nat) (s : UInt64) (r : List UInt8) (hd : d ≤ 1) (hs : s.toNat ≤ 9223372036854775807) : headS ((headV d s).toList ++ r) = s := by
  have h := hdW_nat d s hd hs
  apply UInt64.toNat_inj.1
  rw [headS, take_head, number_bytes _ 8 (by omega) (hdW d s).toNat_lt, and63, h]; omega
theorem ofl_head (d : Nat) (s : UInt64) (r : List UInt8) : ofl 8 ((headV d s).toList ++ r) = headV d s := by
  apply v_ext; intro i hi
  rw [gv_ofl _ _ _ hi, gl_app_lt (by simpa using hi), gl_toList]
theorem headD_2 (bs : List UInt8) : headD2 bs = headD bs := by
  have h8 : (bs.take 8).length ≤ 8 := by simp; omega
  rw [headD2, headD, num2_eq _ h8, number_8 _ h8, shr63]
  have := (num (bs.take 8)).toNat_lt
  split <;> omega
theorem headS_2 (bs : List UInt8) : headS2 bs = headS bs := by
  have h8 : (bs.take 8).length ≤ 8 := by simp; omega
  apply UInt64.toNat_inj.1
  rw [headS2, headS, num2_eq _ h8, number_8 _ h8, and63]
  have h2 := (num (bs.take 8)).toNat_lt
  split
  · rename_i h
    have e : (9223372036854775808 : UInt64).toNat = 9223372036854775808 := rfl
    rw [UInt64.toNat_sub_of_le _ _ (by rw [UInt64.le_iff_toNat_le, e]; exact h), e]
    omega
  · omega

/-! there and back -/
theorem tm_nat (t e : UInt16) : (tmV t e).toNat = t.toNat * 65536 + e.toNat := by
  have ht := t.toNat_lt; have he := e.toNat_lt
  have e1 : (shl64 (toU64 (t.toNat : Int)) 16).toNat = t.toNat * 2 ^ 16 := by
    simp only [shl64, toU64, UInt64.toNat_ofNat']; omega
  have e2 : (toU64 (e.toNat : Int)).toNat = e.toNat := by simp only [toU64, UInt64.toNat_ofNat']; omega
  rw [tmV, UInt64.toNat_or, e1, e2, or_add _ _ 16 (by omega)]
theorem tm_t (t e : UInt16) : toU16 ((shr64 (tmV t e) 16).toNat : Int) = t := by
  have ht := t.toNat_lt; have he := e.toNat_lt
  apply UInt16.toNat_inj.1
  simp only [toU16, shr64, UInt16.toNat_ofNat', UInt64.toNat_ofNat', tm_nat]; omega
theorem tm_e (t e : UInt16) : toU16 ((tmV t e).toNat : Int) = e := by
  have ht := t.toNat_lt; have he := e.toNat_lt
  apply UInt16.toNat_inj.1
  simp only [toU16, UInt16.toNat_ofNat', tm_nat]; omega
theorem lng_ok {n : Nat} (h : 28 ≤ n) (h2 : n ≤ 1228) : lng n = 0 := by
  rw [lng, if_neg (by omega), if_neg (by omega)]
/-- a packet's datagram leads back to it -/
theorem dcd_enc (key : V8 16) (d : Nat) (s : UInt64) (t e : UInt16) (bs : List UInt8) (hd : d ≤ 1) (hs : s.toNat ≤ 9223372036854775807) (hl : bs.length ≤ 1200) :
    dcdE key (encV key d s t e bs) = 0 ∧ dcdD key (encV key d s t e bs) = d ∧ dcdS key (encV key d s t e bs) = s ∧ dcdT key (encV key d s t e bs) = t ∧ dcdM key (encV key d s t e bs) = e ∧ dcdP key (encV key d s t e bs) = bs := by
  have h0 : lng (encV key d s t e bs).length = 0 := lng_ok (by simp) (by simp; omega)
  have h1 : ofl 8 (encV key d s t e bs) = headV d s := ofl_head d s _
  have h2 : (encV key d s t e bs).drop 8 = sealV key (nonceV (headV d s)) [] (bytesL (tmV t e) 4 ++ bs) := by
    rw [encV]; exact List.drop_left' (by simp)
  have h3 := opn_seal key (nonceV (headV d s)) [] (bytesL (tmV t e) 4 ++ bs)
  have hE : dcdE key (encV key d s t e bs) = 0 := by rw [dcdE, h0, if_neg (by omega), h1, h2, h3.1]
  have hX : dcdX key (encV key d s t e bs) = bytesL (tmV t e) 4 ++ bs := by rw [dcdX, h1, h2, h3.2]
  have ht : (dcdX key (encV key d s t e bs)).take 4 = bytesL (tmV t e) 4 := by rw [hX]; exact List.take_left' (by simp)
  have hr : (dcdX key (encV key d s t e bs)).drop 4 = bs := by rw [hX]; exact List.drop_left' (by simp)
  have hn : number (bytesL (tmV t e) 4) = tmV t e := number_bytes _ 4 (by omega) (by
    have ht := t.toNat_lt; have he := e.toNat_lt
    rw [tm_nat]; omega)
  refine ⟨hE, ?_, ?_, ?_, ?_, ?_⟩
  · rw [dcdD, if_pos hE, encV]; exact headD_head d s _ hd hs
  · rw [dcdS, if_pos hE, encV]; exact headS_head d s _ hd hs
  · rw [dcdT, if_pos hE, ht, hn, tm_t]
  · rw [dcdM, if_pos hE, ht, hn, tm_e]
  · rw [dcdP, if_pos hE, hr]

/-! comparing -/
theorem sameR_self (d : Int) (s : UInt64) (t e : UInt16) (bs : List UInt8) : sameR d d s s t t e e bs bs = true := by simp [sameR]
theorem sameV_self (r : V64 4) (bs : List UInt8) : sameV r r bs bs = true := by simp [sameV]
end Go.X
namespace Go.X
open Go
/-! the example of the documentation -/
theorem aw_enc : encP (Vector.replicate 16 0) 1 7 258 3 [104, 101, 108, 108, 111] = encV (Vector.replicate 16 0) 1 7 258 3 [104, 101, 108, 108, 111] := by
  rw [encP, if_pos (by decide)]; rfl
theorem aw_all : dcdE (Vector.replicate 16 0) (encV (Vector.replicate 16 0) 1 7 258 3 [104, 101, 108, 108, 111]) = 0 ∧ dcdD (Vector.replicate 16 0) (encV (Vector.replicate 16 0) 1 7 258 3 [104, 101, 108, 108, 111]) = 1 ∧ dcdS (Vector.replicate 16 0) (encV (Vector.replicate 16 0) 1 7 258 3 [104, 101, 108, 108, 111]) = 7 ∧ dcdT (Vector.replicate 16 0) (encV (Vector.replicate 16 0) 1 7 258 3 [104, 101, 108, 108, 111]) = 258 ∧ dcdM (Vector.replicate 16 0) (encV (Vector.replicate 16 0) 1 7 258 3 [104, 101, 108, 108, 111]) = 3 ∧ dcdP (Vector.replicate 16 0) (encV (Vector.replicate 16 0) 1 7 258 3 [104, 101, 108, 108, 111]) = [104, 101, 108, 108, 111] := dcd_enc (Vector.replicate 16 0) 1 7 258 3 [104, 101, 108, 108, 111] (by decide) (by decide) (by decide)
theorem aw_len : (encP (Vector.replicate 16 0) 1 7 258 3 [104, 101, 108, 108, 111]).length = 33 := by rw [aw_enc, encV_len]; rfl
theorem aw_E : dcdE (Vector.replicate 16 0) (encP (Vector.replicate 16 0) 1 7 258 3 [104, 101, 108, 108, 111]) = 0 := by rw [aw_enc]; exact aw_all.1
theorem aw_same : sameR ((dcdD (Vector.replicate 16 0) (encP (Vector.replicate 16 0) 1 7 258 3 [104, 101, 108, 108, 111]) : Nat) : Int) 1 (dcdS (Vector.replicate 16 0) (encP (Vector.replicate 16 0) 1 7 258 3 [104, 101, 108, 108, 111])) 7
    (dcdT (Vector.replicate 16 0) (encP (Vector.replicate 16 0) 1 7 258 3 [104, 101, 108, 108, 111])) 258 (dcdM (Vector.replicate 16 0) (encP (Vector.replicate 16 0) 1 7 258 3 [104, 101, 108, 108, 111])) 3
    (dcdP (Vector.replicate 16 0) (encP (Vector.replicate 16 0) 1 7 258 3 [104, 101, 108, 108, 111])) [104, 101, 108, 108, 111] = true := by
  rw [aw_enc]
  obtain ⟨_, h1, h2, h3, h4, h5⟩ := aw_all
  rw [h1, h2, h3, h4, h5]; exact sameR_self _ _ _ _ _
theorem dcdE_nil (key : V8 16) : dcdE key [] = 1 := by rw [dcdE, if_pos (by decide)]; rfl
theorem aw_pd : peekD (encP (Vector.replicate 16 0) 1 7 258 3 [104, 101, 108, 108, 111]) = 1 := by
  rw [peekD, aw_len, if_pos (by decide), aw_enc, encV]; exact headD_head _ _ _ (by decide) (by decide)
theorem aw_ps : peekS (encP (Vector.replicate 16 0) 1 7 258 3 [104, 101, 108, 108, 111]) = 7 := by
  rw [peekS, aw_len, if_pos (by decide), aw_enc, encV]; exact headS_head _ _ _ (by decide) (by decide)
end Go.X
namespace Go.X
open Go
theorem aw_facts {P : List UInt8} (hP : P = encP (Vector.replicate 16 0) 1 7 258 3 [104, 101, 108, 108, 111]) : P.length = 33 ∧ dcdE (Vector.replicate 16 0) P = 0 ∧
    sameR ((dcdD (Vector.replicate 16 0) P : Nat) : Int) 1 (dcdS (Vector.replicate 16 0) P) 7 (dcdT (Vector.replicate 16 0) P) 258 (dcdM (Vector.replicate 16 0) P) 3 (dcdP (Vector.replicate 16 0) P) [104, 101, 108, 108, 111] = true ∧ peekD P = 1 ∧ peekS P = 7 := by
  rw [hP]; exact ⟨aw_len, aw_E, aw_same, aw_pd, aw_ps⟩
end Go.X
namespace Go.X
open Go
theorem toU64_inj {a b : Int} (ha : -9223372036854775808 ≤ a ∧ a < 9223372036854775808) (hb : -9223372036854775808 ≤ b ∧ b < 9223372036854775808) (h : toU64 a = toU64 b) : a = b := by
  have := congrArg UInt64.toNat h
  simp only [toU64, UInt64.toNat_ofNat'] at this
  omega
theorem toU64_u16 {a b : UInt16} (h : toU64 (a.toNat : Int) = toU64 (b.toNat : Int)) : a.toNat = b.toNat := by
  have ha := a.toNat_lt; have hb := b.toNat_lt
  have := toU64_inj (by omega) (by omega) h
  omega
theorem same_eq {d d2 : Int} (s s2 : UInt64) (t t2 e e2 : UInt16) (bs bs2 : List UInt8) (hd : -9223372036854775808 ≤ d ∧ d < 9223372036854775808) (hd2 : -9223372036854775808 ≤ d2 ∧ d2 < 9223372036854775808) :
    sameV (restV d s t e) (restV d2 s2 t2 e2) bs bs2 = sameR d d2 s s2 t t2 e e2 bs bs2 := by
  by_cases h : restV d s t e = restV d2 s2 t2 e2
  · have h' := congrArg Vector.toList h
    simp only [restV, Vector.toList_mk, List.cons.injEq] at h'
    obtain ⟨h1, h2, h3, h4, _⟩ := h'
    rw [sameV_t h, sameR, if_pos (toU64_inj hd hd2 h1), if_pos (by rw [h2]), if_pos (toU64_u16 h3), if_pos (toU64_u16 h4)]
  · rw [sameV_f h, sameR]
    split
    · rename_i h1
      split
      · rename_i h2
        split
        · rename_i h3
          split
          · rename_i h4
            exfalso; apply h
            rw [h1, UInt64.toNat_inj.1 h2, UInt16.toNat_inj.1 h3, UInt16.toNat_inj.1 h4]
          · rfl
        · rfl
      · rfl
    · rfl
theorem lng_bad {n : Nat} (h : n < 28 ∨ 1228 < n) : lng n ≠ 0 := by
  rw [lng]; split
  · decide
  · split
    · decide
    · omega
theorem peek_bad {bs : List UInt8} {n : Nat} (hn : bs.length = n) (h : lng n ≠ 0) : peekD bs = 0 ∧ peekS bs = 0 := by rw [peekD, peekS, hn, if_neg h, if_neg h]; exact ⟨rfl, rfl⟩
theorem peek_ok {bs : List UInt8} {n : Nat} (hn : bs.length = n) (h : lng n = 0) : peekD bs = headD2 bs ∧ peekS bs = headS2 bs := by rw [peekD, peekS, hn, if_pos h, if_pos h, headD_2, headS_2]; exact ⟨rfl, rfl⟩
end Go.X
namespace Go.X
open Go
theorem pl_big {d : Int} {s : UInt64} {k : Nat} (hd : d = 0 ∨ d = 1) (hs : s.toNat < 9223372036854775808) (hk : 1200 < k) : chk d s k = 2 := by
  rw [chk, if_neg (by omega), if_neg (by omega), if_pos hk]
theorem pl_ok {d : Int} {s : UInt64} {k : Nat} (hd : d = 0 ∨ d = 1) (hs : s.toNat < 9223372036854775808) (hk : k ≤ 1200) : chk d s k = 0 := by
  rw [chk, if_neg (by omega), if_neg (by omega), if_neg (by omega)]
theorem encP_bad {key : V8 16} {d : Int} {s : UInt64} {t e : UInt16} {bs : List UInt8} {n : Nat} (hn : bs.length = n) (h : chk d s n ≠ 0) : (encP key d s t e bs).length = 0 := by rw [encP, hn, if_neg h]; rfl
theorem enc_all {key : V8 16} {d : Int} {s : UInt64} {t e : UInt16} {bs : List UInt8} {n : Nat} (hn : bs.length = n) (h : chk d s n = 0) :
    (encP key d s t e bs).length = n + 28 ∧ dcdE key (encP key d s t e bs) = 0 ∧
    sameR ((dcdD key (encP key d s t e bs) : Nat) : Int) d (dcdS key (encP key d s t e bs)) s (dcdT key (encP key d s t e bs)) t (dcdM key (encP key d s t e bs)) e (dcdP key (encP key d s t e bs)) bs = true := by
  obtain ⟨⟨dn, rfl, hd⟩, hs, hl⟩ := chk_0 h
  have e1 : encP key (dn : Int) s t e bs = encV key dn s t e bs := by rw [encP, hn, if_pos h]; rfl
  obtain ⟨h0, h1, h2, h3, h4, h5⟩ := dcd_enc key dn s t e bs hd hs (by omega)
  rw [e1, encV_len, h0, h1, h2, h3, h4, h5, hn]
  exact ⟨rfl, rfl, sameR_self _ _ _ _ _⟩
theorem dcd_long {key : V8 16} {bs : List UInt8} (h : 1228 < bs.length) : dcdE key bs = 2 := by
  have e : lng bs.length = 2 := by rw [lng, if_neg (by omega), if_pos h]
  rw [dcdE, e, if_pos (by decide)]
end Go.X

/- []byte of a constant string: a row of one's own gets the mark behind its last cell. -/
namespace Go.X
open Go
section
variable {P : Program} {ops : Array Oper} {n : Nat} {l : Regs} {w w0 : World} {K : Regs → World → Prop} {F : List Nat} {L : List (Nat × Obj)}
variable {d T S : Nat} {ps : String} {af : Array Edge} {g : Option (Nat × Bool)} {x : Operand}
theorem freeze_heap (w : World) (b k E : Nat) (cs : Array Value) (h : w.heap[b]? = some (.cells cs E (0, 0))) :
    (w.freeze ⟨b, k, none⟩ 1).heap[b]? = some (.cells cs E (k, k + 1)) ∧ (∀ j, j ≠ b → (w.freeze ⟨b, k, none⟩ 1).heap[j]? = w.heap[j]?) ∧ (w.freeze ⟨b, k, none⟩ 1).heap.size = w.heap.size := by
  unfold World.freeze
  rw [if_neg (by decide)]
  refine ⟨?_, fun j hj => ?_, by simp⟩
  · simp [Array.getElem?_modify, h]
  · simp [Array.getElem?_modify, hj.symm]
theorem cvb {b m c E e : Nat} {cs : Array Value} (i : Nat) (hu : P.underlying S = some (.slice e)) (he : P.underlying e = some (.int .u8)) (hS : St w0 F L w) (hg : gval ops l ⟨some d, .convert S S x, T, ps, af, g⟩ = some true) (hd : Nat.blt d n = true)
    (hx : ev l x = some (.slice (some ⟨b, 0, none⟩) m c)) (hi : L[i]? = some (b, .cells cs E (0, 0))) (k : ∀ w', St w0 F (L.set i (b, .cells cs E (cs.size, cs.size + 1))) w' → K ((d, .slice (some ⟨b, 0, none⟩) m c) :: l) w') :
    WO P ops n ⟨some d, .convert S S x, T, ps, af, g⟩ l w K := by
  have hb := hS.get i hi
  obtain ⟨h1, h2, h3⟩ := freeze_heap w b cs.size E cs hb
  have hsh : w.shape? b = some (E, cs.size) := by unfold World.shape?; rw [hb]
  have hos : (w.freeze ⟨b, cs.size, none⟩ 1).os = w.os := by unfold World.freeze; split <;> rfl
  have htp : (w.freeze ⟨b, cs.size, none⟩ 1).tape = w.tape := by unfold World.freeze; split <;> rfl
  have hou : (w.freeze ⟨b, cs.size, none⟩ 1).output = w.output := by unfold World.freeze; split <;> rfl
  refine WO.val hg hd (w' := w.freeze ⟨b, cs.size, none⟩ 1) (fun a ha => ?_) (k _ (hS.turn i hi hos htp hou h3 h1 h2))
  simp only [execOp, ha.ev hx, Sem.run_bind]
  simp [convert, run_underlying hu, run_underlying he, markStringish, hsh]
end
end Go.X

/- Sessions: what the small functions compute. -/
namespace Go.X
open Go

def ofT (x : UInt64) : UInt16 := toU16 (x.toNat : Int)
def echoN (s : UInt16) (h : UInt64) : UInt16 := if 1000 < h.toNat then 65535 else s + toU16 (h.toNat : Int)
def heldV (t tick : UInt64) : UInt64 := if tick.toNat < t.toNat then 0 else tick - t
def smpV (now e : UInt16) : UInt16 := if e = 65535 then 0 else now - e
def estN (rc : Nat) (re : UInt32) (x : UInt16) : UInt32 := if rc = 0 then shl32 (toU32 (x.toNat : Int)) 3 else re + (toU32 (x.toNat : Int) - shr32 (re + 4) 3)
/-- the code of Peek's error, and its number -/
def pekE (nx : UInt64) (cl : Bool) : Nat := if cl = true then 7 else if 9223372036854775807 ≤ nx.toNat then 6 else 0
def pekV (nx : UInt64) (cl : Bool) : UInt64 := if pekE nx cl = 0 then nx else 0
def frsh (ls sq : UInt64) : Bool := decide (ls.toNat ≤ sq.toNat ∧ sq.toNat ≤ 9223372036854775807)
def lstV (ls : UInt64) : UInt64 := if ls = 0 then 0 else ls - 1
/-- the first code that is no 0 -/
def fstE (e : Nat → Nat) : Nat → Nat
  | 0 => 0
  | k + 1 => if fstE e k = 0 then e k else fstE e k
theorem fstE_stop (e : Nat → Nat) : ∀ (K k : Nat), k < K → fstE e k = 0 → e k ≠ 0 → fstE e K = e k
  | 0, _, h, _, _ => by omega
  | K + 1, k, h, h0, h1 => by
    by_cases hk : k = K
    · subst hk; simp [fstE, h0]
    · have := fstE_stop e K k (by omega) h0 h1
      simp only [fstE, this, h1, if_false]
theorem fstE_s (e : Nat → Nat) (k : Nat) (h0 : fstE e k = 0) (h1 : e k = 0) : fstE e (k + 1) = 0 := by simp [fstE, h0, h1]
theorem ne_u16 (e : UInt16) : ((e.toNat : Int) != 65535) = decide (e ≠ 65535) := by
  by_cases h : e = 65535
  · subst h; decide
  · have : ¬ (e.toNat : Int) = 65535 := fun h' => h (UInt16.toNat_inj.1 (by simpa using (by omega : e.toNat = 65535)))
    simp [h, this]
theorem nd_of {w0 w : World} {F : List Nat} {L : List (Nat × Obj)} (h : St w0 F L w) : ∀ (is : List Nat) {bl : List Nat} (_ : is.map (fun i => (L[i]?).map Prod.fst) = bl.map some) (_ : is.Nodup), bl.Nodup
  | [], bl, hi, _ => by
    have : bl = [] := by cases bl with | nil => rfl | cons => simp at hi
    subst this; exact List.nodup_nil
  | i :: is, bl, hi, hn => by
    cases bl with
    | nil => simp at hi
    | cons b bl =>
      simp only [List.map_cons, List.cons.injEq] at hi
      obtain ⟨h1, h2⟩ := hi
      rw [List.nodup_cons] at hn
      refine List.nodup_cons.2 ⟨fun hb => hn.1 ?_, nd_of h is h2 hn.2⟩
      have : some b ∈ is.map (fun i => (L[i]?).map Prod.fst) := by rw [h2]; exact List.mem_map.2 ⟨b, hb, rfl⟩
      obtain ⟨j, hj, e⟩ := List.mem_map.1 this
      have k1 : (L.map Prod.fst)[i]? = some b := by rw [List.getElem?_map]; exact h1
      have k2 : (L.map Prod.fst)[j]? = some b := by rw [List.getElem?_map]; exact e
      have : i = j := (List.getElem?_inj (List.getElem?_eq_some_iff.1 k1).1 h.nodup).1 (k1.trans k2.symm)
      subst this; exact hj
/-- the address of a new peer · behind a move, and how often it has moved -/
def adA (s : List UInt8) : List UInt8 := if okA s = true then s else []
def mvA (fx : Bool) (ad s : List UInt8) : List UInt8 := if fx = false ∧ okA s = true then s else ad
def mvN (fx : Bool) (ad s : List UInt8) (mv : Nat) : Nat := if fx = false ∧ okA s = true ∧ ad ≠ s then mv + 1 else mv
theorem mv_no {fx : Bool} {ad s : List UInt8} {mv : Nat} (h : fx = true ∨ okA s = false ∨ ad = s) : mvA fx ad s = ad ∧ mvN fx ad s mv = mv := by
  unfold mvA mvN
  rcases h with h | h | h
  · simp [h]
  · simp [h]
  · subst h; simp
theorem mv_yes {fx : Bool} {ad s : List UInt8} {mv : Nat} (h : fx = false) (h2 : okA s = true) (h3 : ad ≠ s) : mvA fx ad s = s ∧ mvN fx ad s mv = mv + 1 := by simp [mvA, mvN, h, h2, h3]
end Go.X

/- A session: its blocks, and what its methods do to it. -/
namespace Go.X
open Go

/-- what is there behind any call that turns the blocks of G alone -/
def CelX (G : List Nat) (w : World) (a : Option Addr) (xs : List Value) : Prop := ∀ L w', St w G L w' → Cel w' a xs
def GlX (g : Nat) (G : List Nat) (w : World) : Prop := ∀ L w', St w G L w' → Gl g w'
section
variable {w0 w : World} {F G : List Nat} {L A R X Y Z B U : List (Nat × Obj)} {a : Option Addr} {xs : List Value} {g : Nat}
theorem CelX.nil0 (h : Cel w0 a xs) : CelX [] w0 a xs := fun _ _ hS => h.st hS
theorem GlX.nil0 (h : Gl g w0) : GlX g [] w0 := fun _ _ hS => h.st hS
/-- a callee that turns a tail -/
theorem CelX.up (h : CelX F w0 a xs) (hS : St w0 F (A ++ (X ++ R)) w) : CelX (X.map Prod.fst) w a xs := fun _ _ k => h _ _ (St.callX hS k)
theorem GlX.up (h : GlX g F w0) (hS : St w0 F (A ++ (X ++ R)) w) : GlX g (X.map Prod.fst) w := fun _ _ k => h _ _ (St.callX hS k)
/-- of the call's own: another tail, or a block -/
theorem CelX.rd {bs : List UInt8} (h : Rd a bs Y) (hS : St w0 F (A ++ (X ++ R)) w) (hY : ∀ p ∈ Y, p ∈ A ∨ p ∈ R) : CelX (X.map Prod.fst) w a (c8 bs) := fun _ w' k =>
  h _ _ _ _ (St.callX hS k) (fun p hp => by rcases hY p hp with h | h <;> simp [h])
/-- the blocks in the order that is wanted -/
theorem St.pk (h : St w0 F ((U ++ B) ++ (Y ++ (Z ++ R))) w) : St w0 F ((B ++ Z) ++ Y) w := by
  refine h.of (fun p hp => ?_) ?_
  · simp only [List.mem_append] at hp ⊢; rcases hp with (hp | hp) | hp <;> simp [hp]
  · have hn := h.nodup
    simp only [List.map_append, List.nodup_append, List.mem_append] at hn ⊢
    obtain ⟨⟨_, hB, _⟩, ⟨hY, ⟨hZ, _, _⟩, hYZ⟩, hBY⟩ := hn
    refine ⟨⟨hB, hZ, fun a ha b hb => hBY a (.inr ha) b (.inr (.inl hb))⟩, hY, fun a ha b hb e => ?_⟩
    subst e
    rcases ha with ha | ha
    · exact hBY a (.inr ha) a (.inl hb) rfl
    · exact hYZ a hb a (.inl ha) rfl
theorem St.pk0 (h : St w0 F ((U ++ B) ++ (Z ++ R)) w) : St w0 F ((B ++ Z) ++ []) w := St.pk (U := U) (B := B) (Y := []) (R := R) (by simpa using h)
end

def nth4 {α : Type} (a b c d : α) : Nat → α
  | 0 => a | 1 => b | 2 => c | _ => d
theorem fst4_0 {a b c d : Nat} : fstE (nth4 a b c d) 4 = 0 ↔ a = 0 ∧ b = 0 ∧ c = 0 ∧ d = 0 := by
  simp only [fstE, nth4]
  by_cases ha : a = 0 <;> by_cases hb : b = 0 <;> by_cases hc : c = 0 <;> simp [ha, hb, hc]
theorem fst3_0 {a b c d : Nat} : fstE (nth4 a b c d) 3 = 0 ↔ a = 0 ∧ b = 0 ∧ c = 0 := by
  simp only [fstE, nth4]
  by_cases ha : a = 0 <;> by_cases hb : b = 0 <;> simp [ha, hb]

/-- the keeper of a stamp -/
def EchO (pe : Nat) (kp : Option (UInt16 × UInt64)) (Z : List (Nat × Obj)) : Prop :=
  ∃ E, (kp = none ∧ Z = [(pe, .cells #[.pointer none] E)]) ∨ ∃ pk s t E2, kp = some (s, t) ∧ Z = [(pe, .cells #[Ptr pk 0] E), (pk, .cells #[U16 s, U64 t] E2)]
def replyV (kp : Option (UInt16 × UInt64)) (x : UInt64) : UInt16 := match kp with | none => 65535 | some (s, t) => echoN s (heldV t x)

/-- what a session holds -/
structure SS where
  dir : Nat
  key : V8 16
  nx : UInt64
  gv : UInt64
  fs : UInt64
  ac : Nat
  rf : Nat
  ls : UInt64
  kp : Option (UInt16 × UInt64)
  rl : UInt16
  rc : Nat
  re : UInt32
  ad : List UInt8
  fx : Bool
  mv : Nat
  cz : Bool
def SesO (s : Nat) (m : SS) (X : List (Nat × Obj)) : Prop :=
  ∃ pp pm pc pf pe t c E1 E2 E3 E4 E5 E6 mm Z, m.dir ≤ 1 ∧ EchO pe m.kp Z ∧ X = [(s, .cells #[Ptr pp 0, I ((m.dir : Nat) : Int), Ptr t 0, Ptr pc 0, Ptr pf 0, Ptr pe 0, U16 m.rl, I ((m.rc : Nat) : Int), U32 m.re, U64 m.fs, .bool m.cz] E1),
    (pf, .cells #[I ((m.ac : Nat) : Int), I ((m.rf : Nat) : Int), U64 m.ls] E2), (pc, .cells #[U64 m.nx, U64 m.gv, .bool false] E3), (t, .cells (tableC c m.key) E4), (c, .cells (cipherC m.key) E5),
    (pp, .cells #[Str m.ad, .bool m.fx, I ((m.mv : Nat) : Int), .map (some pm)] E6), (pm, mOb encS vI mm)] ++ Z

def sesN (key : V8 16) (d : Nat) (ad : List UInt8) (nx : UInt64) : SS :=
  { dir := d, key := key, nx := mnU nx 9223372036854775807, gv := 0, fs := mnU nx 9223372036854775807, ac := 0, rf := 0, ls := 0, kp := none, rl := 0, rc := 0, re := 0, ad := adA ad, fx := decide (d = 0), mv := 0, cz := false }
/-- the fields that a session tells -/
def statC (m : SS) : Array Value := #[U64 (m.fs + m.gv), U64 (lstV m.ls), .bool (decide (m.ls ≠ 0)), I ((m.ac : Nat) : Int), I ((m.rf : Nat) : Int), Str m.ad, I ((m.mv : Nat) : Int), I ((m.rc : Nat) : Int), U16 m.rl, .bool m.cz]
def sndE (m : SS) (n : Nat) : Nat := fstE (nth4 (if m.cz = true then 7 else 0) (if (decide (((n : Nat) : Int) > (1200 : Int))) = true then 2 else 0) (if (!(decide (m.ad ≠ []))) = true then 12 else 0) (pekE m.nx false)) 4
def sndM (m : SS) (n : Nat) : SS := if sndE m n = 0 then { m with nx := m.nx + 1, gv := m.gv + 1, kp := none } else m
def sndB (m : SS) (bs : List UInt8) (x : UInt64) : List UInt8 := if sndE m bs.length = 0 then encP m.key (m.dir : Int) m.nx (ofT x) (replyV m.kp x) bs else []
def sndA (m : SS) (n : Nat) : List UInt8 := if sndE m n = 0 then m.ad else []
def rcvE (m : SS) (bs : List UInt8) : Nat := if m.cz = true then 7 else fstE (nth4 (dcdE m.key bs) (if (((dcdD m.key bs : Nat) : Int) == ((m.dir : Nat) : Int)) = true then 8 else 0) (if (!frsh m.ls (dcdS m.key bs)) = true then 9 else 0) 0) 3
def smpM (m : SS) (e : UInt16) (x : UInt64) : SS := if e = 65535 then m else { m with rl := smpV (ofT x) e, rc := m.rc + 1, re := estN m.rc m.re (smpV (ofT x) e) }
def rcvM (m : SS) (bs : List UInt8) (fr : List UInt8) (x : UInt64) : SS :=
  if m.cz = true then m else if rcvE m bs = 0 then
    let m := smpM { m with ac := m.ac + 1, ls := dcdS m.key bs + 1, kp := some (dcdT m.key bs, x) } (dcdM m.key bs) x
    { m with ad := mvA m.fx m.ad fr, mv := mvN m.fx m.ad fr m.mv }
  else { m with rf := m.rf + 1 }
def rcvP (m : SS) (bs : List UInt8) : List UInt8 := if rcvE m bs = 0 then dcdP m.key bs else []
/-- a slice of bytes in blocks that the call gives -/
def Gives (a : Option Addr) (n c : Nat) (bs : List UInt8) (Y : List (Nat × Obj)) : Prop := bs.length = n ∧ n ≤ 1000000 ∧ n ≤ c ∧ Rd a bs Y
theorem Gives.nil : Gives none 0 0 [] [] := ⟨rfl, by omega, by omega, fun _ _ _ w _ _ => Cel.nil w none⟩
theorem Gives.own {a : Option Addr} {n c : Nat} {bs : List UInt8} {Y : List (Nat × Obj)} (h : Own 1 a n c (c8 bs) Y) (hn : n ≤ 1000000) : Gives a n c bs Y := ⟨h.len8, hn, h.le, fun _ _ _ _ hS hY => h.cel hS hY⟩
end Go.X
namespace Go.X
open Go
theorem St.wkF {w0 w : World} {F G : List Nat} {L : List (Nat × Obj)} (h : St w0 F L w) (hF : ∀ x ∈ F, x ∈ G) : St w0 G L w :=
  ⟨h.os, h.tape, h.output, h.size, fun k hk hn => h.frame k hk (fun hf => hn (hF k hf)), fun p hp => ⟨(h.own p hp).1.imp (hF _) id, (h.own p hp).2⟩, h.nodup⟩
theorem chk_ok {d : Nat} {s : UInt64} {n : Nat} {b : Bool} (hd : d ≤ 1) (h : pekE s b = 0) (hn : n ≤ 1200) : chk ((d : Nat) : Int) s n = 0 := by
  have h2 : ¬ 9223372036854775807 < s.toNat := by
    intro h3; unfold pekE at h; split at h
    · cases h
    · rw [if_pos (by omega)] at h; cases h
  unfold chk; rw [if_neg (by omega), if_neg h2, if_neg (by omega)]
theorem encP_le {key : V8 16} {d : Int} {s : UInt64} {t e : UInt16} {bs : List UInt8} (h : bs.length ≤ 1200) : (encP key d s t e bs).length ≤ 100000 := by
  by_cases hk : chk d s bs.length = 0
  · have := (enc_all (key := key) (t := t) (e := e) (rfl : bs.length = bs.length) hk).1
    omega
  · rw [encP_bad rfl hk]; simp
theorem St.swapT {w0 w : World} {F : List Nat} {A X Z R : List (Nat × Obj)} (h : St w0 F (A ++ (X ++ (Z ++ R))) w) : St w0 F (A ++ (Z ++ (X ++ R))) w :=
  h.perm (List.Perm.append_left A (by rw [← List.append_assoc, ← List.append_assoc]; exact List.Perm.append_right R List.perm_append_comm))
theorem rcvE_o {m : SS} {bs : List UInt8} (h : ¬ m.cz = true) : rcvE m bs = fstE (nth4 (dcdE m.key bs) (if (((dcdD m.key bs : Nat) : Int) == ((m.dir : Nat) : Int)) = true then 8 else 0) (if (!frsh m.ls (dcdS m.key bs)) = true then 9 else 0) 0) 3 := if_neg h
theorem errV_one (C c : Nat) : (errV C c).oneCell' = true := by unfold errV; split <;> rfl
theorem errV_cells (C c : Nat) : (errV C c).cells = #[errV C c] := by unfold errV; split <;> rfl
end Go.X

/- For the laws of sessions: tails brought forward, bytes to a string, what a trace of calls holds (no program in sight). -/
namespace Go.X
open Go
section
variable {w0 w w' : World} {F : List Nat} {A R X Y Z T0 T1 T2 T3 T4 : List (Nat × Obj)}
theorem St.br2 (h : St w0 F (A ++ (T0 ++ (T1 ++ (X ++ R)))) w) : St w0 F (A ++ (X ++ (T0 ++ (T1 ++ R)))) w := by
  have h1 := St.swapT (A := A ++ T0) (X := T1) (Z := X) (R := R) (by simpa [List.append_assoc] using h)
  exact St.swapT (by simpa [List.append_assoc] using h1)
theorem St.br3 (h : St w0 F (A ++ (T0 ++ (T1 ++ (T2 ++ (X ++ R))))) w) : St w0 F (A ++ (X ++ (T0 ++ (T1 ++ (T2 ++ R))))) w := by
  have h1 := St.br2 (A := A ++ T0) (T0 := T1) (T1 := T2) (X := X) (R := R) (by simpa [List.append_assoc] using h)
  exact St.swapT (by simpa [List.append_assoc] using h1)
theorem St.br4 (h : St w0 F (A ++ (T0 ++ (T1 ++ (T2 ++ (T3 ++ (X ++ R)))))) w) : St w0 F (A ++ (X ++ (T0 ++ (T1 ++ (T2 ++ (T3 ++ R)))))) w := by
  have h1 := St.br3 (A := A ++ T0) (T0 := T1) (T1 := T2) (T2 := T3) (X := X) (R := R) (by simpa [List.append_assoc] using h)
  exact St.swapT (by simpa [List.append_assoc] using h1)
theorem St.br5 (h : St w0 F (A ++ (T0 ++ (T1 ++ (T2 ++ (T3 ++ (T4 ++ (X ++ R))))))) w) : St w0 F (A ++ (X ++ (T0 ++ (T1 ++ (T2 ++ (T3 ++ (T4 ++ R))))))) w := by
  have h1 := St.br4 (A := A ++ T0) (T0 := T1) (T1 := T2) (T2 := T3) (T3 := T4) (X := X) (R := R) (by simpa [List.append_assoc] using h)
  exact St.swapT (by simpa [List.append_assoc] using h1)
theorem St.callXY (h : St w0 F (A ++ (X ++ R)) w) (hc : St w (X.map Prod.fst) (Z ++ Y) w') : St w0 F (A ++ (Z ++ (Y ++ R))) w' := by
  have := St.callX h hc
  rwa [List.append_assoc] at this
/-- the first tail alone -/
theorem St.only (h : St w0 F (A ++ (X ++ R)) w) : St w0 F (A ++ (X ++ [])) w :=
  h.sublist (List.Sublist.append_left (List.Sublist.append_left (List.nil_sublist _) _) _)
end
section
variable {P : Program} {ops : Array Oper} {n : Nat} {l : Regs} {w : World} {K : Regs → World → Prop}
variable {d T S : Nat} {ps : String} {af : Array Edge} {g : Option (Nat × Bool)} {x : Operand}
theorem run_ne_ii {P : Program} (w : World) {t tx : TypeId} {ms : Array (String × TypeId)} {k q : IntKind} (a b : Int) (ht : P.underlying t = some (.interface ms)) (hc : (P.info? tx).map (·.comparable) = some true) (hx : P.underlying tx = some (.int q)) :
    (Op.equal t (.iface tx (.int k a)) (.iface tx (.int k b))).run P w = .ok (a == b) w := by
  cases hi : P.info? tx with
  | none => simp [hi] at hc
  | some i =>
    have hcc : i.comparable = true := by simpa [hi] using hc
    have h : ∀ d : Nat, (Op.equalIn (d + 2) t (.iface tx (.int k a)) (.iface tx (.int k b))).run P w = .ok (a == b) w := fun d => by
      simp [Op.equalIn, run_underlying ht, run_underlying hx, typeInfo, hi, hcc]
    simp [Op.equal, Op.maxDepth, h 9998]
theorem run_ne_ni {P : Program} (w : World) {t tp : TypeId} {ms : Array (String × TypeId)} (v : Value) (ht : P.underlying t = some (.interface ms)) : (Op.equal t .nilIface (.iface tp v)).run P w = .ok false w := by
  have h : ∀ d : Nat, (Op.equalIn (d + 1) t .nilIface (.iface tp v)).run P w = .ok false w := fun d => by simp [Op.equalIn, run_underlying ht]
  simp [Op.equal, Op.maxDepth, h 9999]
theorem neEE {y : Operand} {C c R : Nat} {k : Int} {ms : Array (String × TypeId)} (hu : P.underlying S = some (.interface ms)) (hE : Ec P C) (hg : gval ops l ⟨some d, .binOp .neq S x y R, T, ps, af, g⟩ = some true) (hd : Nat.blt d n = true)
    (hx : ev l x = some (errV C c)) (hy : ev l y = some (.iface C (I k))) (hk : K ((d, .bool (decide (¬ ((c : Int) = k ∧ c ≠ 0)))) :: l) w) : WO P ops n ⟨some d, .binOp .neq S x y R, T, ps, af, g⟩ l w K := by
  obtain ⟨hc, q, hq⟩ := hE
  by_cases h : c = 0
  · subst h
    refine WO.val hg hd (v := .bool true) (fun a ha => ?_) (by simpa using hk)
    have h1 := ha.ev hx; rw [errV_0] at h1
    simp only [execOp, h1, ha.ev hy, Sem.run_bind, eqGuard_nili]
    simp [binOp, run_ne_ni w (I k) hu]
  · refine WO.val hg hd (v := .bool (!((c : Int) == k))) (w' := w) (fun a ha => ?_) ?_
    · have h1 := ha.ev hx; rw [errV_s C c h] at h1
      simp only [execOp, h1, ha.ev hy, Sem.run_bind, eqGuard_iface]
      simp [binOp, run_ne_ii w (c : Int) k hu hc hq]
    · have e : (!((c : Int) == k)) = decide (¬ ((c : Int) = k ∧ c ≠ 0)) := by
        rw [Bool.eq_iff_iff]; simp [h]
      rw [e]; exact hk
/-- a struct of numbers, bools and strings, one cell each -/
def flatF (P : Program) : List Field → Nat → List Value → Bool
  | [], _, [] => true
  | f :: fs, k, v :: vs => f.name != "_" && f.offset == k && (match P.underlying f.type, v with | some (.int a), .int b _ => decide (a = b) | some .bool, .bool _ => true | some .string, .string _ => true | _, _ => false) && flatF P fs (k + 1) vs
  | _, _, _ => false
theorem eqF_self (P : Program) (w : World) (d : Nat) (xs : Array Value) : ∀ (fs : List Field) (k : Nat) (vs : List Value) (_ : flatF P fs k vs = true) (_ : ∀ j v, vs[j]? = some v → xs[k + j]? = some v), (Op.eqFields (d + 1) xs xs fs).run P w = .ok true w
  | [], _, _, _, _ => by simp [Op.eqFields]
  | f :: fs, k, [], h, _ => by simp [flatF] at h
  | f :: fs, k, v :: vs, h, hx => by
    simp only [flatF, Bool.and_eq_true, bne_iff_ne, ne_eq, beq_iff_eq] at h
    obtain ⟨⟨⟨h1, h2⟩, h3⟩, h4⟩ := h
    have hv : xs[f.offset]? = some v := by have := hx 0 v rfl; rw [Nat.add_zero] at this; rw [h2]; exact this
    have ih := eqF_self P w d xs fs (k + 1) vs h4 (fun j u hj => by have := hx (j + 1) u hj; rw [Nat.add_right_comm]; exact this)
    have key : (part f.type xs f.offset).run P w = .ok v w ∧ (Op.equalIn (d + 1) f.type v v).run P w = .ok true w := by
      cases hu : P.underlying f.type with
      | none => simp [hu] at h3
      | some u =>
        rw [hu] at h3
        have hp : aggD u = false → (part f.type xs f.offset).run P w = .ok v w := fun a => by
          unfold part
          rw [Sem.run_bind, Sc.run ⟨u, hu, a⟩ w]
          simp [hv]
        cases u <;> cases v <;> simp only [] at h3 <;> try (cases h3; done)
        all_goals refine ⟨hp rfl, ?_⟩
        all_goals simp [Op.equalIn, run_underlying hu]
        exact (MapKept.bytes_beq _ _).2 rfl
    simp only [Op.eqFields, h1, not_false_iff, if_true, ne_eq, Sem.run_bind, key.1, key.2, Result.andThen_ok]
    simpa using ih
theorem st_run {xs : Array Value} (hu : P.underlying S = some (.struct (P.fieldsOf S))) (hp : P.stoodInHeld S = false) (hf : flatF P (P.fieldsOf S).toList 0 xs.toList = true) (w : World) : (Op.equalIn 10000 S (.agg xs) (.agg xs)).run P w = .ok true w := by
  rw [run_equalIn_struct w 9999 S xs xs hu hp]
  exact eqF_self P w 9998 xs _ 0 _ hf (fun j v hj => by rw [Nat.zero_add]; simpa using hj)
/-- two structs that are the same -/
theorem eqst {R : Nat} {xs ys : Array Value} {y : Operand} (hu : P.underlying S = some (.struct (P.fieldsOf S))) (hp : P.stoodInHeld S = false) (hq : P.eqGuardType P.depth S = false) (hf : flatF P (P.fieldsOf S).toList 0 xs.toList = true) (e : xs = ys)
    (hg : gval ops l ⟨some d, .binOp .eql S x y R, T, ps, af, g⟩ = some true) (hd : Nat.blt d n = true) (hx : ev l x = some (.agg xs)) (hy : ev l y = some (.agg ys)) (k : K ((d, .bool true) :: l) w) : WO P ops n ⟨some d, .binOp .eql S x y R, T, ps, af, g⟩ l w K := by
  subst e
  refine WO.val hg hd (v := .bool true) (fun a ha => ?_) k
  simp only [execOp, ha.ev hx, ha.ev hy, Sem.run_bind, run_eqGuard_agg w .eql S x y xs xs hq, Result.andThen_ok, run_eql_struct, st_run hu hp hf]; rfl
theorem nest {R : Nat} {xs ys : Array Value} {y : Operand} (hu : P.underlying S = some (.struct (P.fieldsOf S))) (hp : P.stoodInHeld S = false) (hq : P.eqGuardType P.depth S = false) (hf : flatF P (P.fieldsOf S).toList 0 xs.toList = true) (e : xs = ys)
    (hg : gval ops l ⟨some d, .binOp .neq S x y R, T, ps, af, g⟩ = some true) (hd : Nat.blt d n = true) (hx : ev l x = some (.agg xs)) (hy : ev l y = some (.agg ys)) (k : K ((d, .bool false) :: l) w) : WO P ops n ⟨some d, .binOp .neq S x y R, T, ps, af, g⟩ l w K := by
  subst e
  refine WO.val hg hd (v := .bool false) (fun a ha => ?_) k
  simp only [execOp, ha.ev hx, ha.ev hy, Sem.run_bind, run_eqGuard_agg w .neq S x y xs xs hq, Result.andThen_ok, run_neq_struct, st_run hu hp hf]; rfl
theorem cvbs {R e m c : Nat} {a : Option Addr} {bs : List UInt8} (hu : P.underlying S = some (.slice e)) (he : P.underlying e = some (.int .u8)) (hD : P.underlying R = some .string) (hg : gval ops l ⟨some d, .convert S R x, T, ps, af, g⟩ = some true) (hd : Nat.blt d n = true)
    (hx : ev l x = some (.slice a m c)) (hc : Cel w a (c8 bs)) (hl : bs.length = m) (k : K ((d, Str bs) :: l) w) : WO P ops n ⟨some d, .convert S R x, T, ps, af, g⟩ l w K := by
  refine WO.val hg hd (v := Str bs) (w' := w) (fun r hr => ?_) k
  simp only [execOp, hr.ev hx, Sem.run_bind]
  subst hl
  cases a with
  | none =>
    have : bs = [] := by
      cases bs with
      | nil => rfl
      | cons b t => exact absurd (hc 0 (U8 b) rfl).1 (by simp)
    subst this
    simp [Go.run_convert_bytes_nil w S e hu he 0 c R hD]
    rfl
  | some a =>
    have h := Go.run_convert_bytes_back (P := P) w S R e a c bs hu he hD (fun j hj => by
      have := (hc j (U8 bs[j]) (by simp [c8, hj])).2
      simpa [adr] using this)
    simp [h]; rfl
end

/-- what is counted stays small -/
def Bd (m : SS) (k : Nat) : Prop := m.ac ≤ k ∧ m.rf ≤ k ∧ m.rc ≤ k ∧ m.mv ≤ k
theorem Bd.lt {m : SS} {k : Nat} (h : Bd m k) (hk : k < 1000000000) : m.ac < 1000000000 ∧ m.rf < 1000000000 ∧ m.rc < 1000000000 ∧ m.mv < 1000000000 := by
  obtain ⟨a, b, c, d⟩ := h; omega
theorem Bd_new (key : V8 16) (d : Nat) (ad : List UInt8) (nx : UInt64) : Bd (sesN key d ad nx) 0 := by simp [Bd, sesN]
theorem Bd_snd {m : SS} {k : Nat} (h : Bd m k) (n : Nat) : Bd (sndM m n) k := by unfold sndM; split <;> exact h
theorem Bd_rcv {m : SS} {k : Nat} (h : Bd m k) (bs fr : List UInt8) (x : UInt64) : Bd (rcvM m bs fr x) (k + 1) := by
  obtain ⟨a, b, c, d⟩ := h
  unfold rcvM
  split
  · exact ⟨by omega, by omega, by omega, by omega⟩
  · split
    · have hmv : mvN m.fx m.ad fr m.mv ≤ k + 1 := by unfold mvN; split <;> omega
      unfold smpM
      dsimp only
      split <;> refine ⟨?_, ?_, ?_, ?_⟩ <;> first | exact hmv | (simp only []; omega)
    · exact ⟨by simp only []; omega, by simp only []; omega, by simp only []; omega, by simp only []; omega⟩
theorem Bd.mono {m : SS} {k j : Nat} (h : Bd m k) (hk : k ≤ j) : Bd m j := by obtain ⟨a, b, c, d⟩ := h; exact ⟨by omega, by omega, by omega, by omega⟩

theorem encP_cons {key : V8 16} {d : Nat} {s : UInt64} {t e : UInt16} {bs : List UInt8} (hd : d ≤ 1) (hs : s.toNat ≤ 9223372036854775807) (hl : bs.length ≤ 1200) :
    (encP key (d : Int) s t e bs).length = bs.length + 28 ∧ dcdE key (encP key (d : Int) s t e bs) = 0 ∧ dcdD key (encP key (d : Int) s t e bs) = d ∧ dcdS key (encP key (d : Int) s t e bs) = s ∧ dcdT key (encP key (d : Int) s t e bs) = t ∧
      dcdM key (encP key (d : Int) s t e bs) = e ∧ dcdP key (encP key (d : Int) s t e bs) = bs ∧ peekD (encP key (d : Int) s t e bs) = d ∧ peekS (encP key (d : Int) s t e bs) = s := by
  have hk : chk (d : Int) s bs.length = 0 := by rw [chk, if_neg (by omega), if_neg (by omega), if_neg (by omega)]
  have e1 : encP key (d : Int) s t e bs = encV key d s t e bs := by rw [encP, if_pos hk]; rfl
  obtain ⟨h0, h1, h2, h3, h4, h5⟩ := dcd_enc key d s t e bs hd hs hl
  have hl2 : lng (encV key d s t e bs).length = 0 := lng_ok (by simp) (by simp; omega)
  rw [e1, peekD, peekS, if_pos hl2, if_pos hl2, encV_len]
  exact ⟨rfl, h0, h1, h2, h3, h4, h5, headD_head d s _ hd hs, headS_head d s _ hd hs⟩
theorem sndE_0 {m : SS} {n : Nat} (h : sndE m n = 0) : m.cz = false ∧ n ≤ 1200 ∧ m.ad ≠ [] ∧ m.nx.toNat < 9223372036854775807 := by
  obtain ⟨h1, h2, h3, h4⟩ := fst4_0.1 h
  refine ⟨?_, ?_, ?_, ?_⟩
  · cases hc : m.cz <;> simp [hc] at h1 ⊢
  · simp at h2; omega
  · simpa using h3
  · unfold pekE at h4; rw [if_neg (by simp)] at h4; split at h4
    · cases h4
    · rename_i h5
      have : (9223372036854775807 : UInt64).toNat = 9223372036854775807 := rfl
      first | omega | (simp only [Nat.not_le] at h5; exact h5)
theorem sndE_ok {m : SS} {n : Nat} (h1 : m.cz = false) (h2 : n ≤ 1200) (h3 : m.ad ≠ []) (h4 : m.nx.toNat < 9223372036854775807) : sndE m n = 0 := by
  refine fst4_0.2 ⟨by simp [h1], by simp; omega, by simp [h3], ?_⟩
  unfold pekE; rw [if_neg (by simp), if_neg (by omega)]
theorem sndE_cz {m : SS} {n : Nat} (h : m.cz = true) : sndE m n = 7 := by simp [sndE, fstE, nth4, h]
theorem sndM_cz {m : SS} {n : Nat} (h : m.cz = true) : sndM m n = m := if_neg (by rw [sndE_cz h]; decide)
theorem rcvE_cz {m : SS} {bs : List UInt8} (h : m.cz = true) : rcvE m bs = 7 := if_pos h
theorem rcvM_cz {m : SS} {bs fr : List UInt8} {x : UInt64} (h : m.cz = true) : rcvM m bs fr x = m := if_pos h
/-- a session at its last number -/
theorem sndE_6 {m : SS} {n : Nat} (h1 : m.cz = false) (h2 : n ≤ 1200) (h3 : m.ad ≠ []) (h4 : 9223372036854775807 ≤ m.nx.toNat) : sndE m n = 6 := by
  have e : pekE m.nx false = 6 := by unfold pekE; rw [if_neg (by simp), if_pos h4]
  unfold sndE
  rw [e]
  simp [fstE, nth4, h1, h3]; omega

/-! the trace of the documentation -/
theorem awk {key : V8 16} {c0 s0 s0' c1 s1 s2 : SS} {b p ad1 : List UInt8} {e0 e1 e2 e3 : Nat} (hc0 : c0 = sesN key 0 [115, 58, 49] 5) (hs0 : s0 = sesN key 1 [] 0) (he0 : e0 = sndE s0 0) (hm0 : s0' = sndM s0 0)
    (he1 : e1 = sndE c0 2) (hm1 : c1 = sndM c0 2) (ha1 : ad1 = sndA c0 2) (hb : b = sndB c0 [104, 105] 70000) (he2 : e2 = rcvE s0' b) (hp : p = rcvP s0' b) (hs1 : s1 = rcvM s0' b [99, 58, 50] 70010)
    (he3 : e3 = rcvE s1 b) (hs2 : s2 = rcvM s1 b [99, 58, 51] 70011) :
    e0 = 12 ∧ ad1 = [115, 58, 49] ∧ e1 = 0 ∧ p = [104, 105] ∧ e2 = 0 ∧ e3 = 9 ∧ s2.ad = [99, 58, 50] ∧ lstV s2.ls = 5 ∧ s2.ls ≠ 0 ∧ s2.rf = 1 ∧ c1.fs + c1.gv = 6 := by
  have ok1 : adA [115, 58, 49] = [115, 58, 49] := by decide
  have ok2 : okA [99, 58, 50] = true := by decide
  have m5 : mnU 5 9223372036854775807 = 5 := by decide
  have m0 : mnU 0 9223372036854775807 = 0 := by decide
  have ok0 : adA [] = [] := by decide
  have E0 : sndE s0 0 = 12 := by subst hs0; simp [sesN, sndE, fstE, nth4, ok0]
  have E1 : sndE c0 2 = 0 := sndE_ok (by subst hc0; rfl) (by omega) (by subst hc0; simp [sesN, ok1]) (by subst hc0; simp [sesN, m5])
  have hs : s0' = s0 := by rw [hm0, sndM, if_neg (by omega)]
  have hB : b = encP key ((0 : Nat) : Int) 5 (ofT 70000) (replyV none 70000) [104, 105] := by
    rw [hb, sndB, if_pos (by exact E1)]; subst hc0; simp only [sesN, m5]
  obtain ⟨_, d1, d2, d3, d4, d5, d6, _, _⟩ := encP_cons (key := key) (d := 0) (s := 5) (t := ofT 70000) (e := replyV none 70000) (bs := [104, 105]) (by omega) (by decide) (by decide)
  rw [← hB] at d1 d2 d3 d4 d5 d6
  have E2 : rcvE s0' b = 0 := by
    rw [hs, hs0]; unfold rcvE
    have e1 : (sesN key 1 [] 0).cz = false := rfl
    have e2 : (sesN key 1 [] 0).key = key := rfl
    have e3 : (sesN key 1 [] 0).dir = 1 := rfl
    have e4 : (sesN key 1 [] 0).ls = 0 := rfl
    rw [e1, e2, e3, e4, d1, d2, d3]; decide
  have kM : replyV none 70000 = 65535 := rfl
  have hS1 : s1 = { s0 with ac := 1, ls := 6, kp := some (ofT 70000, 70010), ad := [99, 58, 50], mv := 1 } := by
    rw [hs1, rcvM, if_neg (by rw [hs, hs0]; simp [sesN]), if_pos E2, hs]
    subst hs0
    have e2 : (sesN key 1 [] 0).key = key := rfl
    simp only [e2, d3, d4, d5, kM, smpM, if_true]
    simp [sesN, mvA, mvN, ok2, ok0]
  have E3 : rcvE s1 b = 9 := by
    rw [hS1, hs0]; unfold rcvE
    simp only [sesN, d1, d2, d3]; decide
  have hS2 : s2 = { s1 with rf := s1.rf + 1 } := by
    rw [hs2, rcvM, if_neg (by rw [hS1, hs0]; simp [sesN]), if_neg (by omega)]
  refine ⟨by omega, ?_, by omega, ?_, by omega, by omega, ?_, ?_, ?_, ?_, ?_⟩
  · rw [ha1, sndA, if_pos E1]; subst hc0; exact ok1
  · rw [hp, rcvP, if_pos E2, hs]; subst hs0; exact d6
  · rw [hS2, hS1]
  · rw [hS2, hS1]; show lstV 6 = 5; decide
  · rw [hS2, hS1]; show (6 : UInt64) ≠ 0; decide
  · rw [hS2, hS1, hs0]; rfl
  · rw [hm1, sndM, if_pos E1]; subst hc0; simp [sesN, m5]
end Go.X

/- walks -/
namespace Go.Proofs.XS
open Go Go.X Go.Proofs
set_option maxRecDepth 100000 in
theorem sp_keys_load_1 (i b E : Nat) (v : V8 16) (i_ : Int) (w0 : World) (hi_ : i_ = (i : Int)) (hi : i < 13) (hb : w0.heap[b]? = some (.cells (BV v) E)) : Calls Tryz.prog 166 #[I i_, Ptr b 0] w0 (Ret w0 (U32 (col (gv v i) (gv v (i + 1)) (gv v (i + 2)) (gv v (i + 3))))) := by
  subst hi_
  refine enter (args := [I (i : Int), Ptr b 0]) Tryz.func166 rfl rfl ?_
  refine startw fun w hS => ?_
  refine rg ?_
  refine asg rfl rfl rfl ?_
  refine wq_then ?_
  refine rd mo 25 (fun w => St w0 [] [] w) ?_
  have hS := hS.drew
  refine dq 0 rfl (by kernel_rfl) (by kernel_rfl) (by kernel_rfl) rfl rfl (fun w hS => mv rfl rfl rfl ⟨rfl, rfl⟩) hS ?_
  refine dq 1 rfl (by kernel_rfl) (by kernel_rfl) (by kernel_rfl) rfl rfl (fun w hS => ian (i) (i) Tryz.underlying22 sz5 rfl rfl rfl rfl (by omega) (by omega) (by omega) ⟨rfl, rfl⟩) hS ?_
  refine dq 2 rfl (by kernel_rfl) (by kernel_rfl) (by kernel_rfl) rfl rfl (fun w hS => lod hb List.not_mem_nil sc5 hS rfl rfl rfl (BV_get _ i (by omega)) ⟨rfl, rfl⟩) hS ?_
  refine dq 3 rfl (by kernel_rfl) (by kernel_rfl) (by kernel_rfl) rfl rfl (fun w hS => cvu32 Tryz.underlying72 ⟨_, Tryz.underlying5⟩ rfl rfl rfl ⟨rfl, rfl⟩) hS ?_
  refine dq 4 rfl (by kernel_rfl) (by kernel_rfl) (by kernel_rfl) rfl rfl (fun w hS => shln32 (24) (by omega) rfl rfl rfl rfl ⟨rfl, rfl⟩) hS ?_
  refine dq 5 rfl (by kernel_rfl) (by kernel_rfl) (by kernel_rfl) rfl rfl (fun w hS => mv rfl rfl rfl ⟨rfl, rfl⟩) hS ?_
  refine dq 6 rfl (by kernel_rfl) (by kernel_rfl) (by kernel_rfl) rfl rfl (fun w hS => addi (by omega) (by omega) rfl rfl rfl rfl ⟨rfl, rfl⟩) hS ?_
  refine dq 7 rfl (by kernel_rfl) (by kernel_rfl) (by kernel_rfl) rfl rfl (fun w hS => ian (i + 1) ((i + 1)) Tryz.underlying22 sz5 rfl rfl rfl rfl (by omega) (by omega) (by omega) ⟨rfl, rfl⟩) hS ?_
  refine dq 8 rfl (by kernel_rfl) (by kernel_rfl) (by kernel_rfl) rfl rfl (fun w hS => lod hb List.not_mem_nil sc5 hS rfl rfl rfl (BV_get _ (i + 1) (by omega)) ⟨rfl, rfl⟩) hS ?_
  refine dq 9 rfl (by kernel_rfl) (by kernel_rfl) (by kernel_rfl) rfl rfl (fun w hS => cvu32 Tryz.underlying72 ⟨_, Tryz.underlying5⟩ rfl rfl rfl ⟨rfl, rfl⟩) hS ?_
  refine dq 10 rfl (by kernel_rfl) (by kernel_rfl) (by kernel_rfl) rfl rfl (fun w hS => shln32 (16) (by omega) rfl rfl rfl rfl ⟨rfl, rfl⟩) hS ?_
  refine dq 11 rfl (by kernel_rfl) (by kernel_rfl) (by kernel_rfl) rfl rfl (fun w hS => or32 rfl rfl rfl rfl ⟨rfl, rfl⟩) hS ?_
  refine dq 12 rfl (by kernel_rfl) (by kernel_rfl) (by kernel_rfl) rfl rfl (fun w hS => mv rfl rfl rfl ⟨rfl, rfl⟩) hS ?_
  refine dq 13 rfl (by kernel_rfl) (by kernel_rfl) (by kernel_rfl) rfl rfl (fun w hS => addi (by omega) (by omega) rfl rfl rfl rfl ⟨rfl, rfl⟩) hS ?_
  refine dq 14 rfl (by kernel_rfl) (by kernel_rfl) (by kernel_rfl) rfl rfl (fun w hS => ian (i + 2) ((i + 2)) Tryz.underlying22 sz5 rfl rfl rfl rfl (by omega) (by omega) (by omega) ⟨rfl, rfl⟩) hS ?_
  refine dq 15 rfl (by kernel_rfl) (by kernel_rfl) (by kernel_rfl) rfl rfl (fun w hS => lod hb List.not_mem_nil sc5 hS rfl rfl rfl (BV_get _ (i + 2) (by omega)) ⟨rfl, rfl⟩) hS ?_
  refine dq 16 rfl (by kernel_rfl) (by kernel_rfl) (by kernel_rfl) rfl rfl (fun w hS => cvu32 Tryz.underlying72 ⟨_, Tryz.underlying5⟩ rfl rfl rfl ⟨rfl, rfl⟩) hS ?_
  refine dq 17 rfl (by kernel_rfl) (by kernel_rfl) (by kernel_rfl) rfl rfl (fun w hS => shln32 (8) (by omega) rfl rfl rfl rfl ⟨rfl, rfl⟩) hS ?_
  refine dq 18 rfl (by kernel_rfl) (by kernel_rfl) (by kernel_rfl) rfl rfl (fun w hS => or32 rfl rfl rfl rfl ⟨rfl, rfl⟩) hS ?_
  refine dq 19 rfl (by kernel_rfl) (by kernel_rfl) (by kernel_rfl) rfl rfl (fun w hS => mv rfl rfl rfl ⟨rfl, rfl⟩) hS ?_
  refine dq 20 rfl (by kernel_rfl) (by kernel_rfl) (by kernel_rfl) rfl rfl (fun w hS => addi (by omega) (by omega) rfl rfl rfl rfl ⟨rfl, rfl⟩) hS ?_
  refine dq 21 rfl (by kernel_rfl) (by kernel_rfl) (by kernel_rfl) rfl rfl (fun w hS => ian (i + 3) ((i + 3)) Tryz.underlying22 sz5 rfl rfl rfl rfl (by omega) (by omega) (by omega) ⟨rfl, rfl⟩) hS ?_
  refine dq 22 rfl (by kernel_rfl) (by kernel_rfl) (by kernel_rfl) rfl rfl (fun w hS => lod hb List.not_mem_nil sc5 hS rfl rfl rfl (BV_get _ (i + 3) (by omega)) ⟨rfl, rfl⟩) hS ?_
  refine dq 23 rfl (by kernel_rfl) (by kernel_rfl) (by kernel_rfl) rfl rfl (fun w hS => cvu32 Tryz.underlying72 ⟨_, Tryz.underlying5⟩ rfl rfl rfl ⟨rfl, rfl⟩) hS ?_
  refine dq 24 rfl (by kernel_rfl) (by kernel_rfl) (by kernel_rfl) rfl rfl (fun w hS => or32 rfl rfl rfl rfl ⟨rfl, rfl⟩) hS ?_
  refine dl 25 rfl (by kernel_rfl) ?_
  refine asg rfl rfl rfl ?_
  refine ⟨fun h => (by cases h), ?_⟩
  refine de (by kernel_rfl) ?_
  refine wq_then ?_
  refine wc_ret ?_
  refine fin1 (v := U32 ((((shl32 (toU32 (((gv v i).toNat : Int))) 24) ||| (shl32 (toU32 (((gv v (i + 1)).toNat : Int))) 16)) ||| (shl32 (toU32 (((gv v (i + 2)).toNat : Int))) 8)) ||| (toU32 (((gv v (i + 3)).toNat : Int))))) rfl rfl ?_
  exact ⟨rfl, hS.drop⟩
end Go.Proofs.XS

/- walks -/
namespace Go.Proofs.XS
open Go Go.X Go.Proofs
set_option maxRecDepth 100000 in
theorem sp_keys_load (b : V8 16) (w0 : World) : Calls Tryz.prog 135 #[.agg (BV b)] w0 (Ret w0 (.agg (WV (wds b)))) := by
  refine enter (args := [.agg (BV b)]) Tryz.func135 rfl rfl ?_
  refine startw fun w hS => ?_
  refine rg ?_
  refine bxa hS rfl rfl rfl ?_
  intro b1 w hb1 hS
  refine ala zr144 hS rfl rfl ?_
  intro b2 w hb2 hS
  refine wq_then ?_
  refine rg ?_
  refine ala zr144 hS rfl rfl ?_
  intro b3 w hb3 hS
  refine wq_then ?_
  refine rg ?_
  refine mkf rfl rfl rfl ?_
  refine asg rfl rfl rfl ?_
  refine wq_then ?_
  refine wc_seq ?_
  refine rg ?_
  refine mv rfl rfl rfl ?_
  refine wq_then ?_
  refine wc_block ?_
  refine wc_loop (σ := Nat) (fun k => [(2, Ptr b2 0), (3, Ptr b3 0), (4, .func (.func 166) #[] #[Ptr b1 0]), (7, I ((k : Int)))])
    (fun k w => (k ≤ 4) ∧ St w0 [] [(b3, .cells (WV (fill32 4 (wdf b) (Vector.replicate 4 0) k)) 144), (b2, .cells (WV (Vector.replicate 4 0)) 144), (b1, .cells (BV b) 22)] w) (fun k => 4 - k) 0 ⟨rfl, rfl, rfl, rfl, trivial⟩ ⟨by omega, (by simp only [Nat.zero_mul, Nat.add_zero, fill8_0, fill32_0]; exact hS)⟩ ?_
  rintro k w ⟨hk, hS⟩
  refine rg ?_
  refine lss rfl rfl rfl rfl ?_
  refine wq_then ?_
  refine wc_seq ?_
  refine wc_if rfl (fun hc1 => ?_) (fun hc1 => ?_)
  · skip
    try simp only [SB] at hc1
    refine wc_skip ?_
    refine wq_then ?_
    refine wc_seq ?_
    refine wc_block ?_
    refine rg ?_
    refine mv rfl rfl rfl ?_
    refine asg rfl rfl rfl ?_
    refine wq_then ?_
    refine wc_region ?_
    refine mv rfl rfl rfl ?_
    refine mv rfl rfl rfl ?_
    refine mv rfl rfl rfl ?_
    refine muli (by omega) (by omega) rfl rfl rfl rfl ?_
    refine cv cf166 hS rfl rfl rfl rfl rfl (sp_keys_load_1 ((4 * k)) (b1) (_) (b) _ _ (by omega) (by omega) (hS.get 2 rfl)) ?_
    intro w hS
    refine ian (k) (k) Tryz.underlying144 sz72 rfl rfl rfl rfl (by omega) (by omega) (by omega) ?_
    refine st (cs' := WV (fill32 4 (wdf b) (Vector.replicate 4 0) (k + 1))) 0 sz72 hS rfl rfl rfl rfl rfl rfl (by rw [WV_size]; omega) (by rw [WV_set]; exact congrArg WV (fill32_succ (wdf b) (Vector.replicate 4 0) k)) ?_
    intro w hS
    refine q_block_norm ?_
    refine wq_then ?_
    refine wc_region ?_
    refine addi (by omega) (by omega) rfl rfl rfl rfl ?_
    refine mv rfl rfl rfl ?_
    refine again_q (k + 1) ⟨rfl, rfl, rfl, lkI rfl (by first | omega | rfl), trivial⟩ ⟨by omega, hS⟩ (by omega)
  · skip
    try simp only [SB] at hc1
    refine wc_exit ?_
    refine q_then_exit ?_
    refine q_then_exit ?_
    refine q_block_hit ?_
    refine wq_then ?_
    refine rg ?_
    refine la 0 ag144 hS rfl rfl rfl rfl (WV_size _) ?_
    refine sa 1 ag144 hS rfl rfl rfl (WV_one _) rfl (WV_size _) (WV_size _) ?_
    intro w hS
    refine wq_then ?_
    refine wc_ret ?_
    refine fin1 (v := .agg (WV (fill32 4 (wdf b) (Vector.replicate 4 0) k))) rfl ⟨_, rfl, lv_a ag144 (hS.get 1 rfl) (WV_size _)⟩ ?_
    refine ⟨?_, hS.drop⟩
    have hk4 : k = 4 := by omega
    subst hk4; rw [fill32_n]; rfl
end Go.Proofs.XS

/- walks -/
namespace Go.Proofs.XS
open Go Go.X Go.Proofs
set_option maxRecDepth 100000 in
theorem sp_keys_store (l : V32 4) (w0 : World) : Calls Tryz.prog 133 #[.agg (WV l)] w0 (Ret w0 (.agg (BV (unw l)))) := by
  refine enter (args := [.agg (WV l)]) Tryz.func133 rfl rfl ?_
  refine startw fun w hS => ?_
  refine rg ?_
  refine bxa hS rfl rfl rfl ?_
  intro b1 w hb1 hS
  refine ala zr22 hS rfl rfl ?_
  intro b2 w hb2 hS
  refine wq_then ?_
  refine rg ?_
  refine ala zr22 hS rfl rfl ?_
  intro b3 w hb3 hS
  refine wq_then ?_
  refine wc_seq ?_
  refine rg ?_
  refine la 2 ag144 hS rfl rfl rfl rfl (WV_size _) ?_
  refine mv rfl rfl rfl ?_
  refine wq_then ?_
  refine wc_block ?_
  refine wc_loop (σ := Nat) (fun k => [(2, Ptr b2 0), (3, Ptr b3 0), (7, .agg (WV l)), (8, I ((k : Int)))])
    (fun k w => (k ≤ 4) ∧ St w0 [] [(b3, .cells (BV (fill8 16 (unwf l) (Vector.replicate 16 0) (k * 4))) 22), (b2, .cells (BV (Vector.replicate 16 0)) 22), (b1, .cells (WV l) 144)] w) (fun k => 4 - k) 0 ⟨rfl, rfl, rfl, rfl, trivial⟩ ⟨by omega, (by simp only [Nat.zero_mul, Nat.add_zero, fill8_0, fill32_0]; exact hS)⟩ ?_
  rintro k w ⟨hk, hS⟩
  refine rg ?_
  refine lss rfl rfl rfl rfl ?_
  refine wq_then ?_
  refine wc_seq ?_
  refine wc_if rfl (fun hc1 => ?_) (fun hc1 => ?_)
  · skip
    try simp only [SB] at hc1
    refine wc_skip ?_
    refine wq_then ?_
    refine wc_seq ?_
    refine wc_block ?_
    refine rg ?_
    refine mv rfl rfl rfl ?_
    refine ixn (k) Tryz.underlying144 sz72 sc72 rfl rfl rfl rfl (by omega) (by omega) (WV_get _ k (by omega)) ?_
    refine asg rfl rfl rfl ?_
    refine asg rfl rfl rfl ?_
    refine wq_then ?_
    refine rg ?_
    refine mv rfl rfl rfl ?_
    refine wq_then ?_
    refine wc_block ?_
    refine wc_loop (σ := Nat) (fun j => [(2, Ptr b2 0), (3, Ptr b3 0), (4, I ((k : Int))), (5, U32 (gw l k)), (7, .agg (WV l)), (8, I ((k : Int))), (12, I ((j : Int)))])
      (fun j w => (j ≤ 4) ∧ St w0 [] [(b3, .cells (BV (fill8 16 (unwf l) (Vector.replicate 16 0) (k * 4 + j))) 22), (b2, .cells (BV (Vector.replicate 16 0)) 22), (b1, .cells (WV l) 144)] w) (fun j => 4 - j) 0 ⟨rfl, rfl, rfl, rfl, rfl, rfl, rfl, trivial⟩ ⟨by omega, (by simp only [Nat.zero_mul, Nat.add_zero, fill8_0, fill32_0]; exact hS)⟩ ?_
    rintro j w ⟨hj, hS⟩
    refine rg ?_
    refine lss rfl rfl rfl rfl ?_
    refine wq_then ?_
    refine wc_seq ?_
    refine wc_if rfl (fun hc2 => ?_) (fun hc2 => ?_)
    · skip
      try simp only [SB] at hc2
      refine wc_skip ?_
      refine wq_then ?_
      refine wc_seq ?_
      refine wc_block ?_
      refine rg ?_
      refine mv rfl rfl rfl ?_
      refine asg rfl rfl rfl ?_
      refine wq_then ?_
      refine wc_region ?_
      refine mv rfl rfl rfl ?_
      refine muli (by omega) (by omega) rfl rfl rfl rfl ?_
      refine mv rfl rfl rfl ?_
      refine addi (by omega) (by omega) rfl rfl rfl rfl ?_
      refine mv rfl rfl rfl ?_
      refine mv rfl rfl rfl ?_
      refine muli (by omega) (by omega) rfl rfl rfl rfl ?_
      refine subi (by omega) (by omega) rfl rfl rfl rfl ?_
      refine shrn32 (24 - (8 * j)) (by omega) rfl rfl rfl rfl ?_
      refine cvu8 Tryz.underlying5 ⟨_, Tryz.underlying72⟩ rfl rfl rfl ?_
      refine ian ((4 * k) + j) (((4 * k) + j)) Tryz.underlying22 sz5 rfl rfl rfl rfl (by omega) (by omega) (by omega) ?_
      refine st (cs' := BV (fill8 16 (unwf l) (Vector.replicate 16 0) (k * 4 + (j + 1)))) 0 sz5 hS rfl rfl rfl rfl rfl rfl (by rw [BV_size]; omega) (by rw [BV_set]; exact congrArg BV (store_step l _ k j (by omega))) ?_
      intro w hS
      refine q_block_norm ?_
      refine wq_then ?_
      refine wc_region ?_
      refine addi (by omega) (by omega) rfl rfl rfl rfl ?_
      refine mv rfl rfl rfl ?_
      refine again_q (j + 1) ⟨rfl, rfl, rfl, rfl, rfl, rfl, lkI rfl (by first | omega | rfl), trivial⟩ ⟨by omega, hS⟩ (by omega)
    · skip
      try simp only [SB] at hc2
      refine wc_exit ?_
      refine q_then_exit ?_
      refine q_then_exit ?_
      refine q_block_hit ?_
      refine q_block_norm ?_
      refine wq_then ?_
      refine wc_region ?_
      refine addi (by omega) (by omega) rfl rfl rfl rfl ?_
      refine mv rfl rfl rfl ?_
      refine again_q (k + 1) ⟨rfl, rfl, rfl, lkI rfl (by first | omega | rfl), trivial⟩ ⟨by omega, (store_end hS (by omega))⟩ (by omega)
  · skip
    try simp only [SB] at hc1
    refine wc_exit ?_
    refine q_then_exit ?_
    refine q_then_exit ?_
    refine q_block_hit ?_
    refine wq_then ?_
    refine rg ?_
    refine la 0 ag22 hS rfl rfl rfl rfl (BV_size _) ?_
    refine sa 1 ag22 hS rfl rfl rfl (BV_one _) rfl (BV_size _) (BV_size _) ?_
    intro w hS
    refine wq_then ?_
    refine wc_ret ?_
    refine fin1 (v := .agg (BV (fill8 16 (unwf l) (Vector.replicate 16 0) (k * 4)))) rfl ⟨_, rfl, lv_a ag22 (hS.get 1 rfl) (BV_size _)⟩ ?_
    refine ⟨?_, hS.drop⟩
    have hk4 : k = 4 := by omega
    subst hk4; rw [fill8_n]; rfl
end Go.Proofs.XS

/- walks -/
namespace Go.Proofs.XS
open Go Go.X Go.Proofs
set_option maxRecDepth 100000 in
theorem sp_sbox_table (w0 : World) : Calls Tryz.prog 131 #[] w0 (Ret w0 (.agg (BV sboxV))) := by
  refine enter (args := []) Tryz.func131 rfl rfl ?_
  refine startw fun w hS => ?_
  refine rg ?_
  refine ala zr43 hS rfl rfl ?_
  intro b0 w hb0 hS
  refine wq_then ?_
  refine rg ?_
  refine bd (cs := BV sboxV) rfl rfl rfl (by kernel_rfl) ?_
  refine sa 0 ag43 hS rfl rfl rfl (BV_one _) rfl (BV_size _) (BV_size _) ?_
  intro w hS
  refine wq_then ?_
  refine wc_ret ?_
  refine fin1 (v := .agg (BV sboxV)) rfl ⟨_, rfl, lv_a ag43 (hS.get 0 rfl) (BV_size _)⟩ ?_
  exact ⟨rfl, hS.drop⟩
end Go.Proofs.XS

/- walks -/
namespace Go.Proofs.XS
open Go Go.X Go.Proofs
set_option maxRecDepth 100000 in
theorem sp_sbox_S (a : UInt8) (w0 : World) : Calls Tryz.prog 107 #[U8 a] w0 (Ret w0 (U8 (sbox a))) := by
  refine enter (args := [U8 a]) Tryz.func107 rfl rfl ?_
  refine startw fun w hS => ?_
  have ha := a.toNat_lt
  refine rg ?_
  refine asg rfl rfl rfl ?_
  refine wq_then ?_
  refine rg ?_
  refine cv cf131 hS rfl rfl rfl rfl rfl (sp_sbox_table _) ?_
  intro w hS
  refine mv rfl rfl rfl ?_
  refine ixn ((a).toNat) Tryz.underlying43 sz5 sc5 rfl rfl rfl rfl (by omega) (by omega) (BV_get _ ((a).toNat) (by omega)) ?_
  refine asg rfl rfl rfl ?_
  refine wq_then ?_
  refine wc_ret ?_
  refine fin1 (v := U8 (gv sboxV ((a).toNat))) rfl rfl ?_
  refine ⟨?_, hS.drop⟩
  rw [gv_sbox]
end Go.Proofs.XS

/- walks -/
namespace Go.Proofs.XS
open Go Go.X Go.Proofs
set_option maxRecDepth 100000 in
theorem sp_sbox_Word (a : UInt32) (w0 : World) : Calls Tryz.prog 197 #[U32 a] w0 (Ret w0 (U32 (sword a))) := by
  refine enter (args := [U32 a]) Tryz.func197 rfl rfl ?_
  refine startw fun w hS => ?_
  refine rg ?_
  refine asg rfl rfl rfl ?_
  refine wq_then ?_
  refine rg ?_
  refine asg rfl rfl rfl ?_
  refine wq_then ?_
  refine wc_seq ?_
  refine rg ?_
  refine asg rfl rfl rfl ?_
  refine wq_then ?_
  refine wc_block ?_
  refine wc_loop (σ := Nat) (fun k => [(0, U32 (a)), (2, U32 (0)), (3, U32 (swordL a k)), (4, I (24 - 8 * (k : Int)))])
    (fun k w => (k ≤ 4) ∧ St w0 [] [] w) (fun k => 4 - k) 0 ⟨rfl, rfl, rfl, rfl, trivial⟩ ⟨by omega, hS⟩ ?_
  rintro k w ⟨hk, hS⟩
  refine wc_seq ?_
  refine rg ?_
  refine mv rfl rfl rfl ?_
  refine geq rfl rfl rfl rfl ?_
  refine wq_then ?_
  refine wc_if rfl (fun hc1 => ?_) (fun hc1 => ?_)
  · skip
    try simp only [SB] at hc1
    have hk5 : k < 4 := by omega
    refine wc_skip ?_
    refine wq_then ?_
    refine wc_seq ?_
    refine wc_block ?_
    refine wc_region ?_
    refine mv rfl rfl rfl ?_
    refine shln32 (8) (by omega) rfl rfl rfl rfl ?_
    refine mv rfl rfl rfl ?_
    refine mv rfl rfl rfl ?_
    refine shrn32 (24 - 8 * k) (by omega) rfl rfl rfl rfl ?_
    refine cvu8 Tryz.underlying5 ⟨_, Tryz.underlying72⟩ rfl rfl rfl ?_
    refine cv cf107 hS rfl rfl rfl rfl rfl (sp_sbox_S ((toU8 (((shr32 a (24 - 8 * k)).toNat : Int)))) _) ?_
    intro w hS
    refine cvu32 Tryz.underlying72 ⟨_, Tryz.underlying5⟩ rfl rfl rfl ?_
    refine or32 rfl rfl rfl rfl ?_
    refine asg rfl rfl rfl ?_
    refine q_block_norm ?_
    refine wq_then ?_
    refine wc_region ?_
    refine mv rfl rfl rfl ?_
    refine subi (by omega) (by omega) rfl rfl rfl rfl ?_
    refine asg rfl rfl rfl ?_
    refine again_q (k + 1) ⟨rfl, rfl, rfl, lkI rfl (by first | omega | rfl), trivial⟩ ⟨by omega, hS⟩ (by omega)
  · skip
    try simp only [SB] at hc1
    have hk4 : k = 4 := by omega
    refine wc_exit ?_
    refine q_then_exit ?_
    refine q_then_exit ?_
    refine q_block_hit ?_
    refine wq_then ?_
    refine rg ?_
    refine mv rfl rfl rfl ?_
    refine asg rfl rfl rfl ?_
    refine wq_then ?_
    refine wc_ret ?_
    refine fin1 (v := U32 (swordL a k)) rfl rfl ?_
    refine ⟨?_, hS.drop⟩
    rw [hk4, swordL_4]
end Go.Proofs.XS

/- walks -/
namespace Go.Proofs.XS
open Go Go.X Go.Proofs
set_option maxRecDepth 100000 in
theorem sp_math_bits_RotateLeft32 (a : UInt32) (w0 : World) : Calls Tryz.prog 198 #[U32 a, I 8] w0 (Ret w0 (U32 (rotl8 a))) := by
  refine enter (args := [U32 a, I 8]) Tryz.func198 rfl rfl ?_
  refine startw fun w hS => ?_
  refine rg ?_
  refine asg rfl rfl rfl ?_
  refine wq_then ?_
  refine rg ?_
  refine mv rfl rfl rfl ?_
  refine cvu64 Tryz.underlying171 ⟨_, Tryz.underlying3⟩ rfl rfl rfl ?_
  refine and64 (q := (31 : UInt64)) rfl rfl rfl rfl ?_
  refine asg rfl rfl rfl ?_
  refine wq_then ?_
  refine rg ?_
  refine mv rfl rfl rfl ?_
  refine mv rfl rfl rfl ?_
  refine shln32 (((toU64 (8)) &&& 31).toNat) (by omega) rfl rfl rfl rfl ?_
  refine mv rfl rfl rfl ?_
  refine mv rfl rfl rfl ?_
  refine sub64 (p := (32 : UInt64)) rfl rfl rfl rfl ?_
  refine shrn32 ((32 - ((toU64 (8)) &&& 31)).toNat) (by omega) rfl rfl rfl rfl ?_
  refine or32 rfl rfl rfl rfl ?_
  refine asg rfl rfl rfl ?_
  refine wq_then ?_
  refine wc_ret ?_
  refine fin1 (v := U32 ((shl32 a (((toU64 (8)) &&& 31).toNat)) ||| (shr32 a ((32 - ((toU64 (8)) &&& 31)).toNat)))) rfl rfl ?_
  refine ⟨?_, hS.drop⟩
  rw [rotl8_eq]
end Go.Proofs.XS

/- walks -/
namespace Go.Proofs.XS
open Go Go.X Go.Proofs
set_option maxRecDepth 100000 in
theorem sp_field_Double (a : UInt8) (w0 : World) : Calls Tryz.prog 132 #[U8 a] w0 (Ret w0 (U8 (dbl a))) := by
  refine enter (args := [U8 a]) Tryz.func132 rfl rfl ?_
  refine startw fun w hS => ?_
  refine rg ?_
  refine asg rfl rfl rfl ?_
  refine wq_then ?_
  refine rg ?_
  refine mv rfl rfl rfl ?_
  refine shln8 (1) (by omega) rfl rfl rfl rfl ?_
  refine mv rfl rfl rfl ?_
  refine cvk (q := IntKind.i8.wrap ((a).toNat : Int)) Tryz.underlying199 ⟨_, Tryz.underlying5⟩ rfl rfl rfl rfl ?_
  refine shrk (q := Int.fdiv (IntKind.i8.wrap ((a).toNat : Int)) (2 ^ 7)) (m := 7) (by decide) rfl rfl rfl rfl rfl ?_
  refine cvu8 Tryz.underlying5 ⟨_, Tryz.underlying199⟩ rfl rfl rfl ?_
  refine and8 (q := (27 : UInt8)) rfl rfl rfl rfl ?_
  refine xor8 rfl rfl rfl rfl ?_
  refine asg rfl rfl rfl ?_
  refine wq_then ?_
  refine wc_ret ?_
  refine fin1 (v := U8 ((shl8 a 1) ^^^ ((toU8 ((Int.fdiv (IntKind.i8.wrap ((a).toNat : Int)) (2 ^ 7)))) &&& 27))) rfl rfl ?_
  refine ⟨?_, hS.drop⟩
  rw [dbl_eq]
end Go.Proofs.XS

/- walks -/
namespace Go.Proofs.XS
open Go Go.X Go.Proofs
set_option maxRecDepth 100000 in
theorem sp_field_Mul (a b : UInt8) (w0 : World) : Calls Tryz.prog 110 #[U8 a, U8 b] w0 (Ret w0 (U8 (mul a b))) := by
  refine enter (args := [U8 a, U8 b]) Tryz.func110 rfl rfl ?_
  refine startw fun w hS => ?_
  refine rg ?_
  refine asg rfl rfl rfl ?_
  refine wq_then ?_
  refine wc_scope ?_
  refine rg ?_
  refine asg rfl rfl rfl ?_
  refine wq_then ?_
  refine wc_seq ?_
  refine wc_label ?_
  refine wq_then ?_
  refine wc_seq ?_
  refine wc_block ?_
  refine wc_loop (σ := (UInt8 × UInt8 × UInt8 × Nat)) (fun s => [(0, U8 (s.1)), (1, U8 (s.2.1)), (4, U8 (0)), (5, U8 (s.2.2.1))])
    (fun s w => (s.2.1.toNat < 2 ^ s.2.2.2 ∧ mulL s.2.2.2 s.1 s.2.1 s.2.2.1 = mul a b) ∧ St w0 [] [] w) (fun s => s.2.2.2) (a, b, 0, 8) ⟨rfl, rfl, rfl, rfl, trivial⟩ ⟨⟨b.toNat_lt, rfl⟩, hS⟩ ?_
  rintro s w ⟨⟨hk1, hk2⟩, hS⟩
  refine wc_block ?_
  refine wc_seq ?_
  refine wc_block ?_
  refine rg ?_
  refine mv rfl rfl rfl ?_
  refine eqi rfl rfl rfl rfl ?_
  refine asg rfl rfl rfl ?_
  refine wq_then ?_
  refine wc_if rfl (fun hc1 => ?_) (fun hc1 => ?_)
  · skip
    try simp only [SB] at hc1
    have hz : s.2.1 = 0 := UInt8.toNat_inj.1 (by simpa using hc1)
    refine wc_exit ?_
    refine q_block_miss rfl ?_
    refine q_then_exit ?_
    refine q_block_miss rfl ?_
    refine q_then_exit ?_
    refine q_block_hit ?_
    refine wq_then ?_
    refine rg ?_
    refine mv rfl rfl rfl ?_
    refine asg rfl rfl rfl ?_
    refine wq_then ?_
    refine wc_ret ?_
    refine q_scope_ret ?_
    refine fin1 (v := U8 (s.2.2.1)) rfl rfl ?_
    refine ⟨?_, hS.drop⟩
    rw [hz, mulL_zero] at hk2
    rw [hk2]
  · skip
    try simp only [SB] at hc1
    have hz : ¬ s.2.1 = 0 := fun e => hc1 (by rw [e]; rfl)
    obtain ⟨m, hm⟩ : ∃ m, s.2.2.2 = m + 1 := ⟨s.2.2.2 - 1, by have : s.2.2.2 ≠ 0 := (fun e => hz (UInt8.toNat_inj.1 (by rw [e] at hk1; simpa using hk1))); omega⟩
    have hdec : s.2.2.2 - 1 < s.2.2.2 := by omega
    rw [hm] at hk1 hk2
    simp only [mulL, if_neg hz] at hk2
    refine rg ?_
    refine mv rfl rfl rfl ?_
    refine and8 (q := (1 : UInt8)) rfl rfl rfl rfl ?_
    refine eqi rfl rfl rfl rfl ?_
    refine asg rfl rfl rfl ?_
    refine wq_then ?_
    refine wc_if rfl (fun hc2 => ?_) (fun hc2 => ?_)
    · skip
      try simp only [SB] at hc2
      have ho : s.2.1 &&& 1 = 1 := UInt8.toNat_inj.1 (by have := hc2; simp only [UInt8.toNat_and] at this ⊢; simp at this ⊢; omega)
      rw [if_pos ho] at hk2
      have hnext : (shr8 s.2.1 1).toNat < 2 ^ (s.2.2.2 - 1) ∧ mulL (s.2.2.2 - 1) (dbl s.1) (shr8 s.2.1 1) (s.2.2.1 ^^^ s.1) = mul a b := by rw [hm]; exact ⟨shr8_lt hk1, hk2⟩
      refine wc_region ?_
      refine mv rfl rfl rfl ?_
      refine mv rfl rfl rfl ?_
      refine xor8 rfl rfl rfl rfl ?_
      refine asg rfl rfl rfl ?_
      refine q_block_norm ?_
      refine wq_then ?_
      refine wc_region ?_
      refine mv rfl rfl rfl ?_
      refine cv cf132 hS rfl rfl rfl rfl rfl (sp_field_Double (s.1) _) ?_
      intro w hS
      refine mv rfl rfl rfl ?_
      refine shrn8 (1) (by omega) rfl rfl rfl rfl ?_
      refine asg rfl rfl rfl ?_
      refine asg rfl rfl rfl ?_
      refine q_block_norm ?_
      refine again_q (dbl s.1, shr8 s.2.1 1, s.2.2.1 ^^^ s.1, s.2.2.2 - 1) ⟨rfl, rfl, rfl, rfl, trivial⟩ ⟨hnext, hS⟩ hdec
    · skip
      try simp only [SB] at hc2
      have ho : ¬ s.2.1 &&& 1 = 1 := fun e => hc2 (by rw [e]; rfl)
      rw [if_neg ho] at hk2
      have hnext : (shr8 s.2.1 1).toNat < 2 ^ (s.2.2.2 - 1) ∧ mulL (s.2.2.2 - 1) (dbl s.1) (shr8 s.2.1 1) s.2.2.1 = mul a b := by rw [hm]; exact ⟨shr8_lt hk1, hk2⟩
      refine wc_skip ?_
      refine q_block_norm ?_
      refine wq_then ?_
      refine wc_region ?_
      refine mv rfl rfl rfl ?_
      refine cv cf132 hS rfl rfl rfl rfl rfl (sp_field_Double (s.1) _) ?_
      intro w hS
      refine mv rfl rfl rfl ?_
      refine shrn8 (1) (by omega) rfl rfl rfl rfl ?_
      refine asg rfl rfl rfl ?_
      refine asg rfl rfl rfl ?_
      refine q_block_norm ?_
      refine again_q (dbl s.1, shr8 s.2.1 1, s.2.2.1, s.2.2.2 - 1) ⟨rfl, rfl, rfl, rfl, trivial⟩ ⟨hnext, hS⟩ hdec
end Go.Proofs.XS

/- walks -/
namespace Go.Proofs.XS
open Go Go.X Go.Proofs
set_option maxRecDepth 100000 in
theorem sp_field_Power (a : UInt8) (k0 : Nat) (k0_ : Int) (w0 : World) (hk0_ : k0_ = (k0 : Int)) (hk0 : k0 < 1000000) : Calls Tryz.prog 204 #[U8 a, I k0_] w0 (Ret w0 (U8 (pow a k0))) := by
  subst hk0_
  refine enter (args := [U8 a, I (k0 : Int)]) Tryz.func204 rfl rfl ?_
  refine startw fun w hS => ?_
  refine rg ?_
  refine asg rfl rfl rfl ?_
  refine wq_then ?_
  refine wc_seq ?_
  refine rg ?_
  refine mv rfl rfl rfl ?_
  refine lss rfl rfl rfl rfl ?_
  refine wq_then ?_
  refine wc_if rfl (fun hc1 => ?_) (fun hc1 => ?_)
  · skip
    try simp only [SB] at hc1
    exfalso; omega
  · skip
    try simp only [SB] at hc1
    refine wc_skip ?_
    refine wq_then ?_
    refine rg ?_
    refine asg rfl rfl rfl ?_
    refine wq_then ?_
    refine wc_seq ?_
    refine wc_block ?_
    refine wc_loop (σ := (UInt8 × Nat × UInt8 × Nat)) (fun s => [(0, U8 (s.1)), (1, I ((s.2.1 : Int))), (4, U8 (0)), (5, U8 (s.2.2.1))])
      (fun s w => (s.2.1 < 2 ^ s.2.2.2 ∧ s.2.1 < 1000000 ∧ powL s.2.2.2 s.1 s.2.1 s.2.2.1 = pow a k0) ∧ St w0 [] [] w) (fun s => s.2.2.2) (a, k0, 1, 64) ⟨rfl, rfl, rfl, rfl, trivial⟩ ⟨⟨by show k0 < 2 ^ 64; omega, hk0, rfl⟩, hS⟩ ?_
    rintro s w ⟨⟨hk1, hk3, hk2⟩, hS⟩
    refine wc_seq ?_
    refine rg ?_
    refine mv rfl rfl rfl ?_
    refine gtr rfl rfl rfl rfl ?_
    refine wq_then ?_
    refine wc_if rfl (fun hc2 => ?_) (fun hc2 => ?_)
    · skip
      try simp only [SB] at hc2
      have hz : ¬ s.2.1 = 0 := by omega
      obtain ⟨m, hm⟩ : ∃ m, s.2.2.2 = m + 1 := ⟨s.2.2.2 - 1, by have : s.2.2.2 ≠ 0 := (fun e => hz (by rw [e] at hk1; simpa using hk1)); omega⟩
      have hdec : s.2.2.2 - 1 < s.2.2.2 := by omega
      have hh : s.2.1 / 2 < 2 ^ (s.2.2.2 - 1) := by rw [hm] at hk1 ⊢; have := hk1; rw [Nat.pow_succ] at this; show _ < 2 ^ m; omega
      rw [hm] at hk2
      simp only [powL, if_neg hz] at hk2
      refine wc_skip ?_
      refine wq_then ?_
      refine wc_seq ?_
      refine wc_block ?_
      refine wc_seq ?_
      refine rg ?_
      refine mv rfl rfl rfl ?_
      refine andi (D := 2) 1 (by decide) (by decide) (by decide) rfl rfl rfl rfl ?_
      refine eqi rfl rfl rfl rfl ?_
      refine wq_then ?_
      refine wc_if rfl (fun hc3 => ?_) (fun hc3 => ?_)
      · skip
        try simp only [SB] at hc3
        have ho : s.2.1 % 2 = 1 := by omega
        rw [if_pos ho] at hk2
        have hnext : s.2.1 / 2 < 2 ^ (s.2.2.2 - 1) ∧ s.2.1 / 2 < 1000000 ∧ powL (s.2.2.2 - 1) (mul s.1 s.1) (s.2.1 / 2) (mul s.2.2.1 s.1) = pow a k0 := ⟨hh, by omega, by rw [hm]; exact hk2⟩
        refine wc_region ?_
        refine mv rfl rfl rfl ?_
        refine mv rfl rfl rfl ?_
        refine cv cf110 hS rfl rfl rfl rfl rfl (sp_field_Mul (s.2.2.1) (s.1) _) ?_
        intro w hS
        refine asg rfl rfl rfl ?_
        refine wq_then ?_
        refine wc_region ?_
        refine mv rfl rfl rfl ?_
        refine mv rfl rfl rfl ?_
        refine cv cf110 hS rfl rfl rfl rfl rfl (sp_field_Mul (s.1) (s.1) _) ?_
        intro w hS
        refine asg rfl rfl rfl ?_
        refine q_block_norm ?_
        refine wq_then ?_
        refine wc_region ?_
        refine mv rfl rfl rfl ?_
        refine shri (D := 2) (by decide) (by decide) (by decide) rfl rfl rfl rfl ?_
        refine asg rfl rfl rfl ?_
        refine again_q (mul s.1 s.1, s.2.1 / 2, mul s.2.2.1 s.1, s.2.2.2 - 1) ⟨rfl, lkI rfl (by first | omega | rfl), rfl, rfl, trivial⟩ ⟨hnext, hS⟩ hdec
      · skip
        try simp only [SB] at hc3
        have ho : ¬ s.2.1 % 2 = 1 := by omega
        rw [if_neg ho] at hk2
        have hnext : s.2.1 / 2 < 2 ^ (s.2.2.2 - 1) ∧ s.2.1 / 2 < 1000000 ∧ powL (s.2.2.2 - 1) (mul s.1 s.1) (s.2.1 / 2) s.2.2.1 = pow a k0 := ⟨hh, by omega, by rw [hm]; exact hk2⟩
        refine wc_skip ?_
        refine wq_then ?_
        refine wc_region ?_
        refine mv rfl rfl rfl ?_
        refine mv rfl rfl rfl ?_
        refine cv cf110 hS rfl rfl rfl rfl rfl (sp_field_Mul (s.1) (s.1) _) ?_
        intro w hS
        refine asg rfl rfl rfl ?_
        refine q_block_norm ?_
        refine wq_then ?_
        refine wc_region ?_
        refine mv rfl rfl rfl ?_
        refine shri (D := 2) (by decide) (by decide) (by decide) rfl rfl rfl rfl ?_
        refine asg rfl rfl rfl ?_
        refine again_q (mul s.1 s.1, s.2.1 / 2, s.2.2.1, s.2.2.2 - 1) ⟨rfl, lkI rfl (by first | omega | rfl), rfl, rfl, trivial⟩ ⟨hnext, hS⟩ hdec
    · skip
      try simp only [SB] at hc2
      have hz : s.2.1 = 0 := by omega
      refine wc_exit ?_
      refine q_then_exit ?_
      refine q_then_exit ?_
      refine q_block_hit ?_
      refine wq_then ?_
      refine rg ?_
      refine mv rfl rfl rfl ?_
      refine asg rfl rfl rfl ?_
      refine wq_then ?_
      refine wc_ret ?_
      refine fin1 (v := U8 (s.2.2.1)) rfl rfl ?_
      refine ⟨?_, hS.drop⟩
      rw [hz, powL_zero] at hk2
      rw [hk2]
end Go.Proofs.XS

/- walks -/
namespace Go.Proofs.XS
open Go Go.X Go.Proofs
set_option maxRecDepth 100000 in
theorem sp_keys_Constant (r : Nat) (r_ : Int) (w0 : World) (hr_ : r_ = (r : Int)) (h1 : 1 ≤ r) (h2 : r ≤ 10) : Calls Tryz.prog 199 #[I r_] w0 (Ret w0 (U8 (pow 2 (r - 1)))) := by
  subst hr_
  refine enter (args := [I (r : Int)]) Tryz.func199 rfl rfl ?_
  refine startw fun w hS => ?_
  refine rg ?_
  refine asg rfl rfl rfl ?_
  refine wq_then ?_
  refine wc_seq ?_
  refine rg ?_
  refine mv rfl rfl rfl ?_
  refine lss rfl rfl rfl rfl ?_
  refine mv rfl rfl rfl ?_
  refine spl 5 rfl (fun hb1 => ?_) (fun hb1 => ?_)
  · skip
    try simp only [SB] at hb1
    exfalso; omega
  · skip
    try simp only [SB] at hb1
    refine mv rfl rfl rfl ?_
    refine gtr rfl rfl rfl rfl ?_
    refine pk_f rfl rfl rfl rfl ?_
    refine wq_then ?_
    refine wc_if rfl (fun hc1 => ?_) (fun hc1 => ?_)
    · skip
      try simp only [SB] at hc1
      exfalso; omega
    · skip
      try simp only [SB] at hc1
      refine wc_skip ?_
      refine wq_then ?_
      refine rg ?_
      refine mv rfl rfl rfl ?_
      refine subi (by omega) (by omega) rfl rfl rfl rfl ?_
      refine cv cf204 hS rfl rfl rfl rfl rfl (sp_field_Power (2) ((r - 1)) _ _ (by omega) (by omega)) ?_
      intro w hS
      refine asg rfl rfl rfl ?_
      refine wq_then ?_
      refine wc_ret ?_
      refine fin1 (v := U8 (pow 2 (r - 1))) rfl rfl ?_
      exact ⟨rfl, hS.drop⟩
end Go.Proofs.XS

/- walks -/
namespace Go.Proofs.XS
open Go Go.X Go.Proofs
set_option maxRecDepth 100000 in
theorem sp_keys_turned (a : UInt32) (r : Nat) (r_ : Int) (w0 : World) (hr_ : r_ = (r : Int)) (h1 : 1 ≤ r) (h2 : r ≤ 10) : Calls Tryz.prog 165 #[U32 a, I r_] w0 (Ret w0 (U32 (turned a r))) := by
  subst hr_
  refine enter (args := [U32 a, I (r : Int)]) Tryz.func165 rfl rfl ?_
  refine startw fun w hS => ?_
  refine rg ?_
  refine asg rfl rfl rfl ?_
  refine wq_then ?_
  refine rg ?_
  refine mv rfl rfl rfl ?_
  refine cv cf198 hS rfl rfl rfl rfl rfl (sp_math_bits_RotateLeft32 (a) _) ?_
  intro w hS
  refine cv cf197 hS rfl rfl rfl rfl rfl (sp_sbox_Word ((rotl8 a)) _) ?_
  intro w hS
  refine mv rfl rfl rfl ?_
  refine cv cf199 hS rfl rfl rfl rfl rfl (sp_keys_Constant (r) _ _ (by omega) (by omega) (by omega)) ?_
  intro w hS
  refine cvu32 Tryz.underlying72 ⟨_, Tryz.underlying5⟩ rfl rfl rfl ?_
  refine shln32 (24) (by omega) rfl rfl rfl rfl ?_
  refine xor32 rfl rfl rfl rfl ?_
  refine asg rfl rfl rfl ?_
  refine wq_then ?_
  refine wc_ret ?_
  refine fin1 (v := U32 ((sword (rotl8 a)) ^^^ (shl32 (toU32 (((pow 2 (r - 1)).toNat : Int))) 24))) rfl rfl ?_
  exact ⟨rfl, hS.drop⟩
end Go.Proofs.XS

/- walks -/
namespace Go.Proofs.XS
open Go Go.X Go.Proofs
set_option maxRecDepth 100000 in
theorem sp_keys_forward (l : V32 4) (r : Nat) (r_ : Int) (w0 : World) (hr_ : r_ = (r : Int)) (hr : r < 10) : Calls Tryz.prog 134 #[.agg (WV l), I r_] w0 (Ret w0 (.agg (WV (fwd l r)))) := by
  subst hr_
  refine enter (args := [.agg (WV l), I (r : Int)]) Tryz.func134 rfl rfl ?_
  refine startw fun w hS => ?_
  refine rg ?_
  refine bxa hS rfl rfl rfl ?_
  intro b2 w hb2 hS
  refine ala zr144 hS rfl rfl ?_
  intro b4 w hb4 hS
  refine wq_then ?_
  refine rg ?_
  refine ian (3) (3) Tryz.underlying144 sz72 rfl rfl rfl rfl (by omega) (by omega) (by omega) ?_
  refine lo 1 sc72 hS rfl rfl rfl rfl (WV_get _ 3 (by omega)) ?_
  refine mv rfl rfl rfl ?_
  refine addi (by omega) (by omega) rfl rfl rfl rfl ?_
  refine cv cf165 hS rfl rfl rfl rfl rfl (sp_keys_turned ((gw l 3)) ((r + 1)) _ _ (by omega) (by omega) (by omega)) ?_
  intro w hS
  refine asg rfl rfl rfl ?_
  refine wq_then ?_
  refine wc_seq ?_
  refine rg ?_
  refine mv rfl rfl rfl ?_
  refine wq_then ?_
  refine wc_block ?_
  refine wc_loop (σ := Nat) (fun k => [(2, Ptr b2 0), (4, Ptr b4 0), (5, U32 ((fwdL l (turned (gw l 3) (r + 1)) k).2)), (12, I ((k : Int)))])
    (fun k w => (k ≤ 4) ∧ St w0 [] [(b4, .cells (WV (Vector.replicate 4 0)) 144), (b2, .cells (WV ((fwdL l (turned (gw l 3) (r + 1)) k).1)) 144)] w) (fun k => 4 - k) 0 ⟨rfl, rfl, rfl, rfl, trivial⟩ ⟨by omega, hS⟩ ?_
  rintro k w ⟨hk, hS⟩
  refine rg ?_
  refine lss rfl rfl rfl rfl ?_
  refine wq_then ?_
  refine wc_seq ?_
  refine wc_if rfl (fun hc1 => ?_) (fun hc1 => ?_)
  · skip
    try simp only [SB] at hc1
    refine wc_skip ?_
    refine wq_then ?_
    refine wc_seq ?_
    refine wc_block ?_
    refine rg ?_
    refine mv rfl rfl rfl ?_
    refine asg rfl rfl rfl ?_
    refine wq_then ?_
    refine rg ?_
    refine mv rfl rfl rfl ?_
    refine ian (k) (k) Tryz.underlying144 sz72 rfl rfl rfl rfl (by omega) (by omega) (by omega) ?_
    refine lo 1 sc72 hS rfl rfl rfl rfl (WV_get _ k (by omega)) ?_
    refine mv rfl rfl rfl ?_
    refine xor32 rfl rfl rfl rfl ?_
    refine ian (k) (k) Tryz.underlying144 sz72 rfl rfl rfl rfl (by omega) (by omega) (by omega) ?_
    refine st 1 sz72 hS rfl rfl rfl rfl rfl rfl (by rw [WV_size]; omega) (WV_set _ _ ((gw ((fwdL l (turned (gw l 3) (r + 1)) k).1) k) ^^^ ((fwdL l (turned (gw l 3) (r + 1)) k).2) : UInt32)) ?_
    intro w hS
    refine wq_then ?_
    refine wc_region ?_
    refine mv rfl rfl rfl ?_
    refine ian (k) (k) Tryz.underlying144 sz72 rfl rfl rfl rfl (by omega) (by omega) (by omega) ?_
    refine lo 1 sc72 hS rfl rfl rfl rfl (WV_get _ k (by omega)) ?_
    refine asg rfl rfl rfl ?_
    refine q_block_norm ?_
    refine wq_then ?_
    refine wc_region ?_
    refine addi (by omega) (by omega) rfl rfl rfl rfl ?_
    refine mv rfl rfl rfl ?_
    refine again_q (k + 1) ⟨rfl, rfl, lkU32 rfl (gw_set_eq _ _ _ (by omega)), lkI rfl (by first | omega | rfl), trivial⟩ ⟨by omega, hS⟩ (by omega)
  · skip
    try simp only [SB] at hc1
    refine wc_exit ?_
    refine q_then_exit ?_
    refine q_then_exit ?_
    refine q_block_hit ?_
    refine wq_then ?_
    refine rg ?_
    refine la 1 ag144 hS rfl rfl rfl rfl (WV_size _) ?_
    refine sa 0 ag144 hS rfl rfl rfl (WV_one _) rfl (WV_size _) (WV_size _) ?_
    intro w hS
    refine wq_then ?_
    refine wc_ret ?_
    refine fin1 (v := .agg (WV ((fwdL l (turned (gw l 3) (r + 1)) k).1))) rfl ⟨_, rfl, lv_a ag144 (hS.get 0 rfl) (WV_size _)⟩ ?_
    refine ⟨?_, hS.drop⟩
    have hk4 : k = 4 := by omega
    subst hk4; rfl
end Go.Proofs.XS

/- walks -/
namespace Go.Proofs.XS
open Go Go.X Go.Proofs
set_option maxRecDepth 100000 in
theorem sp_keys_Next (r : Nat) (b : V8 16) (r_ : Int) (w0 : World) (hr_ : r_ = (r : Int)) (hr : r < 10) : Calls Tryz.prog 111 #[I r_, .agg (BV b)] w0 (Ret w0 (.tuple #[.agg (BV (nextK r b)), .bool true])) := by
  subst hr_
  refine enter (args := [I (r : Int), .agg (BV b)]) Tryz.func111 rfl rfl ?_
  refine startw fun w hS => ?_
  refine rg ?_
  refine bxa hS rfl rfl rfl ?_
  intro b3 w hb3 hS
  refine ala zr22 hS rfl rfl ?_
  intro b4 w hb4 hS
  refine asg rfl rfl rfl ?_
  refine wq_then ?_
  refine wc_seq ?_
  refine rg ?_
  refine mv rfl rfl rfl ?_
  refine lss rfl rfl rfl rfl ?_
  refine mv rfl rfl rfl ?_
  refine spl 8 rfl (fun hb1 => ?_) (fun hb1 => ?_)
  · skip
    try simp only [SB] at hb1
    exfalso; omega
  · skip
    try simp only [SB] at hb1
    refine mv rfl rfl rfl ?_
    refine geq rfl rfl rfl rfl ?_
    refine pk_f rfl rfl rfl rfl ?_
    refine wq_then ?_
    refine wc_if rfl (fun hc1 => ?_) (fun hc1 => ?_)
    · skip
      try simp only [SB] at hc1
      exfalso; omega
    · skip
      try simp only [SB] at hc1
      refine wc_skip ?_
      refine wq_then ?_
      refine rg ?_
      refine la 1 ag22 hS rfl rfl rfl rfl (BV_size _) ?_
      refine cv cf135 hS rfl rfl rfl rfl rfl (sp_keys_load (b) _) ?_
      intro w hS
      refine mv rfl rfl rfl ?_
      refine cv cf134 hS rfl rfl rfl rfl rfl (sp_keys_forward ((wds b)) (r) _ _ (by omega) (by omega)) ?_
      intro w hS
      refine cv cf133 hS rfl rfl rfl rfl rfl (sp_keys_store ((fwd (wds b) r)) _) ?_
      intro w hS
      refine sa 0 ag22 hS rfl rfl rfl (BV_one _) rfl (BV_size _) (BV_size _) ?_
      intro w hS
      refine asg rfl rfl rfl ?_
      refine wq_then ?_
      refine wc_ret ?_
      refine fin2 (v := .agg (BV (unw (fwd (wds b) r)))) (u := .bool (true)) rfl ⟨_, rfl, lv_a ag22 (hS.get 0 rfl) (BV_size _)⟩ rfl ?_
      exact ⟨rfl, hS.drop⟩
end Go.Proofs.XS

/- walks -/
namespace Go.Proofs.XS
open Go Go.X Go.Proofs
set_option maxRecDepth 100000 in
theorem sp_keys_Expand (key : V8 16) (w0 : World) : Calls Tryz.prog 74 #[.agg (BV key)] w0 (Ret w0 (.agg (BV (expand key)))) := by
  refine enter (args := [.agg (BV key)]) Tryz.func74 rfl rfl ?_
  refine startw fun w hS => ?_
  refine rg ?_
  refine bxa hS rfl rfl rfl ?_
  intro b1 w hb1 hS
  refine ala zr42 hS rfl rfl ?_
  intro b2 w hb2 hS
  refine wq_then ?_
  refine rg ?_
  refine la 1 ag22 hS rfl rfl rfl rfl (BV_size _) ?_
  refine bd (cs := BV (put8 (Vector.replicate 176 0) 0 key)) rfl rfl rfl ((bu42 _).trans (fill_w (off := 0) (size := 16) rfl (BV_size _) (le_sz (a := 176) (BV_size _) (by omega)) (BV_put _ _ _ (by omega)) <| rfl)) ?_
  refine ala zr42 hS rfl rfl ?_
  intro b3 w hb3 hS
  refine sa 0 ag42 hS rfl rfl rfl (BV_one _) rfl (BV_size _) (BV_size _) ?_
  intro w hS
  refine wq_then ?_
  refine wc_seq ?_
  refine rg ?_
  refine mv rfl rfl rfl ?_
  refine wq_then ?_
  refine wc_block ?_
  refine wc_loop (σ := Nat) (fun k => [(2, Ptr b2 0), (3, Ptr b3 0), (7, I ((k : Int)))])
    (fun k w => (k ≤ 10) ∧ St w0 [] [(b3, .cells (BV (expandL key k)) 42), (b2, .cells (BV (Vector.replicate 176 0)) 42), (b1, .cells (BV key) 22)] w) (fun k => 10 - k) 0 ⟨rfl, rfl, rfl, trivial⟩ ⟨by omega, hS⟩ ?_
  rintro k w ⟨hk, hS⟩
  refine rg ?_
  refine lss rfl rfl rfl rfl ?_
  refine wq_then ?_
  refine wc_seq ?_
  refine wc_if rfl (fun hc1 => ?_) (fun hc1 => ?_)
  · skip
    try simp only [SB] at hc1
    refine wc_skip ?_
    refine wq_then ?_
    refine wc_seq ?_
    refine wc_block ?_
    refine rg ?_
    refine mv rfl rfl rfl ?_
    refine asg rfl rfl rfl ?_
    refine wq_then ?_
    refine wc_region ?_
    refine mv rfl rfl rfl ?_
    refine addi (by omega) (by omega) rfl rfl rfl rfl ?_
    refine mv rfl rfl rfl ?_
    refine mv rfl rfl rfl ?_
    refine ian (k) (k * 16) Tryz.underlying42 sz22 rfl rfl rfl rfl (by omega) (by omega) (by omega) ?_
    refine lp (u := .agg (BV (seg8 16 (expandL key k) (k * 16)))) 0 ag22 hS rfl rfl rfl rfl (by rw [BV_size]; omega) (BV_extract 16 _ (k * 16) (by omega)) rfl ?_
    refine cv cf111 hS rfl rfl rfl rfl rfl (sp_keys_Next (k) ((seg8 16 (expandL key k) (k * 16))) _ _ (by omega) (by omega)) ?_
    intro w hS
    refine mv rfl rfl rfl ?_
    refine ext rfl rfl rfl rfl ?_
    refine ext rfl rfl rfl rfl ?_
    refine ian (k + 1) ((k + 1) * 16) Tryz.underlying42 sz22 rfl rfl rfl rfl (by omega) (by omega) (by omega) ?_
    refine spp (cs' := BV (put8 (expandL key k) ((k + 1) * 16) (nextK k (seg8 16 (expandL key k) (k * 16))))) 0 ag22 hS rfl rfl rfl (BV_one _) rfl (le_sz (a := 176) (BV_size _) (by omega)) (BV_size _) (BV_put _ _ _ (by omega)) ?_
    intro w hS
    refine q_block_norm ?_
    refine wq_then ?_
    refine wc_region ?_
    refine addi (by omega) (by omega) rfl rfl rfl rfl ?_
    refine mv rfl rfl rfl ?_
    refine again_q (k + 1) ⟨rfl, rfl, lkI rfl (by first | omega | rfl), trivial⟩ ⟨by omega, hS⟩ (by omega)
  · skip
    try simp only [SB] at hc1
    refine wc_exit ?_
    refine q_then_exit ?_
    refine q_then_exit ?_
    refine q_block_hit ?_
    refine wq_then ?_
    refine rg ?_
    refine la 0 ag42 hS rfl rfl rfl rfl (BV_size _) ?_
    refine sa 1 ag42 hS rfl rfl rfl (BV_one _) rfl (BV_size _) (BV_size _) ?_
    intro w hS
    refine wq_then ?_
    refine wc_ret ?_
    refine fin1 (v := .agg (BV (expandL key k))) rfl ⟨_, rfl, lv_a ag42 (hS.get 1 rfl) (BV_size _)⟩ ?_
    refine ⟨?_, hS.drop⟩
    have hk4 : k = 10 := by omega
    subst hk4; rfl
end Go.Proofs.XS

/- walks -/
namespace Go.Proofs.XS
open Go Go.X Go.Proofs
set_option maxRecDepth 100000 in
theorem sp_cipher_each (fid : Nat) (cap : List Value) (f : Nat → UInt8) (w0 : World) (hcf : Callable Tryz.prog fid) (hf : ∀ (k : Nat) (w : World), k < 16 → St w0 [] [] w → Calls Tryz.prog fid (I (k : Int) :: cap).toArray w (Ret w (U8 (f k)))) : Calls Tryz.prog 136 #[.func (.func fid) #[] cap.toArray] w0 (Ret w0 (.agg (BV (Vector.ofFn (n := 16) fun i => f i.val)))) := by
  refine enter (args := [.func (.func fid) #[] cap.toArray]) Tryz.func136 rfl rfl ?_
  refine startw fun w hS => ?_
  refine rg ?_
  refine ala zr22 hS rfl rfl ?_
  intro b2 w hb2 hS
  refine wq_then ?_
  refine rg ?_
  refine ala zr22 hS rfl rfl ?_
  intro b3 w hb3 hS
  refine wq_then ?_
  refine wc_seq ?_
  refine rg ?_
  refine mv rfl rfl rfl ?_
  refine wq_then ?_
  refine wc_block ?_
  refine wc_loop (σ := Nat) (fun k => [(0, .func (.func fid) #[] cap.toArray), (2, Ptr b2 0), (3, Ptr b3 0), (5, I ((k : Int)))])
    (fun k w => (k ≤ 16) ∧ St w0 [] [(b3, .cells (BV (fill8 16 f (Vector.replicate 16 0) k)) 22), (b2, .cells (BV (Vector.replicate 16 0)) 22)] w) (fun k => 16 - k) 0 ⟨rfl, rfl, rfl, rfl, trivial⟩ ⟨by omega, (by simp only [Nat.zero_mul, Nat.add_zero, fill8_0, fill32_0]; exact hS)⟩ ?_
  rintro k w ⟨hk, hS⟩
  refine rg ?_
  refine lss rfl rfl rfl rfl ?_
  refine wq_then ?_
  refine wc_seq ?_
  refine wc_if rfl (fun hc1 => ?_) (fun hc1 => ?_)
  · skip
    try simp only [SB] at hc1
    refine wc_skip ?_
    refine wq_then ?_
    refine wc_seq ?_
    refine wc_block ?_
    refine rg ?_
    refine mv rfl rfl rfl ?_
    refine asg rfl rfl rfl ?_
    refine wq_then ?_
    refine wc_region ?_
    refine mv rfl rfl rfl ?_
    refine mv rfl rfl rfl ?_
    refine mv rfl rfl rfl ?_
    refine cv hcf hS rfl rfl rfl rfl rfl (hf k w (by omega) (hS.drop)) ?_
    intro w hS
    refine ian (k) (k) Tryz.underlying22 sz5 rfl rfl rfl rfl (by omega) (by omega) (by omega) ?_
    refine st (cs' := BV (fill8 16 f (Vector.replicate 16 0) (k + 1))) 0 sz5 hS rfl rfl rfl rfl rfl rfl (by rw [BV_size]; omega) (by rw [BV_set]; exact congrArg BV (fill8_succ f (Vector.replicate 16 0) k)) ?_
    intro w hS
    refine q_block_norm ?_
    refine wq_then ?_
    refine wc_region ?_
    refine addi (by omega) (by omega) rfl rfl rfl rfl ?_
    refine mv rfl rfl rfl ?_
    refine again_q (k + 1) ⟨rfl, rfl, rfl, lkI rfl (by first | omega | rfl), trivial⟩ ⟨by omega, hS⟩ (by omega)
  · skip
    try simp only [SB] at hc1
    refine wc_exit ?_
    refine q_then_exit ?_
    refine q_then_exit ?_
    refine q_block_hit ?_
    refine wq_then ?_
    refine rg ?_
    refine la 0 ag22 hS rfl rfl rfl rfl (BV_size _) ?_
    refine sa 1 ag22 hS rfl rfl rfl (BV_one _) rfl (BV_size _) (BV_size _) ?_
    intro w hS
    refine wq_then ?_
    refine wc_ret ?_
    refine fin1 (v := .agg (BV (fill8 16 f (Vector.replicate 16 0) k))) rfl ⟨_, rfl, lv_a ag22 (hS.get 1 rfl) (BV_size _)⟩ ?_
    refine ⟨?_, hS.drop⟩
    have hk4 : k = 16 := by omega
    subst hk4; rw [fill8_n]
end Go.Proofs.XS

/- walks -/
namespace Go.Proofs.XS
open Go Go.X Go.Proofs
set_option maxRecDepth 100000 in
theorem sp_field_Sum (a : Option Addr) (n cap : Nat) (bs : List UInt8) (w0 : World) (hn : bs.length = n) (hN : n ≤ 1000000) (hc : Cel w0 a (c8 bs)) : Calls Tryz.prog 167 #[.slice a n cap] w0 (Ret w0 (U8 (xorl bs))) := by
  refine enter (args := [.slice a n cap]) Tryz.func167 rfl rfl ?_
  refine startw fun w hS => ?_
  refine rg ?_
  refine asg rfl rfl rfl ?_
  refine wq_then ?_
  refine rg ?_
  refine asg rfl rfl rfl ?_
  refine wq_then ?_
  refine wc_seq ?_
  refine rg ?_
  refine mv rfl rfl rfl ?_
  refine lens Tryz.underlying30 rfl rfl rfl ?_
  refine mv rfl rfl rfl ?_
  refine wq_then ?_
  refine wc_block ?_
  refine wc_loop (σ := Nat) (fun k => [(2, U8 (0)), (3, U8 (xorl (bs.take k))), (6, .slice a n cap), (7, I (((n : Nat) : Int))), (8, I ((k : Int)))])
    (fun k w => (k ≤ n) ∧ St w0 [] [] w) (fun k => n - k) 0 ⟨rfl, rfl, rfl, rfl, rfl, trivial⟩ ⟨by omega, hS⟩ ?_
  rintro k w ⟨hk, hS⟩
  refine rg ?_
  refine lss rfl rfl rfl rfl ?_
  refine wq_then ?_
  refine wc_seq ?_
  refine wc_if rfl (fun hc1 => ?_) (fun hc1 => ?_)
  · skip
    try simp only [SB] at hc1
    refine wc_skip ?_
    refine wq_then ?_
    refine wc_seq ?_
    refine wc_block ?_
    refine rg ?_
    refine slx (k) Tryz.underlying30 sz5 rfl rfl rfl rfl (by omega) (by omega) ((hc.st hS).some8 (j := k) (by first | omega | (simp; done) | (simp; omega))) ?_
    refine ldx sc5 rfl rfl rfl (hc.st hS) (by first | omega | (simp; done) | (simp; omega)) ?_
    refine asg rfl rfl rfl ?_
    refine wq_then ?_
    refine wc_region ?_
    refine mv rfl rfl rfl ?_
    refine mv rfl rfl rfl ?_
    refine xor8 rfl rfl rfl rfl ?_
    refine asg rfl rfl rfl ?_
    refine q_block_norm ?_
    refine wq_then ?_
    refine wc_region ?_
    refine addi (by omega) (by omega) rfl rfl rfl rfl ?_
    refine mv rfl rfl rfl ?_
    refine again_q (k + 1) ⟨rfl, lkU8 rfl ((xorl_take bs k (by omega)).symm), rfl, rfl, lkI rfl (by first | omega | rfl), trivial⟩ ⟨by omega, hS⟩ (by omega)
  · skip
    try simp only [SB] at hc1
    have he : k = bs.length := by omega
    refine wc_exit ?_
    refine q_then_exit ?_
    refine q_then_exit ?_
    refine q_block_hit ?_
    refine wq_then ?_
    refine rg ?_
    refine mv rfl rfl rfl ?_
    refine asg rfl rfl rfl ?_
    refine wq_then ?_
    refine wc_ret ?_
    refine fin1 (v := U8 (xorl (bs.take k))) rfl rfl ?_
    refine ⟨?_, hS.drop⟩
    rw [he, List.take_length]
end Go.Proofs.XS

/- walks -/
namespace Go.Proofs.XS
open Go Go.X Go.Proofs
set_option maxRecDepth 100000 in
theorem sp_field_Dot (a b : V8 4) (w0 : World) : Calls Tryz.prog 138 #[.agg (BV a), .agg (BV b)] w0 (Ret w0 (U8 (dot a b))) := by
  refine enter (args := [.agg (BV a), .agg (BV b)]) Tryz.func138 rfl rfl ?_
  refine startw fun w hS => ?_
  refine rg ?_
  refine bxa hS rfl rfl rfl ?_
  intro b2 w hb2 hS
  refine bxa hS rfl rfl rfl ?_
  intro b3 w hb3 hS
  refine asg rfl rfl rfl ?_
  refine wq_then ?_
  refine rd mo 22 (fun w => St w0 [] [(b3, .cells (BV b) 205), (b2, .cells (BV a) 205)] w) ?_
  have hS := hS.drew
  refine dq 0 rfl (by kernel_rfl) (by kernel_rfl) (by kernel_rfl) rfl rfl (fun w hS => ian (0) (0) Tryz.underlying205 sz5 rfl rfl rfl rfl (by omega) (by omega) (by omega) ⟨rfl, rfl⟩) hS ?_
  refine dq 1 rfl (by kernel_rfl) (by kernel_rfl) (by kernel_rfl) rfl rfl (fun w hS => lo 1 sc5 hS rfl rfl rfl rfl (BV_get _ 0 (by omega)) ⟨rfl, rfl⟩) hS ?_
  refine dq 2 rfl (by kernel_rfl) (by kernel_rfl) (by kernel_rfl) rfl rfl (fun w hS => ian (0) (0) Tryz.underlying205 sz5 rfl rfl rfl rfl (by omega) (by omega) (by omega) ⟨rfl, rfl⟩) hS ?_
  refine dq 3 rfl (by kernel_rfl) (by kernel_rfl) (by kernel_rfl) rfl rfl (fun w hS => lo 0 sc5 hS rfl rfl rfl rfl (BV_get _ 0 (by omega)) ⟨rfl, rfl⟩) hS ?_
  refine dq 5 rfl (by kernel_rfl) (by kernel_rfl) (by kernel_rfl) rfl rfl (fun w hS => ian (1) (1) Tryz.underlying205 sz5 rfl rfl rfl rfl (by omega) (by omega) (by omega) ⟨rfl, rfl⟩) hS ?_
  refine dq 6 rfl (by kernel_rfl) (by kernel_rfl) (by kernel_rfl) rfl rfl (fun w hS => lo 1 sc5 hS rfl rfl rfl rfl (BV_get _ 1 (by omega)) ⟨rfl, rfl⟩) hS ?_
  refine dq 7 rfl (by kernel_rfl) (by kernel_rfl) (by kernel_rfl) rfl rfl (fun w hS => ian (1) (1) Tryz.underlying205 sz5 rfl rfl rfl rfl (by omega) (by omega) (by omega) ⟨rfl, rfl⟩) hS ?_
  refine dq 8 rfl (by kernel_rfl) (by kernel_rfl) (by kernel_rfl) rfl rfl (fun w hS => lo 0 sc5 hS rfl rfl rfl rfl (BV_get _ 1 (by omega)) ⟨rfl, rfl⟩) hS ?_
  refine dq 10 rfl (by kernel_rfl) (by kernel_rfl) (by kernel_rfl) rfl rfl (fun w hS => ian (2) (2) Tryz.underlying205 sz5 rfl rfl rfl rfl (by omega) (by omega) (by omega) ⟨rfl, rfl⟩) hS ?_
  refine dq 11 rfl (by kernel_rfl) (by kernel_rfl) (by kernel_rfl) rfl rfl (fun w hS => lo 1 sc5 hS rfl rfl rfl rfl (BV_get _ 2 (by omega)) ⟨rfl, rfl⟩) hS ?_
  refine dq 12 rfl (by kernel_rfl) (by kernel_rfl) (by kernel_rfl) rfl rfl (fun w hS => ian (2) (2) Tryz.underlying205 sz5 rfl rfl rfl rfl (by omega) (by omega) (by omega) ⟨rfl, rfl⟩) hS ?_
  refine dq 13 rfl (by kernel_rfl) (by kernel_rfl) (by kernel_rfl) rfl rfl (fun w hS => lo 0 sc5 hS rfl rfl rfl rfl (BV_get _ 2 (by omega)) ⟨rfl, rfl⟩) hS ?_
  refine dq 15 rfl (by kernel_rfl) (by kernel_rfl) (by kernel_rfl) rfl rfl (fun w hS => ian (3) (3) Tryz.underlying205 sz5 rfl rfl rfl rfl (by omega) (by omega) (by omega) ⟨rfl, rfl⟩) hS ?_
  refine dq 16 rfl (by kernel_rfl) (by kernel_rfl) (by kernel_rfl) rfl rfl (fun w hS => lo 1 sc5 hS rfl rfl rfl rfl (BV_get _ 3 (by omega)) ⟨rfl, rfl⟩) hS ?_
  refine dq 17 rfl (by kernel_rfl) (by kernel_rfl) (by kernel_rfl) rfl rfl (fun w hS => ian (3) (3) Tryz.underlying205 sz5 rfl rfl rfl rfl (by omega) (by omega) (by omega) ⟨rfl, rfl⟩) hS ?_
  refine dq 18 rfl (by kernel_rfl) (by kernel_rfl) (by kernel_rfl) rfl rfl (fun w hS => lo 0 sc5 hS rfl rfl rfl rfl (BV_get _ 3 (by omega)) ⟨rfl, rfl⟩) hS ?_
  refine dl 4 rfl (by kernel_rfl) ?_
  refine cv cf110 hS rfl rfl rfl rfl rfl (sp_field_Mul ((gv a 0)) ((gv b 0)) _) ?_
  intro w hS
  refine ⟨fun _ => hS, ?_⟩
  refine dl 9 rfl (by kernel_rfl) ?_
  refine cv cf110 hS rfl rfl rfl rfl rfl (sp_field_Mul ((gv a 1)) ((gv b 1)) _) ?_
  intro w hS
  refine ⟨fun _ => hS, ?_⟩
  refine dl 14 rfl (by kernel_rfl) ?_
  refine cv cf110 hS rfl rfl rfl rfl rfl (sp_field_Mul ((gv a 2)) ((gv b 2)) _) ?_
  intro w hS
  refine ⟨fun _ => hS, ?_⟩
  refine dl 19 rfl (by kernel_rfl) ?_
  refine cv cf110 hS rfl rfl rfl rfl rfl (sp_field_Mul ((gv a 3)) ((gv b 3)) _) ?_
  intro w hS
  refine ⟨fun _ => hS, ?_⟩
  refine dl 20 rfl (by kernel_rfl) ?_
  refine bsl (cs := #[U8 (mul (gv a 0) (gv b 0)), U8 (mul (gv a 1) (gv b 1)), U8 (mul (gv a 2) (gv b 2)), U8 (mul (gv a 3) (gv b 3))]) sl30 hS rfl rfl rfl rfl (by kernel_rfl) ?_
  intro b25 w hb25 hS
  refine ⟨fun _ => hS.tl, ?_⟩
  refine dl 21 rfl (by kernel_rfl) ?_
  refine cv cf167 hS rfl rfl rfl rfl rfl (sp_field_Sum ((some ⟨b25, 0, none⟩)) (4) (4) (([mul (gv a 0) (gv b 0), mul (gv a 1) (gv b 1), mul (gv a 2) (gv b 2), mul (gv a 3) (gv b 3)])) _ (by first | rfl | omega | (simp; omega) | (simp; done)) (by omega) (Cel.lb (l := [mul (gv a 0) (gv b 0), mul (gv a 1) (gv b 1), mul (gv a 2) (gv b 2), mul (gv a 3) (gv b 3)]) (hS.get 0 rfl))) ?_
  intro w hS
  refine ⟨fun _ => hS.tl, ?_⟩
  refine dl 22 rfl (by kernel_rfl) ?_
  refine asg rfl rfl rfl ?_
  refine ⟨fun h => (by cases h), ?_⟩
  refine de (by kernel_rfl) ?_
  refine wq_then ?_
  refine wc_ret ?_
  refine fin1 (v := U8 (xorl ([mul (gv a 0) (gv b 0), mul (gv a 1) (gv b 1), mul (gv a 2) (gv b 2), mul (gv a 3) (gv b 3)]))) rfl rfl ?_
  exact ⟨rfl, hS.drop⟩
end Go.Proofs.XS

/- walks -/
namespace Go.Proofs.XS
open Go Go.X Go.Proofs
set_option maxRecDepth 100000 in
theorem sp_cipher_columns_1 (i rb bb E1 E2 : Nat) (row : V8 4) (b : V8 16) (i_ : Int) (w0 : World) (hi_ : i_ = (i : Int)) (hi : i < 16) (hr : w0.heap[rb]? = some (.cells (BV row) E1)) (hb : w0.heap[bb]? = some (.cells (BV b) E2)) : Calls Tryz.prog 137 #[I i_, Ptr rb 0, Ptr bb 0] w0 (Ret w0 (U8 (colf row b i))) := by
  subst hi_
  refine enter (args := [I (i : Int), Ptr rb 0, Ptr bb 0]) Tryz.func137 rfl rfl ?_
  refine startw fun w hS => ?_
  refine rg ?_
  refine asg rfl rfl rfl ?_
  refine wq_then ?_
  refine rg ?_
  refine mv rfl rfl rfl ?_
  refine andni (D := 4) 2 (by decide) (by decide) (by decide) (by omega) (by omega) rfl rfl rfl rfl ?_
  refine mv rfl rfl rfl ?_
  refine andi (D := 4) 2 (by decide) (by decide) (by decide) rfl rfl rfl rfl ?_
  refine asg rfl rfl rfl ?_
  refine asg rfl rfl rfl ?_
  refine wq_then ?_
  refine rd mo 22 (fun w => St w0 [] [] w) ?_
  have hS := hS.drew
  refine dq 0 rfl (by kernel_rfl) (by kernel_rfl) (by kernel_rfl) rfl rfl (fun w hS => mv rfl rfl rfl ⟨rfl, rfl⟩) hS ?_
  refine dq 1 rfl (by kernel_rfl) (by kernel_rfl) (by kernel_rfl) rfl rfl (fun w hS => subi (by omega) (by omega) rfl rfl rfl rfl ⟨rfl, rfl⟩) hS ?_
  refine dq 2 rfl (by kernel_rfl) (by kernel_rfl) (by kernel_rfl) rfl rfl (fun w hS => andi (D := 4) 2 (by decide) (by decide) (by decide) rfl rfl rfl rfl ⟨rfl, rfl⟩) hS ?_
  refine dq 3 rfl (by kernel_rfl) (by kernel_rfl) (by kernel_rfl) rfl rfl (fun w hS => ian ((4 - (i % 4)) % 4) (((4 - (i % 4)) % 4)) Tryz.underlying205 sz5 rfl rfl rfl rfl (by omega) (by omega) (by omega) ⟨rfl, rfl⟩) hS ?_
  refine dq 4 rfl (by kernel_rfl) (by kernel_rfl) (by kernel_rfl) rfl rfl (fun w hS => lod hr List.not_mem_nil sc5 hS rfl rfl rfl (BV_get _ ((4 - (i % 4)) % 4) (by omega)) ⟨rfl, rfl⟩) hS ?_
  refine dq 5 rfl (by kernel_rfl) (by kernel_rfl) (by kernel_rfl) rfl rfl (fun w hS => mv rfl rfl rfl ⟨rfl, rfl⟩) hS ?_
  refine dq 6 rfl (by kernel_rfl) (by kernel_rfl) (by kernel_rfl) rfl rfl (fun w hS => subi (by omega) (by omega) rfl rfl rfl rfl ⟨rfl, rfl⟩) hS ?_
  refine dq 7 rfl (by kernel_rfl) (by kernel_rfl) (by kernel_rfl) rfl rfl (fun w hS => andi (D := 4) 2 (by decide) (by decide) (by decide) rfl rfl rfl rfl ⟨rfl, rfl⟩) hS ?_
  refine dq 8 rfl (by kernel_rfl) (by kernel_rfl) (by kernel_rfl) rfl rfl (fun w hS => ian ((5 - (i % 4)) % 4) (((5 - (i % 4)) % 4)) Tryz.underlying205 sz5 rfl rfl rfl rfl (by omega) (by omega) (by omega) ⟨rfl, rfl⟩) hS ?_
  refine dq 9 rfl (by kernel_rfl) (by kernel_rfl) (by kernel_rfl) rfl rfl (fun w hS => lod hr List.not_mem_nil sc5 hS rfl rfl rfl (BV_get _ ((5 - (i % 4)) % 4) (by omega)) ⟨rfl, rfl⟩) hS ?_
  refine dq 10 rfl (by kernel_rfl) (by kernel_rfl) (by kernel_rfl) rfl rfl (fun w hS => mv rfl rfl rfl ⟨rfl, rfl⟩) hS ?_
  refine dq 11 rfl (by kernel_rfl) (by kernel_rfl) (by kernel_rfl) rfl rfl (fun w hS => subi (by omega) (by omega) rfl rfl rfl rfl ⟨rfl, rfl⟩) hS ?_
  refine dq 12 rfl (by kernel_rfl) (by kernel_rfl) (by kernel_rfl) rfl rfl (fun w hS => andi (D := 4) 2 (by decide) (by decide) (by decide) rfl rfl rfl rfl ⟨rfl, rfl⟩) hS ?_
  refine dq 13 rfl (by kernel_rfl) (by kernel_rfl) (by kernel_rfl) rfl rfl (fun w hS => ian ((6 - (i % 4)) % 4) (((6 - (i % 4)) % 4)) Tryz.underlying205 sz5 rfl rfl rfl rfl (by omega) (by omega) (by omega) ⟨rfl, rfl⟩) hS ?_
  refine dq 14 rfl (by kernel_rfl) (by kernel_rfl) (by kernel_rfl) rfl rfl (fun w hS => lod hr List.not_mem_nil sc5 hS rfl rfl rfl (BV_get _ ((6 - (i % 4)) % 4) (by omega)) ⟨rfl, rfl⟩) hS ?_
  refine dq 15 rfl (by kernel_rfl) (by kernel_rfl) (by kernel_rfl) rfl rfl (fun w hS => mv rfl rfl rfl ⟨rfl, rfl⟩) hS ?_
  refine dq 16 rfl (by kernel_rfl) (by kernel_rfl) (by kernel_rfl) rfl rfl (fun w hS => subi (by omega) (by omega) rfl rfl rfl rfl ⟨rfl, rfl⟩) hS ?_
  refine dq 17 rfl (by kernel_rfl) (by kernel_rfl) (by kernel_rfl) rfl rfl (fun w hS => andi (D := 4) 2 (by decide) (by decide) (by decide) rfl rfl rfl rfl ⟨rfl, rfl⟩) hS ?_
  refine dq 18 rfl (by kernel_rfl) (by kernel_rfl) (by kernel_rfl) rfl rfl (fun w hS => ian ((7 - (i % 4)) % 4) (((7 - (i % 4)) % 4)) Tryz.underlying205 sz5 rfl rfl rfl rfl (by omega) (by omega) (by omega) ⟨rfl, rfl⟩) hS ?_
  refine dq 19 rfl (by kernel_rfl) (by kernel_rfl) (by kernel_rfl) rfl rfl (fun w hS => lod hr List.not_mem_nil sc5 hS rfl rfl rfl (BV_get _ ((7 - (i % 4)) % 4) (by omega)) ⟨rfl, rfl⟩) hS ?_
  refine dq 20 rfl (by kernel_rfl) (by kernel_rfl) (by kernel_rfl) rfl rfl (fun w hS => bd (cs := BV (#v[gv row ((4 - (i % 4)) % 4), gv row ((5 - (i % 4)) % 4), gv row ((6 - (i % 4)) % 4), gv row ((7 - (i % 4)) % 4)])) rfl rfl rfl (by kernel_rfl) ⟨rfl, rfl⟩) hS ?_
  refine dl 21 rfl (by kernel_rfl) ?_
  refine ala zr205 hS rfl rfl ?_
  intro b7 w hb7 hS
  refine ⟨fun _ => hS.tl, ?_⟩
  refine dl 22 rfl (by kernel_rfl) ?_
  refine sa 0 ag205 hS rfl rfl rfl (BV_one _) rfl (BV_size _) (BV_size _) ?_
  intro w hS
  refine ⟨fun h => (by cases h), ?_⟩
  refine de (by kernel_rfl) ?_
  refine wq_then ?_
  refine rd mo 8 (fun w => St w0 [] [(b7, .cells (BV (#v[gv row ((4 - (i % 4)) % 4), gv row ((5 - (i % 4)) % 4), gv row ((6 - (i % 4)) % 4), gv row ((7 - (i % 4)) % 4)])) 205)] w) ?_
  have hS := hS.drew
  refine dq 0 rfl (by kernel_rfl) (by kernel_rfl) (by kernel_rfl) rfl rfl (fun w hS => la 0 ag205 hS rfl rfl rfl rfl (BV_size _) ⟨rfl, rfl⟩) hS ?_
  refine dq 1 rfl (by kernel_rfl) (by kernel_rfl) (by kernel_rfl) rfl rfl (fun w hS => mv rfl rfl rfl ⟨rfl, rfl⟩) hS ?_
  refine dq 2 rfl (by kernel_rfl) (by kernel_rfl) (by kernel_rfl) rfl rfl (fun w hS => mv rfl rfl rfl ⟨rfl, rfl⟩) hS ?_
  refine dq 3 rfl (by kernel_rfl) (by kernel_rfl) (by kernel_rfl) rfl rfl (fun w hS => addi (by omega) (by omega) rfl rfl rfl rfl ⟨rfl, rfl⟩) hS ?_
  refine dq 4 rfl (by kernel_rfl) (by kernel_rfl) (by kernel_rfl) rfl rfl (fun w hS => a_lhn (i - i % 4) ((i - i % 4) + 4) ((i - i % 4)) Tryz.underlying22 sz5 rfl rfl rfl rfl rfl (by omega) (by omega) (by omega) (by omega) (by omega) (by omega) ⟨rfl, rfl⟩) hS ?_
  refine dq 5 rfl (by kernel_rfl) (by kernel_rfl) (by kernel_rfl) rfl rfl (fun w hS => s2a Tryz.underlying205 rfl rfl rfl (by omega) ⟨rfl, rfl⟩) hS ?_
  refine dq 6 rfl (by kernel_rfl) (by kernel_rfl) (by kernel_rfl) rfl rfl (fun w hS => lpd (u := .agg (BV (seg8 4 b (i - i % 4)))) hb List.not_mem_nil ag205 hS rfl rfl rfl (by rw [BV_size]; omega) (BV_extract 4 _ (i - i % 4) (by omega)) rfl ⟨rfl, rfl⟩) hS ?_
  refine dl 7 rfl (by kernel_rfl) ?_
  refine cv cf138 hS rfl rfl rfl rfl rfl (sp_field_Dot ((#v[gv row ((4 - (i % 4)) % 4), gv row ((5 - (i % 4)) % 4), gv row ((6 - (i % 4)) % 4), gv row ((7 - (i % 4)) % 4)])) ((seg8 4 b (i - i % 4))) _) ?_
  intro w hS
  refine ⟨fun _ => hS, ?_⟩
  refine dl 8 rfl (by kernel_rfl) ?_
  refine asg rfl rfl rfl ?_
  refine ⟨fun h => (by cases h), ?_⟩
  refine de (by kernel_rfl) ?_
  refine wq_then ?_
  refine wc_ret ?_
  refine fin1 (v := U8 (dot (#v[gv row ((4 - (i % 4)) % 4), gv row ((5 - (i % 4)) % 4), gv row ((6 - (i % 4)) % 4), gv row ((7 - (i % 4)) % 4)]) (seg8 4 b (i - i % 4)))) rfl rfl ?_
  exact ⟨rfl, hS.drop⟩
end Go.Proofs.XS

/- walks -/
namespace Go.Proofs.XS
open Go Go.X Go.Proofs
set_option maxRecDepth 100000 in
theorem sp_cipher_columns (b : V8 16) (row : V8 4) (w0 : World) : Calls Tryz.prog 112 #[.agg (BV b), .agg (BV row)] w0 (Ret w0 (.agg (BV (cols b row)))) := by
  refine enter (args := [.agg (BV b), .agg (BV row)]) Tryz.func112 rfl rfl ?_
  refine startw fun w hS => ?_
  refine rg ?_
  refine bxa hS rfl rfl rfl ?_
  intro b2 w hb2 hS
  refine bxa hS rfl rfl rfl ?_
  intro b3 w hb3 hS
  refine ala zr22 hS rfl rfl ?_
  intro b4 w hb4 hS
  refine wq_then ?_
  refine rg ?_
  refine mkf rfl rfl rfl ?_
  refine cv cf136 hS rfl rfl rfl rfl rfl (sp_cipher_each 137 [Ptr b3 0, Ptr b2 0] (colf row b) w cf137 (fun k w hk hq => sp_cipher_columns_1 k b3 b2 _ _ row b _ w rfl hk (hq.old (hS.get 1 rfl) List.not_mem_nil) (hq.old (hS.get 2 rfl) List.not_mem_nil))) ?_
  intro w hS
  refine sa 0 ag22 hS rfl rfl rfl (BV_one _) rfl (BV_size _) (BV_size _) ?_
  intro w hS
  refine wq_then ?_
  refine wc_ret ?_
  refine fin1 (v := .agg (BV (cols b row))) rfl ⟨_, rfl, lv_a ag22 (hS.get 0 rfl) (BV_size _)⟩ ?_
  exact ⟨rfl, hS.drop⟩
end Go.Proofs.XS

/- walks -/
namespace Go.Proofs.XS
open Go Go.X Go.Proofs
set_option maxRecDepth 100000 in
theorem sp_cipher_Unmix (b : V8 16) (w0 : World) : Calls Tryz.prog 76 #[.agg (BV b)] w0 (Ret w0 (.agg (BV (unmix b)))) := by
  refine enter (args := [.agg (BV b)]) Tryz.func76 rfl rfl ?_
  refine startw fun w hS => ?_
  refine rg ?_
  refine bxa hS rfl rfl rfl ?_
  intro b1 w hb1 hS
  refine ala zr22 hS rfl rfl ?_
  intro b2 w hb2 hS
  refine wq_then ?_
  refine rg ?_
  refine la 1 ag22 hS rfl rfl rfl rfl (BV_size _) ?_
  refine bd (cs := BV (#v[14, 11, 13, 9])) rfl rfl rfl (by kernel_rfl) ?_
  refine cv cf112 hS rfl rfl rfl rfl rfl (sp_cipher_columns (b) (#v[14, 11, 13, 9]) _) ?_
  intro w hS
  refine sa 0 ag22 hS rfl rfl rfl (BV_one _) rfl (BV_size _) (BV_size _) ?_
  intro w hS
  refine wq_then ?_
  refine wc_ret ?_
  refine fin1 (v := .agg (BV (cols b #v[14, 11, 13, 9]))) rfl ⟨_, rfl, lv_a ag22 (hS.get 0 rfl) (BV_size _)⟩ ?_
  exact ⟨rfl, hS.drop⟩
end Go.Proofs.XS

/- walks -/
namespace Go.Proofs.XS
open Go Go.X Go.Proofs
set_option maxRecDepth 100000 in
theorem sp_fast_column (a b c e : UInt8) (w0 : World) : Calls Tryz.prog 109 #[U8 a, U8 b, U8 c, U8 e] w0 (Ret w0 (U32 (col a b c e))) := by
  refine enter (args := [U8 a, U8 b, U8 c, U8 e]) Tryz.func109 rfl rfl ?_
  refine startw fun w hS => ?_
  refine rg ?_
  refine asg rfl rfl rfl ?_
  refine wq_then ?_
  refine rg ?_
  refine mv rfl rfl rfl ?_
  refine cvu32 Tryz.underlying72 ⟨_, Tryz.underlying5⟩ rfl rfl rfl ?_
  refine shln32 (24) (by omega) rfl rfl rfl rfl ?_
  refine mv rfl rfl rfl ?_
  refine cvu32 Tryz.underlying72 ⟨_, Tryz.underlying5⟩ rfl rfl rfl ?_
  refine shln32 (16) (by omega) rfl rfl rfl rfl ?_
  refine or32 rfl rfl rfl rfl ?_
  refine mv rfl rfl rfl ?_
  refine cvu32 Tryz.underlying72 ⟨_, Tryz.underlying5⟩ rfl rfl rfl ?_
  refine shln32 (8) (by omega) rfl rfl rfl rfl ?_
  refine or32 rfl rfl rfl rfl ?_
  refine mv rfl rfl rfl ?_
  refine cvu32 Tryz.underlying72 ⟨_, Tryz.underlying5⟩ rfl rfl rfl ?_
  refine or32 rfl rfl rfl rfl ?_
  refine asg rfl rfl rfl ?_
  refine wq_then ?_
  refine wc_ret ?_
  refine fin1 (v := U32 ((((shl32 (toU32 (((a).toNat : Int))) 24) ||| (shl32 (toU32 (((b).toNat : Int))) 16)) ||| (shl32 (toU32 (((c).toNat : Int))) 8)) ||| (toU32 (((e).toNat : Int))))) rfl rfl ?_
  exact ⟨rfl, hS.drop⟩
end Go.Proofs.XS

/- walks -/
namespace Go.Proofs.XS
open Go Go.X Go.Proofs
set_option maxRecDepth 100000 in
theorem sp_fast_words (b : V8 16) (w0 : World) : Calls Tryz.prog 75 #[.agg (BV b)] w0 (Ret w0 (.agg (WV (wds b)))) := by
  refine enter (args := [.agg (BV b)]) Tryz.func75 rfl rfl ?_
  refine startw fun w hS => ?_
  refine rg ?_
  refine bxa hS rfl rfl rfl ?_
  intro b1 w hb1 hS
  refine ala zr144 hS rfl rfl ?_
  intro b2 w hb2 hS
  refine wq_then ?_
  refine rg ?_
  refine ala zr144 hS rfl rfl ?_
  intro b3 w hb3 hS
  refine wq_then ?_
  refine wc_seq ?_
  refine rg ?_
  refine mv rfl rfl rfl ?_
  refine wq_then ?_
  refine wc_block ?_
  refine wc_loop (σ := Nat) (fun k => [(1, Ptr b1 0), (2, Ptr b2 0), (3, Ptr b3 0), (5, I ((k : Int)))])
    (fun k w => (k ≤ 4) ∧ St w0 [] [(b3, .cells (WV (fill32 4 (wdf b) (Vector.replicate 4 0) k)) 144), (b2, .cells (WV (Vector.replicate 4 0)) 144), (b1, .cells (BV b) 22)] w) (fun k => 4 - k) 0 ⟨rfl, rfl, rfl, rfl, trivial⟩ ⟨by omega, (by simp only [Nat.zero_mul, Nat.add_zero, fill8_0, fill32_0]; exact hS)⟩ ?_
  rintro k w ⟨hk, hS⟩
  refine rg ?_
  refine lss rfl rfl rfl rfl ?_
  refine wq_then ?_
  refine wc_seq ?_
  refine wc_if rfl (fun hc1 => ?_) (fun hc1 => ?_)
  · skip
    try simp only [SB] at hc1
    refine wc_skip ?_
    refine wq_then ?_
    refine wc_seq ?_
    refine wc_block ?_
    refine rg ?_
    refine mv rfl rfl rfl ?_
    refine asg rfl rfl rfl ?_
    refine wq_then ?_
    refine wc_draw mo 21 (fun w => St w0 [] [(b3, .cells (WV (fill32 4 (wdf b) (Vector.replicate 4 0) k)) 144), (b2, .cells (WV (Vector.replicate 4 0)) 144), (b1, .cells (BV b) 22)] w) ?_
    have hS := hS.drew
    refine dq 0 rfl (by kernel_rfl) (by kernel_rfl) (by kernel_rfl) rfl rfl (fun w hS => mv rfl rfl rfl ⟨rfl, rfl⟩) hS ?_
    refine dq 1 rfl (by kernel_rfl) (by kernel_rfl) (by kernel_rfl) rfl rfl (fun w hS => mv rfl rfl rfl ⟨rfl, rfl⟩) hS ?_
    refine dq 2 rfl (by kernel_rfl) (by kernel_rfl) (by kernel_rfl) rfl rfl (fun w hS => muli (by omega) (by omega) rfl rfl rfl rfl ⟨rfl, rfl⟩) hS ?_
    refine dq 3 rfl (by kernel_rfl) (by kernel_rfl) (by kernel_rfl) rfl rfl (fun w hS => ian (4 * k) ((4 * k)) Tryz.underlying22 sz5 rfl rfl rfl rfl (by omega) (by omega) (by omega) ⟨rfl, rfl⟩) hS ?_
    refine dq 4 rfl (by kernel_rfl) (by kernel_rfl) (by kernel_rfl) rfl rfl (fun w hS => lo 2 sc5 hS rfl rfl rfl rfl (BV_get _ (4 * k) (by omega)) ⟨rfl, rfl⟩) hS ?_
    refine dq 5 rfl (by kernel_rfl) (by kernel_rfl) (by kernel_rfl) rfl rfl (fun w hS => mv rfl rfl rfl ⟨rfl, rfl⟩) hS ?_
    refine dq 6 rfl (by kernel_rfl) (by kernel_rfl) (by kernel_rfl) rfl rfl (fun w hS => muli (by omega) (by omega) rfl rfl rfl rfl ⟨rfl, rfl⟩) hS ?_
    refine dq 7 rfl (by kernel_rfl) (by kernel_rfl) (by kernel_rfl) rfl rfl (fun w hS => addi (by omega) (by omega) rfl rfl rfl rfl ⟨rfl, rfl⟩) hS ?_
    refine dq 8 rfl (by kernel_rfl) (by kernel_rfl) (by kernel_rfl) rfl rfl (fun w hS => ian ((4 * k) + 1) (((4 * k) + 1)) Tryz.underlying22 sz5 rfl rfl rfl rfl (by omega) (by omega) (by omega) ⟨rfl, rfl⟩) hS ?_
    refine dq 9 rfl (by kernel_rfl) (by kernel_rfl) (by kernel_rfl) rfl rfl (fun w hS => lo 2 sc5 hS rfl rfl rfl rfl (BV_get _ ((4 * k) + 1) (by omega)) ⟨rfl, rfl⟩) hS ?_
    refine dq 10 rfl (by kernel_rfl) (by kernel_rfl) (by kernel_rfl) rfl rfl (fun w hS => mv rfl rfl rfl ⟨rfl, rfl⟩) hS ?_
    refine dq 11 rfl (by kernel_rfl) (by kernel_rfl) (by kernel_rfl) rfl rfl (fun w hS => muli (by omega) (by omega) rfl rfl rfl rfl ⟨rfl, rfl⟩) hS ?_
    refine dq 12 rfl (by kernel_rfl) (by kernel_rfl) (by kernel_rfl) rfl rfl (fun w hS => addi (by omega) (by omega) rfl rfl rfl rfl ⟨rfl, rfl⟩) hS ?_
    refine dq 13 rfl (by kernel_rfl) (by kernel_rfl) (by kernel_rfl) rfl rfl (fun w hS => ian ((4 * k) + 2) (((4 * k) + 2)) Tryz.underlying22 sz5 rfl rfl rfl rfl (by omega) (by omega) (by omega) ⟨rfl, rfl⟩) hS ?_
    refine dq 14 rfl (by kernel_rfl) (by kernel_rfl) (by kernel_rfl) rfl rfl (fun w hS => lo 2 sc5 hS rfl rfl rfl rfl (BV_get _ ((4 * k) + 2) (by omega)) ⟨rfl, rfl⟩) hS ?_
    refine dq 15 rfl (by kernel_rfl) (by kernel_rfl) (by kernel_rfl) rfl rfl (fun w hS => mv rfl rfl rfl ⟨rfl, rfl⟩) hS ?_
    refine dq 16 rfl (by kernel_rfl) (by kernel_rfl) (by kernel_rfl) rfl rfl (fun w hS => muli (by omega) (by omega) rfl rfl rfl rfl ⟨rfl, rfl⟩) hS ?_
    refine dq 17 rfl (by kernel_rfl) (by kernel_rfl) (by kernel_rfl) rfl rfl (fun w hS => addi (by omega) (by omega) rfl rfl rfl rfl ⟨rfl, rfl⟩) hS ?_
    refine dq 18 rfl (by kernel_rfl) (by kernel_rfl) (by kernel_rfl) rfl rfl (fun w hS => ian ((4 * k) + 3) (((4 * k) + 3)) Tryz.underlying22 sz5 rfl rfl rfl rfl (by omega) (by omega) (by omega) ⟨rfl, rfl⟩) hS ?_
    refine dq 19 rfl (by kernel_rfl) (by kernel_rfl) (by kernel_rfl) rfl rfl (fun w hS => lo 2 sc5 hS rfl rfl rfl rfl (BV_get _ ((4 * k) + 3) (by omega)) ⟨rfl, rfl⟩) hS ?_
    refine dl 20 rfl (by kernel_rfl) ?_
    refine cv cf109 hS rfl rfl rfl rfl rfl (sp_fast_column ((gv b (4 * k))) ((gv b ((4 * k) + 1))) ((gv b ((4 * k) + 2))) ((gv b ((4 * k) + 3))) _) ?_
    intro w hS
    refine ⟨fun _ => hS, ?_⟩
    refine dl 21 rfl (by kernel_rfl) ?_
    refine ian (k) (k) Tryz.underlying144 sz72 rfl rfl rfl rfl (by omega) (by omega) (by omega) ?_
    refine ⟨fun h => (by cases h), ?_⟩
    refine dl 22 rfl (by kernel_rfl) ?_
    refine st (cs' := WV (fill32 4 (wdf b) (Vector.replicate 4 0) (k + 1))) 0 sz72 hS rfl rfl rfl rfl rfl rfl (by rw [WV_size]; omega) (by rw [WV_set]; exact congrArg WV (fill32_succ (wdf b) (Vector.replicate 4 0) k)) ?_
    intro w hS
    refine ⟨fun h => (by cases h), ?_⟩
    refine de (by kernel_rfl) ?_
    refine q_block_norm ?_
    refine wq_then ?_
    refine wc_region ?_
    refine addi (by omega) (by omega) rfl rfl rfl rfl ?_
    refine mv rfl rfl rfl ?_
    refine again_q (k + 1) ⟨rfl, rfl, rfl, lkI rfl (by first | omega | rfl), trivial⟩ ⟨by omega, hS⟩ (by omega)
  · skip
    try simp only [SB] at hc1
    refine wc_exit ?_
    refine q_then_exit ?_
    refine q_then_exit ?_
    refine q_block_hit ?_
    refine wq_then ?_
    refine rg ?_
    refine la 0 ag144 hS rfl rfl rfl rfl (WV_size _) ?_
    refine sa 1 ag144 hS rfl rfl rfl (WV_one _) rfl (WV_size _) (WV_size _) ?_
    intro w hS
    refine wq_then ?_
    refine wc_ret ?_
    refine fin1 (v := .agg (WV (fill32 4 (wdf b) (Vector.replicate 4 0) k))) rfl ⟨_, rfl, lv_a ag144 (hS.get 1 rfl) (WV_size _)⟩ ?_
    refine ⟨?_, hS.drop⟩
    have hk4 : k = 4 := by omega
    subst hk4; rw [fill32_n]; rfl
end Go.Proofs.XS

/- walks -/
namespace Go.Proofs.XS
open Go Go.X Go.Proofs
set_option maxRecDepth 100000 in
theorem sp_sbox_Back (a : UInt8) (w0 : World) : Calls Tryz.prog 108 #[U8 a] w0 (Ret w0 (U8 (back a))) := by
  refine enter (args := [U8 a]) Tryz.func108 rfl rfl ?_
  refine startw fun w hS => ?_
  refine rg ?_
  refine asg rfl rfl rfl ?_
  refine wq_then ?_
  refine wc_seq ?_
  refine rg ?_
  refine cv cf131 hS rfl rfl rfl rfl rfl (sp_sbox_table _) ?_
  intro w hS
  refine mv rfl rfl rfl ?_
  refine wq_then ?_
  refine wc_block ?_
  refine wc_loop (σ := Nat) (fun k => [(0, U8 (a)), (5, .agg (BV sboxV)), (6, I ((k : Int)))])
    (fun k w => (k ≤ 256 ∧ backL a (256 - k) k = back a) ∧ St w0 [] [] w) (fun k => 256 - k) 0 ⟨rfl, rfl, rfl, trivial⟩ ⟨⟨by omega, rfl⟩, hS⟩ ?_
  rintro k w ⟨⟨hk, hk2⟩, hS⟩
  refine rg ?_
  refine lss rfl rfl rfl rfl ?_
  refine wq_then ?_
  refine wc_seq ?_
  refine wc_if rfl (fun hc1 => ?_) (fun hc1 => ?_)
  · skip
    try simp only [SB] at hc1
    obtain ⟨m, hm⟩ : ∃ m, 256 - k = m + 1 := ⟨255 - k, by omega⟩
    have hm2 : 256 - (k + 1) = m := by omega
    rw [hm] at hk2
    simp only [backL] at hk2
    refine wc_skip ?_
    refine wq_then ?_
    refine wc_seq ?_
    refine wc_block ?_
    refine rg ?_
    refine mv rfl rfl rfl ?_
    refine ixn (k) Tryz.underlying43 sz5 sc5 rfl rfl rfl rfl (by omega) (by omega) (BV_get _ k (by omega)) ?_
    refine asg rfl rfl rfl ?_
    refine asg rfl rfl rfl ?_
    refine wq_then ?_
    refine rg ?_
    refine mv rfl rfl rfl ?_
    refine mv rfl rfl rfl ?_
    refine eqi rfl rfl rfl rfl ?_
    refine wq_then ?_
    refine wc_if rfl (fun hc2 => ?_) (fun hc2 => ?_)
    · skip
      try simp only [SB] at hc2
      have he : gv sboxV k = a := UInt8.toNat_inj.1 (by omega)
      rw [if_pos he] at hk2
      have hk4 : toU8 (k : Int) = UInt8.ofNat k := toU8_nat k
      refine rg ?_
      refine mv rfl rfl rfl ?_
      refine cvu8 Tryz.underlying5 ⟨_, Tryz.underlying3⟩ rfl rfl rfl ?_
      refine asg rfl rfl rfl ?_
      refine wq_then ?_
      refine wc_ret ?_
      refine q_block_ret ?_
      refine q_then_ret ?_
      refine q_then_ret ?_
      refine q_block_ret ?_
      refine q_then_ret ?_
      refine fin1 (v := U8 (toU8 ((k : Int)))) rfl rfl ?_
      refine ⟨?_, hS.drop⟩
      rw [hk4, hk2]
    · skip
      try simp only [SB] at hc2
      have he : ¬ gv sboxV k = a := fun e => by rw [e] at hc2; exact hc2 rfl
      rw [if_neg he] at hk2
      refine wc_skip ?_
      refine q_block_norm ?_
      refine wq_then ?_
      refine wc_region ?_
      refine addi (by omega) (by omega) rfl rfl rfl rfl ?_
      refine mv rfl rfl rfl ?_
      refine again_q (k + 1) ⟨rfl, rfl, lkI rfl (by first | omega | rfl), trivial⟩ ⟨⟨by omega, by rw [hm2]; exact hk2⟩, hS⟩ (by omega)
  · skip
    try simp only [SB] at hc1
    have hz : 256 - k = 0 := by omega
    rw [hz] at hk2
    simp only [backL] at hk2
    refine wc_exit ?_
    refine q_then_exit ?_
    refine q_then_exit ?_
    refine q_block_hit ?_
    refine wq_then ?_
    refine rg ?_
    refine asg rfl rfl rfl ?_
    refine wq_then ?_
    refine wc_ret ?_
    refine fin1 (v := U8 (0)) rfl rfl ?_
    refine ⟨?_, hS.drop⟩
    rw [← hk2]
end Go.Proofs.XS

/- walks -/
namespace Go.Proofs.XS
open Go Go.X Go.Proofs
set_option maxRecDepth 100000 in
theorem sp_fast_fill (w0 : World) : Calls Tryz.prog 73 #[] w0 (Ret w0 (.agg (WV fwdT ++ WV bckT))) := by
  refine enter (args := []) Tryz.func73 rfl rfl ?_
  refine startw fun w hS => ?_
  refine rg ?_
  refine ala zr142 hS rfl rfl ?_
  intro b0 w hb0 hS
  refine wq_then ?_
  refine wc_seq ?_
  refine rg ?_
  refine mv rfl rfl rfl ?_
  refine wq_then ?_
  refine wc_block ?_
  refine wc_loop (σ := Nat) (fun k => [(0, Ptr b0 0), (4, I ((k : Int)))])
    (fun k w => (k ≤ 256) ∧ St w0 [] [(b0, .cells (WV (fill32 256 fwdTf (Vector.replicate 256 0) k) ++ WV (fill32 256 bckTf (Vector.replicate 256 0) k)) 142)] w) (fun k => 256 - k) 0 ⟨rfl, rfl, trivial⟩ ⟨by omega, (by simp only [Nat.zero_mul, Nat.add_zero, fill8_0, fill32_0]; exact hS)⟩ ?_
  rintro k w ⟨hk, hS⟩
  refine rg ?_
  refine lss rfl rfl rfl rfl ?_
  refine wq_then ?_
  refine wc_seq ?_
  refine wc_if rfl (fun hc1 => ?_) (fun hc1 => ?_)
  · skip
    try simp only [SB] at hc1
    refine wc_skip ?_
    refine wq_then ?_
    refine wc_seq ?_
    refine wc_block ?_
    refine rg ?_
    refine mv rfl rfl rfl ?_
    refine asg rfl rfl rfl ?_
    refine wq_then ?_
    refine rg ?_
    refine mv rfl rfl rfl ?_
    refine cvu8 Tryz.underlying5 ⟨_, Tryz.underlying3⟩ rfl rfl rfl ?_
    refine cv cf107 hS rfl rfl rfl rfl rfl (sp_sbox_S ((toU8 ((k : Int)))) _) ?_
    intro w hS
    refine mv rfl rfl rfl ?_
    refine cvu8 Tryz.underlying5 ⟨_, Tryz.underlying3⟩ rfl rfl rfl ?_
    refine cv cf108 hS rfl rfl rfl rfl rfl (sp_sbox_Back ((toU8 ((k : Int)))) _) ?_
    intro w hS
    refine asg rfl rfl rfl ?_
    refine asg rfl rfl rfl ?_
    refine wq_then ?_
    refine rg ?_
    refine mv rfl rfl rfl ?_
    refine mv rfl rfl rfl ?_
    refine cv cf110 hS rfl rfl rfl rfl rfl (sp_field_Mul ((sbox (toU8 ((k : Int))))) (2) _) ?_
    intro w hS
    refine mv rfl rfl rfl ?_
    refine mv rfl rfl rfl ?_
    refine mv rfl rfl rfl ?_
    refine cv cf110 hS rfl rfl rfl rfl rfl (sp_field_Mul ((sbox (toU8 ((k : Int))))) (3) _) ?_
    intro w hS
    refine cv cf109 hS rfl rfl rfl rfl rfl (sp_fast_column ((mul (sbox (toU8 ((k : Int)))) 2)) ((sbox (toU8 ((k : Int))))) ((sbox (toU8 ((k : Int))))) ((mul (sbox (toU8 ((k : Int)))) 3)) _) ?_
    intro w hS
    refine fan (0) (0) Tryz.underlying142 rfl sz140 (by decide) rfl rfl rfl rfl (by omega) ?_
    refine ian (k) (k) Tryz.underlying140 sz72 rfl rfl rfl rfl (by omega) (by omega) (by omega) ?_
    refine st (cs' := WV (fill32 256 fwdTf (Vector.replicate 256 0) (k + 1)) ++ WV (fill32 256 bckTf (Vector.replicate 256 0) k)) 0 sz72 hS rfl rfl rfl rfl rfl rfl (lt_sz (cat_size (a := 256) (b := 256) (WV_size _) (WV_size _)) (by omega)) (cat_sl (WV_size _) (by omega) (by rw [WV_set, toU8_nat]; exact congrArg WV (fill32_succ fwdTf (Vector.replicate 256 0) k))) ?_
    intro w hS
    refine wq_then ?_
    refine wc_region ?_
    refine mv rfl rfl rfl ?_
    refine mv rfl rfl rfl ?_
    refine cv cf110 hS rfl rfl rfl rfl rfl (sp_field_Mul ((back (toU8 ((k : Int))))) (14) _) ?_
    intro w hS
    refine mv rfl rfl rfl ?_
    refine cv cf110 hS rfl rfl rfl rfl rfl (sp_field_Mul ((back (toU8 ((k : Int))))) (9) _) ?_
    intro w hS
    refine mv rfl rfl rfl ?_
    refine cv cf110 hS rfl rfl rfl rfl rfl (sp_field_Mul ((back (toU8 ((k : Int))))) (13) _) ?_
    intro w hS
    refine mv rfl rfl rfl ?_
    refine cv cf110 hS rfl rfl rfl rfl rfl (sp_field_Mul ((back (toU8 ((k : Int))))) (11) _) ?_
    intro w hS
    refine cv cf109 hS rfl rfl rfl rfl rfl (sp_fast_column ((mul (back (toU8 ((k : Int)))) 14)) ((mul (back (toU8 ((k : Int)))) 9)) ((mul (back (toU8 ((k : Int)))) 13)) ((mul (back (toU8 ((k : Int)))) 11)) _) ?_
    intro w hS
    refine fan (256) (256) Tryz.underlying142 rfl sz140 (by decide) rfl rfl rfl rfl (by omega) ?_
    refine ian (k) (256 + k) Tryz.underlying140 sz72 rfl rfl rfl rfl (by omega) (by omega) (by omega) ?_
    refine st (cs' := WV (fill32 256 fwdTf (Vector.replicate 256 0) (k + 1)) ++ WV (fill32 256 bckTf (Vector.replicate 256 0) (k + 1))) 0 sz72 hS rfl rfl rfl rfl rfl rfl (lt_sz (cat_size (a := 256) (b := 256) (WV_size _) (WV_size _)) (by omega)) (cat_sr (o' := k) (WV_size _) (by omega) (by rw [WV_set, toU8_nat]; exact congrArg WV (fill32_succ bckTf (Vector.replicate 256 0) k))) ?_
    intro w hS
    refine q_block_norm ?_
    refine wq_then ?_
    refine wc_region ?_
    refine addi (by omega) (by omega) rfl rfl rfl rfl ?_
    refine mv rfl rfl rfl ?_
    refine again_q (k + 1) ⟨rfl, lkI rfl (by first | omega | rfl), trivial⟩ ⟨by omega, hS⟩ (by omega)
  · skip
    try simp only [SB] at hc1
    refine wc_exit ?_
    refine q_then_exit ?_
    refine q_then_exit ?_
    refine q_block_hit ?_
    refine wq_then ?_
    refine rg ?_
    refine la 0 ag142 hS rfl rfl rfl rfl (cat_size (a := 256) (b := 256) (WV_size _) (WV_size _)) ?_
    refine sa 0 ag142 hS rfl rfl rfl (cat_one (WV_one _) (WV_one _)) rfl (cat_size (a := 256) (b := 256) (WV_size _) (WV_size _)) (cat_size (a := 256) (b := 256) (WV_size _) (WV_size _)) ?_
    intro w hS
    refine wq_then ?_
    refine wc_ret ?_
    refine fin1 (v := .agg (WV (fill32 256 fwdTf (Vector.replicate 256 0) k) ++ WV (fill32 256 bckTf (Vector.replicate 256 0) k))) rfl ⟨_, rfl, lv_a ag142 (hS.get 0 rfl) (cat_size (a := 256) (b := 256) (WV_size _) (WV_size _))⟩ ?_
    refine ⟨?_, hS.drop⟩
    have hk4 : k = 256 := by omega
    subst hk4; rw [fill32_n, fill32_n]; rfl
end Go.Proofs.XS

/- walks -/
namespace Go.Proofs.XS
open Go Go.X Go.Proofs
set_option maxRecDepth 100000 in
theorem sp_fast_New (key : V8 16) (w0 : World) : Calls Tryz.prog 27 #[.agg (BV key)] w0 (RetS w0 (fun v L => ∃ c, v = Ptr c 0 ∧ L = [(c, .cells (cipherC key) 147)])) := by
  refine enter (args := [.agg (BV key)]) Tryz.func27 rfl rfl ?_
  refine startw fun w hS => ?_
  refine rg ?_
  refine bxa hS rfl rfl rfl ?_
  intro b1 w hb1 hS
  refine asg rfl rfl rfl ?_
  refine wq_then ?_
  refine rd mo 4 (fun w => St w0 [] [(b1, .cells (BV key) 22)] w) ?_
  have hS := hS.drew
  refine dq 0 rfl (by kernel_rfl) (by kernel_rfl) (by kernel_rfl) rfl rfl (fun w hS => la 0 ag22 hS rfl rfl rfl rfl (BV_size _) ⟨rfl, rfl⟩) hS ?_
  refine dl 1 rfl (by kernel_rfl) ?_
  refine cv cf73 hS rfl rfl rfl rfl rfl (sp_fast_fill _) ?_
  intro w hS
  refine ⟨fun _ => hS, ?_⟩
  refine dq 2 rfl (by kernel_rfl) (by kernel_rfl) (by kernel_rfl) rfl rfl (fun w hS => bd (cs := #[.bool (true)] ++ (WV (Vector.replicate 44 0) ++ (WV (Vector.replicate 44 0) ++ (BV key ++ (WV fwdT ++ WV bckT))))) rfl rfl rfl ((bu147 _).trans (fill_1 (off := 0) rfl rfl (le_sz (a := 617) (cat_size (a := 1) (b := 616) rfl (cat_size (a := 44) (b := 572) (WV_size _) (cat_size (a := 44) (b := 528) (WV_size _) (cat_size (a := 16) (b := 512) (BV_size _) (cat_size (a := 256) (b := 256) (WV_size _) (WV_size _)))))) (by omega)) (cat_sl (a := 1) rfl (by omega) rfl) <| fill_w (off := 89) (size := 16) rfl (BV_size _) (le_sz (a := 617) (cat_size (a := 1) (b := 616) rfl (cat_size (a := 44) (b := 572) (WV_size _) (cat_size (a := 44) (b := 528) (WV_size _) (cat_size (a := 16) (b := 512) (BV_size _) (cat_size (a := 256) (b := 256) (WV_size _) (WV_size _)))))) (by omega)) (cat_pr (a := 1) (o' := 88) rfl (by omega) (ple2 (BV_size _) (cat_size (a := 44) (b := 572) (WV_size _) (cat_size (a := 44) (b := 528) (WV_size _) (cat_size (a := 16) (b := 512) (BV_size _) (cat_size (a := 256) (b := 256) (WV_size _) (WV_size _))))) (by omega)) (cat_pr (a := 44) (o' := 44) (WV_size _) (by omega) (ple2 (BV_size _) (cat_size (a := 44) (b := 528) (WV_size _) (cat_size (a := 16) (b := 512) (BV_size _) (cat_size (a := 256) (b := 256) (WV_size _) (WV_size _)))) (by omega)) (cat_pr (a := 44) (o' := 0) (WV_size _) (by omega) (ple2 (BV_size _) (cat_size (a := 16) (b := 512) (BV_size _) (cat_size (a := 256) (b := 256) (WV_size _) (WV_size _))) (by omega)) (cat_pl (a := 16) (BV_size _) (ple (BV_size _) (by omega)) (put_all (BV_size _) (BV_size _)))))) <| fill_w (off := 105) (size := 512) rfl (cat_size (a := 256) (b := 256) (WV_size _) (WV_size _)) (le_sz (a := 617) (cat_size (a := 1) (b := 616) rfl (cat_size (a := 44) (b := 572) (WV_size _) (cat_size (a := 44) (b := 528) (WV_size _) (cat_size (a := 16) (b := 512) (BV_size _) (cat_size (a := 256) (b := 256) (WV_size _) (WV_size _)))))) (by omega)) (cat_pr (a := 1) (o' := 104) rfl (by omega) (ple2 (cat_size (a := 256) (b := 256) (WV_size _) (WV_size _)) (cat_size (a := 44) (b := 572) (WV_size _) (cat_size (a := 44) (b := 528) (WV_size _) (cat_size (a := 16) (b := 512) (BV_size _) (cat_size (a := 256) (b := 256) (WV_size _) (WV_size _))))) (by omega)) (cat_pr (a := 44) (o' := 60) (WV_size _) (by omega) (ple2 (cat_size (a := 256) (b := 256) (WV_size _) (WV_size _)) (cat_size (a := 44) (b := 528) (WV_size _) (cat_size (a := 16) (b := 512) (BV_size _) (cat_size (a := 256) (b := 256) (WV_size _) (WV_size _)))) (by omega)) (cat_pr (a := 44) (o' := 16) (WV_size _) (by omega) (ple2 (cat_size (a := 256) (b := 256) (WV_size _) (WV_size _)) (cat_size (a := 16) (b := 512) (BV_size _) (cat_size (a := 256) (b := 256) (WV_size _) (WV_size _))) (by omega)) (cat_pr (a := 16) (o' := 0) (BV_size _) (by omega) (ple2 (cat_size (a := 256) (b := 256) (WV_size _) (WV_size _)) (cat_size (a := 256) (b := 256) (WV_size _) (WV_size _)) (by omega)) (put_all (cat_size (a := 256) (b := 256) (WV_size _) (WV_size _)) (cat_size (a := 256) (b := 256) (WV_size _) (WV_size _))))))) <| rfl)) ⟨rfl, rfl⟩) hS ?_
  refine dl 3 rfl (by kernel_rfl) ?_
  refine bxa hS rfl rfl rfl ?_
  intro b9 w hb9 hS
  refine ⟨fun _ => hS.tl, ?_⟩
  refine dl 4 rfl (by kernel_rfl) ?_
  refine asg rfl rfl rfl ?_
  refine ⟨fun h => (by cases h), ?_⟩
  refine de (by kernel_rfl) ?_
  refine wq_then ?_
  refine wc_seq ?_
  refine rg ?_
  refine la 1 ag22 hS rfl rfl rfl rfl (BV_size _) ?_
  refine cv cf74 hS rfl rfl rfl rfl rfl (sp_keys_Expand (key) _) ?_
  intro w hS
  refine mv rfl rfl rfl ?_
  refine wq_then ?_
  refine wc_block ?_
  refine wc_loop (σ := Nat) (fun k => [(2, (.pointer none)), (3, Ptr b9 0), (11, .agg (BV (expand key))), (12, I ((k : Int)))])
    (fun k w => (k ≤ 11) ∧ St w0 [] [(b9, .cells (#[.bool (true)] ++ (WV (fwK key k) ++ (WV (bkK key k) ++ (BV key ++ (WV fwdT ++ WV bckT))))) 147), (b1, .cells (BV key) 22)] w) (fun k => 11 - k) 0 ⟨rfl, rfl, rfl, rfl, trivial⟩ ⟨by omega, hS⟩ ?_
  rintro k w ⟨hk, hS⟩
  refine rg ?_
  refine lss rfl rfl rfl rfl ?_
  refine wq_then ?_
  refine wc_seq ?_
  refine wc_if rfl (fun hc1 => ?_) (fun hc1 => ?_)
  · skip
    try simp only [SB] at hc1
    refine wc_skip ?_
    refine wq_then ?_
    refine wc_seq ?_
    refine wc_block ?_
    refine rg ?_
    refine mv rfl rfl rfl ?_
    refine ixpn (u := .agg (BV (seg8 16 (expand key) ((k) * 16)))) (k) Tryz.underlying42 ag22 rfl rfl rfl rfl (by omega) (by omega) (BV_extract 16 _ ((k) * 16) (by omega)) rfl ?_
    refine ala zr22 hS rfl rfl ?_
    intro b5 w hb5 hS
    refine asg rfl rfl rfl ?_
    refine sa 0 ag22 hS rfl rfl rfl (BV_one _) rfl (BV_size _) (BV_size _) ?_
    intro w hS
    refine wq_then ?_
    refine rd mo 8 (fun w => St w0 [] [(b5, .cells (BV (seg8 16 (expand key) ((k) * 16))) 22)] w) ?_
    have hS := hS.drew
    refine dq 0 rfl (by kernel_rfl) (by kernel_rfl) (by kernel_rfl) rfl rfl (fun w hS => mv rfl rfl rfl ⟨rfl, rfl⟩) (hS.sublist (.cons_cons _ (.cons _ (.cons _ (List.nil_sublist _))))) ?_
    refine dq 1 rfl (by kernel_rfl) (by kernel_rfl) (by kernel_rfl) rfl rfl (fun w hS => mv rfl rfl rfl ⟨rfl, rfl⟩) (hS.sublist (.cons_cons _ (.cons _ (.cons _ (List.nil_sublist _))))) ?_
    refine dq 2 rfl (by kernel_rfl) (by kernel_rfl) (by kernel_rfl) rfl rfl (fun w hS => la 0 ag22 hS rfl rfl rfl rfl (BV_size _) ⟨rfl, rfl⟩) (hS.sublist (.cons_cons _ (.cons _ (.cons _ (List.nil_sublist _))))) ?_
    refine dq 4 rfl (by kernel_rfl) (by kernel_rfl) (by kernel_rfl) rfl rfl (fun w hS => nilp rfl rfl rfl ⟨rfl, rfl⟩) (hS.sublist (.cons_cons _ (.cons _ (.cons _ (List.nil_sublist _))))) ?_
    refine dq 5 rfl (by kernel_rfl) (by kernel_rfl) (by kernel_rfl) rfl rfl (fun w hS => fan (1) (1) Tryz.underlying147 rfl sz145 (by decide) rfl rfl rfl rfl (by omega) ⟨rfl, rfl⟩) (hS.sublist (.cons_cons _ (.cons _ (.cons _ (List.nil_sublist _))))) ?_
    refine dl 3 rfl (by kernel_rfl) ?_
    refine cv cf75 hS rfl rfl rfl rfl rfl (sp_fast_words ((seg8 16 (expand key) ((k) * 16))) _) ?_
    intro w hS
    refine ⟨fun _ => (hS.sublist (.cons_cons _ (.cons _ (.cons _ (List.nil_sublist _))))), ?_⟩
    refine dq 6 rfl (by kernel_rfl) (by kernel_rfl) (by kernel_rfl) rfl rfl (fun w hS => ian (k) (1 + k * 4) Tryz.underlying145 sz144 rfl rfl rfl rfl (by omega) (by omega) (by omega) ⟨rfl, rfl⟩) (hS.sublist (.cons_cons _ (.cons _ (.cons _ (List.nil_sublist _))))) ?_
    refine dl 7 rfl (by kernel_rfl) ?_
    refine spp (cs' := #[.bool (true)] ++ (WV (put32 (fwK key k) (k * 4) (wds (seg8 16 (expand key) ((k) * 16)))) ++ (WV (bkK key k) ++ (BV key ++ (WV fwdT ++ WV bckT))))) 1 ag144 hS rfl rfl rfl (WV_one _) rfl (le_sz (a := 617) (cat_size (a := 1) (b := 616) rfl (cat_size (a := 44) (b := 572) (WV_size _) (cat_size (a := 44) (b := 528) (WV_size _) (cat_size (a := 16) (b := 512) (BV_size _) (cat_size (a := 256) (b := 256) (WV_size _) (WV_size _)))))) (by omega)) (WV_size _) (cat_pr (a := 1) (o' := k * 4) rfl (by omega) (ple2 (WV_size _) (cat_size (a := 44) (b := 572) (WV_size _) (cat_size (a := 44) (b := 528) (WV_size _) (cat_size (a := 16) (b := 512) (BV_size _) (cat_size (a := 256) (b := 256) (WV_size _) (WV_size _))))) (by omega)) (cat_pl (a := 44) (WV_size _) (ple (WV_size _) (by omega)) (WV_put _ _ _ (by omega)))) ?_
    intro w hS
    refine ⟨fun _ => (hS.sublist (.cons_cons _ (.cons _ (.cons _ (List.nil_sublist _))))), ?_⟩
    refine de (by kernel_rfl) ?_
    refine wq_then ?_
    refine wc_seq ?_
    refine rg ?_
    refine mv rfl rfl rfl ?_
    refine gtr rfl rfl rfl rfl ?_
    refine mv rfl rfl rfl ?_
    refine spl 25 rfl (fun hb1 => ?_) (fun hb1 => ?_)
    · skip
      try simp only [SB] at hb1
      refine mv rfl rfl rfl ?_
      refine lss rfl rfl rfl rfl ?_
      refine pk_t rfl rfl rfl rfl ?_
      refine wq_then ?_
      refine wc_if rfl (fun hc2 => ?_) (fun hc2 => ?_)
      · skip
        try simp only [SB] at hc2
        refine wc_region ?_
        refine la 0 ag22 hS rfl rfl rfl rfl (BV_size _) ?_
        refine cv cf76 hS rfl rfl rfl rfl rfl (sp_cipher_Unmix ((seg8 16 (expand key) ((k) * 16))) _) ?_
        intro w hS
        refine sa 0 ag22 hS rfl rfl rfl (BV_one _) rfl (BV_size _) (BV_size _) ?_
        intro w hS
        refine wq_then ?_
        refine wc_draw mo 9 (fun w => St w0 [] [(b5, .cells (BV (unmix (seg8 16 (expand key) ((k) * 16)))) 22)] w) ?_
        have hS := hS.drew
        refine dq 0 rfl (by kernel_rfl) (by kernel_rfl) (by kernel_rfl) rfl rfl (fun w hS => mv rfl rfl rfl ⟨rfl, rfl⟩) (hS.sublist (.cons_cons _ (.cons _ (.cons _ (List.nil_sublist _))))) ?_
        refine dq 1 rfl (by kernel_rfl) (by kernel_rfl) (by kernel_rfl) rfl rfl (fun w hS => mv rfl rfl rfl ⟨rfl, rfl⟩) (hS.sublist (.cons_cons _ (.cons _ (.cons _ (List.nil_sublist _))))) ?_
        refine dq 2 rfl (by kernel_rfl) (by kernel_rfl) (by kernel_rfl) rfl rfl (fun w hS => subi (by omega) (by omega) rfl rfl rfl rfl ⟨rfl, rfl⟩) (hS.sublist (.cons_cons _ (.cons _ (.cons _ (List.nil_sublist _))))) ?_
        refine dq 3 rfl (by kernel_rfl) (by kernel_rfl) (by kernel_rfl) rfl rfl (fun w hS => la 0 ag22 hS rfl rfl rfl rfl (BV_size _) ⟨rfl, rfl⟩) (hS.sublist (.cons_cons _ (.cons _ (.cons _ (List.nil_sublist _))))) ?_
        refine dq 5 rfl (by kernel_rfl) (by kernel_rfl) (by kernel_rfl) rfl rfl (fun w hS => nilp rfl rfl rfl ⟨rfl, rfl⟩) (hS.sublist (.cons_cons _ (.cons _ (.cons _ (List.nil_sublist _))))) ?_
        refine dq 6 rfl (by kernel_rfl) (by kernel_rfl) (by kernel_rfl) rfl rfl (fun w hS => fan (45) (45) Tryz.underlying147 rfl sz145 (by decide) rfl rfl rfl rfl (by omega) ⟨rfl, rfl⟩) (hS.sublist (.cons_cons _ (.cons _ (.cons _ (List.nil_sublist _))))) ?_
        refine dl 4 rfl (by kernel_rfl) ?_
        refine cv cf75 hS rfl rfl rfl rfl rfl (sp_fast_words ((unmix (seg8 16 (expand key) ((k) * 16)))) _) ?_
        intro w hS
        refine ⟨fun _ => (hS.sublist (.cons_cons _ (.cons _ (.cons _ (List.nil_sublist _))))), ?_⟩
        refine dq 7 rfl (by kernel_rfl) (by kernel_rfl) (by kernel_rfl) rfl rfl (fun w hS => ian (10 - k) (45 + (10 - k) * 4) Tryz.underlying145 sz144 rfl rfl rfl rfl (by omega) (by omega) (by omega) ⟨rfl, rfl⟩) (hS.sublist (.cons_cons _ (.cons _ (.cons _ (List.nil_sublist _))))) ?_
        refine dl 8 rfl (by kernel_rfl) ?_
        refine spp (cs' := #[.bool (true)] ++ (WV (put32 (fwK key k) (k * 4) (wds (seg8 16 (expand key) ((k) * 16)))) ++ (WV (put32 (bkK key k) ((10 - k) * 4) (wds (unmix (seg8 16 (expand key) ((k) * 16))))) ++ (BV key ++ (WV fwdT ++ WV bckT))))) 1 ag144 hS rfl rfl rfl (WV_one _) rfl (le_sz (a := 617) (cat_size (a := 1) (b := 616) rfl (cat_size (a := 44) (b := 572) (WV_size _) (cat_size (a := 44) (b := 528) (WV_size _) (cat_size (a := 16) (b := 512) (BV_size _) (cat_size (a := 256) (b := 256) (WV_size _) (WV_size _)))))) (by omega)) (WV_size _) (cat_pr (a := 1) (o' := 44 + (10 - k) * 4) rfl (by omega) (ple2 (WV_size _) (cat_size (a := 44) (b := 572) (WV_size _) (cat_size (a := 44) (b := 528) (WV_size _) (cat_size (a := 16) (b := 512) (BV_size _) (cat_size (a := 256) (b := 256) (WV_size _) (WV_size _))))) (by omega)) (cat_pr (a := 44) (o' := (10 - k) * 4) (WV_size _) (by omega) (ple2 (WV_size _) (cat_size (a := 44) (b := 528) (WV_size _) (cat_size (a := 16) (b := 512) (BV_size _) (cat_size (a := 256) (b := 256) (WV_size _) (WV_size _)))) (by omega)) (cat_pl (a := 44) (WV_size _) (ple (WV_size _) (by omega)) (WV_put _ _ _ (by omega))))) ?_
        intro w hS
        refine ⟨fun _ => (hS.sublist (.cons_cons _ (.cons _ (.cons _ (List.nil_sublist _))))), ?_⟩
        refine de (by kernel_rfl) ?_
        refine q_block_norm ?_
        refine wq_then ?_
        refine wc_region ?_
        refine addi (by omega) (by omega) rfl rfl rfl rfl ?_
        refine mv rfl rfl rfl ?_
        refine again_q (k + 1) ⟨rfl, rfl, rfl, lkI rfl (by first | omega | rfl), trivial⟩ ⟨by omega, (bk_mid hS.tl (by omega))⟩ (by omega)
      · skip
        try simp only [SB] at hc2
        refine wc_skip ?_
        refine wq_then ?_
        refine wc_draw mo 9 (fun w => St w0 [] [(b5, .cells (BV (seg8 16 (expand key) ((k) * 16))) 22)] w) ?_
        have hS := hS.drew
        refine dq 0 rfl (by kernel_rfl) (by kernel_rfl) (by kernel_rfl) rfl rfl (fun w hS => mv rfl rfl rfl ⟨rfl, rfl⟩) (hS.sublist (.cons_cons _ (.cons _ (.cons _ (List.nil_sublist _))))) ?_
        refine dq 1 rfl (by kernel_rfl) (by kernel_rfl) (by kernel_rfl) rfl rfl (fun w hS => mv rfl rfl rfl ⟨rfl, rfl⟩) (hS.sublist (.cons_cons _ (.cons _ (.cons _ (List.nil_sublist _))))) ?_
        refine dq 2 rfl (by kernel_rfl) (by kernel_rfl) (by kernel_rfl) rfl rfl (fun w hS => subi (by omega) (by omega) rfl rfl rfl rfl ⟨rfl, rfl⟩) (hS.sublist (.cons_cons _ (.cons _ (.cons _ (List.nil_sublist _))))) ?_
        refine dq 3 rfl (by kernel_rfl) (by kernel_rfl) (by kernel_rfl) rfl rfl (fun w hS => la 0 ag22 hS rfl rfl rfl rfl (BV_size _) ⟨rfl, rfl⟩) (hS.sublist (.cons_cons _ (.cons _ (.cons _ (List.nil_sublist _))))) ?_
        refine dq 5 rfl (by kernel_rfl) (by kernel_rfl) (by kernel_rfl) rfl rfl (fun w hS => nilp rfl rfl rfl ⟨rfl, rfl⟩) (hS.sublist (.cons_cons _ (.cons _ (.cons _ (List.nil_sublist _))))) ?_
        refine dq 6 rfl (by kernel_rfl) (by kernel_rfl) (by kernel_rfl) rfl rfl (fun w hS => fan (45) (45) Tryz.underlying147 rfl sz145 (by decide) rfl rfl rfl rfl (by omega) ⟨rfl, rfl⟩) (hS.sublist (.cons_cons _ (.cons _ (.cons _ (List.nil_sublist _))))) ?_
        refine dl 4 rfl (by kernel_rfl) ?_
        refine cv cf75 hS rfl rfl rfl rfl rfl (sp_fast_words ((seg8 16 (expand key) ((k) * 16))) _) ?_
        intro w hS
        refine ⟨fun _ => (hS.sublist (.cons_cons _ (.cons _ (.cons _ (List.nil_sublist _))))), ?_⟩
        refine dq 7 rfl (by kernel_rfl) (by kernel_rfl) (by kernel_rfl) rfl rfl (fun w hS => ian (10 - k) (45 + (10 - k) * 4) Tryz.underlying145 sz144 rfl rfl rfl rfl (by omega) (by omega) (by omega) ⟨rfl, rfl⟩) (hS.sublist (.cons_cons _ (.cons _ (.cons _ (List.nil_sublist _))))) ?_
        refine dl 8 rfl (by kernel_rfl) ?_
        refine spp (cs' := #[.bool (true)] ++ (WV (put32 (fwK key k) (k * 4) (wds (seg8 16 (expand key) ((k) * 16)))) ++ (WV (put32 (bkK key k) ((10 - k) * 4) (wds (seg8 16 (expand key) ((k) * 16)))) ++ (BV key ++ (WV fwdT ++ WV bckT))))) 1 ag144 hS rfl rfl rfl (WV_one _) rfl (le_sz (a := 617) (cat_size (a := 1) (b := 616) rfl (cat_size (a := 44) (b := 572) (WV_size _) (cat_size (a := 44) (b := 528) (WV_size _) (cat_size (a := 16) (b := 512) (BV_size _) (cat_size (a := 256) (b := 256) (WV_size _) (WV_size _)))))) (by omega)) (WV_size _) (cat_pr (a := 1) (o' := 44 + (10 - k) * 4) rfl (by omega) (ple2 (WV_size _) (cat_size (a := 44) (b := 572) (WV_size _) (cat_size (a := 44) (b := 528) (WV_size _) (cat_size (a := 16) (b := 512) (BV_size _) (cat_size (a := 256) (b := 256) (WV_size _) (WV_size _))))) (by omega)) (cat_pr (a := 44) (o' := (10 - k) * 4) (WV_size _) (by omega) (ple2 (WV_size _) (cat_size (a := 44) (b := 528) (WV_size _) (cat_size (a := 16) (b := 512) (BV_size _) (cat_size (a := 256) (b := 256) (WV_size _) (WV_size _)))) (by omega)) (cat_pl (a := 44) (WV_size _) (ple (WV_size _) (by omega)) (WV_put _ _ _ (by omega))))) ?_
        intro w hS
        refine ⟨fun _ => (hS.sublist (.cons_cons _ (.cons _ (.cons _ (List.nil_sublist _))))), ?_⟩
        refine de (by kernel_rfl) ?_
        refine q_block_norm ?_
        refine wq_then ?_
        refine wc_region ?_
        refine addi (by omega) (by omega) rfl rfl rfl rfl ?_
        refine mv rfl rfl rfl ?_
        refine again_q (k + 1) ⟨rfl, rfl, rfl, lkI rfl (by first | omega | rfl), trivial⟩ ⟨by omega, (bk_out hS.tl (by omega))⟩ (by omega)
    · skip
      try simp only [SB] at hb1
      refine no rfl rfl ?_
      refine no rfl rfl ?_
      refine pk_f rfl rfl rfl rfl ?_
      refine wq_then ?_
      refine wc_if_f rfl ?_
      refine wc_skip ?_
      refine wq_then ?_
      refine wc_draw mo 9 (fun w => St w0 [] [(b5, .cells (BV (seg8 16 (expand key) ((k) * 16))) 22)] w) ?_
      have hS := hS.drew
      refine dq 0 rfl (by kernel_rfl) (by kernel_rfl) (by kernel_rfl) rfl rfl (fun w hS => mv rfl rfl rfl ⟨rfl, rfl⟩) (hS.sublist (.cons_cons _ (.cons _ (.cons _ (List.nil_sublist _))))) ?_
      refine dq 1 rfl (by kernel_rfl) (by kernel_rfl) (by kernel_rfl) rfl rfl (fun w hS => mv rfl rfl rfl ⟨rfl, rfl⟩) (hS.sublist (.cons_cons _ (.cons _ (.cons _ (List.nil_sublist _))))) ?_
      refine dq 2 rfl (by kernel_rfl) (by kernel_rfl) (by kernel_rfl) rfl rfl (fun w hS => subi (by omega) (by omega) rfl rfl rfl rfl ⟨rfl, rfl⟩) (hS.sublist (.cons_cons _ (.cons _ (.cons _ (List.nil_sublist _))))) ?_
      refine dq 3 rfl (by kernel_rfl) (by kernel_rfl) (by kernel_rfl) rfl rfl (fun w hS => la 0 ag22 hS rfl rfl rfl rfl (BV_size _) ⟨rfl, rfl⟩) (hS.sublist (.cons_cons _ (.cons _ (.cons _ (List.nil_sublist _))))) ?_
      refine dq 5 rfl (by kernel_rfl) (by kernel_rfl) (by kernel_rfl) rfl rfl (fun w hS => nilp rfl rfl rfl ⟨rfl, rfl⟩) (hS.sublist (.cons_cons _ (.cons _ (.cons _ (List.nil_sublist _))))) ?_
      refine dq 6 rfl (by kernel_rfl) (by kernel_rfl) (by kernel_rfl) rfl rfl (fun w hS => fan (45) (45) Tryz.underlying147 rfl sz145 (by decide) rfl rfl rfl rfl (by omega) ⟨rfl, rfl⟩) (hS.sublist (.cons_cons _ (.cons _ (.cons _ (List.nil_sublist _))))) ?_
      refine dl 4 rfl (by kernel_rfl) ?_
      refine cv cf75 hS rfl rfl rfl rfl rfl (sp_fast_words ((seg8 16 (expand key) ((k) * 16))) _) ?_
      intro w hS
      refine ⟨fun _ => (hS.sublist (.cons_cons _ (.cons _ (.cons _ (List.nil_sublist _))))), ?_⟩
      refine dq 7 rfl (by kernel_rfl) (by kernel_rfl) (by kernel_rfl) rfl rfl (fun w hS => ian (10 - k) (45 + (10 - k) * 4) Tryz.underlying145 sz144 rfl rfl rfl rfl (by omega) (by omega) (by omega) ⟨rfl, rfl⟩) (hS.sublist (.cons_cons _ (.cons _ (.cons _ (List.nil_sublist _))))) ?_
      refine dl 8 rfl (by kernel_rfl) ?_
      refine spp (cs' := #[.bool (true)] ++ (WV (put32 (fwK key k) (k * 4) (wds (seg8 16 (expand key) ((k) * 16)))) ++ (WV (put32 (bkK key k) ((10 - k) * 4) (wds (seg8 16 (expand key) ((k) * 16)))) ++ (BV key ++ (WV fwdT ++ WV bckT))))) 1 ag144 hS rfl rfl rfl (WV_one _) rfl (le_sz (a := 617) (cat_size (a := 1) (b := 616) rfl (cat_size (a := 44) (b := 572) (WV_size _) (cat_size (a := 44) (b := 528) (WV_size _) (cat_size (a := 16) (b := 512) (BV_size _) (cat_size (a := 256) (b := 256) (WV_size _) (WV_size _)))))) (by omega)) (WV_size _) (cat_pr (a := 1) (o' := 44 + (10 - k) * 4) rfl (by omega) (ple2 (WV_size _) (cat_size (a := 44) (b := 572) (WV_size _) (cat_size (a := 44) (b := 528) (WV_size _) (cat_size (a := 16) (b := 512) (BV_size _) (cat_size (a := 256) (b := 256) (WV_size _) (WV_size _))))) (by omega)) (cat_pr (a := 44) (o' := (10 - k) * 4) (WV_size _) (by omega) (ple2 (WV_size _) (cat_size (a := 44) (b := 528) (WV_size _) (cat_size (a := 16) (b := 512) (BV_size _) (cat_size (a := 256) (b := 256) (WV_size _) (WV_size _)))) (by omega)) (cat_pl (a := 44) (WV_size _) (ple (WV_size _) (by omega)) (WV_put _ _ _ (by omega))))) ?_
      intro w hS
      refine ⟨fun _ => (hS.sublist (.cons_cons _ (.cons _ (.cons _ (List.nil_sublist _))))), ?_⟩
      refine de (by kernel_rfl) ?_
      refine q_block_norm ?_
      refine wq_then ?_
      refine wc_region ?_
      refine addi (by omega) (by omega) rfl rfl rfl rfl ?_
      refine mv rfl rfl rfl ?_
      refine again_q (k + 1) ⟨rfl, rfl, rfl, lkI rfl (by first | omega | rfl), trivial⟩ ⟨by omega, (bk_out hS.tl (by omega))⟩ (by omega)
  · skip
    try simp only [SB] at hc1
    refine wc_exit ?_
    refine q_then_exit ?_
    refine q_then_exit ?_
    refine q_block_hit ?_
    refine wq_then ?_
    refine rg ?_
    refine mv rfl rfl rfl ?_
    refine asg rfl rfl rfl ?_
    refine wq_then ?_
    refine wc_ret ?_
    refine fin1 (v := Ptr b9 0) rfl rfl ?_
    have hk11 : k = 11 := by omega
    subst hk11
    exact ⟨_, _, rfl, ⟨b9, rfl, rfl⟩, hS.sublist (.cons_cons _ (List.nil_sublist _))⟩
end Go.Proofs.XS

/- walks -/
namespace Go.Proofs.XS
open Go Go.X Go.Proofs
set_option maxRecDepth 100000 in
theorem sp_fast_rotate (a : UInt32) (r : Nat) (r_ : Int) (w0 : World) (hr_ : r_ = (r : Int)) (hr : r < 4) : Calls Tryz.prog 130 #[U32 a, I r_] w0 (Ret w0 (U32 (rotr a r))) := by
  subst hr_
  refine enter (args := [U32 a, I (r : Int)]) Tryz.func130 rfl rfl ?_
  refine startw fun w hS => ?_
  refine rg ?_
  refine asg rfl rfl rfl ?_
  refine wq_then ?_
  refine rd mo 11 (fun w => St w0 [] [] w) ?_
  have hS := hS.drew
  refine dq 0 rfl (by kernel_rfl) (by kernel_rfl) (by kernel_rfl) rfl rfl (fun w hS => mv rfl rfl rfl ⟨rfl, rfl⟩) hS ?_
  refine dq 1 rfl (by kernel_rfl) (by kernel_rfl) (by kernel_rfl) rfl rfl (fun w hS => mv rfl rfl rfl ⟨rfl, rfl⟩) hS ?_
  refine dq 2 rfl (by kernel_rfl) (by kernel_rfl) (by kernel_rfl) rfl rfl (fun w hS => muli (by omega) (by omega) rfl rfl rfl rfl ⟨rfl, rfl⟩) hS ?_
  refine dq 3 rfl (by kernel_rfl) (by kernel_rfl) (by kernel_rfl) rfl rfl (fun w hS => shrn32 (8 * r) (by omega) rfl rfl rfl rfl ⟨rfl, rfl⟩) hS ?_
  refine dq 4 rfl (by kernel_rfl) (by kernel_rfl) (by kernel_rfl) rfl rfl (fun w hS => mv rfl rfl rfl ⟨rfl, rfl⟩) hS ?_
  refine dq 5 rfl (by kernel_rfl) (by kernel_rfl) (by kernel_rfl) rfl rfl (fun w hS => mv rfl rfl rfl ⟨rfl, rfl⟩) hS ?_
  refine dq 6 rfl (by kernel_rfl) (by kernel_rfl) (by kernel_rfl) rfl rfl (fun w hS => muli (by omega) (by omega) rfl rfl rfl rfl ⟨rfl, rfl⟩) hS ?_
  refine dq 7 rfl (by kernel_rfl) (by kernel_rfl) (by kernel_rfl) rfl rfl (fun w hS => subi (by omega) (by omega) rfl rfl rfl rfl ⟨rfl, rfl⟩) hS ?_
  refine dq 8 rfl (by kernel_rfl) (by kernel_rfl) (by kernel_rfl) rfl rfl (fun w hS => andi (D := 32) 5 (by decide) (by decide) (by decide) rfl rfl rfl rfl ⟨rfl, rfl⟩) hS ?_
  refine dq 9 rfl (by kernel_rfl) (by kernel_rfl) (by kernel_rfl) rfl rfl (fun w hS => shln32 ((32 - (8 * r)) % 32) (by omega) rfl rfl rfl rfl ⟨rfl, rfl⟩) hS ?_
  refine dq 10 rfl (by kernel_rfl) (by kernel_rfl) (by kernel_rfl) rfl rfl (fun w hS => or32 rfl rfl rfl rfl ⟨rfl, rfl⟩) hS ?_
  refine dl 11 rfl (by kernel_rfl) ?_
  refine asg rfl rfl rfl ?_
  refine ⟨fun h => (by cases h), ?_⟩
  refine de (by kernel_rfl) ?_
  refine wq_then ?_
  refine wc_ret ?_
  refine fin1 (v := U32 ((shr32 a (8 * r)) ||| (shl32 a ((32 - (8 * r)) % 32)))) rfl rfl ?_
  exact ⟨rfl, hS.drop⟩
end Go.Proofs.XS

/- walks -/
namespace Go.Proofs.XS
open Go Go.X Go.Proofs
set_option maxRecDepth 100000 in
theorem sp_fast_run_1 (s : V32 4) (c r sb E step : Nat) (c_ : Int) (r_ : Int) (w0 : World) (hc_ : c_ = (c : Int)) (hr_ : r_ = (r : Int)) (hc : c < 4) (hr : r < 4) (hs : step ≤ 3) (hb : w0.heap[sb]? = some (.cells #[I step] E)) : Calls Tryz.prog 129 #[.agg (WV s), I c_, I r_, Ptr sb 0] w0 (Ret w0 (U8 (pick s step c r))) := by
  subst hc_
  subst hr_
  refine enter (args := [.agg (WV s), I (c : Int), I (r : Int), Ptr sb 0]) Tryz.func129 rfl rfl ?_
  refine startw fun w hS => ?_
  have hm := mulb4 hr hs
  refine rg ?_
  refine bxa hS rfl rfl rfl ?_
  intro b4 w hb4 hS
  refine asg rfl rfl rfl ?_
  refine wq_then ?_
  refine rg ?_
  refine mv rfl rfl rfl ?_
  refine mv rfl rfl rfl ?_
  refine lod hb List.not_mem_nil sc3 hS rfl rfl rfl rfl ?_
  refine muli (by omega) (by omega) rfl rfl rfl rfl ?_
  refine addi (by omega) (by omega) rfl rfl rfl rfl ?_
  refine andi (D := 4) 2 (by decide) (by decide) (by decide) rfl rfl rfl rfl ?_
  refine ian ((c + (r * step)) % 4) (((c + (r * step)) % 4)) Tryz.underlying144 sz72 rfl rfl rfl rfl (by omega) (by omega) (by omega) ?_
  refine lo 0 sc72 hS rfl rfl rfl rfl (WV_get _ ((c + (r * step)) % 4) (by omega)) ?_
  refine mv rfl rfl rfl ?_
  refine muli (by omega) (by omega) rfl rfl rfl rfl ?_
  refine subi (by omega) (by omega) rfl rfl rfl rfl ?_
  refine shrn32 (24 - (8 * r)) (by omega) rfl rfl rfl rfl ?_
  refine cvu8 Tryz.underlying5 ⟨_, Tryz.underlying72⟩ rfl rfl rfl ?_
  refine asg rfl rfl rfl ?_
  refine wq_then ?_
  refine wc_ret ?_
  refine fin1 (v := U8 (toU8 (((shr32 (gw s ((c + (r * step)) % 4)) (24 - (8 * r))).toNat : Int)))) rfl rfl ?_
  exact ⟨rfl, hS.drop⟩
end Go.Proofs.XS
