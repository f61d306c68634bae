/- Part 3 of the ground of this seat's proofs: rules of a calculus of walks, and what the functions of the lower layers compute; no conditions beyond those that each statement bears. -/
import Derived.Test.YtdcophmboncacaaGreatDoorBase2
import Derived.Laws.IdiomStrings
import Derived.Laws.BytesArg
import Derived.Laws.StructEq
set_option linter.unusedVariables false
set_option linter.unusedSimpArgs false
set_option linter.unnecessarySimpa false
namespace Go.X
open Go
def CelX (G : List Nat) (w : World) (a : Option Addr) (xs : List Value) : Prop := ∀ L w', St w G L w' → Cel w' a xs
def GlX (g : Nat) (G : List Nat) (w : World) : Prop := ∀ L w', St w G L w' → Gl g w'
section
variable {w0 w : World} {F G : List Nat} {L A R X Y Z B U : List (Nat × Obj)} {a : Option Addr} {xs : List Value} {g : Nat}
theorem CelX.nil0 (h : Cel w0 a xs) : CelX [] w0 a xs := fun _ _ hS => h.st hS
theorem GlX.nil0 (h : Gl g w0) : GlX g [] w0 := fun _ _ hS => h.st hS
theorem CelX.up (h : CelX F w0 a xs) (hS : St w0 F (A ++ (X ++ R)) w) : CelX (X.map Prod.fst) w a xs := fun _ _ k => h _ _ (St.callX hS k)
theorem GlX.up (h : GlX g F w0) (hS : St w0 F (A ++ (X ++ R)) w) : GlX g (X.map Prod.fst) w := fun _ _ k => h _ _ (St.callX hS k)
theorem CelX.rd {bs : List UInt8} (h : Rd a bs Y) (hS : St w0 F (A ++ (X ++ R)) w) (hY : ∀ p ∈ Y, p ∈ A ∨ p ∈ R) : CelX (X.map Prod.fst) w a (c8 bs) := fun _ w' k =>
  h _ _ _ _ (St.callX hS k) (fun p hp => by rcases hY p hp with h | h <;> simp [h])
theorem St.pk (h : St w0 F ((U ++ B) ++ (Y ++ (Z ++ R))) w) : St w0 F ((B ++ Z) ++ Y) w := by
  refine h.of (fun p hp => ?_) ?_
  · simp only [List.mem_append] at hp ⊢; rcases hp with (hp | hp) | hp <;> simp [hp]
  · have hn := h.nodup
    simp only [List.map_append, List.nodup_append, List.mem_append] at hn ⊢
    obtain ⟨⟨_, hB, _⟩, ⟨hY, ⟨hZ, _, _⟩, hYZ⟩, hBY⟩ := hn
    refine ⟨⟨hB, hZ, fun a ha b hb => hBY a (.inr ha) b (.inr (.inl hb))⟩, hY, fun a ha b hb e => ?_⟩
    subst e
    rcases ha with ha | ha
    · exact hBY a (.inr ha) a (.inl hb) rfl
    · exact hYZ a hb a (.inl ha) rfl
theorem St.pk0 (h : St w0 F ((U ++ B) ++ (Z ++ R)) w) : St w0 F ((B ++ Z) ++ []) w := St.pk (U := U) (B := B) (Y := []) (R := R) (by simpa using h)
end
def nth4 {α : Type} (a b c d : α) : Nat → α
  | 0 => a | 1 => b | 2 => c | _ => d
theorem fst4_0 {a b c d : Nat} : fstE (nth4 a b c d) 4 = 0 ↔ a = 0 ∧ b = 0 ∧ c = 0 ∧ d = 0 := by
  simp only [fstE, nth4]
  by_cases ha : a = 0 <;> by_cases hb : b = 0 <;> by_cases hc : c = 0 <;> simp [ha, hb, hc]
theorem fst3_0 {a b c d : Nat} : fstE (nth4 a b c d) 3 = 0 ↔ a = 0 ∧ b = 0 ∧ c = 0 := by
  simp only [fstE, nth4]
  by_cases ha : a = 0 <;> by_cases hb : b = 0 <;> simp [ha, hb]
def EchO (pe : Nat) (kp : Option (UInt16 × UInt64)) (Z : List (Nat × Obj)) : Prop :=
  ∃ E, (kp = none ∧ Z = [(pe, .cells #[.pointer none] E)]) ∨ ∃ pk s t E2, kp = some (s, t) ∧ Z = [(pe, .cells #[Ptr pk 0] E), (pk, .cells #[U16 s, U64 t] E2)]
def replyV (kp : Option (UInt16 × UInt64)) (x : UInt64) : UInt16 := match kp with | none => 65535 | some (s, t) => echoN s (heldV t x)
structure SS where
  dir : Nat
  key : V8 16
  nx : UInt64
  gv : UInt64
  fs : UInt64
  ac : Nat
  rf : Nat
  ls : UInt64
  kp : Option (UInt16 × UInt64)
  rl : UInt16
  rc : Nat
  re : UInt32
  ad : List UInt8
  fx : Bool
  mv : Nat
  cz : Bool
def SesO (s : Nat) (m : SS) (X : List (Nat × Obj)) : Prop :=
  ∃ pp pm pc pf pe t c E1 E2 E3 E4 E5 E6 mm Z, m.dir ≤ 1 ∧ EchO pe m.kp Z ∧ X = [(s, .cells #[Ptr pp 0, I ((m.dir : Nat) : Int), Ptr t 0, Ptr pc 0, Ptr pf 0, Ptr pe 0, U16 m.rl, I ((m.rc : Nat) : Int), U32 m.re, U64 m.fs, .bool m.cz] E1),
    (pf, .cells #[I ((m.ac : Nat) : Int), I ((m.rf : Nat) : Int), U64 m.ls] E2), (pc, .cells #[U64 m.nx, U64 m.gv, .bool false] E3), (t, .cells (tableC c m.key) E4), (c, .cells (cipherC m.key) E5),
    (pp, .cells #[Str m.ad, .bool m.fx, I ((m.mv : Nat) : Int), .map (some pm)] E6), (pm, mOb encS vI mm)] ++ Z
def sesN (key : V8 16) (d : Nat) (ad : List UInt8) (nx : UInt64) : SS :=
  { dir := d, key := key, nx := mnU nx 9223372036854775807, gv := 0, fs := mnU nx 9223372036854775807, ac := 0, rf := 0, ls := 0, kp := none, rl := 0, rc := 0, re := 0, ad := adA ad, fx := decide (d = 0), mv := 0, cz := false }
def statC (m : SS) : Array Value := #[U64 (m.fs + m.gv), U64 (lstV m.ls), .bool (decide (m.ls ≠ 0)), I ((m.ac : Nat) : Int), I ((m.rf : Nat) : Int), Str m.ad, I ((m.mv : Nat) : Int), I ((m.rc : Nat) : Int), U16 m.rl, .bool m.cz]
def sndE (m : SS) (n : Nat) : Nat := fstE (nth4 (if m.cz = true then 7 else 0) (if (decide (((n : Nat) : Int) > (1200 : Int))) = true then 2 else 0) (if (!(decide (m.ad ≠ []))) = true then 12 else 0) (pekE m.nx false)) 4
def sndM (m : SS) (n : Nat) : SS := if sndE m n = 0 then { m with nx := m.nx + 1, gv := m.gv + 1, kp := none } else m
def sndB (m : SS) (bs : List UInt8) (x : UInt64) : List UInt8 := if sndE m bs.length = 0 then encP m.key (m.dir : Int) m.nx (ofT x) (replyV m.kp x) bs else []
def sndA (m : SS) (n : Nat) : List UInt8 := if sndE m n = 0 then m.ad else []
def rcvE (m : SS) (bs : List UInt8) : Nat := if m.cz = true then 7 else fstE (nth4 (dcdE m.key bs) (if (((dcdD m.key bs : Nat) : Int) == ((m.dir : Nat) : Int)) = true then 8 else 0) (if (!frsh m.ls (dcdS m.key bs)) = true then 9 else 0) 0) 3
def smpM (m : SS) (e : UInt16) (x : UInt64) : SS := if e = 65535 then m else { m with rl := smpV (ofT x) e, rc := m.rc + 1, re := estN m.rc m.re (smpV (ofT x) e) }
def rcvM (m : SS) (bs : List UInt8) (fr : List UInt8) (x : UInt64) : SS :=
  if m.cz = true then m else if rcvE m bs = 0 then
    let m := smpM { m with ac := m.ac + 1, ls := dcdS m.key bs + 1, kp := some (dcdT m.key bs, x) } (dcdM m.key bs) x
    { m with ad := mvA m.fx m.ad fr, mv := mvN m.fx m.ad fr m.mv }
  else { m with rf := m.rf + 1 }
def rcvP (m : SS) (bs : List UInt8) : List UInt8 := if rcvE m bs = 0 then dcdP m.key bs else []
def Gives (a : Option Addr) (n c : Nat) (bs : List UInt8) (Y : List (Nat × Obj)) : Prop := bs.length = n ∧ n ≤ 1000000 ∧ n ≤ c ∧ Rd a bs Y
theorem Gives.nil : Gives none 0 0 [] [] := ⟨rfl, by omega, by omega, fun _ _ _ w _ _ => Cel.nil w none⟩
theorem Gives.own {a : Option Addr} {n c : Nat} {bs : List UInt8} {Y : List (Nat × Obj)} (h : Own 1 a n c (c8 bs) Y) (hn : n ≤ 1000000) : Gives a n c bs Y := ⟨h.len8, hn, h.le, fun _ _ _ _ hS hY => h.cel hS hY⟩
end Go.X
namespace Go.X
open Go
theorem St.wkF {w0 w : World} {F G : List Nat} {L : List (Nat × Obj)} (h : St w0 F L w) (hF : ∀ x ∈ F, x ∈ G) : St w0 G L w :=
  ⟨h.os, h.tape, h.output, h.size, fun k hk hn => h.frame k hk (fun hf => hn (hF k hf)), fun p hp => ⟨(h.own p hp).1.imp (hF _) id, (h.own p hp).2⟩, h.nodup⟩
theorem chk_ok {d : Nat} {s : UInt64} {n : Nat} {b : Bool} (hd : d ≤ 1) (h : pekE s b = 0) (hn : n ≤ 1200) : chk ((d : Nat) : Int) s n = 0 := by
  have h2 : ¬ 9223372036854775807 < s.toNat := by
    intro h3; unfold pekE at h; split at h
    · cases h
    · rw [if_pos (by omega)] at h; cases h
  unfold chk; rw [if_neg (by omega), if_neg h2, if_neg (by omega)]
theorem encP_le {key : V8 16} {d : Int} {s : UInt64} {t e : UInt16} {bs : List UInt8} (h : bs.length ≤ 1200) : (encP key d s t e bs).length ≤ 100000 := by
  by_cases hk : chk d s bs.length = 0
  · have := (enc_all (key := key) (t := t) (e := e) (rfl : bs.length = bs.length) hk).1
    omega
  · rw [encP_bad rfl hk]; simp
theorem St.swapT {w0 w : World} {F : List Nat} {A X Z R : List (Nat × Obj)} (h : St w0 F (A ++ (X ++ (Z ++ R))) w) : St w0 F (A ++ (Z ++ (X ++ R))) w :=
  h.perm (List.Perm.append_left A (by rw [← List.append_assoc, ← List.append_assoc]; exact List.Perm.append_right R List.perm_append_comm))
theorem rcvE_o {m : SS} {bs : List UInt8} (h : ¬ m.cz = true) : rcvE m bs = fstE (nth4 (dcdE m.key bs) (if (((dcdD m.key bs : Nat) : Int) == ((m.dir : Nat) : Int)) = true then 8 else 0) (if (!frsh m.ls (dcdS m.key bs)) = true then 9 else 0) 0) 3 := if_neg h
theorem errV_one (C c : Nat) : (errV C c).oneCell' = true := by unfold errV; split <;> rfl
theorem errV_cells (C c : Nat) : (errV C c).cells = #[errV C c] := by unfold errV; split <;> rfl
end Go.X
namespace Go.X
open Go
section
variable {w0 w w' : World} {F : List Nat} {A R X Y Z T0 T1 T2 T3 T4 : List (Nat × Obj)}
theorem St.br2 (h : St w0 F (A ++ (T0 ++ (T1 ++ (X ++ R)))) w) : St w0 F (A ++ (X ++ (T0 ++ (T1 ++ R)))) w := by
  have h1 := St.swapT (A := A ++ T0) (X := T1) (Z := X) (R := R) (by simpa [List.append_assoc] using h)
  exact St.swapT (by simpa [List.append_assoc] using h1)
theorem St.br3 (h : St w0 F (A ++ (T0 ++ (T1 ++ (T2 ++ (X ++ R))))) w) : St w0 F (A ++ (X ++ (T0 ++ (T1 ++ (T2 ++ R))))) w := by
  have h1 := St.br2 (A := A ++ T0) (T0 := T1) (T1 := T2) (X := X) (R := R) (by simpa [List.append_assoc] using h)
  exact St.swapT (by simpa [List.append_assoc] using h1)
theorem St.br4 (h : St w0 F (A ++ (T0 ++ (T1 ++ (T2 ++ (T3 ++ (X ++ R)))))) w) : St w0 F (A ++ (X ++ (T0 ++ (T1 ++ (T2 ++ (T3 ++ R)))))) w := by
  have h1 := St.br3 (A := A ++ T0) (T0 := T1) (T1 := T2) (T2 := T3) (X := X) (R := R) (by simpa [List.append_assoc] using h)
  exact St.swapT (by simpa [List.append_assoc] using h1)
theorem St.br5 (h : St w0 F (A ++ (T0 ++ (T1 ++ (T2 ++ (T3 ++ (T4 ++ (X ++ R))))))) w) : St w0 F (A ++ (X ++ (T0 ++ (T1 ++ (T2 ++ (T3 ++ (T4 ++ R))))))) w := by
  have h1 := St.br4 (A := A ++ T0) (T0 := T1) (T1 := T2) (T2 := T3) (T3 := T4) (X := X) (R := R) (by simpa [List.append_assoc] using h)
  exact St.swapT (by simpa [List.append_assoc] using h1)
theorem St.callXY (h : St w0 F (A ++ (X ++ R)) w) (hc : St w (X.map Prod.fst) (Z ++ Y) w') : St w0 F (A ++ (Z ++ (Y ++ R))) w' := by
  have := St.callX h hc
  rwa [List.append_assoc] at this
theorem St.only (h : St w0 F (A ++ (X ++ R)) w) : St w0 F (A ++ (X ++ [])) w :=
  h.sublist (List.Sublist.append_left (List.Sublist.append_left (List.nil_sublist _) _) _)
end
section
variable {P : Program} {ops : Array Oper} {n : Nat} {l : Regs} {w : World} {K : Regs → World → Prop}
variable {d T S : Nat} {ps : String} {af : Array Edge} {g : Option (Nat × Bool)} {x : Operand}
def flatF (P : Program) : List Field → Nat → List Value → Bool
  | [], _, [] => true
  | f :: fs, k, v :: vs => f.name != "_" && f.offset == k && (match P.underlying f.type, v with | some (.int a), .int b _ => decide (a = b) | some .bool, .bool _ => true | some .string, .string _ => true | _, _ => false) && flatF P fs (k + 1) vs
  | _, _, _ => false
theorem eqF_self (P : Program) (w : World) (d : Nat) (xs : Array Value) : ∀ (fs : List Field) (k : Nat) (vs : List Value) (_ : flatF P fs k vs = true) (_ : ∀ j v, vs[j]? = some v → xs[k + j]? = some v), (Op.eqFields (d + 1) xs xs fs).run P w = .ok true w
  | [], _, _, _, _ => by simp [Op.eqFields]
  | f :: fs, k, [], h, _ => by simp [flatF] at h
  | f :: fs, k, v :: vs, h, hx => by
    simp only [flatF, Bool.and_eq_true, bne_iff_ne, ne_eq, beq_iff_eq] at h
    obtain ⟨⟨⟨h1, h2⟩, h3⟩, h4⟩ := h
    have hv : xs[f.offset]? = some v := by have := hx 0 v rfl; rw [Nat.add_zero] at this; rw [h2]; exact this
    have ih := eqF_self P w d xs fs (k + 1) vs h4 (fun j u hj => by have := hx (j + 1) u hj; rw [Nat.add_right_comm]; exact this)
    have key : (part f.type xs f.offset).run P w = .ok v w ∧ (Op.equalIn (d + 1) f.type v v).run P w = .ok true w := by
      cases hu : P.underlying f.type with
      | none => simp [hu] at h3
      | some u =>
        rw [hu] at h3
        have hp : aggD u = false → (part f.type xs f.offset).run P w = .ok v w := fun a => by
          unfold part
          rw [Sem.run_bind, Sc.run ⟨u, hu, a⟩ w]
          simp [hv]
        cases u <;> cases v <;> simp only [] at h3 <;> try (cases h3; done)
        all_goals refine ⟨hp rfl, ?_⟩
        all_goals simp [Op.equalIn, run_underlying hu]
        exact (MapKept.bytes_beq _ _).2 rfl
    simp only [Op.eqFields, h1, not_false_iff, if_true, ne_eq, Sem.run_bind, key.1, key.2, Result.andThen_ok]
    simpa using ih
theorem st_run {xs : Array Value} (hu : P.underlying S = some (.struct (P.fieldsOf S))) (hp : P.stoodInHeld S = false) (hf : flatF P (P.fieldsOf S).toList 0 xs.toList = true) (w : World) : (Op.equalIn 10000 S (.agg xs) (.agg xs)).run P w = .ok true w := by
  rw [run_equalIn_struct w 9999 S xs xs hu hp]
  exact eqF_self P w 9998 xs _ 0 _ hf (fun j v hj => by rw [Nat.zero_add]; simpa using hj)
theorem eqst {R : Nat} {xs ys : Array Value} {y : Operand} (hu : P.underlying S = some (.struct (P.fieldsOf S))) (hp : P.stoodInHeld S = false) (hq : P.eqGuardType P.depth S = false) (hf : flatF P (P.fieldsOf S).toList 0 xs.toList = true) (e : xs = ys)
    (hg : gval ops l ⟨some d, .binOp .eql S x y R, T, ps, af, g⟩ = some true) (hd : Nat.blt d n = true) (hx : ev l x = some (.agg xs)) (hy : ev l y = some (.agg ys)) (k : K ((d, .bool true) :: l) w) : WO P ops n ⟨some d, .binOp .eql S x y R, T, ps, af, g⟩ l w K := by
  subst e
  refine WO.val hg hd (v := .bool true) (fun a ha => ?_) k
  simp only [execOp, ha.ev hx, ha.ev hy, Sem.run_bind, run_eqGuard_agg w .eql S x y xs xs hq, Result.andThen_ok, run_eql_struct, st_run hu hp hf]; rfl
theorem cvbs {R e m c : Nat} {a : Option Addr} {bs : List UInt8} (hu : P.underlying S = some (.slice e)) (he : P.underlying e = some (.int .u8)) (hD : P.underlying R = some .string) (hg : gval ops l ⟨some d, .convert S R x, T, ps, af, g⟩ = some true) (hd : Nat.blt d n = true)
    (hx : ev l x = some (.slice a m c)) (hc : Cel w a (c8 bs)) (hl : bs.length = m) (k : K ((d, Str bs) :: l) w) : WO P ops n ⟨some d, .convert S R x, T, ps, af, g⟩ l w K := by
  refine WO.val hg hd (v := Str bs) (w' := w) (fun r hr => ?_) k
  simp only [execOp, hr.ev hx, Sem.run_bind]
  subst hl
  cases a with
  | none =>
    have : bs = [] := by
      cases bs with
      | nil => rfl
      | cons b t => exact absurd (hc 0 (U8 b) rfl).1 (by simp)
    subst this
    simp [Go.run_convert_bytes_nil w S e hu he 0 c R hD]
    rfl
  | some a =>
    have h := Go.run_convert_bytes_back (P := P) w S R e a c bs hu he hD (fun j hj => by
      have := (hc j (U8 bs[j]) (by simp [c8, hj])).2
      simpa [adr] using this)
    simp [h]; rfl
end
def Bd (m : SS) (k : Nat) : Prop := m.ac ≤ k ∧ m.rf ≤ k ∧ m.rc ≤ k ∧ m.mv ≤ k
theorem Bd.lt {m : SS} {k : Nat} (h : Bd m k) (hk : k < 1000000000) : m.ac < 1000000000 ∧ m.rf < 1000000000 ∧ m.rc < 1000000000 ∧ m.mv < 1000000000 := by
  obtain ⟨a, b, c, d⟩ := h; omega
theorem Bd_new (key : V8 16) (d : Nat) (ad : List UInt8) (nx : UInt64) : Bd (sesN key d ad nx) 0 := by simp [Bd, sesN]
theorem Bd_snd {m : SS} {k : Nat} (h : Bd m k) (n : Nat) : Bd (sndM m n) k := by unfold sndM; split <;> exact h
theorem Bd_rcv {m : SS} {k : Nat} (h : Bd m k) (bs fr : List UInt8) (x : UInt64) : Bd (rcvM m bs fr x) (k + 1) := by
  obtain ⟨a, b, c, d⟩ := h
  unfold rcvM
  split
  · exact ⟨by omega, by omega, by omega, by omega⟩
  · split
    · have hmv : mvN m.fx m.ad fr m.mv ≤ k + 1 := by unfold mvN; split <;> omega
      unfold smpM
      dsimp only
      split <;> refine ⟨?_, ?_, ?_, ?_⟩ <;> first | exact hmv | (simp only []; omega)
    · exact ⟨by simp only []; omega, by simp only []; omega, by simp only []; omega, by simp only []; omega⟩
theorem Bd.mono {m : SS} {k j : Nat} (h : Bd m k) (hk : k ≤ j) : Bd m j := by obtain ⟨a, b, c, d⟩ := h; exact ⟨by omega, by omega, by omega, by omega⟩
theorem encP_cons {key : V8 16} {d : Nat} {s : UInt64} {t e : UInt16} {bs : List UInt8} (hd : d ≤ 1) (hs : s.toNat ≤ 9223372036854775807) (hl : bs.length ≤ 1200) :
    (encP key (d : Int) s t e bs).length = bs.length + 28 ∧ dcdE key (encP key (d : Int) s t e bs) = 0 ∧ dcdD key (encP key (d : Int) s t e bs) = d ∧ dcdS key (encP key (d : Int) s t e bs) = s ∧ dcdT key (encP key (d : Int) s t e bs) = t ∧
      dcdM key (encP key (d : Int) s t e bs) = e ∧ dcdP key (encP key (d : Int) s t e bs) = bs ∧ peekD (encP key (d : Int) s t e bs) = d ∧ peekS (encP key (d : Int) s t e bs) = s := by
  have hk : chk (d : Int) s bs.length = 0 := by rw [chk, if_neg (by omega), if_neg (by omega), if_neg (by omega)]
  have e1 : encP key (d : Int) s t e bs = encV key d s t e bs := by rw [encP, if_pos hk]; rfl
  obtain ⟨h0, h1, h2, h3, h4, h5⟩ := dcd_enc key d s t e bs hd hs hl
  have hl2 : lng (encV key d s t e bs).length = 0 := lng_ok (by simp) (by simp; omega)
  rw [e1, peekD, peekS, if_pos hl2, if_pos hl2, encV_len]
  exact ⟨rfl, h0, h1, h2, h3, h4, h5, headD_head d s _ hd hs, headS_head d s _ hd hs⟩
theorem sndE_ok {m : SS} {n : Nat} (h1 : m.cz = false) (h2 : n ≤ 1200) (h3 : m.ad ≠ []) (h4 : m.nx.toNat < 9223372036854775807) : sndE m n = 0 := by
  refine fst4_0.2 ⟨by simp [h1], by simp; omega, by simp [h3], ?_⟩
  unfold pekE; rw [if_neg (by simp), if_neg (by omega)]
theorem awk {key : V8 16} {c0 s0 s0' c1 s1 s2 : SS} {b p ad1 : List UInt8} {e0 e1 e2 e3 : Nat} (hc0 : c0 = sesN key 0 [115, 58, 49] 5) (hs0 : s0 = sesN key 1 [] 0) (he0 : e0 = sndE s0 0) (hm0 : s0' = sndM s0 0)
    (he1 : e1 = sndE c0 2) (hm1 : c1 = sndM c0 2) (ha1 : ad1 = sndA c0 2) (hb : b = sndB c0 [104, 105] 70000) (he2 : e2 = rcvE s0' b) (hp : p = rcvP s0' b) (hs1 : s1 = rcvM s0' b [99, 58, 50] 70010)
    (he3 : e3 = rcvE s1 b) (hs2 : s2 = rcvM s1 b [99, 58, 51] 70011) :
    e0 = 12 ∧ ad1 = [115, 58, 49] ∧ e1 = 0 ∧ p = [104, 105] ∧ e2 = 0 ∧ e3 = 9 ∧ s2.ad = [99, 58, 50] ∧ lstV s2.ls = 5 ∧ s2.ls ≠ 0 ∧ s2.rf = 1 ∧ c1.fs + c1.gv = 6 := by
  have ok1 : adA [115, 58, 49] = [115, 58, 49] := by decide
  have ok2 : okA [99, 58, 50] = true := by decide
  have m5 : mnU 5 9223372036854775807 = 5 := by decide
  have m0 : mnU 0 9223372036854775807 = 0 := by decide
  have ok0 : adA [] = [] := by decide
  have E0 : sndE s0 0 = 12 := by subst hs0; simp [sesN, sndE, fstE, nth4, ok0]
  have E1 : sndE c0 2 = 0 := sndE_ok (by subst hc0; rfl) (by omega) (by subst hc0; simp [sesN, ok1]) (by subst hc0; simp [sesN, m5])
  have hs : s0' = s0 := by rw [hm0, sndM, if_neg (by omega)]
  have hB : b = encP key ((0 : Nat) : Int) 5 (ofT 70000) (replyV none 70000) [104, 105] := by
    rw [hb, sndB, if_pos (by exact E1)]; subst hc0; simp only [sesN, m5]
  obtain ⟨_, d1, d2, d3, d4, d5, d6, _, _⟩ := encP_cons (key := key) (d := 0) (s := 5) (t := ofT 70000) (e := replyV none 70000) (bs := [104, 105]) (by omega) (by decide) (by decide)
  rw [← hB] at d1 d2 d3 d4 d5 d6
  have E2 : rcvE s0' b = 0 := by
    rw [hs, hs0]; unfold rcvE
    have e1 : (sesN key 1 [] 0).cz = false := rfl
    have e2 : (sesN key 1 [] 0).key = key := rfl
    have e3 : (sesN key 1 [] 0).dir = 1 := rfl
    have e4 : (sesN key 1 [] 0).ls = 0 := rfl
    rw [e1, e2, e3, e4, d1, d2, d3]; decide
  have kM : replyV none 70000 = 65535 := rfl
  have hS1 : s1 = { s0 with ac := 1, ls := 6, kp := some (ofT 70000, 70010), ad := [99, 58, 50], mv := 1 } := by
    rw [hs1, rcvM, if_neg (by rw [hs, hs0]; simp [sesN]), if_pos E2, hs]
    subst hs0
    have e2 : (sesN key 1 [] 0).key = key := rfl
    simp only [e2, d3, d4, d5, kM, smpM, if_true]
    simp [sesN, mvA, mvN, ok2, ok0]
  have E3 : rcvE s1 b = 9 := by
    rw [hS1, hs0]; unfold rcvE
    simp only [sesN, d1, d2, d3]; decide
  have hS2 : s2 = { s1 with rf := s1.rf + 1 } := by
    rw [hs2, rcvM, if_neg (by rw [hS1, hs0]; simp [sesN]), if_neg (by omega)]
  refine ⟨by omega, ?_, by omega, ?_, by omega, by omega, ?_, ?_, ?_, ?_, ?_⟩
  · rw [ha1, sndA, if_pos E1]; subst hc0; exact ok1
  · rw [hp, rcvP, if_pos E2, hs]; subst hs0; exact d6
  · rw [hS2, hS1]
  · rw [hS2, hS1]; show lstV 6 = 5; decide
  · rw [hS2, hS1]; show (6 : UInt64) ≠ 0; decide
  · rw [hS2, hS1, hs0]; rfl
  · rw [hm1, sndM, if_pos E1]; subst hc0; simp [sesN, m5]
end Go.X
namespace Go.X
open Go
def bt (a : UInt8) (i : Nat) : Nat := (shr8 a i).toNat % 2
theorem mm (a b : Nat) : 0 ≤ ((a : Int) % 2) * ((b : Int) % 2) ∧ ((a : Int) % 2) * ((b : Int) % 2) ≤ 1 := by
  have ha : (a : Int) % 2 = 0 ∨ (a : Int) % 2 = 1 := by omega
  have hb : (b : Int) % 2 = 0 ∨ (b : Int) % 2 = 1 := by omega
  rcases ha with h | h <;> rcases hb with h' | h' <;> rw [h, h'] <;> decide
theorem mmN (a b : Nat) : a % 2 * (b % 2) ≤ 1 := by
  have ha : a % 2 = 0 ∨ a % 2 = 1 := by omega
  have hb : b % 2 = 0 ∨ b % 2 = 1 := by omega
  rcases ha with h | h <;> rcases hb with h' | h' <;> rw [h, h'] <;> decide
def mIn (a b : UInt8) (p : VN 15) (i : Nat) : Nat → VN 15
  | 0 => p
  | k + 1 => (mIn a b p i k).setIfInBounds (i + k) (gn (mIn a b p i k) (i + k) + bt a i * bt b k)
def mOut (a b : UInt8) : Nat → VN 15
  | 0 => Vector.replicate 15 0
  | i + 1 => mIn a b (mOut a b i) i 8
theorem mIn_le (a b : UInt8) (p : VN 15) (B i : Nat) (hB : ∀ j, gn p j ≤ B) : ∀ k j, gn (mIn a b p i k) j ≤ B + k
  | 0, j => by simpa [mIn] using hB j
  | k + 1, j => by
    have ih := mIn_le a b p B i hB k
    have hm := mmN (shr8 a i).toNat (shr8 b k).toNat
    by_cases hj : j < 15
    · rw [mIn, gn_set _ _ _ _ hj]
      have h1 := ih j; have h2 := ih (i + k)
      simp only [bt]
      split
      · omega
      · omega
    · have : gn (mIn a b p i (k + 1)) j = 0 := by simp [gn, Vector.size_toArray, show 15 ≤ j by omega]
      omega
theorem mOut_le (a b : UInt8) : ∀ i j, gn (mOut a b i) j ≤ 8 * i
  | 0, j => by rw [mOut, gn_rep]; omega
  | i + 1, j => by
    have := mIn_le a b (mOut a b i) (8 * i) i (mOut_le a b i) 8 j
    rw [mOut]; omega
def incN (q : VN 15) (i : Nat) : VN 15 := q.setIfInBounds i (gn q i + 1)
theorem inc_le (q : VN 15) (i j : Nat) : gn (q.setIfInBounds i (gn q i + 1)) j ≤ gn q j + 1 := by
  by_cases hj : j < 15
  · rw [gn_set _ _ _ _ hj]; split
    · rename_i e; subst e; omega
    · omega
  · have : gn (q.setIfInBounds i (gn q i + 1)) j = 0 := by simp [gn, Vector.size_toArray, show 15 ≤ j by omega]
    omega
def rdR (p : VN 15) : Nat → VN 15
  | 0 => p
  | j + 1 => if gn (rdR p j) (14 - j) % 2 = 1 then incN (incN (incN (incN (rdR p j) (14 - j - 4)) (14 - j - 5)) (14 - j - 7)) (14 - j - 8) else rdR p j
theorem rd_le (p : VN 15) (B : Nat) (hB : ∀ j, gn p j ≤ B) : ∀ k j, gn (rdR p k) j ≤ B + 4 * k
  | 0, j => by simpa [rdR] using hB j
  | k + 1, j => by
    have ih := rd_le p B hB k j
    rw [rdR]; split
    · have h1 := inc_le (rdR p k) (14 - k - 4) j
      have h2 := inc_le (incN (rdR p k) (14 - k - 4)) (14 - k - 5) j
      have h3 := inc_le (incN (incN (rdR p k) (14 - k - 4)) (14 - k - 5)) (14 - k - 7) j
      have h4 := inc_le (incN (incN (incN (rdR p k) (14 - k - 4)) (14 - k - 5)) (14 - k - 7)) (14 - k - 8) j
      simp only [incN] at *; omega
    · omega
theorem rd_t {p : VN 15} {j : Nat} (h : gn (rdR p j) (14 - j) % 2 = 1) : rdR p (j + 1) = incN (incN (incN (incN (rdR p j) (14 - j - 4)) (14 - j - 5)) (14 - j - 7)) (14 - j - 8) := by rw [rdR, if_pos h]
theorem rd_f {p : VN 15} {j : Nat} (h : ¬ gn (rdR p j) (14 - j) % 2 = 1) : rdR p (j + 1) = rdR p j := by rw [rdR, if_neg h]
def smR (p : VN 15) : Nat → Nat
  | 0 => 0
  | k + 1 => smR p k + gn p k % 2 * 2 ^ k
theorem pow8 {k : Nat} (h : k < 8) : 2 ^ k ≤ 128 := Nat.pow_le_pow_right (n := 2) (by omega) (show k ≤ 7 by omega)
theorem shb (x k : Nat) (h : k < 8) : 0 ≤ ((x : Int) % 2) * ((2 ^ k : Nat) : Int) ∧ ((x : Int) % 2) * ((2 ^ k : Nat) : Int) ≤ 128 := by
  have hp := pow8 h
  have hx : (x : Int) % 2 = 0 ∨ (x : Int) % 2 = 1 := by omega
  have h0 : (0 : Int) ≤ ((2 ^ k : Nat) : Int) := Int.natCast_nonneg _
  have h1 : ((2 ^ k : Nat) : Int) ≤ 128 := by omega
  rcases hx with h' | h' <;> rw [h'] <;> omega
theorem shbN (x k : Nat) (h : k < 8) : x % 2 * 2 ^ k ≤ 128 := by
  have hp := pow8 h
  have hx : x % 2 = 0 ∨ x % 2 = 1 := by omega
  rcases hx with h' | h' <;> rw [h'] <;> omega
theorem sm_le (p : VN 15) : ∀ k, k ≤ 8 → smR p k ≤ 128 * k
  | 0, _ => by simp [smR]
  | k + 1, h => by
    have := sm_le p k (by omega)
    have := shbN (gn p k) k (by omega)
    rw [smR]; omega
def mulR (a b : UInt8) : UInt8 := toU8 ((smR (rdR (mOut a b 8) 7) 8 : Nat) : Int)
def pwR (a : UInt8) : Nat → UInt8
  | 0 => 1
  | k + 1 => mulR (pwR a k) a
def valL : List Nat → Nat
  | [] => 0
  | x :: r => x + 256 * valL r
theorem valL_set : ∀ (l : List Nat) (i x : Nat), i < l.length → valL (l.set i (l.getD i 0 + x)) = valL l + x * 256 ^ i
  | [], i, x, h => by simp at h
  | y :: r, 0, x, _ => by simp [valL]; omega
  | y :: r, i + 1, x, h => by
    have ih := valL_set r i x (by simpa using h)
    simp only [List.set_cons_succ, List.getD_cons_succ, valL, ih, Nat.pow_succ]
    rw [Nat.mul_add, ← Nat.add_assoc, ← Nat.mul_assoc, ← Nat.mul_assoc, Nat.mul_comm 256 (x)]
    rw [Nat.mul_assoc, Nat.mul_assoc, Nat.mul_comm 256 (256 ^ i)]
theorem valL_dig : ∀ (l : List Nat) (i : Nat), (∀ j, l.getD j 0 < 256) → valL l / 256 ^ i % 256 = l.getD i 0
  | [], i, _ => by simp [valL]
  | y :: r, 0, h => by
    have := h 0
    simp at this
    simp [valL]; omega
  | y :: r, i + 1, h => by
    have h0 := h 0
    simp at h0
    have ih := valL_dig r i (fun j => by simpa using h (j + 1))
    have e : (y + 256 * valL r) / 256 = valL r := by omega
    have e2 : (y + 256 * valL r) / 256 ^ (i + 1) = (y + 256 * valL r) / 256 / 256 ^ i := by rw [Nat.div_div_eq_div_mul, Nat.pow_succ, Nat.mul_comm (256 ^ i)]
    rw [valL, e2, e, ih]; simp
def val {n : Nat} (v : VN n) : Nat := valL v.toList
theorem gn_list {n : Nat} (v : VN n) (i : Nat) : gn v i = v.toList.getD i 0 := by simp [gn, Vector.toList]
theorem val_set {n : Nat} (v : VN n) (i x : Nat) (h : i < n) : val (v.setIfInBounds i (gn v i + x)) = val v + x * 256 ^ i := by
  have e : (v.setIfInBounds i (gn v i + x)).toList = v.toList.set i (v.toList.getD i 0 + x) := by
    rw [gn_list]; simp [Vector.toList, Vector.toArray_setIfInBounds]
  rw [val, e, valL_set _ _ _ (by simpa using h)]; rfl
theorem val_dig {n : Nat} (v : VN n) (i : Nat) (h : ∀ j, gn v j < 256) : val v / 256 ^ i % 256 = gn v i := by
  rw [val, valL_dig _ _ (fun j => by rw [← gn_list]; exact h j), ← gn_list]
theorem val_par {n : Nat} (v : VN n) (i : Nat) (h : ∀ j, gn v j < 256) : val v / 256 ^ i % 2 = gn v i % 2 := by
  have := val_dig v i h
  omega
theorem val_rep (n : Nat) : val (Vector.replicate n 0 : VN n) = 0 := by
  have : ∀ m, valL (List.replicate m 0) = 0 := by
    intro m
    induction m with
    | zero => rfl
    | succ m ih => rw [List.replicate_succ, valL, ih]
  rw [val]; simpa using this n
def bN (a i : Nat) : Nat := a / 2 ^ i % 2
theorem bt_N (a : UInt8) (i : Nat) : bt a i = bN a.toNat i := by
  have h : a.toNat / 2 ^ i ≤ a.toNat := Nat.div_le_self _ _
  have := a.toNat_lt
  simp only [bt, bN, shr8, UInt8.toNat_ofNat']
  rw [Nat.mod_eq_of_lt (a := a.toNat / 2 ^ i) (by omega)]
def spr (a : Nat) : Nat → Nat
  | 0 => 0
  | k + 1 => spr a k + bN a k * 256 ^ k
theorem val_in (a b : UInt8) (p : VN 15) (i : Nat) (hi : i < 8) : ∀ k, k ≤ 8 → val (mIn a b p i k) = val p + bN a.toNat i * 256 ^ i * spr b.toNat k
  | 0, _ => by simp [mIn, spr]
  | k + 1, h => by
    rw [mIn, val_set _ _ _ (by omega), val_in a b p i hi k (by omega), bt_N, bt_N, spr, Nat.mul_add, Nat.pow_add, Nat.add_assoc]
    congr 2
    rw [Nat.mul_assoc, Nat.mul_assoc, Nat.mul_left_comm (bN b.toNat k)]
theorem val_out (a b : UInt8) : ∀ i, i ≤ 8 → val (mOut a b i) = spr a.toNat i * spr b.toNat 8
  | 0, _ => by rw [mOut, val_rep]; simp [spr]
  | i + 1, h => by
    have e : spr a.toNat (i + 1) = spr a.toNat i + bN a.toNat i * 256 ^ i := rfl
    rw [mOut, val_in a b _ i (by omega) 8 (by omega), val_out a b i (by omega), e, Nat.add_mul]
def redF (p i : Nat) : Nat := if p / 256 ^ i % 2 = 1 then p + 256 ^ (i - 4) + 256 ^ (i - 5) + 256 ^ (i - 7) + 256 ^ (i - 8) else p
def redK (p : Nat) : Nat → Nat
  | 0 => p
  | j + 1 => redF (redK p j) (14 - j)
theorem val_inc (q : VN 15) (i : Nat) (h : i < 15) : val (incN q i) = val q + 256 ^ i := by rw [incN, val_set _ _ _ h, Nat.one_mul]
theorem val_rd (p : VN 15) (hp : ∀ j, gn p j ≤ 64) : ∀ k, k ≤ 7 → val (rdR p k) = redK (val p) k
  | 0, _ => rfl
  | k + 1, h => by
    have hlt : ∀ j, gn (rdR p k) j < 256 := fun j => by have := rd_le p 64 hp k j; omega
    have ih := val_rd p hp k (by omega)
    have hpar := val_par (rdR p k) (14 - k) hlt
    rw [redK, ← ih, redF, hpar, rdR]
    split
    · rw [val_inc _ _ (by omega), val_inc _ _ (by omega), val_inc _ _ (by omega), val_inc _ _ (by omega)]
    · rfl
def sumF (p : Nat) : Nat → Nat
  | 0 => 0
  | k + 1 => sumF p k + p / 256 ^ k % 2 * 2 ^ k
theorem val_sm (p : VN 15) (h : ∀ j, gn p j < 256) : ∀ k, smR p k = sumF (val p) k
  | 0 => rfl
  | k + 1 => by rw [smR, sumF, val_sm p h k, val_par p k h]
def mulF (a b : Nat) : Nat := sumF (redK (spr a 8 * spr b 8) 7) 8
theorem mulR_F (a b : UInt8) : mulR a b = UInt8.ofNat (mulF a.toNat b.toNat) := by
  have h1 : ∀ j, gn (mOut a b 8) j ≤ 64 := fun j => by have := mOut_le a b 8 j; omega
  have h2 : ∀ j, gn (rdR (mOut a b 8) 7) j < 256 := fun j => by have := rd_le (mOut a b 8) 64 h1 7 j; omega
  rw [mulR, val_sm _ h2, val_rd _ h1 7 (by omega), val_out a b 8 (by omega), toU8_nat]; rfl
theorem fin8 {p : UInt8 → Prop} (h : ∀ n : Fin 256, p (UInt8.ofNat n.val)) (a : UInt8) : p a := by
  have := h ⟨a.toNat, a.toNat_lt⟩
  simpa using this
theorem onat (n : Fin 256) : (UInt8.ofNat n.val).toNat = n.val := by simp
theorem mulR_3 (a : UInt8) : mulR a 3 = mul a 3 := by
  have h : ∀ n : Fin 256, UInt8.ofNat (mulF n.val 3) = mul (UInt8.ofNat n.val) 3 := by decide +kernel
  refine fin8 (p := fun a => mulR a 3 = mul a 3) (fun n => ?_) a
  rw [mulR_F, onat]; exact h n
theorem mulR2 (a : UInt8) : mulR 2 a = m2 a := by
  have h : ∀ n : Fin 256, UInt8.ofNat (mulF 2 n.val) = m2 (UInt8.ofNat n.val) := by decide +kernel
  refine fin8 (p := fun a => mulR 2 a = m2 a) (fun n => ?_) a
  rw [mulR_F, onat]; exact h n
theorem mulR3 (a : UInt8) : mulR 3 a = m3 a := by
  have h : ∀ n : Fin 256, UInt8.ofNat (mulF 3 n.val) = m3 (UInt8.ofNat n.val) := by decide +kernel
  refine fin8 (p := fun a => mulR 3 a = m3 a) (fun n => ?_) a
  rw [mulR_F, onat]; exact h n
theorem mulR9 (a : UInt8) : mulR 9 a = m9 a := by
  have h : ∀ n : Fin 256, UInt8.ofNat (mulF 9 n.val) = m9 (UInt8.ofNat n.val) := by decide +kernel
  refine fin8 (p := fun a => mulR 9 a = m9 a) (fun n => ?_) a
  rw [mulR_F, onat]; exact h n
theorem mulR11 (a : UInt8) : mulR 11 a = m11 a := by
  have h : ∀ n : Fin 256, UInt8.ofNat (mulF 11 n.val) = m11 (UInt8.ofNat n.val) := by decide +kernel
  refine fin8 (p := fun a => mulR 11 a = m11 a) (fun n => ?_) a
  rw [mulR_F, onat]; exact h n
theorem mulR13 (a : UInt8) : mulR 13 a = m13 a := by
  have h : ∀ n : Fin 256, UInt8.ofNat (mulF 13 n.val) = m13 (UInt8.ofNat n.val) := by decide +kernel
  refine fin8 (p := fun a => mulR 13 a = m13 a) (fun n => ?_) a
  rw [mulR_F, onat]; exact h n
theorem mulR14 (a : UInt8) : mulR 14 a = m14 a := by
  have h : ∀ n : Fin 256, UInt8.ofNat (mulF 14 n.val) = m14 (UInt8.ofNat n.val) := by decide +kernel
  refine fin8 (p := fun a => mulR 14 a = m14 a) (fun n => ?_) a
  rw [mulR_F, onat]; exact h n
end Go.X
namespace Go.X
open Go
theorem gv_setE {n : Nat} (v : V8 n) (k i : Nat) (x : UInt8) (h : i < n) : gv (v.setIfInBounds k x) i = if k = i then x else gv v i := by
  rw [gv_eq _ _ h, gv_eq _ _ h, Vector.getElem_setIfInBounds h]
def afN (b : UInt8) (i : Nat) : Nat → Nat
  | 0 => 99 / 2 ^ i % 2 + bt b i
  | k + 1 => afN b i k + bt b ((i + (4 + k)) % 8)
def afX (b : UInt8) : Nat → Nat
  | 0 => 0
  | i + 1 => afX b i + afN b i 4 % 2 * 2 ^ i
def afR (b : UInt8) : UInt8 := toU8 ((afX b 8 : Nat) : Int)
theorem afN_le (b : UInt8) (i : Nat) : ∀ k, afN b i k ≤ 2 + k
  | 0 => by simp only [afN, bt]; omega
  | k + 1 => by
    have := afN_le b i k
    simp only [afN, bt]; omega
theorem afX_le (b : UInt8) : ∀ i, i ≤ 8 → afX b i ≤ 128 * i
  | 0, _ => by simp [afX]
  | i + 1, h => by
    have := afX_le b i (by omega)
    have := shbN (afN b i 4) i (by omega)
    rw [afX]; omega
theorem afR_aff (b : UInt8) : afR b = aff b := by revert b; refine all_u8 ?_; decide +kernel
def pw3R : Nat → UInt8
  | 0 => 1
  | k + 1 => mulR (pw3R k) 3
def pwV : V8 256 := Vector.ofFn fun i => pw3R i.val
def tbR : Nat → V8 256
  | 0 => (Vector.replicate 256 0 : V8 256).setIfInBounds 0 (afR 0)
  | k + 1 => (tbR k).setIfInBounds (gv pwV k).toNat (afR (gv pwV (255 - k)))
def pwl : List UInt8 := [1, 3, 5, 15, 17, 51, 85, 255, 26, 46, 114, 150, 161, 248, 19, 53, 95, 225, 56, 72, 216, 115, 149, 164, 247, 2, 6, 10, 30, 34, 102, 170, 229, 52, 92, 228, 55, 89, 235, 38, 106, 190, 217, 112, 144, 171, 230, 49, 83, 245, 4, 12, 20, 60, 68, 204, 79, 209, 104, 184, 211, 110, 178, 205, 76, 212, 103, 169, 224, 59, 77, 215, 98, 166, 241, 8, 24, 40, 120, 136, 131, 158, 185, 208, 107, 189, 220, 127, 129, 152, 179, 206, 73, 219, 118, 154, 181, 196, 87, 249, 16, 48, 80, 240, 11, 29, 39, 105, 187, 214, 97, 163, 254, 25, 43, 125, 135, 146, 173, 236, 47, 113, 147, 174, 233, 32, 96, 160, 251, 22, 58, 78, 210, 109, 183, 194, 93, 231, 50, 86, 250, 21, 63, 65, 195, 94, 226, 61, 71, 201, 64, 192, 91, 237, 44, 116, 156, 191, 218, 117, 159, 186, 213, 100, 172, 239, 42, 126, 130, 157, 188, 223, 122, 142, 137, 128, 155, 182, 193, 88, 232, 35, 101, 175, 234, 37, 111, 177, 200, 67, 197, 84, 252, 31, 33, 99, 165, 244, 7, 9, 27, 45, 119, 153, 176, 203, 70, 202, 69, 207, 74, 222, 121, 139, 134, 145, 168, 227, 62, 66, 198, 81, 243, 14, 18, 54, 90, 238, 41, 123, 141, 140, 143, 138, 133, 148, 167, 242, 13, 23, 57, 75, 221, 124, 132, 151, 162, 253, 28, 36, 108, 180, 199, 82, 246, 1]
theorem pwl_step : ∀ n : Fin 255, gl pwl (n.val + 1) = mul (gl pwl n.val) 3 := by decide +kernel
theorem pw3_l : ∀ k, k ≤ 255 → pw3R k = gl pwl k
  | 0, _ => by decide
  | k + 1, h => by
    have := pwl_step ⟨k, by omega⟩
    rw [pw3R, mulR_3, pw3_l k (by omega), this]
theorem gv_pwV (k : Nat) (h : k ≤ 255) : gv pwV k = gl pwl k := by rw [pwV, gv_ofFn _ _ (by omega)]; exact pw3_l k h
def tbL : Nat → List UInt8
  | 0 => (List.replicate 256 0).set 0 (aff 0)
  | k + 1 => (tbL k).set (gl pwl k).toNat (aff (gl pwl (255 - k)))
theorem tl_set {n : Nat} (v : V8 n) (k : Nat) (x : UInt8) : (v.setIfInBounds k x).toList = v.toList.set k x := by simp [Vector.toList, Vector.toArray_setIfInBounds]
theorem tl_rep (n : Nat) : (Vector.replicate n 0 : V8 n).toList = List.replicate n 0 := by simp
theorem tb_l : ∀ k, k ≤ 255 → (tbR k).toList = tbL k
  | 0, _ => by rw [tbR, tbL, afR_aff, tl_set, tl_rep]
  | k + 1, h => by
    rw [tbR, tbL, afR_aff, gv_pwV _ (by omega), gv_pwV _ (by omega), ← tb_l k (by omega), tl_set]
theorem tbL_sbl : tbL 255 = sbl := by decide +kernel
theorem tbR_sbox : tbR 255 = sboxV := by
  apply v_ext; intro i hi
  have h1 : gv (tbR 255) i = gl (tbR 255).toList i := (gl_toList _ _).symm
  rw [h1, tb_l 255 (by omega), tbL_sbl, sboxV_get i hi]
  exact (sbox_lit ⟨i, hi⟩).symm
def trR (t : V8 256) : Nat → V8 256
  | 0 => Vector.replicate 256 0
  | k + 1 => (trR t k).setIfInBounds (gv t k).toNat (toU8 (k : Int))
theorem trR_get (a : UInt8) : ∀ k, k ≤ 256 → a.toNat < k → gv (trR sboxV k) (sbox a).toNat = a
  | 0, _, h => by omega
  | k + 1, hk, h => by
    rw [trR, gv_setE _ _ _ _ (sbox a).toNat_lt, sboxV_get k (by omega)]
    by_cases e : k = a.toNat
    · subst e; rw [if_pos (by simp), toU8_nat]; simp
    · rw [if_neg (fun h' => ?_)]
      · exact trR_get a k (by omega) (by omega)
      · have h2 := sbox_inj (UInt8.toNat_inj.1 h')
        apply e; rw [← h2]; simp [UInt8.toNat_ofNat']; omega
theorem sbox_sur (x : UInt8) : ∃ a, sbox a = x := by
  have h : ∀ n : Fin 256, gl sbl (gl ibl n.val).toNat = UInt8.ofNat n.val := by decide +kernel
  refine ⟨gl ibl x.toNat, ?_⟩
  have h1 := h ⟨x.toNat, x.toNat_lt⟩
  have h2 := sbox_lit ⟨(gl ibl x.toNat).toNat, (gl ibl x.toNat).toNat_lt⟩
  simp only [UInt8.ofNat_toNat] at h1 h2
  rw [h2, h1]
theorem trR_back (x : UInt8) : gv (trR sboxV 256) x.toNat = back x := by
  obtain ⟨a, rfl⟩ := sbox_sur x
  rw [trR_get a 256 (by omega) a.toNat_lt, back_sbox]
def wdIn (w : V8 176) (t : V8 4) (i : Nat) : Nat → V8 176
  | 0 => w
  | k + 1 => (wdIn w t i k).setIfInBounds (i * 4 + k) (gv (wdIn w t i k) ((i - 4) * 4 + k) ^^^ gv t k)
def wdA (t : V8 4) : V8 4 := #v[gv sboxV (gv t 1).toNat, gv sboxV (gv t 2).toNat, gv sboxV (gv t 3).toNat, gv sboxV (gv t 0).toNat]
def wdT (w : V8 176) (i : Nat) : V8 4 :=
  if i % 4 = 0 then (wdA (seg8 4 w ((i - 1) * 4))).setIfInBounds 0 (gv (wdA (seg8 4 w ((i - 1) * 4))) 0 ^^^ pwR 2 (i / 4 - 1)) else seg8 4 w ((i - 1) * 4)
def wdS (key : V8 16) : Nat → V8 176
  | 0 => Vector.replicate 176 0
  | i + 1 => if i < 4 then put8 (wdS key i) (i * 4) (#v[gv key (4 * i), gv key (4 * i + 1), gv key (4 * i + 2), gv key (4 * i + 3)] : V8 4) else wdIn (wdS key i) (wdT (wdS key i) i) i 4
theorem wd_lo {key : V8 16} {i : Nat} (h : i < 4) : wdS key (i + 1) = put8 (wdS key i) (i * 4) (#v[gv key (4 * i), gv key (4 * i + 1), gv key (4 * i + 2), gv key (4 * i + 3)] : V8 4) := by rw [wdS, if_pos h]
theorem wd_0 {key : V8 16} {i : Nat} (h : ¬ i < 4) (h4 : i % 4 = 0) : wdS key (i + 1) = wdIn (wdS key i) ((wdA (seg8 4 (wdS key i) ((i - 1) * 4))).setIfInBounds 0 (gv (wdA (seg8 4 (wdS key i) ((i - 1) * 4))) 0 ^^^ pwR 2 (i / 4 - 1))) i 4 := by rw [wdS, if_neg h, wdT, if_pos h4]
theorem wd_1 {key : V8 16} {i : Nat} (h : ¬ i < 4) (h4 : ¬ i % 4 = 0) : wdS key (i + 1) = wdIn (wdS key i) (seg8 4 (wdS key i) ((i - 1) * 4)) i 4 := by rw [wdS, if_neg h, wdT, if_neg h4]
def gfill (f : Nat → UInt8) (z : V8 16) (c r : Nat) : V8 16 := Vector.ofFn fun i => if i.val % 4 < c ∨ (i.val % 4 = c ∧ i.val / 4 < r) then f i.val else gv z i.val
theorem gfill_0 (f : Nat → UInt8) (z : V8 16) : gfill f z 0 0 = z := by
  apply v_ext; intro i hi
  rw [gfill, gv_ofFn _ _ hi, if_neg (by simp)]
theorem gfill_set (f : Nat → UInt8) (z : V8 16) {c r : Nat} (hc : c < 4) (hr : r < 4) : (gfill f z c r).setIfInBounds (r * 4 + c) (f (r * 4 + c)) = gfill f z c (r + 1) := by
  apply v_ext; intro i hi
  rw [gv_setE _ _ _ _ hi, gfill, gfill, gv_ofFn _ _ hi, gv_ofFn _ _ hi]
  by_cases e : r * 4 + c = i
  · subst e; rw [if_pos rfl, if_pos (by simp only []; omega)]
  · rw [if_neg e]
    have : (i % 4 < c ∨ (i % 4 = c ∧ i / 4 < r)) ↔ (i % 4 < c ∨ (i % 4 = c ∧ i / 4 < r + 1)) := by omega
    simp only [this]
theorem gfill_next (f : Nat → UInt8) (z : V8 16) (c : Nat) : gfill f z c 4 = gfill f z (c + 1) 0 := by
  apply v_ext; intro i hi
  rw [gfill, gfill, gv_ofFn _ _ hi, gv_ofFn _ _ hi]
  have : (i % 4 < c ∨ (i % 4 = c ∧ i / 4 < 4)) ↔ (i % 4 < c + 1 ∨ (i % 4 = c + 1 ∧ i / 4 < 0)) := by omega
  simp only [this]
theorem gfill_end (f : Nat → UInt8) (z : V8 16) : gfill f z 4 0 = Vector.ofFn fun i => f i.val := by
  apply v_ext; intro i hi
  rw [gfill, gv_ofFn _ _ hi, gv_ofFn _ _ hi, if_pos (by simp only []; omega)]
theorem gfill_of (f : Nat → UInt8) (z : V8 16) {i : Nat} (hi : i < 16) : (gfill f z (i / 4) (i % 4)).setIfInBounds (i % 4 * 4 + i / 4) (f (i % 4 * 4 + i / 4)) = gfill f z ((i + 1) / 4) ((i + 1) % 4) := by
  rw [gfill_set f z (by omega) (by omega)]
  by_cases h : i % 4 = 3
  · have e1 : (i + 1) / 4 = i / 4 + 1 := by omega
    have e2 : (i + 1) % 4 = 0 := by omega
    rw [e1, e2, h, gfill_next]
  · have e1 : (i + 1) / 4 = i / 4 := by omega
    have e2 : (i + 1) % 4 = i % 4 + 1 := by omega
    rw [e1, e2]
def ofGf (b : V8 16) (i : Nat) : UInt8 := gv b (4 * (i % 4) + i / 4)
def ofG (b : V8 16) : V8 16 := Vector.ofFn fun i => ofGf b i.val
def blGf (g : V8 16) (i : Nat) : UInt8 := gv g (i % 4 * 4 + i / 4)
def blG (g : V8 16) : V8 16 := Vector.ofFn fun i => blGf g i.val
def subGf (g : V8 16) (t : V8 256) (i : Nat) : UInt8 := gv t (gv g i).toNat
def subG (g : V8 16) (t : V8 256) : V8 16 := Vector.ofFn fun i => subGf g t i.val
def mixGf (g : V8 16) (i : Nat) : UInt8 := mulR 2 (gv g (i / 4 * 4 + i % 4)) ^^^ mulR 3 (gv g ((i / 4 + 1) % 4 * 4 + i % 4)) ^^^ gv g ((i / 4 + 2) % 4 * 4 + i % 4) ^^^ gv g ((i / 4 + 3) % 4 * 4 + i % 4)
def mixG (g : V8 16) : V8 16 := Vector.ofFn fun i => mixGf g i.val
def unGf (g : V8 16) (i : Nat) : UInt8 := mulR 14 (gv g (i / 4 * 4 + i % 4)) ^^^ mulR 11 (gv g ((i / 4 + 1) % 4 * 4 + i % 4)) ^^^ mulR 13 (gv g ((i / 4 + 2) % 4 * 4 + i % 4)) ^^^ mulR 9 (gv g ((i / 4 + 3) % 4 * 4 + i % 4))
def unG (g : V8 16) : V8 16 := Vector.ofFn fun i => unGf g i.val
def addGf (g k : V8 16) (i : Nat) : UInt8 := gv g i ^^^ gv (ofG k) i
def addG (g k : V8 16) : V8 16 := Vector.ofFn fun i => addGf g k i.val
def shGf (g : V8 16) (i : Nat) : UInt8 := gv g (i / 4 * 4 + (i % 4 + i / 4) % 4)
def shG (g : V8 16) : V8 16 := Vector.ofFn fun i => shGf g i.val
def shS (g : V8 16) (r n : Nat) : V8 16 := Vector.ofFn fun i => if i.val / 4 < r then shGf g i.val else if i.val / 4 = r then gv g (i.val / 4 * 4 + (i.val % 4 + n) % 4) else gv g i.val
theorem shS_10 (g : V8 16) : shS g 1 0 = g := by
  apply v_ext; intro i hi
  rw [shS, gv_ofFn _ _ hi]; simp only []
  split
  · rw [shGf]; exact congrArg (gv g) (by omega)
  · split
    · exact congrArg (gv g) (by omega)
    · rfl
theorem shS_set (g : V8 16) {r n : Nat} (hr : r < 4) (h1 : 1 ≤ r) : put8 (shS g r n) (r * 4) (#v[gv (shS g r n) (r * 4 + 1), gv (shS g r n) (r * 4 + 2), gv (shS g r n) (r * 4 + 3), gv (shS g r n) (r * 4)] : V8 4) = shS g r (n + 1) := by
  have get : ∀ q, q < 4 → gv (shS g r n) (r * 4 + q) = gv g (r * 4 + (q + n) % 4) := by
    intro q hq
    have e1 : (r * 4 + q) / 4 = r := by omega
    have e2 : (r * 4 + q) % 4 = q := by omega
    rw [shS, gv_ofFn _ _ (by omega)]; simp only [e1, e2]
    rw [if_neg (by omega), if_pos trivial]
  have g0 := get 0 (by omega)
  rw [Nat.add_zero] at g0
  rw [get 1 (by omega), get 2 (by omega), get 3 (by omega), g0]
  apply v_ext; intro i hi
  rw [gv_put8 _ _ _ _ hi]
  by_cases h : i / 4 = r
  · rw [if_pos (by omega), shS, gv_ofFn _ _ hi]; simp only []
    rw [if_neg (by omega), if_pos h, h]
    have h4 : i - r * 4 = 0 ∨ i - r * 4 = 1 ∨ i - r * 4 = 2 ∨ i - r * 4 = 3 := by omega
    have e : i % 4 = i - r * 4 := by omega
    rw [e]
    have s0 : ∀ a b c d : UInt8, gv (#v[a, b, c, d] : V8 4) 0 = a := fun _ _ _ _ => rfl
    have s1 : ∀ a b c d : UInt8, gv (#v[a, b, c, d] : V8 4) 1 = b := fun _ _ _ _ => rfl
    have s2 : ∀ a b c d : UInt8, gv (#v[a, b, c, d] : V8 4) 2 = c := fun _ _ _ _ => rfl
    have s3 : ∀ a b c d : UInt8, gv (#v[a, b, c, d] : V8 4) 3 = d := fun _ _ _ _ => rfl
    rcases h4 with h' | h' | h' | h' <;> rw [h']
    · rw [s0]; exact congrArg (gv g) (by omega)
    · rw [s1]; exact congrArg (gv g) (by omega)
    · rw [s2]; exact congrArg (gv g) (by omega)
    · rw [s3]; exact congrArg (gv g) (by omega)
  · rw [if_neg (by omega), shS, shS, gv_ofFn _ _ hi, gv_ofFn _ _ hi]; simp only []
    split
    · rfl
    · simp only [if_neg h]
theorem shS_next (g : V8 16) (r : Nat) : shS g r r = shS g (r + 1) 0 := by
  apply v_ext; intro i hi
  rw [shS, shS, gv_ofFn _ _ hi, gv_ofFn _ _ hi]; simp only []
  by_cases h : i / 4 < r
  · rw [if_pos h, if_pos (by omega)]
  · rw [if_neg h]
    by_cases h2 : i / 4 = r
    · rw [if_pos h2, if_pos (by omega), shGf, h2]
    · rw [if_neg h2, if_neg (by omega)]
      split
      · exact congrArg (gv g) (by omega)
      · rfl
theorem shS_end (g : V8 16) : shS g 4 0 = shG g := by
  apply v_ext; intro i hi
  rw [shS, shG, gv_ofFn _ _ hi, gv_ofFn _ _ hi, if_pos (by simp only []; omega)]
def enG (key b : V8 16) : Nat → V8 16
  | 0 => addG (ofG b) (seg8 16 (expand key) 0)
  | r + 1 => addG (if r + 1 < 10 then mixG (shG (subG (enG key b r) sboxV)) else shG (subG (enG key b r) sboxV)) (seg8 16 (expand key) ((r + 1) * 16))
theorem en_lo {key b : V8 16} {r : Nat} (h : r + 1 < 10) : enG key b (r + 1) = addG (mixG (shG (subG (enG key b r) sboxV))) (seg8 16 (expand key) ((r + 1) * 16)) := by rw [enG, if_pos h]
theorem en_hi {key b : V8 16} {r : Nat} (h : ¬ r + 1 < 10) : enG key b (r + 1) = addG (shG (subG (enG key b r) sboxV)) (seg8 16 (expand key) ((r + 1) * 16)) := by rw [enG, if_neg h]
def deG (key b : V8 16) : Nat → V8 16
  | 0 => ofG b
  | j + 1 => subG (shG (shG (shG (if 10 - j < 10 then unG (addG (deG key b j) (seg8 16 (expand key) ((10 - j) * 16))) else addG (deG key b j) (seg8 16 (expand key) ((10 - j) * 16)))))) (trR sboxV 256)
theorem de_lo {key b : V8 16} {j : Nat} (h : 10 - j < 10) : deG key b (j + 1) = subG (shG (shG (shG (unG (addG (deG key b j) (seg8 16 (expand key) ((10 - j) * 16))))))) (trR sboxV 256) := by rw [deG, if_pos h]
theorem de_hi {key b : V8 16} {j : Nat} (h : ¬ 10 - j < 10) : deG key b (j + 1) = subG (shG (shG (shG (addG (deG key b j) (seg8 16 (expand key) ((10 - j) * 16)))))) (trR sboxV 256) := by rw [deG, if_neg h]
def encG (key b : V8 16) : V8 16 := blG (enG key b 10)
def decG (key b : V8 16) : V8 16 := blG (addG (deG key b 10) (seg8 16 (expand key) 0))
end Go.X
namespace Go.X
open Go
theorem gv_expandL (key : V8 16) (r i : Nat) (hi : i < 16) : ∀ m, r ≤ m → m ≤ 10 → gv (expandL key m) (r * 16 + i) = gv (expandL key r) (r * 16 + i)
  | 0, h, _ => by have : r = 0 := by omega
                  subst this; rfl
  | m + 1, h, hm => by
    by_cases e : r = m + 1
    · subst e; rfl
    · rw [expandL, gv_put8 _ _ _ _ (by omega), if_neg (by omega)]
      exact gv_expandL key r i hi m (by omega) (by omega)
theorem rk_get (key : V8 16) (r i : Nat) (hr : r ≤ 10) (hi : i < 16) : gv (rk key r) i = gv (expandL key r) (r * 16 + i) := by
  rw [rk, seg8, gv_ofFn _ _ hi]; exact gv_expandL key r i hi 10 hr (by omega)
theorem rk_0 (key : V8 16) : rk key 0 = key := by
  apply v_ext; intro i hi
  rw [rk_get key 0 i (by omega) hi, expandL, gv_put8 _ _ _ _ (by omega), if_pos (by omega)]; simp
theorem rk_s (key : V8 16) (r : Nat) (hr : r < 10) : rk key (r + 1) = nextK r (rk key r) := by
  have e : seg8 16 (expandL key r) (r * 16) = rk key r := by
    apply v_ext; intro i hi
    rw [seg8, gv_ofFn _ _ hi, rk_get key r i (by omega) hi]
  apply v_ext; intro i hi
  rw [rk_get key (r + 1) i (by omega) hi, expandL, gv_put8 _ _ _ _ (by omega), if_pos (by omega), e]
  congr 1; omega
theorem gw_setE {n : Nat} (v : V32 n) (k i : Nat) (x : UInt32) (h : i < n) : gw (v.setIfInBounds k x) i = if k = i then x else gw v i := by
  rw [gw_eq _ _ h, gw_eq _ _ h, Vector.getElem_setIfInBounds h]
def acc (l : V32 4) (t : UInt32) : Nat → UInt32
  | 0 => gw l 0 ^^^ t
  | c + 1 => gw l (c + 1) ^^^ acc l t c
theorem fwdL_get (l : V32 4) (t : UInt32) : ∀ k, k ≤ 4 → (∀ c, c < 4 → gw (fwdL l t k).1 c = if c < k then acc l t c else gw l c) ∧ (fwdL l t k).2 = if k = 0 then t else acc l t (k - 1)
  | 0, _ => ⟨fun c hc => by rw [if_neg (by omega)]; rfl, by rw [if_pos rfl]; rfl⟩
  | k + 1, h => by
    obtain ⟨h1, h2⟩ := fwdL_get l t k (by omega)
    have e : gw (fwdL l t k).1 k ^^^ (fwdL l t k).2 = acc l t k := by
      rw [h1 k (by omega), if_neg (by omega), h2]
      cases k with
      | zero => rw [if_pos rfl]; rfl
      | succ k => rw [if_neg (by omega)]; rfl
    refine ⟨fun c hc => ?_, ?_⟩
    · simp only [fwdL]
      rw [gw_setE _ _ _ _ hc, e]
      by_cases hk : k = c
      · subst hk; rw [if_pos rfl, if_pos (by omega)]
      · rw [if_neg hk, h1 c hc]
        by_cases hc2 : c < k
        · rw [if_pos hc2, if_pos (by omega)]
        · rw [if_neg hc2, if_neg (by omega)]
    · simp only [fwdL]; rw [e, if_neg (by omega)]; rfl
theorem nextK_get (r : Nat) (b : V8 16) (c j : Nat) (hc : c < 4) (hj : j < 4) : gv (nextK r b) (4 * c + j) = byt (acc (wds b) (turned (gw (wds b) 3) (r + 1)) c) j := by
  have e1 : (4 * c + j) / 4 = c := by omega
  have e2 : (4 * c + j) % 4 = j := by omega
  rw [nextK, unw, gv_ofFn _ _ (by omega)]
  simp only [unwf, e1, e2, fwd]
  rw [(fwdL_get _ _ 4 (by omega)).1 c hc, if_pos hc]
theorem sh8_nat (w : UInt32) : (shl32 w 8).toNat = w.toNat % 2 ^ 24 * 2 ^ 8 := by
  simp only [shl32, UInt32.toNat_ofNat']; omega
theorem byt_app (w : UInt32) (x : UInt8) : (∀ r, r < 3 → byt (shl32 w 8 ||| toU32 (x.toNat : Int)) r = byt w (r + 1)) ∧ byt (shl32 w 8 ||| toU32 (x.toNat : Int)) 3 = x := by
  have hx := x.toNat_lt
  obtain ⟨a, b, c, d, ha, hb, hc, hd, hw⟩ := four w.toNat w.toNat_lt
  have h1 := four_b ha hb hc hd hw
  have e0 : (16777216 * a + 65536 * b + 256 * c + d) % 2 ^ 24 = 65536 * b + 256 * c + d := by omega
  have h2 : (shl32 w 8 ||| toU32 (x.toNat : Int)).toNat = 16777216 * b + 65536 * c + 256 * d + x.toNat := by
    rw [UInt32.toNat_or, sh8_nat, u8n, or_add _ _ 8 (by omega), hw, e0]; omega
  have h3 := four_b hb hc hd hx h2
  refine ⟨fun r hr => ?_, ?_⟩
  · have h4 : r = 0 ∨ r = 1 ∨ r = 2 := by omega
    apply UInt8.toNat_inj.1
    rcases h4 with rfl | rfl | rfl
    · rw [h3.1, h1.2.1]
    · rw [h3.2.1, h1.2.2.1]
    · rw [h3.2.2.1, h1.2.2.2]
  · apply UInt8.toNat_inj.1; exact h3.2.2.2
theorem byt_sword (w : UInt32) (r : Nat) (hr : r < 4) : byt (sword w) r = sbox (byt w r) := by
  have s1 := byt_app (swordL w 0) (sbox (byt w 0))
  have s2 := byt_app (swordL w 1) (sbox (byt w 1))
  have s3 := byt_app (swordL w 2) (sbox (byt w 2))
  have s4 := byt_app (swordL w 3) (sbox (byt w 3))
  have h4 : r = 0 ∨ r = 1 ∨ r = 2 ∨ r = 3 := by omega
  show byt (swordL w 4) r = _
  rcases h4 with rfl | rfl | rfl | rfl
  · exact ((s4.1 0 (by omega)).trans (s3.1 1 (by omega))).trans ((s2.1 2 (by omega)).trans s1.2)
  · exact (s4.1 1 (by omega)).trans ((s3.1 2 (by omega)).trans s2.2)
  · exact (s4.1 2 (by omega)).trans s3.2
  · exact s4.2
theorem byt_rotl8 (w : UInt32) (r : Nat) (hr : r < 4) : byt (rotl8 w) r = byt w ((r + 1) % 4) := by
  have e : rotl8 w = rotr w 3 := by
    rw [rotl8, rotr]; exact UInt32.or_comm _ _
  rw [e, byt_rotr w 3 r (by omega) (by omega) hr]; congr 1
theorem byt_shl24 (x : UInt8) (r : Nat) (hr : r < 4) : byt (shl32 (toU32 (x.toNat : Int)) 24) r = if r = 0 then x else 0 := by
  have hx := x.toNat_lt
  have h2 : (shl32 (toU32 (x.toNat : Int)) 24).toNat = 16777216 * x.toNat + 65536 * 0 + 256 * 0 + 0 := by rw [shl_nat _ _ (by omega)]; omega
  have h3 := four_b hx (show 0 < 256 by omega) (show 0 < 256 by omega) (show 0 < 256 by omega) h2
  have h4 : r = 0 ∨ r = 1 ∨ r = 2 ∨ r = 3 := by omega
  apply UInt8.toNat_inj.1
  rcases h4 with rfl | rfl | rfl | rfl
  · rw [h3.1]; rfl
  · rw [h3.2.1]; rfl
  · rw [h3.2.2.1]; rfl
  · rw [h3.2.2.2]; rfl
theorem byt_turned (w : UInt32) (r j : Nat) (hj : j < 4) : byt (turned w (r + 1)) j = sbox (byt w ((j + 1) % 4)) ^^^ (if j = 0 then pow 2 r else 0) := by
  rw [turned, byt_xor, byt_sword _ _ hj, byt_rotl8 _ _ hj, byt_shl24 _ _ hj]; rfl
theorem pw2 : ∀ r : Fin 10, pwR 2 r.val = pow 2 r.val := by decide +kernel
theorem wdIn_get (w : V8 176) (t : V8 4) (i : Nat) (hi : i < 44) (h4i : 4 ≤ i) : ∀ k, k ≤ 4 → ∀ x, x < 176 → gv (wdIn w t i k) x = if i * 4 ≤ x ∧ x < i * 4 + k then gv w (x - 16) ^^^ gv t (x - i * 4) else gv w x
  | 0, _, x, hx => by rw [if_neg (by omega)]; rfl
  | k + 1, h, x, hx => by
    have ih := wdIn_get w t i hi h4i k (by omega)
    rw [wdIn, gv_setE _ _ _ _ hx]
    by_cases e : i * 4 + k = x
    · subst e
      rw [if_pos rfl, if_pos (by omega), ih ((i - 4) * 4 + k) (by omega)]
      rw [if_neg (by omega)]
      have e1 : (i - 4) * 4 + k = i * 4 + k - 16 := by omega
      have e2 : i * 4 + k - i * 4 = k := by omega
      rw [e1, e2]
    · rw [if_neg e, ih x hx]
      by_cases h2 : i * 4 ≤ x ∧ x < i * 4 + k
      · rw [if_pos h2, if_pos (by omega)]
      · rw [if_neg h2, if_neg (by omega)]
theorem gv_v4 (a b c d : UInt8) (j : Nat) (hj : j < 4) : gv (#v[a, b, c, d] : V8 4) j = if j = 0 then a else if j = 1 then b else if j = 2 then c else d := by
  have h4 : j = 0 ∨ j = 1 ∨ j = 2 ∨ j = 3 := by omega
  rcases h4 with rfl | rfl | rfl | rfl <;> rfl
theorem wd_rk (key : V8 16) : ∀ n, n ≤ 44 → ∀ i j, i < n → j < 4 → gv (wdS key n) (i * 4 + j) = gv (rk key (i / 4)) (4 * (i % 4) + j)
  | 0, _, i, j, h, _ => by omega
  | n + 1, hn, i, j, hi, hj => by
    have ih := wd_rk key n (by omega)
    by_cases e : i = n
    · subst e
      by_cases h4 : i < 4
      · rw [wd_lo h4, gv_put8 _ _ _ _ (by omega), if_pos (by omega)]
        have e1 : i * 4 + j - i * 4 = j := by omega
        have e2 : i / 4 = 0 := by omega
        have e3 : i % 4 = i := by omega
        rw [e1, e2, e3, rk_0, gv_v4 _ _ _ _ _ hj]
        have h4 : j = 0 ∨ j = 1 ∨ j = 2 ∨ j = 3 := by omega
        rcases h4 with rfl | rfl | rfl | rfl <;> rfl
      · obtain ⟨r, hr⟩ : ∃ r, i / 4 = r + 1 := ⟨i / 4 - 1, by omega⟩
        have p16 : i * 4 + j - 16 = (i - 4) * 4 + j := by omega
        have q16 := ih (i - 4) j (by omega) hj
        have e5 : (i - 4) / 4 = r := by omega
        have e6 : (i - 4) % 4 = i % 4 := by omega
        rw [e5, e6] at q16
        have pj : i * 4 + j - i * 4 = j := by omega
        by_cases h0 : i % 4 = 0
        · rw [wd_0 h4 h0, wdIn_get _ _ _ (by omega) (by omega) 4 (by omega) _ (by omega), if_pos (by omega), p16, pj, q16, hr, rk_s _ _ (by omega), nextK_get _ _ _ _ (by omega) hj, h0, Nat.add_sub_cancel]
          simp only [acc]
          rw [byt_xor, byt_wds _ _ _ (by omega) hj, byt_turned _ _ _ hj]
          congr 1
          have tt : ∀ q, q < 4 → gv (seg8 4 (wdS key i) ((i - 1) * 4)) q = byt (gw (wds (rk key r)) 3) q := by
            intro q hq
            have e7 : (i - 1) / 4 = r := by omega
            have e8 : (i - 1) % 4 = 3 := by omega
            rw [seg8, gv_ofFn _ _ hq, ih (i - 1) q (by omega) hq, e7, e8, byt_wds _ _ _ (by omega) hq]
          have hA : ∀ q, q < 4 → gv (wdA (seg8 4 (wdS key i) ((i - 1) * 4))) q = sbox (byt (gw (wds (rk key r)) 3) ((q + 1) % 4)) := by
            intro q hq
            rw [wdA, gv_v4 _ _ _ _ _ hq]
            have h4 : q = 0 ∨ q = 1 ∨ q = 2 ∨ q = 3 := by omega
            rcases h4 with rfl | rfl | rfl | rfl
            · rw [if_pos rfl, tt 1 (by omega), gv_sbox]
            · rw [if_neg (by omega), if_pos rfl, tt 2 (by omega), gv_sbox]
            · rw [if_neg (by omega), if_neg (by omega), if_pos rfl, tt 3 (by omega), gv_sbox]
            · rw [if_neg (by omega), if_neg (by omega), if_neg (by omega), tt 0 (by omega), gv_sbox]
          rw [gv_setE _ _ _ _ hj]
          by_cases hj0 : j = 0
          · subst hj0
            have := pw2 ⟨r, by omega⟩
            simp only [] at this
            rw [if_pos rfl, hA 0 (by omega), if_pos rfl, this]
          · rw [if_neg (fun h => hj0 h.symm), hA j hj, if_neg hj0, UInt8.xor_zero]
        · obtain ⟨c, hc⟩ : ∃ c, i % 4 = c + 1 := ⟨i % 4 - 1, by omega⟩
          have e7 : (i - 1) / 4 = r + 1 := by omega
          have e8 : (i - 1) % 4 = c := by omega
          have hp := ih (i - 1) j (by omega) hj
          rw [e7, e8] at hp
          rw [wd_1 h4 h0, wdIn_get _ _ _ (by omega) (by omega) 4 (by omega) _ (by omega), if_pos (by omega), p16, pj, q16, seg8, gv_ofFn _ _ hj, hp]
          rw [hr, rk_s _ _ (by omega), nextK_get _ _ _ _ (by omega) hj, hc, nextK_get _ _ _ _ (by omega) hj]
          simp only [acc]
          rw [byt_xor, byt_wds _ _ _ (by omega) hj]
    · have hlt : i < n := by omega
      rw [← ih i j hlt hj]
      by_cases h4 : n < 4
      · rw [wd_lo h4, gv_put8 _ _ _ _ (by omega), if_neg (by omega)]
      · by_cases h0 : n % 4 = 0
        · rw [wd_0 h4 h0, wdIn_get _ _ _ (by omega) (by omega) 4 (by omega) _ (by omega), if_neg (by omega)]
        · rw [wd_1 h4 h0, wdIn_get _ _ _ (by omega) (by omega) 4 (by omega) _ (by omega), if_neg (by omega)]
theorem wd_expand (key : V8 16) : wdS key 44 = expand key := by
  apply v_ext; intro x hx
  have h := wd_rk key 44 (by omega) (x / 4) (x % 4) (by omega) (by omega)
  have e : x / 4 * 4 + x % 4 = x := by omega
  rw [e] at h
  rw [h, rk, seg8, gv_ofFn _ _ (by omega)]
  exact congrArg (gv (expand key)) (by simp only []; omega)
theorem addG_get (g k : V8 16) (c r : Nat) (hc : c < 4) (hr : r < 4) : gv (addG g k) (r * 4 + c) = gv g (r * 4 + c) ^^^ gv k (4 * c + r) := by
  rw [addG, gv_ofFn _ _ (by omega)]
  simp only [addGf]
  rw [ofG, gv_ofFn _ _ (by omega)]
  simp only [ofGf]
  have e1 : (r * 4 + c) % 4 = c := by omega
  have e2 : (r * 4 + c) / 4 = r := by omega
  rw [e1, e2]
theorem ofG_get (b : V8 16) (c r : Nat) (hc : c < 4) (hr : r < 4) : gv (ofG b) (r * 4 + c) = gv b (4 * c + r) := by
  rw [ofG, gv_ofFn _ _ (by omega)]
  simp only [ofGf]
  have e1 : (r * 4 + c) % 4 = c := by omega
  have e2 : (r * 4 + c) / 4 = r := by omega
  rw [e1, e2]
theorem shG_get (g : V8 16) (c r : Nat) (hc : c < 4) (hr : r < 4) : gv (shG g) (r * 4 + c) = gv g (r * 4 + (c + r) % 4) := by
  rw [shG, gv_ofFn _ _ (by omega)]
  simp only [shGf]
  have e1 : (r * 4 + c) % 4 = c := by omega
  have e2 : (r * 4 + c) / 4 = r := by omega
  rw [e1, e2]
theorem subG_get (g : V8 16) (t : V8 256) (i : Nat) (h : i < 16) : gv (subG g t) i = gv t (gv g i).toNat := by
  rw [subG, gv_ofFn _ _ h]; rfl
theorem mixG_get (g : V8 16) (c r : Nat) (hc : c < 4) (hr : r < 4) : gv (mixG g) (r * 4 + c) = mc r (gv g (0 * 4 + c)) (gv g (1 * 4 + c)) (gv g (2 * 4 + c)) (gv g (3 * 4 + c)) := by
  have e1 : (r * 4 + c) % 4 = c := by omega
  have e2 : (r * 4 + c) / 4 = r := by omega
  rw [mixG, gv_ofFn _ _ (by omega)]
  simp only [mixGf, e1, e2, mulR2, mulR3]
  have h4 : r = 0 ∨ r = 1 ∨ r = 2 ∨ r = 3 := by omega
  rcases h4 with rfl | rfl | rfl | rfl
  · show m2 (gv g (0 * 4 + c)) ^^^ m3 (gv g (1 * 4 + c)) ^^^ gv g (2 * 4 + c) ^^^ gv g (3 * 4 + c) = m2 (gv g (0 * 4 + c)) ^^^ m3 (gv g (1 * 4 + c)) ^^^ gv g (2 * 4 + c) ^^^ gv g (3 * 4 + c)
    rfl
  · show m2 (gv g (1 * 4 + c)) ^^^ m3 (gv g (2 * 4 + c)) ^^^ gv g (3 * 4 + c) ^^^ gv g (0 * 4 + c) = gv g (0 * 4 + c) ^^^ m2 (gv g (1 * 4 + c)) ^^^ m3 (gv g (2 * 4 + c)) ^^^ gv g (3 * 4 + c)
    generalize gv g (0 * 4 + c) = x; generalize m2 (gv g (1 * 4 + c)) = y; generalize m3 (gv g (2 * 4 + c)) = z; generalize gv g (3 * 4 + c) = u
    rw [UInt8.xor_comm _ x]; simp only [UInt8.xor_assoc]
  · show m2 (gv g (2 * 4 + c)) ^^^ m3 (gv g (3 * 4 + c)) ^^^ gv g (0 * 4 + c) ^^^ gv g (1 * 4 + c) = gv g (0 * 4 + c) ^^^ gv g (1 * 4 + c) ^^^ m2 (gv g (2 * 4 + c)) ^^^ m3 (gv g (3 * 4 + c))
    generalize gv g (0 * 4 + c) = x; generalize gv g (1 * 4 + c) = y; generalize m2 (gv g (2 * 4 + c)) = z; generalize m3 (gv g (3 * 4 + c)) = u
    rw [UInt8.xor_assoc (z ^^^ u), UInt8.xor_comm (z ^^^ u)]; simp only [UInt8.xor_assoc]
  · show m2 (gv g (3 * 4 + c)) ^^^ m3 (gv g (0 * 4 + c)) ^^^ gv g (1 * 4 + c) ^^^ gv g (2 * 4 + c) = m3 (gv g (0 * 4 + c)) ^^^ gv g (1 * 4 + c) ^^^ gv g (2 * 4 + c) ^^^ m2 (gv g (3 * 4 + c))
    generalize m3 (gv g (0 * 4 + c)) = x; generalize gv g (1 * 4 + c) = y; generalize gv g (2 * 4 + c) = z; generalize m2 (gv g (3 * 4 + c)) = u
    simp only [UInt8.xor_assoc]; rw [UInt8.xor_comm u]; simp only [UInt8.xor_assoc]
theorem unG_get (g : V8 16) (c r : Nat) (hc : c < 4) (hr : r < 4) : gv (unG g) (r * 4 + c) = imc r (gv g (0 * 4 + c)) (gv g (1 * 4 + c)) (gv g (2 * 4 + c)) (gv g (3 * 4 + c)) := by
  have e1 : (r * 4 + c) % 4 = c := by omega
  have e2 : (r * 4 + c) / 4 = r := by omega
  rw [unG, gv_ofFn _ _ (by omega)]
  simp only [unGf, e1, e2, mulR9, mulR11, mulR13, mulR14]
  generalize hx : gv g (0 * 4 + c) = x; generalize hy : gv g (1 * 4 + c) = y; generalize hz : gv g (2 * 4 + c) = z; generalize hu : gv g (3 * 4 + c) = u
  have h4 : r = 0 ∨ r = 1 ∨ r = 2 ∨ r = 3 := by omega
  rcases h4 with rfl | rfl | rfl | rfl
  · show m14 (gv g (0 * 4 + c)) ^^^ m11 (gv g (1 * 4 + c)) ^^^ m13 (gv g (2 * 4 + c)) ^^^ m9 (gv g (3 * 4 + c)) = _
    rw [hx, hy, hz, hu]; rfl
  · show m14 (gv g (1 * 4 + c)) ^^^ m11 (gv g (2 * 4 + c)) ^^^ m13 (gv g (3 * 4 + c)) ^^^ m9 (gv g (0 * 4 + c)) = m9 x ^^^ m14 y ^^^ m11 z ^^^ m13 u
    rw [hx, hy, hz, hu, UInt8.xor_comm _ (m9 x)]; simp only [UInt8.xor_assoc]
  · show m14 (gv g (2 * 4 + c)) ^^^ m11 (gv g (3 * 4 + c)) ^^^ m13 (gv g (0 * 4 + c)) ^^^ m9 (gv g (1 * 4 + c)) = m13 x ^^^ m9 y ^^^ m14 z ^^^ m11 u
    rw [hx, hy, hz, hu, UInt8.xor_assoc (m14 z ^^^ m11 u), UInt8.xor_comm (m14 z ^^^ m11 u)]; simp only [UInt8.xor_assoc]
  · show m14 (gv g (3 * 4 + c)) ^^^ m11 (gv g (0 * 4 + c)) ^^^ m13 (gv g (1 * 4 + c)) ^^^ m9 (gv g (2 * 4 + c)) = m11 x ^^^ m13 y ^^^ m9 z ^^^ m14 u
    rw [hx, hy, hz, hu]; simp only [UInt8.xor_assoc]; rw [UInt8.xor_comm (m14 u)]; simp only [UInt8.xor_assoc]
theorem seg_rk (key : V8 16) (r : Nat) : seg8 16 (expand key) (r * 16) = rk key r := rfl
theorem sub_sbox (g : V8 16) (i : Nat) (h : i < 16) : gv (subG g sboxV) i = sbox (gv g i) := by rw [subG_get _ _ _ h, gv_sbox]
theorem enG_Se (key b : V8 16) : ∀ n, n ≤ 9 → ∀ c r, c < 4 → r < 4 → gv (enG key b n) (r * 4 + c) = Se key b n c r
  | 0, _, c, r, hc, hr => by
    have e : seg8 16 (expand key) 0 = rk key 0 := by rw [rk, Nat.zero_mul]
    rw [enG, addG_get _ _ _ _ hc hr, ofG_get _ _ _ hc hr, Se_0 _ _ _ _ hc hr, e]
  | n + 1, hn, c, r, hc, hr => by
    have ih := enG_Se key b n (by omega)
    rw [en_lo (by omega), addG_get _ _ _ _ hc hr, mixG_get _ _ _ hc hr, seg_rk, Se_s _ _ _ _ _ (by omega) hc hr, shG_get _ _ _ hc (by omega), shG_get _ _ _ hc (by omega), shG_get _ _ _ hc (by omega), shG_get _ _ _ hc (by omega),
      sub_sbox _ _ (by omega), sub_sbox _ _ (by omega), sub_sbox _ _ (by omega), sub_sbox _ _ (by omega), ih _ 0 (by omega) (by omega), ih _ 1 (by omega) (by omega), ih _ 2 (by omega) (by omega), ih _ 3 (by omega) (by omega), UInt8.xor_comm]
    simp only [Nat.add_zero]
theorem blG_get (g : V8 16) (c r : Nat) (hc : c < 4) (hr : r < 4) : gv (blG g) (4 * c + r) = gv g (r * 4 + c) := by
  rw [blG, gv_ofFn _ _ (by omega)]
  simp only [blGf]
  have e1 : (4 * c + r) % 4 = r := by omega
  have e2 : (4 * c + r) / 4 = c := by omega
  rw [e1, e2]
theorem encG_enc (key b : V8 16) : encG key b = enc key b := by
  apply v_ext; intro i hi
  have ei : 4 * (i / 4) + i % 4 = i := by omega
  have hc : i / 4 < 4 := by omega
  have hr : i % 4 < 4 := by omega
  rw [← ei, encG, blG_get _ _ _ hc hr, enc_get _ _ _ _ hc hr, en_hi (by omega), addG_get _ _ _ _ hc hr, shG_get _ _ _ hc hr, sub_sbox _ _ (by omega), enG_Se key b 9 (by omega) _ _ (by omega) hr, seg_rk]
def Td (key b : V8 16) (n c r : Nat) : UInt8 := By (stL (bkK key 11) bckT 3 b n) c r
theorem Td_0 (key b : V8 16) (c r : Nat) (hc : c < 4) (hr : r < 4) : Td key b 0 c r = gv b (4 * c + r) ^^^ gv (rk key 10) (4 * c + r) := by
  have e : c = (10 - 10) * 4 + c := by omega
  have h := gw_bkK key 10 c hc 11 (by omega) (by omega)
  rw [← e] at h
  have hb : bkB key 10 = rk key 10 := by simp [bkB, rk]
  simp only [Td, By, stL]
  rw [gw_ofFn _ _ hc, byt_xor, byt_wds _ _ _ hc hr]
  simp only []
  rw [h, byt_wds _ _ _ hc hr, hb]
theorem Td_s (key b : V8 16) (n c r : Nat) (hn : n < 9) (hc : c < 4) (hr : r < 4) : Td key b (n + 1) c r = imc r (gv (rk key (9 - n)) (4 * c)) (gv (rk key (9 - n)) (4 * c + 1)) (gv (rk key (9 - n)) (4 * c + 2)) (gv (rk key (9 - n)) (4 * c + 3)) ^^^ imc r (back (Td key b n (c % 4) 0)) (back (Td key b n ((c + 3) % 4) 1)) (back (Td key b n ((c + 6) % 4) 2)) (back (Td key b n ((c + 9) % 4) 3)) := by
  have ek : 10 - (n + 1) = 9 - n := by omega
  have hb : bkB key (9 - n) = unmix (rk key (9 - n)) := by rw [bkB, if_pos (by omega)]; rfl
  rw [Td, stL, By_dec _ _ _ _ _ (by omega) hc hr, ek, hb, unmix_get _ _ _ hc hr]; rfl
theorem sub_back (g : V8 16) (i : Nat) (h : i < 16) : gv (subG g (trR sboxV 256)) i = back (gv g i) := by rw [subG_get _ _ _ h, trR_back]
theorem sh3_get (g : V8 16) (c r : Nat) (hc : c < 4) (hr : r < 4) : gv (shG (shG (shG g))) (r * 4 + c) = gv g (r * 4 + (c + 3 * r) % 4) := by
  rw [shG_get _ _ _ hc hr, shG_get _ _ _ (by omega) hr, shG_get _ _ _ (by omega) hr]
  congr 2; omega
theorem deG_Td (key b : V8 16) : ∀ j, j ≤ 9 → ∀ c r, c < 4 → r < 4 → gv (deG key b (j + 1)) (r * 4 + c) = back (Td key b j ((c + 3 * r) % 4) r)
  | 0, _, c, r, hc, hr => by
    rw [de_hi (by omega), sub_back _ _ (by omega), sh3_get _ _ _ hc hr, addG_get _ _ _ _ (by omega) hr, deG, ofG_get _ _ _ (by omega) hr, seg_rk, Td_0 _ _ _ _ (by omega) hr]
  | j + 1, hj, c, r, hc, hr => by
    have ih := deG_Td key b j (by omega)
    have hc' : (c + 3 * r) % 4 < 4 := by omega
    have ek : 10 - (j + 1) = 9 - j := by omega
    have k0 : 4 * ((c + 3 * r) % 4) + 0 = 4 * ((c + 3 * r) % 4) := rfl
    rw [de_lo (by omega), sub_back _ _ (by omega), sh3_get _ _ _ hc hr, unG_get _ _ _ hc' hr, addG_get _ _ _ 0 hc' (by omega), addG_get _ _ _ 1 hc' (by omega), addG_get _ _ _ 2 hc' (by omega), addG_get _ _ _ 3 hc' (by omega),
      ih _ 0 hc' (by omega), ih _ 1 hc' (by omega), ih _ 2 hc' (by omega), ih _ 3 hc' (by omega), seg_rk, imc_xor, Td_s _ _ _ _ _ (by omega) hc' hr, ek, UInt8.xor_comm]
    rfl
theorem decG_dec (key b : V8 16) : decG key b = dec key b := by
  apply v_ext; intro i hi
  have ei : 4 * (i / 4) + i % 4 = i := by omega
  have hc : i / 4 < 4 := by omega
  have hr : i % 4 < 4 := by omega
  have e0 : seg8 16 (expand key) 0 = rk key 0 := by rw [rk, Nat.zero_mul]
  have h1 : gv (dec key b) i = back (Td key b 9 ((i / 4 + i % 4 * 3) % 4) (i % 4)) ^^^ gv (rk key 0) i := by
    have h := gw_bkK key 0 (i / 4) hc 11 (by omega) (by omega)
    have hb : bkB key 0 = rk key 0 := by simp [bkB, rk]
    rw [dec, runf, gv_ofFn _ _ hi]
    simp only [lastf, pick]
    rw [show 40 + i / 4 = (10 - 0) * 4 + i / 4 by omega, h, byt_wds _ _ _ hc hr, hb, ei]; rfl
  rw [h1]
  have h2 : gv (decG key b) (4 * (i / 4) + i % 4) = back (Td key b 9 ((i / 4 + 3 * (i % 4)) % 4) (i % 4)) ^^^ gv (rk key 0) (4 * (i / 4) + i % 4) := by
    rw [decG, blG_get _ _ _ hc hr, addG_get _ _ _ _ hc hr, deG_Td key b 9 (by omega) _ _ hc hr, e0]
  rw [ei] at h2
  rw [h2, Nat.mul_comm 3]
end Go.X
namespace Go.X
open Go
theorem ofFn_gv {n : Nat} (v : V8 n) : (Vector.ofFn fun i : Fin n => gv v i.val) = v := by
  apply v_ext; intro i hi
  rw [gv_ofFn _ _ hi]
end Go.X
namespace Go.X
open Go
section
variable {w : World} {a : Option Addr}
theorem Cel.cs {b E : Nat} {fz : Nat × Nat} {cs : Array Value} (h : w.heap[b]? = some (.cells cs E fz)) : Cel w (some ⟨b, 0, none⟩) cs.toList :=
  Cel.row h fun j u hj => by simpa using hj
theorem Cel.takei {l : List Nat} (h : Cel w a (X.ci l)) (k : Nat) : Cel w a (X.ci (l.take k)) := by
  have := h.take k; simpa [X.ci, List.map_take] using this
theorem Cel.dropi {l : List Nat} (h : Cel w a (X.ci l)) {lo cap : Nat} (hc : l.length ≤ cap) : Cel w (sla a lo cap) (X.ci (l.drop lo)) := by
  have := h.drop (lo := lo) (cap := cap) (by rw [ci_len]; exact hc); simpa [X.ci, List.map_drop] using this
theorem Own.leni {l : List Nat} {n cap : Nat} {X : List (Nat × Obj)} (h : Own 1 a n cap (ci l) X) : l.length = n := by have := h.1; rw [ci_len] at this; omega
end
section
variable {P : Program} {ops : Array Oper} {n : Nat} {l : Regs} {w w0 : World} {K : Regs → World → Prop} {F : List Nat} {L A R X : List (Nat × Obj)}
variable {d T S S2 : Nat} {ps : String} {af : Array Edge} {g : Option (Nat × Bool)} {x y : Operand} {v u : Value} {a : Option Addr} {m cap e : Nat}
theorem srci {tx e' : TypeId} (hk : P.underlying tx = some (.slice e')) {a : Option Addr} {bs : List Nat} {m : Nat} (c : Nat) (h : Cel w a (ci bs)) (hm : bs.length = m) (h0 : a = none → m = 0) : Src P 1 tx (.slice a m c) m (ci bs) w :=
  srcv hk c h (by rw [ci_len, hm, Nat.mul_one]) h0 (ci_one bs)
theorem ldxi {bs : List Nat} {a : Option Addr} {j : Nat} (hT : Sc P S) (hg : gval ops l ⟨some d, .load S x, T, ps, af, g⟩ = some true) (hd : Nat.blt d n = true) (hx : ev l x = some (.pointer (some (adr a j)))) (hc : Cel w a (ci bs)) (hj : j < bs.length)
    (k : K ((d, I ((gi bs j : Nat) : Int)) :: l) w) : WO P ops n ⟨some d, .load S x, T, ps, af, g⟩ l w K := ldc hT hg hd hx (hc.ci hj) k
theorem cel_put {b E : Nat} {cur : Array Value} {fz : Nat × Nat} {xs news : List Nat} {W : World} {m : Nat} (h : W.heap[b]? = some (.cells (putAt cur m (ci news).toArray) E fz)) (hm : xs.length = m) (hcur : cur.toList.take m = ci xs) (hle : m + news.length ≤ cur.size) (h1 : 1 ≤ m) :
    Cel W (some ⟨b, 1, none⟩) (ci (xs.drop 1 ++ news)) ∧ Cel W (some ⟨b, 0, none⟩) (ci xs) := by
  have hall : (putAt cur m (ci news).toArray).toList.take (m + news.length) = ci (xs ++ news) := by
    have := put_take cur m (ci news) (by rw [ci_len]; exact hle)
    rw [ci_len, hcur, ci_app] at this; exact this
  have cell : ∀ (j : Nat) (v : Value), (ci (xs ++ news))[j]? = some v → (putAt cur m (ci news).toArray)[j]? = some v := by
    intro j v hj
    rw [← hall, List.getElem?_take] at hj
    split at hj
    · simpa using hj
    · cases hj
  constructor
  · refine Cel.row h fun j v hj => cell (1 + j) v ?_
    have e : ci (xs.drop 1 ++ news) = (ci (xs ++ news)).drop 1 := by
      rw [ci, ci, ← List.map_drop, List.drop_append_of_le_length (by omega)]
    rw [e, List.getElem?_drop] at hj; exact hj
  · refine Cel.row h fun j v hj => cell (0 + j) v ?_
    have hlt : j < (ci xs).length := (List.getElem?_eq_some_iff.1 hj).1
    rw [Nat.zero_add, ← ci_app, List.getElem?_append_left hlt]; exact hj
theorem apptl {by_ : Nat} {z : Value} {xs : List Nat} {news : List Nat} {q : Nat} (hT : SlT P S e 1 by_ z) (hO : Own 1 a m cap (ci xs) X) (hm : 1 < m) (hS : St w0 F (A ++ (X ++ R)) w) (hg : gval ops l ⟨some d, .call ⟨.builtin .append, #[x, y], #[S, S2]⟩, T, ps, af, g⟩ = some true) (hd : Nat.blt d n = true)
    (hx : ev l x = some (.slice (sla a 1 cap) (m - 1) (cap - 1))) (hy : ev l y = some u) (hsrc : Src P 1 S2 u q (ci news) w) (hb : (m + q) * by_ ≤ 140737488355328) (h63 : m + q ≤ 140737488355328)
    (k : ∀ a' c' X' w', a'.isSome = true → m - 1 + q ≤ c' → (∀ (W0 : World) (F2 : List Nat) (L2 : List (Nat × Obj)) (W : World), St W0 F2 L2 W → (∀ p ∈ X', p ∈ L2) → Cel W a' (ci (xs.drop 1 ++ news)) ∧ Cel W a (ci xs)) → St w0 F (A ++ (X' ++ R)) w' → K ((d, .slice a' (m - 1 + q) c') :: l) w') :
    WO P ops n ⟨some d, .call ⟨.builtin .append, #[x, y], #[S, S2]⟩, T, ps, af, g⟩ l w K := by
  obtain ⟨hu, i, hi, hz, hsz, hby, hzz⟩ := hT
  rcases hO.2.2.2 with ⟨_, h0, _, _⟩ | ⟨b, cur, E, rfl, rfl, hcs, ht⟩
  · omega
  have hle := hO.2.1
  have hmem : (b, Obj.cells cur E (0, 0)) ∈ A ++ ([(b, .cells cur E (0, 0))] ++ R) := by simp
  have hbh := (hS.own _ hmem).2
  have hxl2 : xs.length = m := hO.leni
  have hnl : (ci news).length = q := by have := hsrc.newsLen; omega
  have hnl2 : news.length = q := by rw [ci_len] at hnl; exact hnl
  rw [Nat.mul_one] at hcs ht
  have hsla : sla (some ⟨b, 0, none⟩) 1 cap = some (⟨b, 1, none⟩ : Addr) := by
    rw [sla, if_neg (by omega)]; rfl
  rw [hsla] at hx
  have fin : ∀ (v : Value) (w' : World), (Builtin.append_ #[S, S2] T #[.slice (some ⟨b, 1, none⟩) (m - 1) (cap - 1), u]).run P w = .ok v w' → K ((d, v) :: l) w' → WO P ops n ⟨some d, .call ⟨.builtin .append, #[x, y], #[S, S2]⟩, T, ps, af, g⟩ l w K := by
    intro v w' hr hk act ha
    rw [if_pos (ha.wanted hg)]
    have e1 : (execOp act.eval ⟨some d, .call ⟨.builtin .append, #[x, y], #[S, S2]⟩, T, ps, af, g⟩).run P w = .ok (.value v) w' := by
      simp [execOp, resolve, ha.ev hx, ha.ev hy, invoke, builtin, hr]
    simp only [Oper.wp, e1, Oper.upon]
    exact ⟨_, ha.put _ (by simpa [Nat.blt_eq] using hd), hk⟩
  by_cases hroom : m - 1 + q ≤ cap - 1
  · have hle2 : m + (ci news).length ≤ cur.size := by omega
    have hst := run_storeCells_at P b m E (ci news) 0 cur w hbh (by simpa using hle2) (ci_one news)
    simp only [Nat.add_zero] at hst
    have em : 1 + (m - 1) * i.size = m := by rw [hsz]; omega
    have hne : ¬ (m - 1) * i.size = 0 := by rw [hsz]; omega
    have hr : (Builtin.append_ #[S, S2] T #[.slice (some ⟨b, 1, none⟩) (m - 1) (cap - 1), u]).run P w = .ok (.slice (some ⟨b, 1, none⟩) (m - 1 + q) (cap - 1)) (w.setRow b (putAt cur m (ci news).toArray)) := by
      have hcells := hsrc.cells
      rw [← hsz] at hcells
      rcases hsrc.kind with ⟨e', hk⟩ | hk <;> simp [Builtin.append_, run_underlying hu, run_underlying hk, sizeOf, typeInfo, hi, hsrc.len, hroom, hcells, Addr.add, em, hne, hst, putAt]
    refine fin _ _ hr (k (some ⟨b, 1, none⟩) (cap - 1) [(b, .cells (putAt cur m (ci news).toArray) E (0, 0))] _ rfl hroom (fun W0 F2 L2 W hSt hL => ?_) ?_)
    · exact cel_put (hSt.own _ (hL _ (List.mem_singleton.2 rfl))).2 hxl2 ht (by omega) (by omega)
    · have hS' := hS.setRow A.length (b := b) (cs := cur) (cs' := putAt cur m (ci news).toArray) (T := E) (fz := (0, 0)) (by simp)
      have e2 : (A ++ ([(b, Obj.cells cur E (0, 0))] ++ R)).set A.length (b, .cells (putAt cur m (ci news).toArray) E (0, 0)) = A ++ ([(b, .cells (putAt cur m (ci news).toArray) E (0, 0))] ++ R) := by
        simp [List.set_append]
      rw [e2] at hS'; exact hS'
  · have hg' : cap - 1 < m - 1 + q := by omega
    have hfit : Builtin.nextslicecap (m - 1 + q) (cap - 1) * i.bytes ≤ 281474976710656 := by
      have h1 := nextslicecap_le hg'
      have h2 := Nat.mul_le_mul_right i.bytes h1
      have h3 : (m - 1 + q) * by_ ≤ (m + q) * by_ := Nat.mul_le_mul_right by_ (by omega)
      rw [hby] at h2 ⊢
      rw [Nat.mul_assoc] at h2
      omega
    have hcelx := hO.cel hS (fun p hp => mem_tail A R hp)
    have hold : (Builtin.firstCells i.size (m - 1) (.slice (some ⟨b, 1, none⟩) (m - 1) (cap - 1))).run P w.drew = .ok (ci (xs.drop 1)).toArray w.drew := by
      refine run_firstCells_some w.drew i.size (m - 1) ⟨b, 1, none⟩ (m - 1) (cap - 1) (ci (xs.drop 1)) (by rw [hsz, ci_len, List.length_drop]; omega) (fun j v hj => ?_)
      have h1 : (ci xs)[1 + j]? = some v := by
        have e : ci (xs.drop 1) = (ci xs).drop 1 := by rw [ci, ci, ← List.map_drop]
        rw [e, List.getElem?_drop] at hj; exact hj
      have h2 := (hcelx (1 + j) v h1).2
      have e3 : (⟨b, 1, none⟩ : Addr).add j = adr (some ⟨b, 0, none⟩) (1 + j) := by simp [adr, Addr.add]
      rw [e3]; simpa using h2
    rw [← hsz] at hsrc
    have hr := run_append_grow_src (P := P) w S S2 T e i z hu hi hz (some ⟨b, 1, none⟩) (m - 1) (cap - 1) (ci (xs.drop 1)) hold u q (ci news) hsrc hg' (by omega) hfit
    have hge := grownCap_ge w (m - 1 + q) (cap - 1) e
    refine fin _ _ hr (k (some ⟨w.heap.size, 0, none⟩) _ [(w.heap.size, .cells ((ci (xs.drop 1) ++ ci news).toArray ++ Builtin.zeroCells z.cells (grownCap w (m - 1 + q) (cap - 1) e - (m - 1 + q))) e), (b, .cells cur E (0, 0))] _ rfl hge (fun W0 F2 L2 W hSt hL => ⟨?_, ?_⟩) ?_)
    · refine Cel.row (hSt.own _ (hL _ List.mem_cons_self)).2 fun j v hj => ?_
      rw [← ci_app] at hj
      have hlt : j < (ci (xs.drop 1) ++ ci news).length := (List.getElem?_eq_some_iff.1 hj).1
      rw [Nat.zero_add, Array.getElem?_append_left (by simpa using hlt)]
      simpa using hj
    · refine Cel.row (hSt.own (b, .cells cur E (0, 0)) (hL _ (by simp))).2 fun j v hj => ?_
      rw [← ht, List.getElem?_take] at hj
      split at hj
      · simpa using hj
      · cases hj
    · have hd' : St w0 F (A ++ ([(b, .cells cur E (0, 0))] ++ R)) w.drew := hS.drew
      have ha := hd'.alloc (.cells ((ci (xs.drop 1) ++ ci news).toArray ++ Builtin.zeroCells z.cells (grownCap w (m - 1 + q) (cap - 1) e - (m - 1 + q))) e)
      have hsz' : w.drew.heap.size = w.heap.size := rfl
      rw [hsz'] at ha
      exact ha.perm List.perm_middle
end
end Go.X
namespace Go.X
open Go
def btL (b : UInt8) : Nat → List Nat
  | 0 => []
  | k + 1 => btL b k ++ [bt b (7 - k)]
def biL (bs : List UInt8) : Nat → List Nat
  | 0 => []
  | k + 1 => biL bs k ++ btL (gl bs k) 8
def ofS (l : List Nat) : Nat → V8 16
  | 0 => Vector.replicate 16 0
  | k + 1 => (ofS l k).setIfInBounds (k / 8) (gv (ofS l k) (k / 8) * 2 + toU8 ((gi l k : Nat) : Int))
def ofB (l : List Nat) : V8 16 := ofS l 128
def by8 (l : List Nat) (o : Nat) : Nat → UInt8
  | 0 => 0
  | k + 1 => by8 l o k * 2 + toU8 ((gi l (o + k) : Nat) : Int)
theorem ofS_get (l : List Nat) (i : Nat) (hi : i < 16) : ∀ k, k ≤ 128 → gv (ofS l k) i = by8 l (8 * i) (min (k - 8 * i) 8)
  | 0, _ => by rw [ofS, gv_rep]; simp [by8]
  | k + 1, h => by
    rw [ofS, gv_setE _ _ _ _ hi]
    by_cases e : k / 8 = i
    · rw [if_pos e, e, ofS_get l i hi k (by omega)]
      have e1 : min (k - 8 * i) 8 = k - 8 * i := by omega
      have e2 : min (k + 1 - 8 * i) 8 = (k - 8 * i) + 1 := by omega
      have e3 : 8 * i + (k - 8 * i) = k := by omega
      rw [e1, e2, by8, e3]
    · rw [if_neg e, ofS_get l i hi k (by omega)]
      congr 1; omega
theorem ofB_get (l : List Nat) (i : Nat) (hi : i < 16) : gv (ofB l) i = by8 l (8 * i) 8 := by
  rw [ofB, ofS_get l i hi 128 (by omega)]
  have e : min (128 - 8 * i) 8 = 8 := by omega
  rw [e]
@[simp] theorem btL_len (b : UInt8) (k : Nat) : (btL b k).length = k := by
  induction k with
  | zero => rfl
  | succ k ih => simp [btL, ih]
@[simp] theorem biL_len (bs : List UInt8) (k : Nat) : (biL bs k).length = k * 8 := by
  induction k with
  | zero => rfl
  | succ k ih => simp [biL, ih]; omega
theorem gi_app_lt {l m : List Nat} {i : Nat} (h : i < l.length) : gi (l ++ m) i = gi l i := by simp [gi, List.getElem?_append, h]
theorem gi_app_ge {l m : List Nat} {i : Nat} (h : l.length ≤ i) : gi (l ++ m) i = gi m (i - l.length) := by simp [gi, List.getElem?_append, Nat.not_lt.2 h]
theorem gi_drop (l : List Nat) (k i : Nat) : gi (l.drop k) i = gi l (k + i) := by simp [gi]
theorem gi_take {l : List Nat} {k i : Nat} (h : i < k) : gi (l.take k) i = gi l i := by simp [gi, List.getElem?_take, h]
theorem btL_get (b : UInt8) : ∀ k, k ≤ 8 → ∀ j, j < k → gi (btL b k) j = bt b (7 - j)
  | 0, _, j, h => by omega
  | k + 1, hk, j, h => by
    rw [btL]
    by_cases e : j < k
    · rw [gi_app_lt (by simpa using e)]; exact btL_get b k (by omega) j e
    · have : j = k := by omega
      subst this
      rw [gi_app_ge (by simp)]; simp [gi]
theorem biL_get (bs : List UInt8) : ∀ k, ∀ i, i < k → ∀ j, j < 8 → gi (biL bs k) (8 * i + j) = bt (gl bs i) (7 - j)
  | 0, i, h, _, _ => by omega
  | k + 1, i, h, j, hj => by
    rw [biL]
    by_cases e : i < k
    · rw [gi_app_lt (by simp; omega)]; exact biL_get bs k i e j hj
    · have : i = k := by omega
      subst this
      have e2 : 8 * i + j - i * 8 = j := by omega
      rw [gi_app_ge (by simp; omega), biL_len, e2]; exact btL_get _ 8 (by omega) j hj
def two8 (a b : UInt8) (r : Nat) : Nat → UInt8
  | 0 => 0
  | k + 1 => two8 a b r k * 2 + toU8 (((if r + k < 8 then bt a (7 - (r + k)) else bt b (15 - (r + k))) : Nat) : Int)
theorem by8_two (l : List Nat) (o : Nat) (a b : UInt8) (r : Nat) : ∀ k, (∀ q, q < k → gi l (o + q) = if r + q < 8 then bt a (7 - (r + q)) else bt b (15 - (r + q))) → by8 l o k = two8 a b r k
  | 0, _ => rfl
  | k + 1, h => by rw [by8, two8, h k (by omega), by8_two l o a b r k (fun q hq => h q (by omega))]
theorem two8_hi (a b : UInt8) (r : Nat) : ∀ k, r + k ≤ 8 → two8 a b r k = two8 a 0 r k
  | 0, _ => rfl
  | k + 1, h => by rw [two8, two8, two8_hi a b r k (by omega), if_pos (by omega), if_pos (by omega)]
theorem two8_add (a b : UInt8) (r : Nat) (hr : r ≤ 8) : ∀ k, k ≤ 8 → two8 a b r (8 - r + k) = two8 a 0 r (8 - r) * UInt8.ofNat (2 ^ k) + two8 b 0 0 k
  | 0, _ => by rw [Nat.add_zero, two8_hi a b r _ (by omega)]; simp [two8]
  | k + 1, hk => by
    rw [← Nat.add_assoc, two8, two8_add a b r hr k (by omega), two8, if_neg (by omega), if_pos (by omega)]
    have e : 15 - (r + (8 - r + k)) = 7 - (0 + k) := by omega
    have e2 : UInt8.ofNat (2 ^ (k + 1)) = UInt8.ofNat (2 ^ k) * 2 := by
      apply UInt8.toNat_inj.1
      rw [Nat.pow_succ]; simp [UInt8.toNat_ofNat', UInt8.toNat_mul]
    rw [e, e2]
    generalize two8 a 0 r (8 - r) = x; generalize UInt8.ofNat (2 ^ k) = y; generalize two8 b 0 0 k = u; generalize toU8 ((bt b (7 - (0 + k)) : Nat) : Int) = t
    rw [UInt8.add_mul, UInt8.mul_assoc, UInt8.add_assoc]
theorem two8_shl : ∀ r : Fin 9, ∀ a : Fin 256, two8 (UInt8.ofNat a.val) 0 r.val (8 - r.val) * UInt8.ofNat (2 ^ r.val) = shl8 (UInt8.ofNat a.val) r.val := by decide +kernel
theorem two8_shr : ∀ r : Fin 9, ∀ a : Fin 256, two8 (UInt8.ofNat a.val) 0 0 r.val = shr8 (UInt8.ofNat a.val) (8 - r.val) := by decide +kernel
theorem two8_eq (a b : UInt8) (r : Nat) (hr : r ≤ 8) : two8 a b r 8 = shl8 a r ||| shr8 b (8 - r) := by
  have h := two8_add a b r hr r hr
  have e : 8 - r + r = 8 := by omega
  have h1 := two8_shl ⟨r, by omega⟩ ⟨a.toNat, a.toNat_lt⟩
  have h2 := two8_shr ⟨r, by omega⟩ ⟨b.toNat, b.toNat_lt⟩
  simp only [UInt8.ofNat_toNat] at h1 h2
  rw [e, h1, h2] at h
  rw [h]
  have ha := a.toNat_lt; have hb := b.toNat_lt
  have h8 : r = 0 ∨ r = 1 ∨ r = 2 ∨ r = 3 ∨ r = 4 ∨ r = 5 ∨ r = 6 ∨ r = 7 ∨ r = 8 := by omega
  have e1 : (shl8 a r).toNat = (a.toNat % 2 ^ (8 - r)) * 2 ^ r := by
    simp only [shl8, UInt8.toNat_ofNat']
    rcases h8 with rfl | rfl | rfl | rfl | rfl | rfl | rfl | rfl | rfl <;> omega
  have e2 : (shr8 b (8 - r)).toNat = b.toNat / 2 ^ (8 - r) := by
    simp only [shr8, UInt8.toNat_ofNat']
    have : b.toNat / 2 ^ (8 - r) ≤ b.toNat := Nat.div_le_self _ _
    exact Nat.mod_eq_of_lt (by omega)
  have e3 : b.toNat / 2 ^ (8 - r) < 2 ^ r := by
    rcases h8 with rfl | rfl | rfl | rfl | rfl | rfl | rfl | rfl | rfl <;> omega
  apply UInt8.toNat_inj.1
  rw [UInt8.toNat_or, e1, e2, or_add _ _ r e3, UInt8.toNat_add, e1, e2]
  refine Nat.mod_eq_of_lt ?_
  rcases h8 with rfl | rfl | rfl | rfl | rfl | rfl | rfl | rfl | rfl <;> omega
theorem shr8_8 (a : UInt8) : shr8 a 8 = 0 := by revert a; refine all_u8 ?_; decide +kernel
theorem shr8_z (k : Nat) : shr8 0 k = 0 := by
  apply UInt8.toNat_inj.1; simp [shr8]
def shiftR (b : V8 24) (n : Nat) : V8 16 := ofB (((biL b.toList 24).take (n + 128)).drop n)
theorem shiftR_eq (b : V8 24) (n : Nat) (hn : n < 64) : shiftR b n = shiftV b n := by
  apply v_ext; intro i hi
  rw [shiftR, ofB_get _ _ hi, shiftV, gv_ofFn _ _ hi]
  have key : by8 (((biL b.toList 24).take (n + 128)).drop n) (8 * i) 8 = two8 (gv b (i + n / 8)) (gv b (i + n / 8 + 1)) (n % 8) 8 := by
    refine by8_two _ _ _ _ _ 8 (fun q hq => ?_)
    rw [gi_drop, gi_take (by omega)]
    split
    · rename_i h
      have e : n + (8 * i + q) = 8 * (i + n / 8) + (n % 8 + q) := by omega
      rw [e, biL_get _ _ _ (by omega) _ h, gl_toList]
    · rename_i h
      have e : n + (8 * i + q) = 8 * (i + n / 8 + 1) + (n % 8 + q - 8) := by omega
      have e2 : 7 - (n % 8 + q - 8) = 15 - (n % 8 + q) := by omega
      rw [e, biL_get _ _ _ (by omega) _ (by omega), gl_toList, e2]
  rw [key, two8_eq _ _ _ (by omega), shiftf]
  by_cases h : 0 < n % 8
  · rw [if_pos h]
  · have h0 : n % 8 = 0 := by omega
    rw [if_neg h, h0, Nat.sub_zero, shr8_8, UInt8.or_zero]
def dbR0 (b : V8 16) : V8 16 := ofB ((biL b.toList 16).drop 1 ++ [0])
def dbR (b : V8 16) : V8 16 := if gi (biL b.toList 16) 0 = 1 then (dbR0 b).setIfInBounds 15 (gv (dbR0 b) 15 ^^^ 135) else dbR0 b
theorem dbR0_get (b : V8 16) (i : Nat) (hi : i < 16) : gv (dbR0 b) i = dblf b i := by
  have hb : gv b 16 = 0 := by simp [gv]
  have key : by8 ((biL b.toList 16).drop 1 ++ [0]) (8 * i) 8 = two8 (gv b i) (gv b (i + 1)) 1 8 := by
    refine by8_two _ _ _ _ _ 8 (fun q hq => ?_)
    by_cases hl : 8 * i + q < 127
    · rw [gi_app_lt (by simp; omega), gi_drop]
      split
      · rename_i h
        have e : 1 + (8 * i + q) = 8 * i + (1 + q) := by omega
        rw [e, biL_get _ _ _ hi _ h, gl_toList]
      · rename_i h
        have e : 1 + (8 * i + q) = 8 * (i + 1) + (1 + q - 8) := by omega
        have e2 : 7 - (1 + q - 8) = 15 - (1 + q) := by omega
        rw [e, biL_get _ _ _ (by omega) _ (by omega), gl_toList, e2]
    · have hi15 : i = 15 := by omega
      have hq7 : q = 7 := by omega
      subst hi15 hq7
      rw [if_neg (by omega), hb, gi_app_ge (by simp)]
      simp [gi]; decide
  rw [dbR0, ofB_get _ _ hi, key, two8_eq _ _ _ (by omega), dblf]
  split
  · rfl
  · have : i = 15 := by omega
    subst this
    rw [hb, shr8_z, UInt8.or_zero]
theorem top_bt (a : UInt8) : toU8 (Int.fdiv (IntKind.i8.wrap (a.toNat : Int)) (2 ^ 7)) &&& 135 = if bt a 7 = 1 then 135 else 0 := by
  revert a; refine all_u8 ?_; decide +kernel
theorem dbR_eq (b : V8 16) : dbR b = dblB b := by
  have h0 : dbR0 b = (Vector.ofFn fun i : Fin 16 => dblf b i.val) := by
    apply v_ext; intro i hi
    rw [dbR0_get b i hi, gv_ofFn _ _ hi]
  have h1 : gi (biL b.toList 16) 0 = bt (gv b 0) 7 := by
    have := biL_get b.toList 16 0 (by omega) 0 (by omega)
    rw [gl_toList] at this; exact this
  have h2 : top7 b = if bt (gv b 0) 7 = 1 then 135 else 0 := top_bt _
  rw [dbR, dblB, h1, h2, h0]
  split
  · rfl
  · apply v_ext; intro i hi
    rw [UInt8.xor_zero, gv_setE _ _ _ _ hi]
    split
    · rename_i h; rw [h]
    · rfl
def zrL : Nat → UInt64 → Nat
  | 0, _ => 0
  | f + 1, x => if x % 2 = 0 then 1 + zrL f (x / 2) else 0
def zerosN (x : UInt64) : Nat := zrL 64 x
def zx (x : UInt64) : Nat → UInt64
  | 0 => x
  | k + 1 => zx x k / 2
theorem zr_inv (x : UInt64) : ∀ k, k ≤ 64 → (∀ j, j < k → zx x j % 2 = 0) → zerosN x = k + zrL (64 - k) (zx x k)
  | 0, _, _ => by simp [zerosN, zx]
  | k + 1, hk, h => by
    rw [zr_inv x k (by omega) (fun j hj => h j (by omega))]
    have e : 64 - k = (64 - (k + 1)) + 1 := by omega
    rw [e, zrL, if_pos (h k (by omega)), zx, Nat.add_assoc]
theorem zr_stop (x : UInt64) (k : Nat) (hk : k < 64) (h : ∀ j, j < k → zx x j % 2 = 0) (hs : ¬ zx x k % 2 = 0) : zerosN x = k := by
  rw [zr_inv x k (by omega) h]
  have e : 64 - k = (63 - k) + 1 := by omega
  rw [e, zrL, if_neg hs, Nat.add_zero]
theorem zr_end (x : UInt64) (h : ∀ j, j < 64 → zx x j % 2 = 0) : zerosN x = 64 := by rw [zr_inv x 64 (by omega) h]; rfl
theorem zr_ctz : ∀ n : Fin 256, 0 < n.val → zerosN (UInt64.ofNat n.val) = ctz (UInt64.ofNat n.val) := by decide +kernel
theorem zr_ctz' (k : Nat) (h0 : 0 < k) (h : k < 256) : zerosN (toU64 (k : Int)) = ctz (toU64 (k : Int)) := by
  have e : toU64 (k : Int) = UInt64.ofNat k := by
    apply UInt64.toNat_inj.1; simp only [toU64, UInt64.toNat_ofNat']; omega
  rw [e]; exact zr_ctz ⟨k, h⟩ h0
def dbN (s : V8 16) : Nat → V8 16
  | 0 => dblB s
  | k + 1 => dblB (dbN s k)
theorem dbN_last (key : V8 16) : ∀ k, dbN (star key) k = lastL key k
  | 0 => rfl
  | k + 1 => by rw [dbN, lastL, dbN_last key k]
theorem blkL_get (key : V8 16) (i j : Nat) (hj : j < 16) : ∀ m, i < m → m ≤ 64 → gv (blkL key m) (i * 16 + j) = gv (lastL key (i + 1)) j
  | 0, h, _ => by omega
  | m + 1, h, hm => by
    rw [blkL, gv_put8 _ _ _ _ (by omega)]
    by_cases e : i = m
    · subst e; rw [if_pos (by omega)]; exact congrArg (gv _) (by omega)
    · rw [if_neg (by omega)]; exact blkL_get key i j hj m (by omega) (by omega)
def forR (s : V8 16) (x : UInt64) : V8 16 := dbN s (zerosN x + 1)
theorem forR_eq (key : V8 16) (k : Nat) (h0 : 0 < k) (h : k < 256) : forR (star key) (toU64 (k : Int)) = forN key (toU64 (k : Int)) := by
  have hne : toU64 (k : Int) ≠ 0 := toU64_ne k h0 (by omega)
  have hlt := ctz_lt _ hne
  rw [forR, zr_ctz' k h0 h, dbN_last, forN, blkAt]
  apply v_ext; intro j hj
  rw [seg8, gv_ofFn _ _ hj]
  exact (blkL_get key _ j hj 64 hlt (by omega)).symm
end Go.X
namespace Go.X
open Go
theorem part_blk (bs : List UInt8) (i : Nat) : ofl 16 ((bs.take (16 * i + 16)).drop (16 * i)) = blk bs i := by
  apply v_ext; intro j hj
  rw [gv_ofl _ _ _ hj, blk, gv_ofl _ _ _ hj, gl_drop, gl_drop, gl_take (by omega), Nat.mul_comm]
end Go.X
namespace Go.X
open Go
theorem pad_l (bs : List UInt8) (k : Nat) (h : bs.length + 1 + k = 16) : ofl 16 (bs ++ [128] ++ List.replicate k 0) = padV bs := by
  apply v_ext; intro i hi
  rw [gv_ofl _ _ _ hi, padV, gv_setE _ _ _ _ hi, gv_ofl _ _ _ hi]
  by_cases h1 : i < bs.length
  · rw [if_neg (by omega), List.append_assoc, gl_app_lt h1]
  · by_cases h2 : bs.length = i
    · subst h2
      rw [if_pos rfl, List.append_assoc, gl_app_ge (Nat.le_refl _), Nat.sub_self]; rfl
    · rw [if_neg h2, List.append_assoc, gl_app_ge (by omega), gl_ge (l := bs) (by omega)]
      have e : i - bs.length = (i - bs.length - 1) + 1 := by omega
      rw [e]
      simp [gl, List.getElem?_replicate]
      split <;> rfl
def byX (x : UInt64) : Nat → UInt64
  | 0 => x
  | k + 1 => byX x k / 256
theorem byX_nat (x : UInt64) : ∀ k, (byX x k).toNat = x.toNat / 256 ^ k
  | 0 => by simp [byX]
  | k + 1 => by
    rw [byX, UInt64.toNat_div, byX_nat x k, Nat.pow_succ, ← Nat.div_div_eq_div_mul]; rfl
theorem by_cons (x : UInt64) (k : Nat) : [toU8 (((byX x k % 256).toNat : Nat) : Int)] ++ bytesL x k = bytesL x (k + 1) := by
  rw [bytesL_succ, List.singleton_append]
  congr 1
  apply UInt8.toNat_inj.1
  rw [bytf_0, toU8_nat, UInt8.toNat_ofNat', UInt64.toNat_mod, byX_nat]
  have e : (256 : UInt64).toNat = 256 := rfl
  rw [e]; omega
end Go.X
namespace Go.X
open Go
theorem St.drop2 {w0 w : World} {F : List Nat} {A X Y : List (Nat × Obj)} (h : St w0 F (A ++ (X ++ (Y ++ []))) w) : St w0 F (A ++ (X ++ [])) w :=
  h.sublist (List.Sublist.append (List.Sublist.refl A) (List.Sublist.append (List.Sublist.refl X) (List.nil_sublist _)))
end Go.X
namespace Go.X
open Go
theorem sbox_back (x : UInt8) : sbox (back x) = x := by
  obtain ⟨a, rfl⟩ := sbox_sur x
  rw [back_sbox]
theorem m2_xor (a b : UInt8) : m2 (a ^^^ b) = m2 a ^^^ m2 b := dbl_xor a b
theorem m3_xor (a b : UInt8) : m3 (a ^^^ b) = m3 a ^^^ m3 b := by simp only [m3, dbl_xor]; rw [x4]
theorem mc_xor (r : Nat) (a b c d a' b' c' d' : UInt8) : mc r (a ^^^ a') (b ^^^ b') (c ^^^ c') (d ^^^ d') = mc r a b c d ^^^ mc r a' b' c' d' := by
  simp only [mc]
  split
  · rw [m2_xor, m3_xor, x8]
  split
  · rw [m2_xor, m3_xor, x8]
  split
  · rw [m2_xor, m3_xor, x8]
  · rw [m2_xor, m3_xor, x8]
theorem imc_split (r : Nat) (a b c d : UInt8) : imc r a b c d = imc r a 0 0 0 ^^^ imc r 0 b 0 0 ^^^ imc r 0 0 c 0 ^^^ imc r 0 0 0 d := by
  have e9 : m9 0 = 0 := by decide
  have e11 : m11 0 = 0 := by decide
  have e13 : m13 0 = 0 := by decide
  have e14 : m14 0 = 0 := by decide
  simp only [imc]
  split
  · simp [e9, e11, e13, e14]
  split
  · simp [e9, e11, e13, e14]
  split
  · simp [e9, e11, e13, e14]
  · simp [e9, e11, e13, e14]
theorem two_a (a : UInt8) : m2 (m14 a) ^^^ m3 (m9 a) ^^^ m13 a ^^^ m11 a = a ∧ m14 a ^^^ m2 (m9 a) ^^^ m3 (m13 a) ^^^ m11 a = 0 ∧ m14 a ^^^ m9 a ^^^ m2 (m13 a) ^^^ m3 (m11 a) = 0 ∧ m3 (m14 a) ^^^ m9 a ^^^ m13 a ^^^ m2 (m11 a) = 0 := by
  revert a; refine all_u8 ?_; decide +kernel
theorem two_b (a : UInt8) : m2 (m11 a) ^^^ m3 (m14 a) ^^^ m9 a ^^^ m13 a = 0 ∧ m11 a ^^^ m2 (m14 a) ^^^ m3 (m9 a) ^^^ m13 a = a ∧ m11 a ^^^ m14 a ^^^ m2 (m9 a) ^^^ m3 (m13 a) = 0 ∧ m3 (m11 a) ^^^ m14 a ^^^ m9 a ^^^ m2 (m13 a) = 0 := by
  revert a; refine all_u8 ?_; decide +kernel
theorem two_c (a : UInt8) : m2 (m13 a) ^^^ m3 (m11 a) ^^^ m14 a ^^^ m9 a = 0 ∧ m13 a ^^^ m2 (m11 a) ^^^ m3 (m14 a) ^^^ m9 a = 0 ∧ m13 a ^^^ m11 a ^^^ m2 (m14 a) ^^^ m3 (m9 a) = a ∧ m3 (m13 a) ^^^ m11 a ^^^ m14 a ^^^ m2 (m9 a) = 0 := by
  revert a; refine all_u8 ?_; decide +kernel
theorem two_d (a : UInt8) : m2 (m9 a) ^^^ m3 (m13 a) ^^^ m11 a ^^^ m14 a = 0 ∧ m9 a ^^^ m2 (m13 a) ^^^ m3 (m11 a) ^^^ m14 a = 0 ∧ m9 a ^^^ m13 a ^^^ m2 (m11 a) ^^^ m3 (m14 a) = 0 ∧ m3 (m9 a) ^^^ m13 a ^^^ m11 a ^^^ m2 (m14 a) = a := by
  revert a; refine all_u8 ?_; decide +kernel
theorem mc_imc (r : Nat) (hr : r < 4) (a b c d : UInt8) : mc r (imc 0 a b c d) (imc 1 a b c d) (imc 2 a b c d) (imc 3 a b c d) = if r = 0 then a else if r = 1 then b else if r = 2 then c else d := by
  have e9 : m9 0 = 0 := by decide
  have e11 : m11 0 = 0 := by decide
  have e13 : m13 0 = 0 := by decide
  have e14 : m14 0 = 0 := by decide
  rw [imc_split 0, imc_split 1, imc_split 2, imc_split 3, mc_xor, mc_xor, mc_xor]
  have ha := two_a a; have hb := two_b b; have hc := two_c c; have hd := two_d d
  have h4 : r = 0 ∨ r = 1 ∨ r = 2 ∨ r = 3 := by omega
  rcases h4 with rfl | rfl | rfl | rfl <;> simp [imc, mc, e9, e11, e13, e14, ha, hb, hc, hd]
theorem dec_get (key b : V8 16) (c r : Nat) (hc : c < 4) (hr : r < 4) : gv (dec key b) (4 * c + r) = back (Td key b 9 ((c + r * 3) % 4) r) ^^^ gv (rk key 0) (4 * c + r) := by
  have e1 : (4 * c + r) / 4 = c := by omega
  have e2 : (4 * c + r) % 4 = r := by omega
  have h := gw_bkK key 0 c hc 11 (by omega) (by omega)
  have hb : bkB key 0 = rk key 0 := by simp [bkB, rk]
  rw [dec, runf, gv_ofFn _ _ (by omega)]
  simp only [lastf, e1, e2, pick]
  rw [show 40 + c = (10 - 0) * 4 + c by omega, h, byt_wds _ _ _ hc hr, hb]; rfl
theorem Se_Td (key x : V8 16) : ∀ n, n ≤ 9 → ∀ c r, c < 4 → r < 4 → Se key (dec key x) n c r = back (Td key x (9 - n) ((c + r * 3) % 4) r)
  | 0, _, c, r, hc, hr => by
    rw [Se_0 _ _ _ _ hc hr, dec_get _ _ _ _ hc hr, UInt8.xor_assoc, UInt8.xor_self, UInt8.xor_zero]
  | n + 1, hn, c, r, hc, hr => by
    have ih := Se_Td key x n (by omega)
    have em : 9 - n = (8 - n) + 1 := by omega
    have ez : 9 - (n + 1) = 8 - n := by omega
    have q0 : (c % 4 + 0 * 3) % 4 = c := by omega
    have q1 : ((c + 1) % 4 + 1 * 3) % 4 = c := by omega
    have q2 : ((c + 2) % 4 + 2 * 3) % 4 = c := by omega
    have q3 : ((c + 3) % 4 + 3 * 3) % 4 = c := by omega
    rw [Se_s _ _ _ _ _ (by omega) hc hr, ih _ 0 (by omega) (by omega), ih _ 1 (by omega) (by omega), ih _ 2 (by omega) (by omega), ih _ 3 (by omega) (by omega), sbox_back, sbox_back, sbox_back, sbox_back, q0, q1, q2, q3, em, ez]
    rw [Td_s _ _ _ _ _ (by omega) hc (by omega), Td_s _ _ _ _ 1 (by omega) hc (by omega), Td_s _ _ _ _ 2 (by omega) hc (by omega), Td_s _ _ _ _ 3 (by omega) hc (by omega), mc_xor, mc_imc _ hr, mc_imc _ hr]
    have ek : 9 - (8 - n) = n + 1 := by omega
    rw [ek]
    have h4 : r = 0 ∨ r = 1 ∨ r = 2 ∨ r = 3 := by omega
    rcases h4 with rfl | rfl | rfl | rfl
    · rw [if_pos rfl, if_pos rfl, ← UInt8.xor_assoc]
      simp only [Nat.add_zero, Nat.zero_mul]
      rw [UInt8.xor_self, UInt8.zero_xor]
    · rw [if_neg (by omega), if_pos rfl, if_neg (by omega), if_pos rfl, ← UInt8.xor_assoc, UInt8.xor_self, UInt8.zero_xor]
    · rw [if_neg (by omega), if_neg (by omega), if_pos rfl, if_neg (by omega), if_neg (by omega), if_pos rfl, ← UInt8.xor_assoc, UInt8.xor_self, UInt8.zero_xor]
    · rw [if_neg (by omega), if_neg (by omega), if_neg (by omega), if_neg (by omega), if_neg (by omega), if_neg (by omega), ← UInt8.xor_assoc, UInt8.xor_self, UInt8.zero_xor]
theorem enc_dec (key x : V8 16) : enc key (dec key x) = x := by
  apply v_ext; intro i hi
  have ei : 4 * (i / 4) + i % 4 = i := by omega
  have hc : i / 4 < 4 := by omega
  have hr : i % 4 < 4 := by omega
  have es : ((i / 4 + i % 4) % 4 + i % 4 * 3) % 4 = i / 4 := by omega
  have h : gv (enc key (dec key x)) (4 * (i / 4) + i % 4) = gv x (4 * (i / 4) + i % 4) := by
    rw [enc_get _ _ _ _ hc hr, Se_Td _ _ 9 (by omega) _ _ (by omega) hr, sbox_back, es, Nat.sub_self, Td_0 _ _ _ _ hc hr, UInt8.xor_assoc, UInt8.xor_self, UInt8.xor_zero]
  rw [ei] at h; exact h
theorem blk_deT (key : V8 16) (nonce : V8 12) (bs : List UInt8) (k m : Nat) (h : k < m) (y : List UInt8) : blk (deT key nonce bs m ++ y) k = deB key nonce bs k := by
  induction m generalizing y with
  | zero => omega
  | succ m ih =>
    by_cases e : k = m
    · subst e; rw [deT]; exact blk_app _ _ _ _ (deT_len ..)
    · rw [deT, List.append_assoc]; exact ih (by omega) _
theorem crB_deT (key : V8 16) (nonce : V8 12) (bs : List UInt8) (k m : Nat) (h : k < m) (y : List UInt8) : crB key nonce (deT key nonce bs m ++ y) k = blk bs k := by
  rw [crB, blk_deT _ _ _ _ _ h, deB, xorV_cancel, enc_dec, xorV_cancel2]
theorem crT_deT (key : V8 16) (nonce : V8 12) (bs : List UInt8) (m : Nat) (y : List UInt8) (hm : m * 16 ≤ bs.length) : ∀ k, k ≤ m → crT key nonce (deT key nonce bs m ++ y) k = bs.take (k * 16)
  | 0, _ => by simp [crT]
  | k + 1, hk => by
    rw [crT, crT_deT key nonce bs m y hm k (by omega), crB_deT _ _ _ _ _ (by omega), blk_list _ _ (by omega)]
    have e : (k + 1) * 16 = k * 16 + 16 := by omega
    rw [e, List.take_add]
theorem crC_deT (key : V8 16) (nonce : V8 12) (bs : List UInt8) (m : Nat) (y : List UInt8) : ∀ k, k ≤ m → crC (deT key nonce bs m ++ y) k = deC key nonce bs k
  | 0, _ => rfl
  | k + 1, hk => by rw [deC, crC, crC_deT key nonce bs m y k (by omega), blk_deT _ _ _ _ _ (by omega)]
theorem resL_decT (key : V8 16) (nonce : V8 12) (bs : List UInt8) (h : ¬ (resL bs).length = 0) : resL (decT key nonce bs) = resP key nonce bs := by
  rw [resL, decT_len, decT, if_neg h]; exact List.drop_left' (deT_len ..)
theorem back_rest (r : List UInt8) (p : V8 16) (h : r.length < 16) : (xorV (padV (xorb r p.toList)) p).toList.take (xorb r p.toList).length = r := by
  have hx : (xorb r p.toList).length = r.length := by rw [xorb_len]; simp; omega
  apply l_ext
  · simp [hx]; omega
  · intro i hi
    simp [hx] at hi
    have hi2 : i < r.length := by omega
    rw [hx, gl_take hi2, gl_toList, xorV_get _ _ _ (by omega), padV_get _ _ (by omega) (by omega), gl_xorb _ _ _ hi2 (by simp; omega), gl_toList, UInt8.xor_assoc, UInt8.xor_self, UInt8.xor_zero]
theorem cry_dec (key : V8 16) (nonce : V8 12) (bs : List UInt8) : cryT key nonce (decT key nonce bs) = bs ∧ cryC (decT key nonce bs) = decC key nonce bs := by
  have hl := decT_len key nonce bs
  have h1 := resL_len bs
  have h2 : (resL (decT key nonce bs)).length = bs.length % 16 := by rw [resL_len, hl]
  by_cases h : (resL bs).length = 0
  · have e : decT key nonce bs = deT key nonce bs (bs.length / 16) ++ [] := by rw [decT, if_pos h, List.append_nil]
    rw [cryT, cryC, decC, if_pos (by omega), if_pos (by omega), if_pos h, hl, e]
    refine ⟨?_, crC_deT _ _ _ _ _ _ (Nat.le_refl _)⟩
    rw [crT_deT _ _ _ _ _ (by omega) _ (Nat.le_refl _), resL_0 h]
  · have er := resL_decT key nonce bs h
    have e : decT key nonce bs = deT key nonce bs (bs.length / 16) ++ resP key nonce bs := by rw [decT, if_neg h]
    rw [cryT, cryC, decC, if_neg (by omega), if_neg (by omega), if_neg h, er, hl, e, crC_deT _ _ _ _ _ _ (Nat.le_refl _), crT_deT _ _ _ _ _ (by omega) _ (Nat.le_refl _)]
    refine ⟨?_, rfl⟩
    have hb := back_rest (resL bs) (enc key (lasO key nonce bs.length)) (by omega)
    rw [resP, hb, resL]; exact List.take_append_drop _ _
theorem orl_0 : ∀ (l : List UInt8), orl l = 0 → ∀ x ∈ l, x = 0 := by
  have key : ∀ (l : List UInt8) (o : UInt8), l.foldl (· ||| ·) o = 0 → o = 0 ∧ ∀ x ∈ l, x = 0 := by
    intro l
    induction l with
    | nil => intro o h; exact ⟨h, fun x hx => by cases hx⟩
    | cons y r ih =>
      intro o h
      rw [List.foldl_cons] at h
      obtain ⟨h1, h2⟩ := ih _ h
      have h3 : o = 0 ∧ y = 0 := by
        have := congrArg UInt8.toNat h1
        rw [UInt8.toNat_or] at this
        have h0 : (0 : UInt8).toNat = 0 := rfl
        rw [h0, Nat.or_eq_zero_iff] at this
        exact ⟨UInt8.toNat_inj.1 this.1, UInt8.toNat_inj.1 this.2⟩
      refine ⟨h3.1, fun x hx => ?_⟩
      rcases List.mem_cons.1 hx with rfl | hx
      · exact h3.2
      · exact h2 x hx
  exact fun l h => (key l 0 h).2
theorem eqB_iff (a b : List UInt8) : eqB a b = decide (a = b) := by
  by_cases h : a = b
  · subst h; rw [eqB_self]; simp
  · rw [decide_eq_false h, eqB]
    by_cases h0 : orl (xorb a b) = 0
    · rw [if_pos h0]
      refine decide_eq_false fun hl => h ?_
      refine l_ext hl fun i hi => ?_
      have hz := orl_0 _ h0
      have hg : gl (xorb a b) i = 0 := by
        have hlt : i < (xorb a b).length := by rw [xorb_len]; omega
        have : gl (xorb a b) i = (xorb a b)[i] := by simp [gl, hlt]
        rw [this]; exact hz _ (List.getElem_mem hlt)
      rw [gl_xorb _ _ _ hi (by omega)] at hg
      exact UInt8.xor_eq_zero_iff.1 hg
    · rw [if_neg h0]
def opnR (key : V8 16) (nonce : V8 12) (data bs : List UInt8) : Nat :=
  if bs.length < 16 then 1 else if sealV key nonce data (decT key nonce (bs.take (bs.length - 16))) = bs then 0 else 3
theorem opnR_eq (key : V8 16) (nonce : V8 12) (data bs : List UInt8) : opnR key nonce data bs = opnE key nonce data bs := by
  rw [opnR, opnE]
  by_cases h : bs.length < 16
  · rw [if_pos h, if_pos h]
  · rw [if_neg h, if_neg h, eqB_iff]
    have hc := cry_dec key nonce (bs.take (bs.length - 16))
    have hl : (bs.take (bs.length - 16)).length = bs.length - 16 := by simp
    have e : sealV key nonce data (decT key nonce (bs.take (bs.length - 16))) = bs.take (bs.length - 16) ++ (tagV key (decC key nonce (bs.take (bs.length - 16))) (cryO key nonce (bs.length - 16)) data).toList := by
      rw [sealV, hc.1, hc.2, decT_len, hl]
    rw [e]
    have hs : bs = bs.take (bs.length - 16) ++ bs.drop (bs.length - 16) := (List.take_append_drop _ _).symm
    have : (bs.take (bs.length - 16) ++ (tagV key (decC key nonce (bs.take (bs.length - 16))) (cryO key nonce (bs.length - 16)) data).toList = bs) = ((tagV key (decC key nonce (bs.take (bs.length - 16))) (cryO key nonce (bs.length - 16)) data).toList = bs.drop (bs.length - 16)) := by
      apply propext
      constructor
      · intro h2
        have h3 := congrArg (List.drop (bs.length - 16)) h2
        rw [List.drop_left' hl] at h3; exact h3
      · intro h2; rw [h2]; exact hs.symm
    by_cases h2 : (tagV key (decC key nonce (bs.take (bs.length - 16))) (cryO key nonce (bs.length - 16)) data).toList = bs.drop (bs.length - 16)
    · rw [if_pos (this.mpr h2), if_pos (by simpa using h2)]
    · rw [if_neg (fun h3 => h2 (this.mp h3)), if_neg (by simpa using h2)]
end Go.X
namespace Go.X
open Go
theorem xorV_zero (a : V8 16) : xorV a (Vector.replicate 16 0) = a := by
  apply v_ext; intro i hi
  rw [xorV_get _ _ _ hi, gv_rep, UInt8.xor_zero]
def topS (nonce : V8 12) : Nat → V8 16
  | 0 => (Vector.replicate 16 0 : V8 16).setIfInBounds 3 1
  | k + 1 => (topS nonce k).setIfInBounds (4 + k) (gv nonce k)
theorem topS_get (nonce : V8 12) : ∀ k, k ≤ 12 → ∀ i, i < 16 → gv (topS nonce k) i = if 4 ≤ i ∧ i < 4 + k then gv nonce (i - 4) else if i = 3 then 1 else 0
  | 0, _, i, hi => by
    have hz : ¬ (4 ≤ i ∧ i < 4 + 0) := by omega
    rw [topS, gv_setE _ _ _ _ hi, gv_rep, if_neg hz]
    by_cases h : 3 = i
    · rw [if_pos h, if_pos h.symm]
    · rw [if_neg h, if_neg (fun e => h e.symm)]
  | k + 1, hk, i, hi => by
    rw [topS, gv_setE _ _ _ _ hi, topS_get nonce k (by omega) i hi]
    by_cases h : 4 + k = i
    · subst h
      have h3 : 4 ≤ 4 + k ∧ 4 + k < 4 + (k + 1) := by omega
      rw [if_pos rfl, if_pos h3]; exact congrArg (gv _) (by omega)
    · rw [if_neg h]
      by_cases h2 : 4 ≤ i ∧ i < 4 + k
      · have h3 : 4 ≤ i ∧ i < 4 + (k + 1) := by omega
        rw [if_pos h2, if_pos h3]
      · have h3 : ¬ (4 ≤ i ∧ i < 4 + (k + 1)) := by omega
        rw [if_neg h2, if_neg h3]
theorem topS_whole (nonce : V8 12) : topS nonce 12 = wholeV nonce := by
  apply v_ext; intro i hi
  rw [topS_get nonce 12 (by omega) i hi, wholeV, putL, gv_ofFn _ _ hi]
  simp only [Vector.length_toList]
  by_cases h : 4 ≤ i ∧ i < 4 + 12
  · rw [if_pos h, if_pos h, gl_toList]
  · rw [if_neg h, if_neg h, gv_setE _ _ _ _ hi, gv_rep]
    by_cases h3 : i = 3
    · rw [if_pos h3, if_pos h3.symm]
    · rw [if_neg h3, if_neg (fun e => h3 e.symm)]
theorem low6 (a : UInt8) : a - a % 64 = a &&& ~~~63 := by revert a; refine all_u8 ?_; decide +kernel
theorem top_eq (nonce : V8 12) : (topS nonce 12).setIfInBounds 15 (gv (topS nonce 12) 15 - gv (topS nonce 12) 15 % 64) = topB nonce := by rw [topS_whole, low6]; rfl
theorem bot_eq (nonce : V8 12) : (gv nonce 11).toNat % 64 = botN nonce := by
  have h : ∀ a : UInt8, a.toNat % 64 = (a &&& 63).toNat := by intro a; revert a; refine all_u8 ?_; decide +kernel
  rw [h]; rfl
def strf (b : V8 16) (i : Nat) : UInt8 := if i < 16 then gv b i else gv b (i - 16) ^^^ gv b (i - 15)
theorem strL_get (b : V8 16) : ∀ k, k ≤ 8 → ∀ i, i < 24 → gv (strL b k) i = if i < 16 then gv b i else if i < 16 + k then gv b (i - 16) ^^^ gv b (i - 15) else 0
  | 0, _, i, hi => by
    rw [strL, putL, gv_ofFn _ _ hi]
    simp only [Vector.length_toList, gv_rep, gl_toList]
    by_cases h : i < 16
    · rw [if_pos (by omega), if_pos h]; rfl
    · rw [if_neg (by omega), if_neg h, if_neg (by omega)]
  | k + 1, hk, i, hi => by
    rw [strL, gv_setE _ _ _ _ hi, strL_get b k (by omega) i hi]
    by_cases h : 16 + k = i
    · subst h
      rw [if_pos rfl, if_neg (by omega), if_pos (by omega)]
      have e1 : 16 + k - 16 = k := by omega
      have e2 : 16 + k - 15 = k + 1 := by omega
      rw [e1, e2]
    · rw [if_neg h]
      by_cases h1 : i < 16
      · rw [if_pos h1, if_pos h1]
      · rw [if_neg h1, if_neg h1]
        by_cases h2 : i < 16 + k
        · rw [if_pos h2, if_pos (by omega)]
        · rw [if_neg h2, if_neg (by omega)]
theorem str_eq (b : V8 16) : (Vector.ofFn fun i : Fin 24 => strf b i.val) = strL b 8 := by
  apply v_ext; intro i hi
  rw [gv_ofFn _ _ hi, strL_get b 8 (by omega) i hi, strf]
  by_cases h : i < 16
  · simp only [if_pos h]
  · simp only [if_neg h]; rw [if_pos (by omega)]
def tlL (bs : List UInt8) (o : Nat) (p : V8 16) : Nat → List UInt8
  | 0 => []
  | m + 1 => tlL bs o p m ++ [gl bs (o + m) ^^^ gv p (o + m - o)]
@[simp] theorem tlL_len (bs : List UInt8) (o : Nat) (p : V8 16) (m : Nat) : (tlL bs o p m).length = m := by
  induction m with
  | zero => rfl
  | succ m ih => simp [tlL, ih]
theorem tlL_get (bs : List UInt8) (o : Nat) (p : V8 16) : ∀ m i, i < m → gl (tlL bs o p m) i = gl bs (o + i) ^^^ gv p i
  | 0, i, h => by omega
  | m + 1, i, h => by
    rw [tlL]
    by_cases e : i < m
    · rw [gl_app_lt (by simpa using e)]; exact tlL_get bs o p m i e
    · have : i = m := by omega
      subst this
      have e2 : o + i - o = i := by omega
      rw [gl_app_ge (by simp)]; simp [gl, e2]
theorem tl_pad (bs : List UInt8) (o : Nat) (p : V8 16) (h : bs.length - o < 16) : tlL bs o p (bs.length - o) = (xorV (padV (bs.drop o)) p).toList.take (bs.drop o).length := by
  apply l_ext
  · simp; omega
  · intro i hi
    simp at hi
    rw [tlL_get _ _ _ _ _ (by omega), gl_take (by simp; omega), gl_toList, xorV_get _ _ _ (by omega), padV_get _ _ (by simp; omega) (by simp; omega), gl_drop]
theorem tl_xorb (bs : List UInt8) (o : Nat) (p : V8 16) (h : bs.length - o < 16) : tlL bs o p (bs.length - o) = xorb (bs.drop o) p.toList := by
  apply l_ext
  · rw [xorb_len]; simp; omega
  · intro i hi
    simp at hi
    rw [tlL_get _ _ _ _ _ (by omega), gl_xorb _ _ _ (by simp; omega) (by simp; omega), gl_drop, gl_toList]
section
variable {key : V8 16} {nonce : V8 12} {bs : List UInt8} {n : Nat}
theorem cryT_0 (hn : bs.length = n) (h : ¬ 0 < n % 16) : crT key nonce bs (n / 16) = cryT key nonce bs := by rw [cryT, if_pos (by rw [resL_len]; omega), hn]
theorem cryC_0 (hn : bs.length = n) (h : ¬ 0 < n % 16) : crC bs (n / 16) = cryC bs := by rw [cryC, if_pos (by rw [resL_len]; omega), hn]
theorem cryO_0 (h : ¬ 0 < n % 16) : crO key nonce (n / 16) = cryO key nonce n := by rw [cryO, if_pos (by omega)]
theorem cryT_1 (hn : bs.length = n) (h : 0 < n % 16) : crT key nonce bs (n / 16) ++ tlL bs (16 * (n / 16)) (enc key (xorV (crO key nonce (n / 16)) (star key))) (n - 16 * (n / 16)) = cryT key nonce bs := by
  have e : 16 * (n / 16) = n / 16 * 16 := Nat.mul_comm _ _
  rw [cryT, if_neg (by rw [resL_len]; omega), e]
  subst hn
  rw [tl_pad _ _ _ (by omega)]; rfl
theorem cryC_1 (hn : bs.length = n) (h : 0 < n % 16) : xorV (crC bs (n / 16)) (padV (bs.drop (16 * (n / 16)))) = cryC bs := by
  rw [cryC, if_neg (by rw [resL_len]; omega), resL, hn, Nat.mul_comm]
theorem cryO_1 (h : 0 < n % 16) : xorV (crO key nonce (n / 16)) (star key) = cryO key nonce n := by rw [cryO, if_neg (by omega)]; rfl
theorem decT_1 (hn : bs.length = n) : deT key nonce bs (n / 16) ++ tlL bs (16 * (n / 16)) (enc key (xorV (crO key nonce (n / 16)) (star key))) (n - 16 * (n / 16)) = decT key nonce bs := by
  have e : 16 * (n / 16) = n / 16 * 16 := Nat.mul_comm _ _
  subst hn
  rw [e, tl_xorb _ _ _ (by omega), decT]
  by_cases h : (resL bs).length = 0
  · rw [if_pos h]
    have h2 : bs.drop (bs.length / 16 * 16) = [] := List.eq_nil_of_length_eq_zero h
    rw [h2]; simp [xorb]
  · rw [if_neg h]; rfl
theorem hash_0 (hn : bs.length = n) (h : ¬ 0 < n % 16) : (sumL key bs (n / 16)).1 = hashV key bs := by
  have h2 : (bs.drop (n / 16 * 16)).length = 0 := by simp; omega
  rw [hashV, hn, restB, if_pos h2, xorV_zero]
theorem hash_1 (hn : bs.length = n) (h : 0 < n % 16) : xorV (sumL key bs (n / 16)).1 (enc key (xorV (padV (bs.drop (16 * (n / 16)))) (xorV (sumL key bs (n / 16)).2 (star key)))) = hashV key bs := by
  have h2 : ¬ (bs.drop (n / 16 * 16)).length = 0 := by simp; omega
  rw [hashV, hn, restB, if_neg h2, Nat.mul_comm]
theorem tag_eq (ck off : V8 16) (data : List UInt8) : xorV (enc key (xorV (xorV ck off) (dblB (star key)))) (hashV key data) = tagV key ck off data := by
  have e : xorV (xorV ck off) (dblB (star key)) = xorV ck (xorV off (lastL key 0)) := by
    apply v_ext; intro i hi
    rw [xorV_get _ _ _ hi, xorV_get _ _ _ hi, xorV_get _ _ _ hi, xorV_get _ _ _ hi, UInt8.xor_assoc]; rfl
  rw [e]; rfl
end
end Go.X
namespace Go.X
open Go
section
variable {P : Program} {ops : Array Oper} {n : Nat} {l : Regs} {w : World} {K : Regs → World → Prop} {d T S : Nat} {ps : String} {af : Array Edge} {g : Option (Nat × Bool)} {x y : Operand}
theorem neb {R : Nat} {p q : Bool} (hu : P.underlying S = some .bool) (hg : gval ops l ⟨some d, .binOp .neq S x y R, T, ps, af, g⟩ = some true) (hd : Nat.blt d n = true) (hx : ev l x = some (.bool p)) (hy : ev l y = some (.bool q)) (k : K ((d, .bool (p != q)) :: l) w) :
    WO P ops n ⟨some d, .binOp .neq S x y R, T, ps, af, g⟩ l w K :=
  WO.val hg hd (fun a ha => by
    simp only [execOp, ha.ev hx, ha.ev hy, Sem.run_bind]
    simp [run_neq_bool, eqGuard_at_bool, hu, bne]) k
end
section
variable {key : V8 16} {nonce : V8 12} {data bs : List UInt8} {n : Nat}
theorem opnR_s (hn : bs.length = n) (h : n < 16) : opnE key nonce data bs = 1 := by rw [opnE, if_pos (by omega)]
theorem opnR_f (hn : bs.length = n) (h : ¬ n < 16) (he : ¬ sealV key nonce data (decT key nonce (bs.take (n - 16))) = bs) : opnE key nonce data bs = 3 := by
  subst hn; rw [← opnR_eq, opnR, if_neg h, if_neg he]
theorem opnR_t (hn : bs.length = n) (h : ¬ n < 16) (he : sealV key nonce data (decT key nonce (bs.take (n - 16))) = bs) : opnE key nonce data bs = 0 := by
  subst hn; rw [← opnR_eq, opnR, if_neg h, if_pos he]
end
theorem hd_1 (s : UInt64) (hs : s.toNat ≤ 9223372036854775807) : s + 9223372036854775808 = hdW 1 s := by
  apply UInt64.toNat_inj.1
  have e : (9223372036854775808 : UInt64).toNat = 9223372036854775808 := rfl
  rw [hdW_nat 1 s (by omega) hs, UInt64.toNat_add, e]; omega
theorem hd_0 (s : UInt64) (hs : s.toNat ≤ 9223372036854775807) : s = hdW 0 s := by
  apply UInt64.toNat_inj.1
  rw [hdW_nat 0 s (by omega) hs]; omega
def mkS (h : V8 8) : Nat → V8 12
  | 0 => Vector.replicate 12 0
  | k + 1 => (mkS h k).setIfInBounds (4 + k) (gv h k)
theorem mkS_get (h : V8 8) : ∀ k, k ≤ 8 → ∀ i, i < 12 → gv (mkS h k) i = if 4 ≤ i ∧ i < 4 + k then gv h (i - 4) else 0
  | 0, _, i, hi => by
    have hz : ¬ (4 ≤ i ∧ i < 4 + 0) := by omega
    rw [mkS, gv_rep, if_neg hz]
  | k + 1, hk, i, hi => by
    rw [mkS, gv_setE _ _ _ _ hi, mkS_get h k (by omega) i hi]
    by_cases h1 : 4 + k = i
    · subst h1
      have h3 : 4 ≤ 4 + k ∧ 4 + k < 4 + (k + 1) := by omega
      rw [if_pos rfl, if_pos h3]; exact congrArg (gv _) (by omega)
    · rw [if_neg h1]
      by_cases h2 : 4 ≤ i ∧ i < 4 + k
      · have h3 : 4 ≤ i ∧ i < 4 + (k + 1) := by omega
        rw [if_pos h2, if_pos h3]
      · have h3 : ¬ (4 ≤ i ∧ i < 4 + (k + 1)) := by omega
        rw [if_neg h2, if_neg h3]
theorem mk_eq (h : V8 8) : mkS h 8 = nonceV h := by
  apply v_ext; intro i hi
  rw [mkS_get h 8 (by omega) i hi, nonceV, gv_ofl _ _ _ hi]
  by_cases h4 : i < 4
  · have hz : ¬ (4 ≤ i ∧ i < 4 + 8) := by omega
    rw [if_neg hz, gl_app_lt (by simpa using h4), gl_toList, gv_rep]
  · have hz : 4 ≤ i ∧ i < 4 + 8 := by omega
    rw [if_pos hz, gl_app_ge (by simp; omega), gl_toList]; simp
theorem valN_lt (l : List UInt8) : valN l < 256 ^ l.length := by
  induction l with
  | nil => simp [valN]
  | cons c l ih =>
    have hc := c.toNat_lt
    have e : valN (c :: l) = c.toNat * 256 ^ l.length + valN l := by
      show List.foldl _ (0 * 256 + c.toNat) l = _
      rw [valN_fold, Nat.zero_mul, Nat.zero_add]
    rw [e, List.length_cons, Nat.pow_succ]
    have : c.toNat * 256 ^ l.length ≤ 255 * 256 ^ l.length := Nat.mul_le_mul_right _ (by omega)
    omega
theorem valN_inj : ∀ (l m : List UInt8), l.length = m.length → valN l = valN m → l = m
  | [], [], _, _ => rfl
  | [], _ :: _, h, _ => by simp at h
  | _ :: _, [], h, _ => by simp at h
  | c :: l, d :: m, h, hv => by
    have hl : l.length = m.length := by simpa using h
    have e : ∀ (c : UInt8) (l : List UInt8), valN (c :: l) = c.toNat * 256 ^ l.length + valN l := by
      intro c l
      show List.foldl _ (0 * 256 + c.toNat) l = _
      rw [valN_fold, Nat.zero_mul, Nat.zero_add]
    rw [e, e, hl] at hv
    have h1 := valN_lt l; have h2 := valN_lt m
    rw [hl] at h1
    generalize 256 ^ m.length = q at hv h1 h2
    have hcd : c.toNat = d.toNat := by
      have a1 : (c.toNat * q + valN l) / q = c.toNat := by rw [Nat.mul_comm, Nat.mul_add_div (by omega), Nat.div_eq_of_lt h1, Nat.add_zero]
      have a2 : (d.toNat * q + valN m) / q = d.toNat := by rw [Nat.mul_comm, Nat.mul_add_div (by omega), Nat.div_eq_of_lt h2, Nat.add_zero]
      rw [← a1, hv, a2]
    have hlm : valN l = valN m := by rw [hcd] at hv; omega
    rw [UInt8.toNat_inj.1 hcd, valN_inj l m hl hlm]
theorem bytes_num (x : UInt64) (l : List UInt8) (n : Nat) (hl : l.length = n) (h : x.toNat = valN l) : bytesL x n = l := by
  refine valN_inj _ _ (by simp [hl]) ?_
  have := valN_lt l
  rw [bytesL_val, h, ← hl]; exact Nat.mod_eq_of_lt this
theorem headS_le (bs : List UInt8) : (headS bs).toNat ≤ 9223372036854775807 := by rw [headS, and63]; omega
theorem headD_le (bs : List UInt8) : headD bs ≤ 1 := by have := shr63_lt (number (bs.take 8)); rw [headD]; omega
theorem head_back (bs : List UInt8) (h : 8 ≤ bs.length) : (headV (headD bs) (headS bs)).toList = bs.take 8 := by
  have h8 : (bs.take 8).length ≤ 8 := by simp; omega
  rw [headV_list]
  refine bytes_num _ _ 8 (by simp; omega) ?_
  rw [hdW_nat _ _ (headD_le bs) (headS_le bs), headD, headS, and63, shr63, ← num_nat _ h8, ← number_8 _ h8]
  generalize (number (bs.take 8)).toNat = x
  omega
theorem head_ofl (bs : List UInt8) (h : 8 ≤ bs.length) : headV (headD bs) (headS bs) = ofl 8 bs := by
  have h1 := ofl_head (headD bs) (headS bs) (bs.drop 8)
  rw [head_back bs h, List.take_append_drop] at h1
  exact h1.symm
theorem head_ofl2 (bs : List UInt8) (h : 8 ≤ bs.length) : headV (headD2 bs) (headS2 bs) = ofl 8 bs := by rw [headD_2, headS_2]; exact head_ofl bs h
theorem tm_bytes (t e : UInt16) : [toU8 (((t / 256).toNat : Nat) : Int), toU8 (((t % 256).toNat : Nat) : Int), toU8 (((e / 256).toNat : Nat) : Int), toU8 (((e % 256).toNat : Nat) : Int)] = bytesL (tmV t e) 4 := by
  have ht := t.toNat_lt; have he := e.toNat_lt
  have e256 : (256 : UInt16).toNat = 256 := rfl
  have hz : bytesL (tmV t e) 0 = [] := rfl
  rw [bytesL_succ, bytesL_succ, bytesL_succ, bytesL_succ, hz]
  have h := tm_nat t e
  congr 1
  · apply UInt8.toNat_inj.1; rw [bytf_0, toU8_nat, UInt8.toNat_ofNat', UInt16.toNat_div, e256, h]; omega
  congr 1
  · apply UInt8.toNat_inj.1; rw [bytf_0, toU8_nat, UInt8.toNat_ofNat', UInt16.toNat_mod, e256, h]; omega
  congr 1
  · apply UInt8.toNat_inj.1; rw [bytf_0, toU8_nat, UInt8.toNat_ofNat', UInt16.toNat_div, e256, h]; omega
  congr 1
  · apply UInt8.toNat_inj.1; rw [bytf_0, toU8_nat, UInt8.toNat_ofNat', UInt16.toNat_mod, e256, h]; omega
theorem valN_4 (a b c d : UInt8) : valN [a, b, c, d] = ((a.toNat * 256 + b.toNat) * 256 + c.toNat) * 256 + d.toNat := by simp [valN]
theorem four_l (l : List UInt8) (h : 4 ≤ l.length) : l.take 4 = [gl l 0, gl l 1, gl l 2, gl l 3] := by
  match l, h with
  | a :: b :: c :: d :: r, _ => rfl
theorem num4 (l : List UInt8) (h : 4 ≤ l.length) : (number (l.take 4)).toNat = (((gl l 0).toNat * 256 + (gl l 1).toNat) * 256 + (gl l 2).toNat) * 256 + (gl l 3).toNat := by
  rw [four_l l h, number_8 _ (by simp), num_nat _ (by simp), valN_4]
theorem u16_2 (a b : UInt8) : (toU16 ((a.toNat : Nat) : Int) * 256 + toU16 ((b.toNat : Nat) : Int)).toNat = a.toNat * 256 + b.toNat := by
  have ha := a.toNat_lt; have hb := b.toNat_lt
  have e256 : (256 : UInt16).toNat = 256 := rfl
  have e1 : ∀ x : UInt8, (toU16 ((x.toNat : Nat) : Int)).toNat = x.toNat := by
    intro x; have := x.toNat_lt; simp only [toU16, UInt16.toNat_ofNat']; omega
  rw [UInt16.toNat_add, UInt16.toNat_mul, e1, e1, e256]; omega
theorem tm_d1 (l : List UInt8) (h : 4 ≤ l.length) : toU16 ((gl l 0).toNat : Int) * 256 + toU16 ((gl l 1).toNat : Int) = toU16 ((shr64 (number (l.take 4)) 16).toNat : Int) := by
  have h4 := num4 l h
  have h0 := (gl l 0).toNat_lt; have h1 := (gl l 1).toNat_lt; have h2 := (gl l 2).toNat_lt; have h3 := (gl l 3).toNat_lt
  apply UInt16.toNat_inj.1
  rw [u16_2]
  simp only [toU16, shr64, UInt16.toNat_ofNat', UInt64.toNat_ofNat', h4]; omega
theorem tm_d2 (l : List UInt8) (h : 4 ≤ l.length) : toU16 ((gl l 2).toNat : Int) * 256 + toU16 ((gl l 3).toNat : Int) = toU16 ((number (l.take 4)).toNat : Int) := by
  have h4 := num4 l h
  have h0 := (gl l 0).toNat_lt; have h1 := (gl l 1).toNat_lt; have h2 := (gl l 2).toNat_lt; have h3 := (gl l 3).toNat_lt
  apply UInt16.toNat_inj.1
  rw [u16_2]
  simp only [toU16, UInt16.toNat_ofNat', h4]; omega
section
variable {key : V8 16} {bs : List UInt8} {n m c C : Nat} {a : Option Addr} {X : List (Nat × Obj)}
def DecI (key : V8 16) (bs : List UInt8) (v : Value) (X : List (Nat × Obj)) : Prop :=
  ∃ a n c, v = .tuple #[.agg #[I ((dcdD key bs : Nat) : Int), U64 (dcdS key bs), U16 (dcdT key bs), U16 (dcdM key bs), .slice a n c], I ((dcdE key bs : Nat) : Int)] ∧ (dcdP key bs).length = n ∧ n ≤ 1000000 ∧ n ≤ c ∧ Rd a (dcdP key bs) X
theorem decI_bad (h : dcdE key bs ≠ 0) {e : Nat} (he : dcdE key bs = e) : DecI key bs (.tuple #[.agg #[I 0, U64 0, U16 0, U16 0, .slice none 0 0], I (e : Int)]) [] :=
  ⟨none, 0, 0, by rw [dcdD, dcdS, dcdT, dcdM, if_neg h, if_neg h, if_neg h, if_neg h, he]; rfl, by rw [dcdP, if_neg h]; rfl, by omega, by omega, fun _ _ _ w _ _ => by rw [dcdP, if_neg h]; exact Cel.nil w none⟩
theorem decI_ok (h : dcdE key bs = 0) (hN : bs.length ≤ 1000000) (hm : (dcdX key bs).length = m) (h4 : 4 ≤ m) (hO : Own 1 a m c (c8 (dcdX key bs)) X) :
    DecI key bs (.tuple #[.agg #[I ((headD2 bs : Nat) : Int), U64 (headS2 bs), U16 (toU16 ((gl (dcdX key bs) 0).toNat : Int) * 256 + toU16 ((gl (dcdX key bs) 1).toNat : Int)), U16 (toU16 ((gl (dcdX key bs) 2).toNat : Int) * 256 + toU16 ((gl (dcdX key bs) 3).toNat : Int)), .slice (sla a 4 c) (m - 4) (c - 4)], I 0]) X :=
  ⟨_, _, _, by rw [tm_d1 _ (by omega), tm_d2 _ (by omega), headD_2, headS_2, dcdD, dcdS, dcdT, dcdM, if_pos h, if_pos h, if_pos h, if_pos h, h]; rfl, by rw [dcdP, if_pos h, List.length_drop, hm], by rw [dcdX_len] at hm; omega, by have := hO.le; omega,
    fun _ _ _ w hS hX => by rw [dcdP, if_pos h]; exact (hO.cel hS hX).drop8 (lo := 4) (cap := c) (by have := hO.le; omega)⟩
end
end Go.X
namespace Go.X
open Go
def cq (l : List UInt64) : List Value := l.map fun x => U64 x
def glq (l : List UInt64) (i : Nat) : UInt64 := l.getD i 0
theorem cq_len (l : List UInt64) : (cq l).length = l.length := by simp [cq]
theorem cq_get (l : List UInt64) (j : Nat) (h : j < l.length) : (cq l)[j]? = some (U64 (glq l j)) := by simp [cq, glq, h]
theorem cq_app (a b : List UInt64) : cq a ++ cq b = cq (a ++ b) := by simp [cq]
theorem cq_one (l : List UInt64) : ∀ u ∈ cq l, u.oneCell' = true := by
  intro u hu; simp only [cq, List.mem_map] at hu; obtain ⟨_, _, rfl⟩ := hu; rfl
theorem Cel.cq {w : World} {a : Option Addr} {l : List UInt64} (h : Cel w a (X.cq l)) {j : Nat} (hj : j < l.length) : w.cell? (adr a j) = some (U64 (glq l j)) := h.cell (cq_get l j hj)
theorem Cel.someq {w : World} {a : Option Addr} {l : List UInt64} (h : Cel w a (X.cq l)) {j : Nat} (hj : j < l.length) : a.isSome = true := (h j _ (cq_get l j hj)).1
theorem Own.lenq {l : List UInt64} {a : Option Addr} {n cap : Nat} {Y : List (Nat × Obj)} (h : Own 1 a n cap (cq l) Y) : l.length = n := by have := h.1; rw [cq_len] at this; omega
def ch (l : List UInt16) : List Value := l.map fun x => U16 x
def glh (l : List UInt16) (i : Nat) : UInt16 := l.getD i 0
theorem ch_len (l : List UInt16) : (ch l).length = l.length := by simp [ch]
theorem ch_get (l : List UInt16) (j : Nat) (h : j < l.length) : (ch l)[j]? = some (U16 (glh l j)) := by simp [ch, glh, h]
theorem ch_app (a b : List UInt16) : ch a ++ ch b = ch (a ++ b) := by simp [ch]
theorem ch_one (l : List UInt16) : ∀ u ∈ ch l, u.oneCell' = true := by
  intro u hu; simp only [ch, List.mem_map] at hu; obtain ⟨_, _, rfl⟩ := hu; rfl
theorem Cel.ch {w : World} {a : Option Addr} {l : List UInt16} (h : Cel w a (X.ch l)) {j : Nat} (hj : j < l.length) : w.cell? (adr a j) = some (U16 (glh l j)) := h.cell (ch_get l j hj)
theorem Cel.someh {w : World} {a : Option Addr} {l : List UInt16} (h : Cel w a (X.ch l)) {j : Nat} (hj : j < l.length) : a.isSome = true := (h j _ (ch_get l j hj)).1
theorem Own.lenh {l : List UInt16} {a : Option Addr} {n cap : Nat} {Y : List (Nat × Obj)} (h : Own 1 a n cap (ch l) Y) : l.length = n := by have := h.1; rw [ch_len] at this; omega
section
variable {P : Program} {ops : Array Oper} {n : Nat} {l : Regs} {w w0 w' : World} {K : Regs → World → Prop} {F : List Nat} {L A R X Y : List (Nat × Obj)}
variable {d T S : Nat} {ps : String} {af : Array Edge} {g : Option (Nat × Bool)} {x y : Operand} {v u : Value}
theorem srcq {tx e' : TypeId} (hk : P.underlying tx = some (.slice e')) {a : Option Addr} {bs : List UInt64} {m : Nat} (c : Nat) (h : Cel w a (cq bs)) (hm : bs.length = m) (h0 : a = none → m = 0) : Src P 1 tx (.slice a m c) m (cq bs) w :=
  srcv hk c h (by rw [cq_len]; omega) h0 (cq_one bs)
theorem ldxq {bs : List UInt64} {a : Option Addr} {j : Nat} (hT : Sc P S) (hg : gval ops l ⟨some d, .load S x, T, ps, af, g⟩ = some true) (hd : Nat.blt d n = true) (hx : ev l x = some (.pointer (some (adr a j)))) (hc : Cel w a (cq bs)) (hj : j < bs.length)
    (k : K ((d, U64 (glq bs j)) :: l) w) : WO P ops n ⟨some d, .load S x, T, ps, af, g⟩ l w K := ldc hT hg hd hx (hc.cq hj) k
theorem srch {tx e' : TypeId} (hk : P.underlying tx = some (.slice e')) {a : Option Addr} {bs : List UInt16} {m : Nat} (c : Nat) (h : Cel w a (ch bs)) (hm : bs.length = m) (h0 : a = none → m = 0) : Src P 1 tx (.slice a m c) m (ch bs) w :=
  srcv hk c h (by rw [ch_len]; omega) h0 (ch_one bs)
theorem ldxh {bs : List UInt16} {a : Option Addr} {j : Nat} (hT : Sc P S) (hg : gval ops l ⟨some d, .load S x, T, ps, af, g⟩ = some true) (hd : Nat.blt d n = true) (hx : ev l x = some (.pointer (some (adr a j)))) (hc : Cel w a (ch bs)) (hj : j < bs.length)
    (k : K ((d, U16 (glh bs j)) :: l) w) : WO P ops n ⟨some d, .load S x, T, ps, af, g⟩ l w K := ldc hT hg hd hx (hc.ch hj) k
end
section
variable {P : Program} {ops : Array Oper} {n : Nat} {l : Regs} {w w0 w' : World} {K : Regs → World → Prop}
variable {d T S : Nat} {ps : String} {af : Array Edge} {g : Option (Nat × Bool)} {x y : Operand}
theorem fin4 {fn : Func} {R : Ending → World → Prop} {r s t q : ResultVar} {v u x y : Value} (hr : fn.results = #[r, s, t, q]) (h1 : Res1 P l w r v) (h2 : Res1 P l w s u) (h3 : Res1 P l w t x) (h4 : Res1 P l w q y) (hR : R (.returned (.tuple #[v, u, x, y])) w) (hd : dfs l = [] := by rfl) :
    WQ n (bodyPost P fn R) .ret l w := fun a hi => by
  refine ⟨hi.defers.trans hd, .tuple #[v, u, x, y], ?_, hR⟩
  have e1 := res_run hi h1
  have e2 := res_run hi h2
  have e3 := res_run hi h3
  have e4 := res_run hi h4
  simp [results_eq, hr, e1, e2, e3, e4]
theorem toU16_nat (v : UInt16) : toU16 (v.toNat : Int) = v := by
  apply UInt16.toNat_inj.1
  have := v.toNat_lt
  simp only [toU16, UInt16.toNat_ofNat']; omega
theorem cvh {v : UInt16} {D : Nat} (hu : P.underlying D = some (.int .u16)) (hs : ∃ dd, P.underlying S = some dd) (hg : gval ops l ⟨some d, .convert S D x, T, ps, af, g⟩ = some true) (hd : Nat.blt d n = true) (hx : ev l x = some (I (v.toNat : Int))) (k : K ((d, U16 v) :: l) w) :
    WO P ops n ⟨some d, .convert S D x, T, ps, af, g⟩ l w K := cvu16 hu hs hg hd hx (by rw [toU16_nat]; exact k)
end
section
variable {A B t A2 B2 : Array Value} {a b m : Nat}
theorem cat_x2 (ha : A.size = a) (hb : B.size = b) (hm : m = a + b) : (A ++ (B ++ t)).extract 0 (0 + m) = A ++ B := by
  subst ha hb hm
  apply arr_ext; intro i
  rw [ext_get, Array.getElem?_append, Array.getElem?_append, Array.getElem?_append]
  simp only [Nat.zero_add]
  split <;> split <;> (try split) <;> first | rfl | omega | (simp; omega)
theorem cat_p2 (ha : A.size = a) (hb : B.size = b) (ha2 : A2.size = a) (hb2 : B2.size = b) : putAt (A ++ (B ++ t)) 0 (A2 ++ B2) = A2 ++ (B2 ++ t) := by
  apply arr_ext; intro i
  rw [putAt_get _ _ _ _ (by simp; omega)]
  simp only [Array.getElem?_append, Array.size_append, Nat.zero_le, true_and, Nat.zero_add, Nat.sub_zero]
  repeat' split
  all_goals first | rfl | omega | (congr 1; omega) | (simp; omega)
end
end Go.X
namespace Go.X
open Go
structure RS where
  key : V8 16
  dir : Nat
  fs : UInt64
  gv : UInt64
  acc : List UInt64
  rf : Nat
  kp : Option (UInt16 × UInt64)
  smp : List UInt16
  ad : List UInt8
  mv : Nat
  cz : Bool
def kpS (kp : Option (UInt16 × UInt64)) : Nat := match kp with | none => 0 | some (s, _) => s.toNat
def kpT (kp : Option (UInt16 × UInt64)) : UInt64 := match kp with | none => 0 | some (_, t) => t
def refC (m : RS) (a1 : Option Addr) (n1 c1 : Nat) (a2 : Option Addr) (n2 c2 : Nat) : Array Value :=
  BV (expand m.key) ++ (BV sboxV ++ #[I ((m.dir : Nat) : Int), U64 m.fs, U64 m.gv, .bool false, .slice a1 n1 c1, I ((m.rf : Nat) : Int), .bool m.kp.isSome, I ((kpS m.kp : Nat) : Int), U64 (kpT m.kp), .slice a2 n2 c2, Str m.ad, I ((m.mv : Nat) : Int), .bool m.cz])
def refN (key : V8 16) (d : Nat) (ad : List UInt8) (nx : UInt64) : RS :=
  { key := key, dir := d, fs := mnU nx 9223372036854775807, gv := 0, acc := [], rf := 0, kp := none, smp := [], ad := adA ad, mv := 0, cz := false }
def rpkE (m : RS) : Nat := if m.fs + m.gv = 9223372036854775807 then 6 else 0
def rsnE (m : RS) (n : Nat) : Nat := if m.cz = true then 7 else if 1200 < n then 2 else if m.ad = [] then 12 else rpkE m
def rsnM (m : RS) (n : Nat) : RS := if rsnE m n = 0 then { m with gv := m.gv + 1, kp := none } else m
def rsnB (m : RS) (bs : List UInt8) (x : UInt64) : List UInt8 := if rsnE m bs.length = 0 then encP m.key (m.dir : Int) (m.fs + m.gv) (ofT x) (replyV m.kp x) bs else []
def rsnA (m : RS) (n : Nat) : List UInt8 := if rsnE m n = 0 then m.ad else []
def rfrsh (l : List UInt64) (sq : UInt64) : Bool := decide ((∀ y ∈ l, y.toNat < sq.toNat) ∧ sq.toNat < 9223372036854775808)
def rrcE (m : RS) (bs : List UInt8) : Nat := if m.cz = true then 7 else if dcdE m.key bs ≠ 0 then dcdE m.key bs else if dcdD m.key bs = m.dir then 8 else if rfrsh m.acc (dcdS m.key bs) = false then 9 else 0
def rrcM (m : RS) (bs fr : List UInt8) (x : UInt64) : RS :=
  if m.cz = true then m else if rrcE m bs = 0 then
    { m with acc := m.acc ++ [dcdS m.key bs], kp := some (dcdT m.key bs, x), smp := if dcdM m.key bs = 65535 then m.smp else m.smp ++ [smpV (ofT x) (dcdM m.key bs)], ad := if m.dir = 1 ∧ okA fr = true then fr else m.ad, mv := if m.dir = 1 ∧ okA fr = true ∧ fr ≠ m.ad then m.mv + 1 else m.mv }
  else { m with rf := m.rf + 1 }
def rrcP (m : RS) (bs : List UInt8) : List UInt8 := if rrcE m bs = 0 then dcdP m.key bs else []
def estS (l : List UInt16) : Nat → Nat
  | 0 => 0
  | k + 1 => if k = 0 then 8 * (glh l 0).toNat else estS l k - (estS l k + 4) / 8 + (glh l k).toNat
theorem estS_le (l : List UInt16) : ∀ k, estS l k ≤ 524280
  | 0 => by simp [estS]
  | k + 1 => by
    have ih := estS_le l k
    have h0 := (glh l 0).toNat_lt
    have hk := (glh l k).toNat_lt
    unfold estS; split <;> omega
def smI (now e : Nat) : Int := if e = 65535 then -1 else (((now + 65536 - e) % 65536 : Nat) : Int)
theorem of_mod (x : UInt64) : (x % 65536).toNat = (ofT x).toNat := by
  have e : (65536 : UInt64).toNat = 65536 := rfl
  simp only [ofT, toU16, UInt16.toNat_ofNat', UInt64.toNat_mod, e]
  omega
theorem echoN_nat (s : UInt16) (h : UInt64) : (echoN s h).toNat = if 1000 < h.toNat then 65535 else (s.toNat + h.toNat) % 65536 := by
  unfold echoN; split
  · rfl
  · simp only [UInt16.toNat_add, toU16, UInt16.toNat_ofNat']; omega
theorem mnU_gt {x : UInt64} (h : 9223372036854775807 < x.toNat) : mnU x 9223372036854775807 = 9223372036854775807 := by
  have e : (9223372036854775807 : UInt64).toNat = 9223372036854775807 := rfl
  unfold mnU; rw [if_pos (UInt64.lt_iff_toNat_lt.2 (by omega))]
theorem mnU_le {x : UInt64} (h : x.toNat ≤ 9223372036854775807) : mnU x 9223372036854775807 = x := by
  unfold mnU; rw [if_neg (fun h2 => by have := UInt64.lt_iff_toNat_lt.1 h2; have e : (9223372036854775807 : UInt64).toNat = 9223372036854775807 := rfl; omega)]
theorem fresh_no {l : List UInt64} {sq : UInt64} {k : Nat} (hk : k < l.length) (h : sq.toNat ≤ (glq l k).toNat) : rfrsh l sq = false := by
  simp only [rfrsh, decide_eq_false_iff_not, not_and]
  intro h2
  have := h2 (glq l k) (by simp [glq, hk])
  omega
theorem fresh_yes {l : List UInt64} {sq : UInt64} {n : Nat} (hn : l.length = n) (h : ∀ j, j < n → (glq l j).toNat < sq.toNat) : rfrsh l sq = decide (sq.toNat < 9223372036854775808) := by
  simp only [rfrsh]
  congr 1
  apply propext
  refine ⟨fun h => h.2, fun h2 => ⟨fun y hy => ?_, h2⟩⟩
  obtain ⟨j, hj, rfl⟩ := List.mem_iff_getElem.1 hy
  have := h j (by omega)
  simpa [glq, hj] using this
theorem okA_bad {s : List UInt8} {k : Nat} (hk : k < s.length) (h : okB (gl s k) = false) : okA s = false := by
  have : s.all okB = false := by
    rw [List.all_eq_false]; exact ⟨gl s k, by simp [gl, hk], by simp [h]⟩
  simp [okA, this]
theorem okA_all {s : List UInt8} {n : Nat} (hn : s.length = n) (h : ∀ j, j < n → okB (gl s j) = true) : okA s = decide (1 ≤ n ∧ n ≤ 100) := by
  have h1 : s.all okB = true := by
    rw [List.all_eq_true]; intro x hx
    obtain ⟨j, hj, rfl⟩ := List.mem_iff_getElem.1 hx
    have := h j (by omega)
    simpa [gl, hj] using this
  simp only [okA, h1, Bool.and_true]
  congr 1; apply propext
  rw [hn]
  refine ⟨fun h => ⟨?_, h.2⟩, fun h => ⟨?_, h.2⟩⟩
  · have := List.length_pos_iff.2 h.1; omega
  · intro e; subst e; simp at hn; omega
theorem Cel.n0q {w : World} {a : Option Addr} {l : List UInt64} {m : Nat} (h : Cel w a (X.cq l)) (hm : l.length = m) : a = none → m = 0 := fun e => by
  cases l with
  | nil => simpa using hm.symm
  | cons x r => have := (h 0 (U64 x) (by simp [X.cq])).1; rw [e] at this; cases this
def KpQ (a : Option Addr) (l : List UInt64) (a' : Option Addr) (n' : Nat) (l' : List UInt64) (Y : List (Nat × Obj)) : Prop :=
  l'.length = n' ∧ ∀ W F L W', St W F L W' → (∀ p ∈ Y, p ∈ L) → Cel W' a (cq l) → Cel W' a' (cq l')
theorem KpQ.same {a : Option Addr} {l : List UInt64} {n : Nat} {Y : List (Nat × Obj)} (h : l.length = n) : KpQ a l a n l Y := ⟨h, fun _ _ _ _ _ _ h => h⟩
theorem KpQ.own {a a' : Option Addr} {l l' : List UInt64} {n c : Nat} {X Y : List (Nat × Obj)} (h : Own 1 a' n c (cq l') X) (hX : ∀ p ∈ X, p ∈ Y) : KpQ a l a' n l' Y := ⟨h.lenq, fun _ _ _ _ hS hY _ => h.cel hS (fun p hp => hY p (hX p hp))⟩
theorem Cel.n0h {w : World} {a : Option Addr} {l : List UInt16} {m : Nat} (h : Cel w a (X.ch l)) (hm : l.length = m) : a = none → m = 0 := fun e => by
  cases l with
  | nil => simpa using hm.symm
  | cons x r => have := (h 0 (U16 x) (by simp [X.ch])).1; rw [e] at this; cases this
def KpH (a : Option Addr) (l : List UInt16) (a' : Option Addr) (n' : Nat) (l' : List UInt16) (Y : List (Nat × Obj)) : Prop :=
  l'.length = n' ∧ ∀ W F L W', St W F L W' → (∀ p ∈ Y, p ∈ L) → Cel W' a (ch l) → Cel W' a' (ch l')
theorem KpH.same {a : Option Addr} {l : List UInt16} {n : Nat} {Y : List (Nat × Obj)} (h : l.length = n) : KpH a l a n l Y := ⟨h, fun _ _ _ _ _ _ h => h⟩
theorem KpH.own {a a' : Option Addr} {l l' : List UInt16} {n c : Nat} {X Y : List (Nat × Obj)} (h : Own 1 a' n c (ch l') X) (hX : ∀ p ∈ X, p ∈ Y) : KpH a l a' n l' Y := ⟨h.lenh, fun _ _ _ _ hS hY _ => h.cel hS (fun p hp => hY p (hX p hp))⟩
theorem chk_le {d : Nat} {s : UInt64} {n : Nat} (hd : d ≤ 1) (h : s.toNat ≤ 9223372036854775807) (hn : n ≤ 1200) : chk ((d : Nat) : Int) s n = 0 := by
  unfold chk; rw [if_neg (by omega), if_neg (by omega), if_neg (by omega)]
theorem Rd.sub {a : Option Addr} {bs : List UInt8} {X Y : List (Nat × Obj)} (h : Rd a bs X) (hX : ∀ p ∈ X, p ∈ Y) : Rd a bs Y := fun w0 F L w hS hY => h w0 F L w hS (fun p hp => hY p (hX p hp))
theorem smI_16 (now e : UInt16) (h : ¬ e = 65535) : smI now.toNat e.toNat = (((smpV now e).toNat : Nat) : Int) := by
  have h2 : ¬ e.toNat = 65535 := fun h' => h (UInt16.toNat_inj.1 (by simpa using h'))
  have := now.toNat_lt; have := e.toNat_lt
  rw [smI, if_neg h2, smpV, if_neg h, UInt16.toNat_sub]
  congr 1; omega
theorem St.rt {w0 w : World} {F : List Nat} {A R : List (Nat × Obj)} (h : St w0 F (A ++ R) w) : St w0 F R w := h.sublist (List.sublist_append_right A R)
end Go.X
namespace Go.X
open Go
def lsR (l : List UInt64) : UInt64 := if l = [] then 0 else glq l (l.length - 1) + 1
def relS (m : RS) : SS := { dir := m.dir, key := m.key, nx := m.fs + m.gv, gv := m.gv, fs := m.fs, ac := m.acc.length, rf := m.rf, ls := lsR m.acc, kp := m.kp, rl := glh m.smp (m.smp.length - 1), rc := m.smp.length, re := UInt32.ofNat (estS m.smp m.smp.length), ad := m.ad, fx := decide (m.dir = 0), mv := m.mv, cz := m.cz }
structure RInv (m : RS) : Prop where
  dir : m.dir ≤ 1
  seq : (m.fs + m.gv).toNat ≤ 9223372036854775807
  up : ∀ i j, i < j → j < m.acc.length → (glq m.acc i).toNat < (glq m.acc j).toNat
  lo : ∀ i, i < m.acc.length → (glq m.acc i).toNat ≤ 9223372036854775807
theorem mnU_lo (x : UInt64) : (mnU x 9223372036854775807).toNat ≤ 9223372036854775807 := by
  by_cases h : 9223372036854775807 < x.toNat
  · rw [mnU_gt h]; decide
  · rw [mnU_le (by omega)]; omega
theorem rel_new (key : V8 16) (d : Nat) (ad : List UInt8) (nx : UInt64) : sesN key d ad nx = relS (refN key d ad nx) := by
  simp [sesN, relS, refN, lsR, glh, estS]
  exact decide_eq_decide.2 Iff.rfl
theorem inv_new (key : V8 16) {d : Nat} (ad : List UInt8) (nx : UInt64) (h : d ≤ 1) : RInv (refN key d ad nx) :=
  ⟨h, by show (mnU nx _ + 0).toNat ≤ _; rw [UInt64.add_zero]; exact mnU_lo nx, fun i j _ hj => by simp [refN] at hj, fun i hi => by simp [refN] at hi⟩
theorem pek_rpk {m : RS} (h : RInv m) : pekE (m.fs + m.gv) false = rpkE m := by
  have hs := h.seq
  unfold pekE rpkE
  rw [if_neg (by simp)]
  by_cases e : m.fs + m.gv = 9223372036854775807
  · rw [if_pos e, if_pos (by rw [e]; decide)]
  · rw [if_neg e, if_neg (fun h2 => e (UInt64.toNat_inj.1 (by have e2 : (9223372036854775807 : UInt64).toNat = 9223372036854775807 := rfl
                                                              omega)))]
theorem rel_sndE {m : RS} (h : RInv m) (n : Nat) : sndE (relS m) n = rsnE m n := by
  have hp := pek_rpk h
  unfold sndE rsnE
  simp only [relS, fstE, nth4, hp]
  have e1 : (decide (((n : Nat) : Int) > 1200) = true) = (1200 < n) := by simp; omega
  have e2 : ((!decide (m.ad ≠ [])) = true) = (m.ad = []) := by simp
  simp only [e1, e2]
  by_cases a : m.cz = true <;> by_cases b : 1200 < n <;> by_cases c : m.ad = [] <;> simp [a, b, c]
theorem rel_snd {m : RS} (h : RInv m) (n : Nat) : sndM (relS m) n = relS (rsnM m n) ∧ RInv (rsnM m n) := by
  unfold sndM rsnM
  rw [rel_sndE h]
  by_cases e : rsnE m n = 0
  · rw [if_pos e, if_pos e]
    have hne : ¬ m.fs + m.gv = 9223372036854775807 := by
      intro h2; unfold rsnE rpkE at e; rw [h2] at e
      by_cases a : m.cz = true <;> by_cases b : 1200 < n <;> by_cases c : m.ad = [] <;> simp [a, b, c] at e
    have hlt : (m.fs + m.gv).toNat < 9223372036854775807 := by
      have := h.seq
      have h3 : ¬ (m.fs + m.gv).toNat = 9223372036854775807 := fun h4 => hne (UInt64.toNat_inj.1 (by rw [h4]; rfl))
      omega
    refine ⟨by simp [relS, UInt64.add_assoc], ⟨h.dir, ?_, h.up, h.lo⟩⟩
    show (m.fs + (m.gv + 1)).toNat ≤ _
    rw [← UInt64.add_assoc, UInt64.toNat_add]
    have e1 : (1 : UInt64).toNat = 1 := rfl
    omega
  · rw [if_neg e, if_neg e]; exact ⟨rfl, h⟩
theorem rel_sndB {m : RS} (h : RInv m) (bs : List UInt8) (x : UInt64) : sndB (relS m) bs x = rsnB m bs x := by
  unfold sndB rsnB; rw [rel_sndE h]; rfl
theorem rel_sndA {m : RS} (h : RInv m) (n : Nat) : sndA (relS m) n = rsnA m n := by unfold sndA rsnA; rw [rel_sndE h]; rfl
theorem lsR_ne {l : List UInt64} (h : l ≠ []) (hlo : ∀ i, i < l.length → (glq l i).toNat ≤ 9223372036854775807) : (lsR l).toNat = (glq l (l.length - 1)).toNat + 1 := by
  have hl := List.length_pos_iff.2 h
  have := hlo (l.length - 1) (by omega)
  rw [lsR, if_neg h, UInt64.toNat_add]
  have e1 : (1 : UInt64).toNat = 1 := rfl
  omega
theorem frsh_r {m : RS} (h : RInv m) (sq : UInt64) : frsh (lsR m.acc) sq = rfrsh m.acc sq := by
  unfold frsh rfrsh
  apply decide_eq_decide.2
  by_cases e : m.acc = []
  · have : (lsR m.acc).toNat = 0 := by simp [lsR, e]
    rw [this]; simp [e]; omega
  · have hl := List.length_pos_iff.2 e
    have h1 := lsR_ne e h.lo
    rw [h1]
    refine ⟨fun ⟨a, b⟩ => ⟨fun y hy => ?_, by omega⟩, fun ⟨a, b⟩ => ⟨?_, by omega⟩⟩
    · obtain ⟨j, hj, rfl⟩ := List.mem_iff_getElem.1 hy
      have e2 : glq m.acc j = m.acc[j] := by simp [glq, hj]
      by_cases h3 : j = m.acc.length - 1
      · subst h3; rw [← e2]; omega
      · have := h.up j (m.acc.length - 1) (by omega) (by omega)
        rw [← e2]; omega
    · have := a (glq m.acc (m.acc.length - 1)) (by simp [glq, show m.acc.length - 1 < m.acc.length by omega])
      omega
theorem rel_rcvE {m : RS} (h : RInv m) (bs : List UInt8) : rcvE (relS m) bs = rrcE m bs := by
  unfold rcvE rrcE
  have hf := frsh_r h (dcdS m.key bs)
  simp only [relS, fstE, nth4, hf]
  have e1 : ((((dcdD m.key bs : Nat) : Int) == ((m.dir : Nat) : Int)) = true) = (dcdD m.key bs = m.dir) := by simp; omega
  have e2 : ((!rfrsh m.acc (dcdS m.key bs)) = true) = (rfrsh m.acc (dcdS m.key bs) = false) := by simp
  simp only [e1, e2]
  by_cases a : m.cz = true <;> by_cases b : dcdE m.key bs = 0 <;> by_cases c : dcdD m.key bs = m.dir <;> by_cases d : rfrsh m.acc (dcdS m.key bs) = false <;> simp [a, b, c, d]
theorem glq_app_last (l : List UInt64) (x : UInt64) : glq (l ++ [x]) ((l ++ [x]).length - 1) = x := by simp [glq]
theorem glh_app_last (l : List UInt16) (x : UInt16) : glh (l ++ [x]) ((l ++ [x]).length - 1) = x := by simp [glh]
theorem estS_app (l : List UInt16) (x : UInt16) : ∀ k, k ≤ l.length → estS (l ++ [x]) k = estS l k
  | 0, _ => rfl
  | k + 1, h => by
    have ih := estS_app l x k (by omega)
    have e : ∀ i, i < l.length → glh (l ++ [x]) i = glh l i := fun i hi => by simp [glh, List.getElem?_append, hi]
    unfold estS
    rw [ih, e k (by omega), e 0 (by omega)]
theorem est_step (l : List UInt16) (x : UInt16) : estN l.length (UInt32.ofNat (estS l l.length)) x = UInt32.ofNat (estS (l ++ [x]) (l ++ [x]).length) := by
  have hle := estS_le l l.length
  have hlt := x.toNat_lt
  have hl : (l ++ [x]).length = l.length + 1 := by simp
  rw [hl]
  apply UInt32.toNat_inj.1
  have hle2 := estS_le (l ++ [x]) (l.length + 1)
  unfold estN
  by_cases h : l.length = 0
  · have h0 : l = [] := List.eq_nil_of_length_eq_zero h
    subst h0
    simp only [List.length_nil, if_true, estS, List.nil_append, shl32, toU32, UInt32.toNat_ofNat', glh, List.getD_cons_zero]
    omega
  · have e2 : estS (l ++ [x]) (l.length + 1) = estS l l.length - (estS l l.length + 4) / 8 + x.toNat := by
      rw [estS, if_neg h, estS_app l x l.length (Nat.le_refl _)]
      congr 2; simp [glh]
    have e4 : (4 : UInt32).toNat = 4 := rfl
    rw [if_neg h, e2]
    simp only [shr32, toU32, UInt32.toNat_add, UInt32.toNat_sub, UInt32.toNat_ofNat', e4]
    omega
theorem rel_rcv {m : RS} (h : RInv m) (bs fr : List UInt8) (x : UInt64) : rcvM (relS m) bs fr x = relS (rrcM m bs fr x) ∧ RInv (rrcM m bs fr x) := by
  unfold rcvM rrcM
  rw [rel_rcvE h]
  by_cases hc : m.cz = true
  · rw [if_pos (show (relS m).cz = true from hc), if_pos hc]; exact ⟨rfl, h⟩
  · rw [if_neg (show ¬ (relS m).cz = true from hc), if_neg hc]
    by_cases e : rrcE m bs = 0
    · rw [if_pos e, if_pos e]
      have hfr : rfrsh m.acc (dcdS m.key bs) = true := by
        unfold rrcE at e; rw [if_neg hc] at e
        by_cases b : dcdE m.key bs = 0 <;> by_cases c : dcdD m.key bs = m.dir <;> by_cases d : rfrsh m.acc (dcdS m.key bs) = false <;> simp [b, c, d] at e ⊢
        all_goals (first | exact absurd e b | simpa using d)
      simp only [rfrsh, decide_eq_true_eq] at hfr
      have ha : mvA (decide (m.dir = 0)) m.ad fr = (if m.dir = 1 ∧ okA fr = true then fr else m.ad) := by
        have hd := h.dir
        unfold mvA
        have e1 : (decide (m.dir = 0) = false) = (m.dir = 1) := by simp; omega
        simp only [e1]
      have hv : mvN (decide (m.dir = 0)) m.ad fr m.mv = (if m.dir = 1 ∧ okA fr = true ∧ fr ≠ m.ad then m.mv + 1 else m.mv) := by
        have hd := h.dir
        unfold mvN
        have e1 : (decide (m.dir = 0) = false) = (m.dir = 1) := by simp; omega
        have e2 : (m.ad ≠ fr) = (fr ≠ m.ad) := by simp [eq_comm]
        simp only [e1, e2]
      have hl : lsR (m.acc ++ [dcdS m.key bs]) = dcdS m.key bs + 1 := by
        rw [lsR, if_neg (by simp), glq_app_last]
      refine ⟨?_, ⟨h.dir, h.seq, ?_, ?_⟩⟩
      · by_cases hm : dcdM m.key bs = 65535
        · simp only [smpM, relS, hm, if_true, ha, hv, hl, List.length_append, List.length_singleton]
        · have h1 := est_step m.smp (smpV (ofT x) (dcdM m.key bs))
          have h2 := glh_app_last m.smp (smpV (ofT x) (dcdM m.key bs))
          rw [List.length_append, List.length_singleton] at h2
          simp only [smpM, relS, hm, if_false, ha, hv, hl, h1, h2, List.length_append, List.length_singleton]
      · intro i j hij hj
        simp only [List.length_append, List.length_singleton] at hj
        have g : ∀ k, k < m.acc.length → glq (m.acc ++ [dcdS m.key bs]) k = glq m.acc k := fun k hk => by simp [glq, List.getElem?_append, hk]
        show (glq (m.acc ++ [dcdS m.key bs]) i).toNat < (glq (m.acc ++ [dcdS m.key bs]) j).toNat
        by_cases hjl : j < m.acc.length
        · rw [g i (by omega), g j hjl]; exact h.up i j hij hjl
        · have : j = m.acc.length := by omega
          subst this
          have g2 : glq (m.acc ++ [dcdS m.key bs]) m.acc.length = dcdS m.key bs := by simp [glq]
          rw [g i hij, g2]
          exact hfr.1 _ (by simp [glq, hij])
      · intro i hi
        simp only [List.length_append, List.length_singleton] at hi
        show (glq (m.acc ++ [dcdS m.key bs]) i).toNat ≤ _
        by_cases hil : i < m.acc.length
        · have : glq (m.acc ++ [dcdS m.key bs]) i = glq m.acc i := by simp [glq, List.getElem?_append, hil]
          rw [this]; exact h.lo i hil
        · have : i = m.acc.length := by omega
          subst this
          have g2 : glq (m.acc ++ [dcdS m.key bs]) m.acc.length = dcdS m.key bs := by simp [glq]
          rw [g2]; omega
    · rw [if_neg e, if_neg e]; exact ⟨rfl, ⟨h.dir, h.seq, h.up, h.lo⟩⟩
end Go.X
namespace Go.X
open Go
def stR (m : RS) (n1 n2 : Nat) : Array Value := #[U64 (m.fs + m.gv), U64 (glq m.acc (n1 - 1)), .bool (decide ((n1 : Int) > 0)), I ((n1 : Nat) : Int), I ((m.rf : Nat) : Int), Str m.ad, I ((m.mv : Nat) : Int), I ((n2 : Nat) : Int), U16 (glh m.smp (n2 - 1)), .bool m.cz]
theorem lstV_r {m : RS} (h : RInv m) : lstV (lsR m.acc) = glq m.acc (m.acc.length - 1) := by
  by_cases e : m.acc = []
  · simp [lsR, e, lstV, glq]
  · have h1 := lsR_ne e h.lo
    have h0 : ¬ lsR m.acc = 0 := fun h2 => by rw [h2] at h1; have : (0 : UInt64).toNat = 0 := rfl; omega
    rw [lstV, if_neg h0, lsR, if_neg e]
    simp
theorem any_r {m : RS} (h : RInv m) : decide (lsR m.acc ≠ 0) = decide ((m.acc.length : Int) > 0) := by
  apply decide_eq_decide.2
  by_cases e : m.acc = []
  · simp [lsR, e]
  · have h1 := lsR_ne e h.lo
    have h2 := List.length_pos_iff.2 e
    refine ⟨fun _ => by omega, fun _ h2 => ?_⟩
    rw [h2] at h1; have : (0 : UInt64).toNat = 0 := rfl; omega
theorem st_rel {m : RS} (h : RInv m) {n1 n2 : Nat} (h1 : m.acc.length = n1) (h2 : m.smp.length = n2) : statC (relS m) = stR m n1 n2 := by
  subst h1 h2
  have e1 := lstV_r h; have e2 := any_r h
  have e : statC (relS m) = #[U64 (m.fs + m.gv), U64 (lstV (lsR m.acc)), .bool (decide (lsR m.acc ≠ 0)), I ((m.acc.length : Nat) : Int), I ((m.rf : Nat) : Int), Str m.ad, I ((m.mv : Nat) : Int), I ((m.smp.length : Nat) : Int), U16 (glh m.smp (m.smp.length - 1)), .bool m.cz] := rfl
  rw [e, e1, e2]; rfl
theorem est_r (l : List UInt16) (n : Nat) : (UInt32.ofNat (estS l n)).toNat = estS l n := by
  have := estS_le l n
  rw [UInt32.toNat_ofNat']; omega
theorem glq_0 {l : List UInt64} {n k : Nat} (h : l.length = n) (hn : ¬ (n : Int) > 0) : glq l k = 0 := by
  have : l = [] := List.eq_nil_of_length_eq_zero (by omega)
  subst this; simp [glq]
theorem glh_0 {l : List UInt16} {n k : Nat} (h : l.length = n) (hn : (n : Int) = 0) : glh l k = 0 := by
  have : l = [] := List.eq_nil_of_length_eq_zero (by omega)
  subst this; simp [glh]
end Go.X
namespace Go.X
open Go
def RefV (r : RS) (a1 : Option Addr) (n1 : Nat) (a2 : Option Addr) (n2 : Nat) (Y : List (Nat × Obj)) : Prop :=
  r.acc.length = n1 ∧ r.smp.length = n2 ∧ ∀ W F L W', St W F L W' → (∀ p ∈ Y, p ∈ L) → Cel W' a1 (cq r.acc) ∧ Cel W' a2 (ch r.smp)
theorem RefV.new (key : V8 16) (d : Nat) (ad : List UInt8) (nx : UInt64) : RefV (refN key d ad nx) none 0 none 0 [] :=
  ⟨rfl, rfl, fun _ _ _ _ _ _ => ⟨fun j v h => by simp [refN, cq] at h, fun j v h => by simp [refN, ch] at h⟩⟩
theorem RefV.kp {r r' : RS} {a1 b1 a2 b2 : Option Addr} {n1 k1 n2 k2 : Nat} {Y Y0 : List (Nat × Obj)} (h : RefV r a1 n1 a2 n2 Y0) (hq : KpQ a1 r.acc b1 k1 r'.acc Y) (hh : KpH a2 r.smp b2 k2 r'.smp Y) : RefV r' b1 k1 b2 k2 (Y ++ Y0) :=
  ⟨hq.1, hh.1, fun W F L W' hS hY => by
    have h0 := h.2.2 W F L W' hS (fun p hp => hY p (by simp [hp]))
    exact ⟨hq.2 W F L W' hS (fun p hp => hY p (by simp [hp])) h0.1, hh.2 W F L W' hS (fun p hp => hY p (by simp [hp])) h0.2⟩⟩
theorem rsn_acc (r : RS) (n : Nat) : (rsnM r n).acc = r.acc ∧ (rsnM r n).smp = r.smp := by unfold rsnM; split <;> exact ⟨rfl, rfl⟩
theorem RefV.snd {r : RS} {a1 a2 : Option Addr} {n1 n2 : Nat} {Y : List (Nat × Obj)} (h : RefV r a1 n1 a2 n2 Y) (n : Nat) : RefV (rsnM r n) a1 n1 a2 n2 Y := by
  obtain ⟨e1, e2⟩ := rsn_acc r n
  unfold RefV; rw [e1, e2]; exact h
theorem Bd.snd {r : RS} {k : Nat} (hI : RInv r) (h : Bd (relS r) k) (n : Nat) : Bd (relS (rsnM r n)) k := by
  rw [← (rel_snd hI n).1]; exact Bd_snd h n
theorem Bd.rcv {r : RS} {k : Nat} (hI : RInv r) (h : Bd (relS r) k) (bs fr : List UInt8) (x : UInt64) : Bd (relS (rrcM r bs fr x)) (k + 1) := by
  rw [← (rel_rcv hI bs fr x).1]; exact Bd_rcv h bs fr x
theorem Bd.r {r : RS} {k : Nat} (h : Bd (relS r) k) : r.acc.length ≤ k ∧ r.rf ≤ k ∧ r.smp.length ≤ k ∧ r.mv ≤ k := h
section
variable {w0 w : World} {F : List Nat} {A R X Y : List (Nat × Obj)}
theorem St.mrg (h : St w0 F (A ++ (X ++ (Y ++ R))) w) : St w0 F (A ++ ((X ++ Y) ++ R)) w := by rw [List.append_assoc X]; exact h
theorem St.mrg0 (h : St w0 F (A ++ (X ++ R)) w) : St w0 F (A ++ ((X ++ []) ++ R)) w := by rw [List.append_nil X]; exact h
end
theorem rsnB_le (m : RS) (bs : List UInt8) (x : UInt64) : (rsnB m bs x).length ≤ 4000 := by
  unfold rsnB
  split
  · rename_i h
    have hl : bs.length ≤ 1200 := by
      unfold rsnE at h
      by_cases a : m.cz = true <;> by_cases b : 1200 < bs.length <;> simp [a, b] at h
      omega
    generalize hk : chk (m.dir : Int) (m.fs + m.gv) bs.length = k
    by_cases h0 : k = 0
    · have := (enc_all (key := m.key) (t := ofT x) (e := replyV m.kp x) (rfl : bs.length = bs.length) (hk.trans h0)).1
      omega
    · rw [encP_bad rfl (by rw [hk]; exact h0)]; omega
  · simp
theorem rrc_cz (r : RS) (bs fr : List UInt8) (x : UInt64) : (rrcM r bs fr x).cz = r.cz := by
  unfold rrcM; split
  · rfl
  · split <;> rfl
theorem refuse {m m2 : SS} {r r2 : RS} {bs fr q : List UInt8} {x : UInt64} {e e2 : Nat} (hM : m = relS r) (hI : RInv r) (hc : r.cz = false) (hm : m2 = rcvM m bs fr x) (hr : r2 = rrcM r bs fr x) (he : e = rcvE m bs) (he2 : e2 = rrcE r bs) (hq : q = rcvP m bs) :
    e = e2 ∧ m2 = relS r2 ∧ (e2 ≠ 0 → q = [] ∧ m2 = { m with rf := m.rf + 1 }) := by
  have h1 : e = e2 := by rw [he, he2, hM, rel_rcvE hI]
  refine ⟨h1, by rw [hm, hr, hM]; exact (rel_rcv hI bs fr x).1, fun h => ?_⟩
  have h2 : ¬ rcvE m bs = 0 := by rw [← he, h1]; exact h
  have h3 : ¬ m.cz = true := by rw [hM]; show ¬ r.cz = true; rw [hc]; decide
  exact ⟨by rw [hq, rcvP, if_neg h2], by rw [hm, rcvM, if_neg h3, if_neg h2]⟩
theorem refuse2 {m m2 : SS} {r : RS} {b q1 q2 ad1 ad2 : List UInt8} {x : UInt64} {n : Nat} (hM : m = relS r) (hI : RInv r) (h : m2 = { m with rf := m.rf + 1 }) (h1 : q1 = sndB m2 b x) (h2 : q2 = rsnB r b x) (h3 : ad1 = sndA m2 n) (h4 : ad2 = rsnA r n) : q1 = q2 ∧ ad1 = ad2 := by
  have e1 : sndB m2 b x = sndB m b x := by rw [h]; rfl
  have e2 : sndA m2 n = sndA m n := by rw [h]; rfl
  exact ⟨by rw [h1, h2, e1, hM, rel_sndB hI], by rw [h3, h4, e2, hM, rel_sndA hI]⟩
end Go.X
namespace Go.X
open Go
def selN {α : Type} : Nat → Nat → List α → List α
  | 0, _, _ => []
  | _ + 1, _, [] => []
  | k + 1, n, x :: xs => bif Nat.beq (n % 2) 1 then x :: selN k (n / 2) xs else selN k (n / 2) xs
theorem selN_sub {α : Type} : ∀ (k n : Nat) (l : List α), (selN k n l).Sublist l
  | 0, _, _ => List.nil_sublist _
  | _ + 1, _, [] => List.nil_sublist _
  | k + 1, n, x :: xs => by
    unfold selN
    cases Nat.beq (n % 2) 1
    · exact (selN_sub k (n / 2) xs).cons _
    · exact (selN_sub k (n / 2) xs).cons_cons _
theorem St.sl {w0 w : World} {F : List Nat} {L : List (Nat × Obj)} (h : St w0 F L w) (k n : Nat) : St w0 F (selN k n L) w := h.sublist (selN_sub k n L)
theorem rr {α β : Type} {a : α} {b : β} : a = a ∧ b = b := ⟨rfl, rfl⟩
section
variable {P : Program} {ops : Array Oper} {n : Nat} {l : Regs} {w : World} {Q : XPost} {t : Nat} {J : World → Prop} {fuel : Nat} {listed : Array Bool}
theorem jx (h : J w) (k : J w → DW P ops n Q t J fuel listed l w) : DW P ops n Q t J fuel listed l w := k h
theorem lx {i : Nat} (h : J w) (k : J w → DW P ops n Q t J fuel listed l w) : (Nat.blt i t = true → J w) ∧ DW P ops n Q t J fuel listed l w := ⟨fun _ => h, k h⟩
theorem ly {i : Nat} (h : Nat.blt i t = false) (k : DW P ops n Q t J fuel listed l w) : (Nat.blt i t = true → J w) ∧ DW P ops n Q t J fuel listed l w := ⟨fun h2 => absurd (h.symm.trans h2) Bool.false_ne_true, k⟩
theorem dx {d : Nat} {v : Value} {op : Op} {T : Nat} {ps : String} {af : Array Edge} {g : Option (Nat × Bool)} (i : Nat) (hi : ops[i]? = some ⟨some d, op, T, ps, af, g⟩)
    (hb : (Region.noSelect ops && freeJ ops listed t i && (Region.ready .any ops listed).contains i && quietOp op && Nat.blt d n) = true)
    (hv : ∀ w, J w → WO P ops n ⟨some d, op, T, ps, af, g⟩ l w (fun l' w' => l' = (d, v) :: l ∧ w' = w)) (hJ : J w)
    (k : DW P ops n Q t J fuel (listed.setIfInBounds i true) ((d, v) :: l) w) : DW P ops n Q t J (fuel + 1) listed l w := by
  simp only [Bool.and_eq_true] at hb
  exact dq i hi hb.1.1.1.1 hb.1.1.1.2 hb.1.1.2 hb.1.2 hb.2 hv hJ k
end
end Go.X
set_option linter.defProp false
set_option maxRecDepth 100000
set_option maxHeartbeats 2000000
namespace Go.Proofs.XS
open Go Go.X Go.Proofs
theorem sp_mooringref01_Same (a : Option Addr) (n cap : Nat) (bs : List UInt8) (a2 : Option Addr) (n2 cap2 : Nat) (bs2 : List UInt8) (w0 : World) (hn : bs.length = n) (hN : n ≤ 1000000) (hc : Cel w0 a (c8 bs)) (hn2 : bs2.length = n2) (hN2 : n2 ≤ 1000000) (he2 : Cel w0 a2 (c8 bs2)) : Calls Tryz.prog 19 #[.slice a n cap, .slice a2 n2 cap2] w0 (Ret w0 (.bool (decide (bs = bs2)))) := by
 refine enter (args := [.slice a n cap, .slice a2 n2 cap2]) Tryz.func19 O O<|startw fun w hS =>rg<|asg O O O<|wt<|wc_seq<|rg<|mv O O O<|lens un30 O O O<|mv O O O<|lens un30 O O O<|nei O O O O ?_
 refine wt ?_
 refine wc_if O (fun hc1 =>?_) (fun hc1 =>?_)
 ·try simp only [SB] at hc1
  refine rg<|asg O O O<|wt<|wc_ret<|q_then_ret<|fin1 (v := .bool false) O O ?_
  refine ⟨?_, hS.drop⟩
  rw [decide_eq_false (fun e => by rw [e] at hn; omega)]
 ·try simp only [SB] at hc1
  refine wc_skip<|wt<|wc_seq<|rg<|asg O O O<|wt<|wc_block ?_
  refine wc_loop (σ := Nat) (fun k =>[(0, .slice a n cap), (1, .slice a2 n2 cap2), (5, I ((k : Int)))])
   (fun k w => (k ≤ n ∧ bs.take k = bs2.take k) ∧ St w0 [] [] w) (fun k => n - k) 0 ⟨rfl, rfl, rfl, trivial⟩ ⟨⟨by omega, rfl⟩, hS⟩ ?_
  rintro k w ⟨⟨hk, hk2⟩, hS⟩
  refine wc_seq<|rg<|mv O O O<|mv O O O<|lens un30 O O O<|lss O O O O<|wt ?_
  refine wc_if O (fun hc2 =>?_) (fun hc2 =>?_)
  ·try simp only [SB] at hc2
   refine wc_skip<|wt<|wc_seq<|wc_block<|rd mo 9 (fun w =>St w0 [] [] w)<|have hS := hS.drew; jx hS fun jj =>dx 0 O (by kernel_rfl) (fun w hS =>mv O O O rr) jj<|dx 1 O (by kernel_rfl) (fun w hS =>mv O O O rr) jj<|dx 2 O (by kernel_rfl) (fun w hS =>slx k un30 sz5 O O O O (by omega) (by omega) ((hc.st hS).some8 (j := k) (by first | omega | (simp; done) | (simp; omega))) rr) jj<|dx 3 O (by kernel_rfl) (fun w hS =>ldx sc5 O O O (hc.st hS) (by first | omega | (simp; done) | (simp; omega)) rr) jj<|dx 4 O (by kernel_rfl) (fun w hS =>mv O O O rr) jj<|dx 5 O (by kernel_rfl) (fun w hS =>mv O O O rr) jj ?_
   refine dx 6 O (by kernel_rfl) (fun w hS =>slx k un30 sz5 O O O O (by omega) (by omega) ((he2.st hS).some8 (j := k) (by first | omega | (simp; done) | (simp; omega))) rr) jj<|dx 7 O (by kernel_rfl) (fun w hS =>ldx sc5 O O O (he2.st hS) (by first | omega | (simp; done) | (simp; omega)) rr) jj<|dx 8 O (by kernel_rfl) (fun w hS =>nei O O O O rr) jj<|de (by kernel_rfl)<|wt ?_
   refine wc_if O (fun hc3 =>?_) (fun hc3 =>?_)
   ·try simp only [SB] at hc3
    refine rg<|asg O O O<|wt<|wc_ret<|q_block_ret<|q_then_ret<|q_then_ret<|q_block_ret<|q_then_ret<|fin1 (v := .bool false) O O ?_
    refine ⟨?_, hS.drop⟩
    rw [decide_eq_false (take_ne (k := k) (fun e => by rw [e] at hc3; exact hc3 rfl))]
   ·try simp only [SB] at hc3
    have hge : gl bs k = gl bs2 k := UInt8.toNat_inj.1 (by omega)
    refine wc_skip<|q_block_norm<|wt<|wc_region<|mv O O O<|addi (by omega) (by omega) O O O O<|asg O O O ?_
    refine again_q (k + 1) ⟨O, O, lkI O (by first | omega | rfl), trivial⟩ ⟨⟨by omega, take_step (by omega) (by omega) hk2 hge⟩, hS⟩ (by omega)
  ·try simp only [SB] at hc2
   refine wc_exit<|q_then_exit<|q_then_exit<|q_block_hit<|wt<|rg<|asg O O O<|wt<|wc_ret<|fin1 (v := .bool true) O O ?_
   refine ⟨?_, hS.drop⟩
   have hk4 : k = bs.length := by omega
   have hk5 : k = bs2.length := by omega
   rw [decide_eq_true (by have h := hk2; rw [List.take_of_length_le (by omega), List.take_of_length_le (by omega)] at h; exact h)]
theorem sp_keys_load_1 (i b E : Nat) (v : V8 16) (i_ : Int) (w0 : World) (hi_ : i_ = (i : Int)) (hi : i < 13) (hb : w0.heap[b]? = some (.cells (BV v) E)) : Calls Tryz.prog 166 #[I i_, Ptr b 0] w0 (Ret w0 (U32 (col (gv v i) (gv v (i + 1)) (gv v (i + 2)) (gv v (i + 3))))) := by
 subst hi_
 refine enter (args := [I (i : Int), Ptr b 0]) Tryz.func166 O O<|startw fun w hS =>rg<|asg O O O<|wt<|rd mo 25 (fun w =>St w0 [] [] w)<|have hS := hS.drew; jx hS fun jj =>dx 0 O (by kernel_rfl) (fun w hS =>mv O O O rr) jj<|dx 1 O (by kernel_rfl) (fun w hS =>ian i i un22 sz5 O O O O (by omega) (by omega) (by omega) rr) jj<|dx 2 O (by kernel_rfl) (fun w hS =>lod hb List.not_mem_nil sc5 hS O O O (BV_get _ i (by omega)) rr) jj<|dx 3 O (by kernel_rfl) (fun w hS =>cvu32 un72 ⟨_, un5⟩ O O O rr) jj<|dx 4 O (by kernel_rfl) (fun w hS =>shln32 24 (by omega) O O O O rr) jj ?_
 refine dx 5 O (by kernel_rfl) (fun w hS =>mv O O O rr) jj<|dx 6 O (by kernel_rfl) (fun w hS =>addi (by omega) (by omega) O O O O rr) jj<|dx 7 O (by kernel_rfl) (fun w hS =>ian (i + 1) ((i + 1)) un22 sz5 O O O O (by omega) (by omega) (by omega) rr) jj<|dx 8 O (by kernel_rfl) (fun w hS =>lod hb List.not_mem_nil sc5 hS O O O (BV_get _ (i + 1) (by omega)) rr) jj<|dx 9 O (by kernel_rfl) (fun w hS =>cvu32 un72 ⟨_, un5⟩ O O O rr) jj<|dx 10 O (by kernel_rfl) (fun w hS =>shln32 16 (by omega) O O O O rr) jj<|dx 11 O (by kernel_rfl) (fun w hS =>or32 O O O O rr) jj<|dx 12 O (by kernel_rfl) (fun w hS =>mv O O O rr) jj<|dx 13 O (by kernel_rfl) (fun w hS =>addi (by omega) (by omega) O O O O rr) jj<|dx 14 O (by kernel_rfl) (fun w hS =>ian (i + 2) ((i + 2)) un22 sz5 O O O O (by omega) (by omega) (by omega) rr) jj<|dx 15 O (by kernel_rfl) (fun w hS =>lod hb List.not_mem_nil sc5 hS O O O (BV_get _ (i + 2) (by omega)) rr) jj<|dx 16 O (by kernel_rfl) (fun w hS =>cvu32 un72 ⟨_, un5⟩ O O O rr) jj ?_
 refine dx 17 O (by kernel_rfl) (fun w hS =>shln32 8 (by omega) O O O O rr) jj<|dx 18 O (by kernel_rfl) (fun w hS =>or32 O O O O rr) jj<|dx 19 O (by kernel_rfl) (fun w hS =>mv O O O rr) jj<|dx 20 O (by kernel_rfl) (fun w hS =>addi (by omega) (by omega) O O O O rr) jj<|dx 21 O (by kernel_rfl) (fun w hS =>ian (i + 3) ((i + 3)) un22 sz5 O O O O (by omega) (by omega) (by omega) rr) jj<|dx 22 O (by kernel_rfl) (fun w hS =>lod hb List.not_mem_nil sc5 hS O O O (BV_get _ (i + 3) (by omega)) rr) jj<|dx 23 O (by kernel_rfl) (fun w hS =>cvu32 un72 ⟨_, un5⟩ O O O rr) jj<|dx 24 O (by kernel_rfl) (fun w hS =>or32 O O O O rr) jj ?_
 refine dl 25 O (by kernel_rfl)<|asg O O O<|ly O<|de (by kernel_rfl)<|wt<|wc_ret<|fin1 (v := U32 ((((shl32 (toU32 (((gv v i).toNat : Int))) 24) ||| (shl32 (toU32 (((gv v (i + 1)).toNat : Int))) 16)) ||| (shl32 (toU32 (((gv v (i + 2)).toNat : Int))) 8)) ||| (toU32 (((gv v (i + 3)).toNat : Int))))) O O ?_
 exact ⟨rfl, hS.drop⟩
theorem sp_keys_load (b : V8 16) (w0 : World) : Calls Tryz.prog 135 #[.agg (BV b)] w0 (Ret w0 (.agg (WV (wds b)))) := by
 refine enter (args := [.agg (BV b)]) Tryz.func135 O O<|startw fun w hS =>rg<|bxa hS O O O fun b1 w hb1 hS =>ala zr144 hS O O fun b2 w hb2 hS =>wt<|rg<|ala zr144 hS O O fun b3 w hb3 hS =>wt<|rg<|mkf O O O<|asg O O O ?_
 refine wt<|wc_seq<|rg<|mv O O O<|wt<|wc_block ?_
 refine wc_loop (σ := Nat) (fun k =>[(2, Ptr b2 0), (3, Ptr b3 0), (4, .func (.func 166) #[] #[Ptr b1 0]), (7, I ((k : Int)))])
  (fun k w => (k ≤ 4) ∧ St w0 [] [(b3, .cells (WV (fill32 4 (wdf b) (Vector.replicate 4 0) k)) 144), (b2, .cells (WV (Vector.replicate 4 0)) 144), (b1, .cells (BV b) 22)] w) (fun k => 4 - k) 0 ⟨rfl, rfl, rfl, rfl, trivial⟩ ⟨by omega, (by simp only [Nat.zero_mul, Nat.add_zero, fill8_0, fill32_0]; exact hS)⟩ ?_
 rintro k w ⟨hk, hS⟩
 refine rg<|lss O O O O<|wt<|wc_seq ?_
 refine wc_if O (fun hc1 =>?_) (fun hc1 =>?_)
 ·try simp only [SB] at hc1
  refine wc_skip<|wt<|wc_seq<|wc_block<|rg<|mv O O O<|asg O O O<|wt<|wc_region<|mv O O O<|mv O O O<|mv O O O ?_
  refine muli (by omega) (by omega) O O O O<|cv cf166 hS O O O O O (sp_keys_load_1 ((4 * k)) b1 _ b _ _ (by omega) (by omega) (hS.get 2 O)) fun w hS =>ian k k un144 sz72 O O O O (by omega) (by omega) (by omega)<|st (cs' := WV (fill32 4 (wdf b) (Vector.replicate 4 0) (k + 1))) 0 sz72 hS O O O O O O (by rw [WV_size]; omega) (by rw [WV_set]; exact congrArg WV (fill32_succ (wdf b) (Vector.replicate 4 0) k)) fun w hS =>q_block_norm<|wt<|wc_region<|addi (by omega) (by omega) O O O O<|mv O O O ?_
  refine again_q (k + 1) ⟨O, O, O, lkI O (by first | omega | rfl), trivial⟩ ⟨by omega, hS⟩ (by omega)
 ·try simp only [SB] at hc1
  refine wc_exit<|q_then_exit<|q_then_exit<|q_block_hit<|wt<|rg<|la 0 ag144 hS O O O O (WV_size _)<|sa 1 ag144 hS O O O (WV_one _) O (WV_size _) (WV_size _) fun w hS =>wt<|wc_ret<|fin1 (v := .agg (WV (fill32 4 (wdf b) (Vector.replicate 4 0) k))) O ⟨_, O, lv_a ag144 (hS.get 1 O) (WV_size _)⟩ ?_
  refine ⟨?_, hS.drop⟩
  have hk4 : k = 4 := by omega
  subst hk4; rw [fill32_n]; rfl
theorem sp_keys_store (l : V32 4) (w0 : World) : Calls Tryz.prog 133 #[.agg (WV l)] w0 (Ret w0 (.agg (BV (unw l)))) := by
 refine enter (args := [.agg (WV l)]) Tryz.func133 O O<|startw fun w hS =>rg<|bxa hS O O O fun b1 w hb1 hS =>ala zr22 hS O O fun b2 w hb2 hS =>wt<|rg<|ala zr22 hS O O fun b3 w hb3 hS =>wt<|wc_seq<|rg<|la 2 ag144 hS O O O O (WV_size _) ?_
 refine mv O O O<|wt<|wc_block ?_
 refine wc_loop (σ := Nat) (fun k =>[(2, Ptr b2 0), (3, Ptr b3 0), (7, .agg (WV l)), (8, I ((k : Int)))])
  (fun k w => (k ≤ 4) ∧ St w0 [] [(b3, .cells (BV (fill8 16 (unwf l) (Vector.replicate 16 0) (k * 4))) 22), (b2, .cells (BV (Vector.replicate 16 0)) 22), (b1, .cells (WV l) 144)] w) (fun k => 4 - k) 0 ⟨rfl, rfl, rfl, rfl, trivial⟩ ⟨by omega, (by simp only [Nat.zero_mul, Nat.add_zero, fill8_0, fill32_0]; exact hS)⟩ ?_
 rintro k w ⟨hk, hS⟩
 refine rg<|lss O O O O<|wt<|wc_seq ?_
 refine wc_if O (fun hc1 =>?_) (fun hc1 =>?_)
 ·try simp only [SB] at hc1
  refine wc_skip<|wt<|wc_seq<|wc_block<|rg<|mv O O O<|ixn k un144 sz72 sc72 O O O O (by omega) (by omega) (WV_get _ k (by omega))<|asg O O O<|asg O O O<|wt<|rg<|mv O O O ?_
  refine wt<|wc_block ?_
  refine wc_loop (σ := Nat) (fun j =>[(2, Ptr b2 0), (3, Ptr b3 0), (4, I ((k : Int))), (5, U32 (gw l k)), (7, .agg (WV l)), (8, I ((k : Int))), (12, I ((j : Int)))])
   (fun j w => (j ≤ 4) ∧ St w0 [] [(b3, .cells (BV (fill8 16 (unwf l) (Vector.replicate 16 0) (k * 4 + j))) 22), (b2, .cells (BV (Vector.replicate 16 0)) 22), (b1, .cells (WV l) 144)] w) (fun j => 4 - j) 0 ⟨rfl, rfl, rfl, rfl, rfl, rfl, rfl, trivial⟩ ⟨by omega, (by simp only [Nat.zero_mul, Nat.add_zero, fill8_0, fill32_0]; exact hS)⟩ ?_
  rintro j w ⟨hj, hS⟩
  refine rg<|lss O O O O<|wt<|wc_seq ?_
  refine wc_if O (fun hc2 =>?_) (fun hc2 =>?_)
  ·try simp only [SB] at hc2
   refine wc_skip<|wt<|wc_seq<|wc_block<|rg<|mv O O O<|asg O O O<|wt<|wc_region<|mv O O O<|muli (by omega) (by omega) O O O O<|mv O O O ?_
   refine addi (by omega) (by omega) O O O O<|mv O O O<|mv O O O<|muli (by omega) (by omega) O O O O<|subi (by omega) (by omega) O O O O<|shrn32 (24 - (8 * j)) (by omega) O O O O<|cvu8 un5 ⟨_, un72⟩ O O O<|ian ((4 * k) + j) (((4 * k) + j)) un22 sz5 O O O O (by omega) (by omega) (by omega)<|st (cs' := BV (fill8 16 (unwf l) (Vector.replicate 16 0) (k * 4 + (j + 1)))) 0 sz5 hS O O O O O O (by rw [BV_size]; omega) (by rw [BV_set]; exact congrArg BV (store_step l _ k j (by omega))) fun w hS =>q_block_norm<|wt<|wc_region ?_
   refine addi (by omega) (by omega) O O O O<|mv O O O ?_
   refine again_q (j + 1) ⟨O, O, O, O, O, O, lkI O (by first | omega | rfl), trivial⟩ ⟨by omega, hS⟩ (by omega)
  ·try simp only [SB] at hc2
   refine wc_exit<|q_then_exit<|q_then_exit<|q_block_hit<|q_block_norm<|wt<|wc_region<|addi (by omega) (by omega) O O O O<|mv O O O ?_
   refine again_q (k + 1) ⟨O, O, O, lkI O (by first | omega | rfl), trivial⟩ ⟨by omega, (store_end hS (by omega))⟩ (by omega)
 ·try simp only [SB] at hc1
  refine wc_exit<|q_then_exit<|q_then_exit<|q_block_hit<|wt<|rg<|la 0 ag22 hS O O O O (BV_size _)<|sa 1 ag22 hS O O O (BV_one _) O (BV_size _) (BV_size _) fun w hS =>wt<|wc_ret<|fin1 (v := .agg (BV (fill8 16 (unwf l) (Vector.replicate 16 0) (k * 4)))) O ⟨_, O, lv_a ag22 (hS.get 1 O) (BV_size _)⟩ ?_
  refine ⟨?_, hS.drop⟩
  have hk4 : k = 4 := by omega
  subst hk4; rw [fill8_n]; rfl
theorem sp_sbox_table (w0 : World) : Calls Tryz.prog 131 #[] w0 (Ret w0 (.agg (BV sboxV))) := by
 refine enter (args := []) Tryz.func131 O O<|startw fun w hS =>rg<|ala zr43 hS O O fun b0 w hb0 hS =>wt<|rg<|bd (cs := BV sboxV) O O O (by kernel_rfl)<|sa 0 ag43 hS O O O (BV_one _) O (BV_size _) (BV_size _) fun w hS =>wt<|wc_ret<|fin1 (v := .agg (BV sboxV)) O ⟨_, O, lv_a ag43 (hS.get 0 O) (BV_size _)⟩ ?_
 exact ⟨rfl, hS.drop⟩
theorem sp_sbox_S (a : UInt8) (w0 : World) : Calls Tryz.prog 107 #[U8 a] w0 (Ret w0 (U8 (sbox a))) := by
 refine enter (args := [U8 a]) Tryz.func107 O O<|startw fun w hS =>?_
 have ha := a.toNat_lt
 refine rg<|asg O O O<|wt<|rg<|cv cf131 hS O O O O O (sp_sbox_table _) fun w hS =>mv O O O<|ixn ((a).toNat) un43 sz5 sc5 O O O O (by omega) (by omega) (BV_get _ ((a).toNat) (by omega))<|asg O O O<|wt<|wc_ret<|fin1 (v := U8 (gv sboxV ((a).toNat))) O O ?_
 refine ⟨?_, hS.drop⟩
 rw [gv_sbox]
theorem sp_sbox_Word (a : UInt32) (w0 : World) : Calls Tryz.prog 197 #[U32 a] w0 (Ret w0 (U32 (sword a))) := by
 refine enter (args := [U32 a]) Tryz.func197 O O<|startw fun w hS =>rg<|asg O O O<|wt<|rg<|asg O O O<|wt<|wc_seq<|rg<|asg O O O<|wt ?_
 refine wc_block ?_
 refine wc_loop (σ := Nat) (fun k =>[(0, U32 a), (2, U32 0), (3, U32 (swordL a k)), (4, I (24 - 8 * (k : Int)))])
  (fun k w => (k ≤ 4) ∧ St w0 [] [] w) (fun k => 4 - k) 0 ⟨rfl, rfl, rfl, rfl, trivial⟩ ⟨by omega, hS⟩ ?_
 rintro k w ⟨hk, hS⟩
 refine wc_seq<|rg<|mv O O O<|geq O O O O<|wt ?_
 refine wc_if O (fun hc1 =>?_) (fun hc1 =>?_)
 ·try simp only [SB] at hc1
  have hk5 : k < 4 := by omega
  refine wc_skip<|wt<|wc_seq<|wc_block<|wc_region<|mv O O O<|shln32 8 (by omega) O O O O<|mv O O O<|mv O O O<|shrn32 (24 - 8 * k) (by omega) O O O O<|cvu8 un5 ⟨_, un72⟩ O O O<|cv cf107 hS O O O O O (sp_sbox_S ((toU8 (((shr32 a (24 - 8 * k)).toNat : Int)))) _) fun w hS =>?_
  refine cvu32 un72 ⟨_, un5⟩ O O O<|or32 O O O O<|asg O O O<|q_block_norm<|wt<|wc_region<|mv O O O<|subi (by omega) (by omega) O O O O<|asg O O O ?_
  refine again_q (k + 1) ⟨O, O, O, lkI O (by first | omega | rfl), trivial⟩ ⟨by omega, hS⟩ (by omega)
 ·try simp only [SB] at hc1
  have hk4 : k = 4 := by omega
  refine wc_exit<|q_then_exit<|q_then_exit<|q_block_hit<|wt<|rg<|mv O O O<|asg O O O<|wt<|wc_ret<|fin1 (v := U32 (swordL a k)) O O ?_
  refine ⟨?_, hS.drop⟩
  rw [hk4, swordL_4]
theorem sp_math_bits_RotateLeft32 (a : UInt32) (w0 : World) : Calls Tryz.prog 198 #[U32 a, I 8] w0 (Ret w0 (U32 (rotl8 a))) := by
 refine enter (args := [U32 a, I 8]) Tryz.func198 O O<|startw fun w hS =>rg<|asg O O O<|wt<|rg<|mv O O O<|cvu64 un171 ⟨_, un3⟩ O O O<|and64 (q := (31 : UInt64)) O O O O<|asg O O O<|wt<|rg ?_
 refine mv O O O<|mv O O O<|shln32 (((toU64 8) &&& 31).toNat) (by omega) O O O O<|mv O O O<|mv O O O<|sub64 (p := (32 : UInt64)) O O O O<|shrn32 ((32 - ((toU64 8) &&& 31)).toNat) (by omega) O O O O<|or32 O O O O<|asg O O O<|wt<|wc_ret<|fin1 (v := U32 ((shl32 a (((toU64 8) &&& 31).toNat)) ||| (shr32 a ((32 - ((toU64 8) &&& 31)).toNat)))) O O ?_
 refine ⟨?_, hS.drop⟩
 rw [rotl8_eq]
theorem sp_field_Double (a : UInt8) (w0 : World) : Calls Tryz.prog 132 #[U8 a] w0 (Ret w0 (U8 (dbl a))) := by
 refine enter (args := [U8 a]) Tryz.func132 O O<|startw fun w hS =>rg<|asg O O O<|wt<|rg<|mv O O O<|shln8 1 (by omega) O O O O<|mv O O O<|cvk (q := IntKind.i8.wrap ((a).toNat : Int)) un199 ⟨_, un5⟩ O O O O<|shrk (q := Int.fdiv (IntKind.i8.wrap ((a).toNat : Int)) (2 ^ 7)) (m := 7) (by decide) O O O O O<|cvu8 un5 ⟨_, un199⟩ O O O ?_
 refine and8 (q := (27 : UInt8)) O O O O<|xor8 O O O O<|asg O O O<|wt<|wc_ret<|fin1 (v := U8 ((shl8 a 1) ^^^ ((toU8 ((Int.fdiv (IntKind.i8.wrap ((a).toNat : Int)) (2 ^ 7)))) &&& 27))) O O ?_
 refine ⟨?_, hS.drop⟩
 rw [dbl_eq]
theorem sp_field_Mul (a b : UInt8) (w0 : World) : Calls Tryz.prog 110 #[U8 a, U8 b] w0 (Ret w0 (U8 (mul a b))) := by
 refine enter (args := [U8 a, U8 b]) Tryz.func110 O O<|startw fun w hS =>rg<|asg O O O<|wt<|wc_scope<|rg<|asg O O O<|wt<|wc_seq<|wc_label<|wt ?_
 refine wc_seq<|wc_block ?_
 refine wc_loop (σ := (UInt8 × UInt8 × UInt8 × Nat)) (fun s =>[(0, U8 s.1), (1, U8 s.2.1), (4, U8 0), (5, U8 s.2.2.1)])
  (fun s w => (s.2.1.toNat < 2 ^ s.2.2.2 ∧ mulL s.2.2.2 s.1 s.2.1 s.2.2.1 = mul a b) ∧ St w0 [] [] w) (fun s => s.2.2.2) (a, b, 0, 8) ⟨rfl, rfl, rfl, rfl, trivial⟩ ⟨⟨b.toNat_lt, rfl⟩, hS⟩ ?_
 rintro s w ⟨⟨hk1, hk2⟩, hS⟩
 refine wc_block<|wc_seq<|wc_block<|rg<|mv O O O<|eqi O O O O<|asg O O O<|wt ?_
 refine wc_if O (fun hc1 =>?_) (fun hc1 =>?_)
 ·try simp only [SB] at hc1
  have hz : s.2.1 = 0 := UInt8.toNat_inj.1 (by simpa using hc1)
  refine wc_exit<|q_block_miss O<|q_then_exit<|q_block_miss O<|q_then_exit<|q_block_hit<|wt<|rg<|mv O O O<|asg O O O<|wt<|wc_ret ?_
  refine q_scope_ret<|fin1 (v := U8 s.2.2.1) O O ?_
  refine ⟨?_, hS.drop⟩
  rw [hz, mulL_zero] at hk2
  rw [hk2]
 ·try simp only [SB] at hc1
  have hz : ¬ s.2.1 = 0 := fun e => hc1 (by rw [e]; rfl)
  obtain ⟨m, hm⟩ : ∃ m, s.2.2.2 = m + 1 := ⟨s.2.2.2 - 1, by have : s.2.2.2 ≠ 0 := (fun e => hz (UInt8.toNat_inj.1 (by rw [e] at hk1; simpa using hk1))); omega⟩
  have hdec : s.2.2.2 - 1 < s.2.2.2 := by omega
  rw [hm] at hk1 hk2
  simp only [mulL, if_neg hz] at hk2
  refine rg<|mv O O O<|and8 (q := (1 : UInt8)) O O O O<|eqi O O O O<|asg O O O<|wt ?_
  refine wc_if O (fun hc2 =>?_) (fun hc2 =>?_)
  ·try simp only [SB] at hc2
   have ho : s.2.1 &&& 1 = 1 := UInt8.toNat_inj.1 (by have := hc2; simp only [UInt8.toNat_and] at this ⊢; simp at this ⊢; omega)
   rw [if_pos ho] at hk2
   have hnext : (shr8 s.2.1 1).toNat < 2 ^ (s.2.2.2 - 1) ∧ mulL (s.2.2.2 - 1) (dbl s.1) (shr8 s.2.1 1) (s.2.2.1 ^^^ s.1) = mul a b := by rw [hm]; exact ⟨shr8_lt hk1, hk2⟩
   refine wc_region<|mv O O O<|mv O O O<|xor8 O O O O<|asg O O O<|q_block_norm<|wt<|wc_region<|mv O O O<|cv cf132 hS O O O O O (sp_field_Double s.1 _) fun w hS =>mv O O O<|shrn8 1 (by omega) O O O O ?_
   refine asg O O O<|asg O O O<|q_block_norm ?_
   refine again_q (dbl s.1, shr8 s.2.1 1, s.2.2.1 ^^^ s.1, s.2.2.2 - 1) ⟨O, O, O, O, trivial⟩ ⟨hnext, hS⟩ hdec
  ·try simp only [SB] at hc2
   have ho : ¬ s.2.1 &&& 1 = 1 := fun e => hc2 (by rw [e]; rfl)
   rw [if_neg ho] at hk2
   have hnext : (shr8 s.2.1 1).toNat < 2 ^ (s.2.2.2 - 1) ∧ mulL (s.2.2.2 - 1) (dbl s.1) (shr8 s.2.1 1) s.2.2.1 = mul a b := by rw [hm]; exact ⟨shr8_lt hk1, hk2⟩
   refine wc_skip<|q_block_norm<|wt<|wc_region<|mv O O O<|cv cf132 hS O O O O O (sp_field_Double s.1 _) fun w hS =>mv O O O<|shrn8 1 (by omega) O O O O<|asg O O O<|asg O O O<|q_block_norm ?_
   refine again_q (dbl s.1, shr8 s.2.1 1, s.2.2.1, s.2.2.2 - 1) ⟨O, O, O, O, trivial⟩ ⟨hnext, hS⟩ hdec
theorem sp_field_Power (a : UInt8) (k0 : Nat) (k0_ : Int) (w0 : World) (hk0_ : k0_ = (k0 : Int)) (hk0 : k0 < 1000000) : Calls Tryz.prog 204 #[U8 a, I k0_] w0 (Ret w0 (U8 (pow a k0))) := by
 subst hk0_
 refine enter (args := [U8 a, I (k0 : Int)]) Tryz.func204 O O<|startw fun w hS =>rg<|asg O O O<|wt<|wc_seq<|rg<|mv O O O<|lss O O O O<|wt ?_
 refine wc_if O (fun hc1 =>?_) (fun hc1 =>?_)
 ·try simp only [SB] at hc1
  exfalso; omega
 ·try simp only [SB] at hc1
  refine wc_skip<|wt<|rg<|asg O O O<|wt<|wc_seq<|wc_block ?_
  refine wc_loop (σ := (UInt8 × Nat × UInt8 × Nat)) (fun s =>[(0, U8 s.1), (1, I ((s.2.1 : Int))), (4, U8 0), (5, U8 s.2.2.1)])
   (fun s w => (s.2.1 < 2 ^ s.2.2.2 ∧ s.2.1 < 1000000 ∧ powL s.2.2.2 s.1 s.2.1 s.2.2.1 = pow a k0) ∧ St w0 [] [] w) (fun s => s.2.2.2) (a, k0, 1, 64) ⟨rfl, rfl, rfl, rfl, trivial⟩ ⟨⟨by show k0 < 2 ^ 64; omega, hk0, rfl⟩, hS⟩ ?_
  rintro s w ⟨⟨hk1, hk3, hk2⟩, hS⟩
  refine wc_seq<|rg<|mv O O O<|gtr O O O O<|wt ?_
  refine wc_if O (fun hc2 =>?_) (fun hc2 =>?_)
  ·try simp only [SB] at hc2
   have hz : ¬ s.2.1 = 0 := by omega
   obtain ⟨m, hm⟩ : ∃ m, s.2.2.2 = m + 1 := ⟨s.2.2.2 - 1, by have : s.2.2.2 ≠ 0 := (fun e => hz (by rw [e] at hk1; simpa using hk1)); omega⟩
   have hdec : s.2.2.2 - 1 < s.2.2.2 := by omega
   have hh : s.2.1 / 2 < 2 ^ (s.2.2.2 - 1) := by rw [hm] at hk1 ⊢; have := hk1; rw [Nat.pow_succ] at this; show _ < 2 ^ m; omega
   rw [hm] at hk2
   simp only [powL, if_neg hz] at hk2
   refine wc_skip<|wt<|wc_seq<|wc_block<|wc_seq<|rg<|mv O O O<|andi (D := 2) 1 (by decide) (by decide) (by decide) O O O O<|eqi O O O O<|wt ?_
   refine wc_if O (fun hc3 =>?_) (fun hc3 =>?_)
   ·try simp only [SB] at hc3
    have ho : s.2.1 % 2 = 1 := by omega
    rw [if_pos ho] at hk2
    have hnext : s.2.1 / 2 < 2 ^ (s.2.2.2 - 1) ∧ s.2.1 / 2 < 1000000 ∧ powL (s.2.2.2 - 1) (mul s.1 s.1) (s.2.1 / 2) (mul s.2.2.1 s.1) = pow a k0 := ⟨hh, by omega, by rw [hm]; exact hk2⟩
    refine wc_region<|mv O O O<|mv O O O<|cv cf110 hS O O O O O (sp_field_Mul s.2.2.1 s.1 _) fun w hS =>asg O O O<|wt<|wc_region<|mv O O O<|mv O O O<|cv cf110 hS O O O O O (sp_field_Mul s.1 s.1 _) fun w hS =>asg O O O<|q_block_norm ?_
    refine wt<|wc_region<|mv O O O<|shri (D := 2) (by decide) (by decide) (by decide) O O O O<|asg O O O ?_
    refine again_q (mul s.1 s.1, s.2.1 / 2, mul s.2.2.1 s.1, s.2.2.2 - 1) ⟨O, lkI O (by first | omega | rfl), O, O, trivial⟩ ⟨hnext, hS⟩ hdec
   ·try simp only [SB] at hc3
    have ho : ¬ s.2.1 % 2 = 1 := by omega
    rw [if_neg ho] at hk2
    have hnext : s.2.1 / 2 < 2 ^ (s.2.2.2 - 1) ∧ s.2.1 / 2 < 1000000 ∧ powL (s.2.2.2 - 1) (mul s.1 s.1) (s.2.1 / 2) s.2.2.1 = pow a k0 := ⟨hh, by omega, by rw [hm]; exact hk2⟩
    refine wc_skip<|wt<|wc_region<|mv O O O<|mv O O O<|cv cf110 hS O O O O O (sp_field_Mul s.1 s.1 _) fun w hS =>asg O O O<|q_block_norm<|wt<|wc_region<|mv O O O<|shri (D := 2) (by decide) (by decide) (by decide) O O O O ?_
    refine asg O O O ?_
    refine again_q (mul s.1 s.1, s.2.1 / 2, s.2.2.1, s.2.2.2 - 1) ⟨O, lkI O (by first | omega | rfl), O, O, trivial⟩ ⟨hnext, hS⟩ hdec
  ·try simp only [SB] at hc2
   have hz : s.2.1 = 0 := by omega
   refine wc_exit<|q_then_exit<|q_then_exit<|q_block_hit<|wt<|rg<|mv O O O<|asg O O O<|wt<|wc_ret<|fin1 (v := U8 s.2.2.1) O O ?_
   refine ⟨?_, hS.drop⟩
   rw [hz, powL_zero] at hk2
   rw [hk2]
theorem sp_keys_Constant (r : Nat) (r_ : Int) (w0 : World) (hr_ : r_ = (r : Int)) (h1 : 1 ≤ r) (h2 : r ≤ 10) : Calls Tryz.prog 199 #[I r_] w0 (Ret w0 (U8 (pow 2 (r - 1)))) := by
 subst hr_
 refine enter (args := [I (r : Int)]) Tryz.func199 O O<|startw fun w hS =>rg<|asg O O O<|wt<|wc_seq<|rg<|mv O O O<|lss O O O O<|mv O O O ?_
 refine spl 5 O (fun hb1 =>?_) (fun hb1 =>?_)
 ·try simp only [SB] at hb1
  exfalso; omega
 ·try simp only [SB] at hb1
  refine mv O O O<|gtr O O O O<|pk_f O O O O<|wt ?_
  refine wc_if O (fun hc1 =>?_) (fun hc1 =>?_)
  ·try simp only [SB] at hc1
   exfalso; omega
  ·try simp only [SB] at hc1
   refine wc_skip<|wt<|rg<|mv O O O<|subi (by omega) (by omega) O O O O<|cv cf204 hS O O O O O (sp_field_Power 2 ((r - 1)) _ _ (by omega) (by omega)) fun w hS =>asg O O O<|wt<|wc_ret<|fin1 (v := U8 (pow 2 (r - 1))) O O ?_
   exact ⟨rfl, hS.drop⟩
theorem sp_keys_turned (a : UInt32) (r : Nat) (r_ : Int) (w0 : World) (hr_ : r_ = (r : Int)) (h1 : 1 ≤ r) (h2 : r ≤ 10) : Calls Tryz.prog 165 #[U32 a, I r_] w0 (Ret w0 (U32 (turned a r))) := by
 subst hr_
 refine enter (args := [U32 a, I (r : Int)]) Tryz.func165 O O<|startw fun w hS =>rg<|asg O O O<|wt<|rg<|mv O O O<|cv cf198 hS O O O O O (sp_math_bits_RotateLeft32 a _) fun w hS =>cv cf197 hS O O O O O (sp_sbox_Word ((rotl8 a)) _) fun w hS =>mv O O O<|cv cf199 hS O O O O O (sp_keys_Constant r _ _ (by omega) (by omega) (by omega)) fun w hS =>cvu32 un72 ⟨_, un5⟩ O O O ?_
 refine shln32 24 (by omega) O O O O<|xor32 O O O O<|asg O O O<|wt<|wc_ret<|fin1 (v := U32 ((sword (rotl8 a)) ^^^ (shl32 (toU32 (((pow 2 (r - 1)).toNat : Int))) 24))) O O ?_
 exact ⟨rfl, hS.drop⟩
theorem sp_keys_forward (l : V32 4) (r : Nat) (r_ : Int) (w0 : World) (hr_ : r_ = (r : Int)) (hr : r < 10) : Calls Tryz.prog 134 #[.agg (WV l), I r_] w0 (Ret w0 (.agg (WV (fwd l r)))) := by
 subst hr_
 refine enter (args := [.agg (WV l), I (r : Int)]) Tryz.func134 O O<|startw fun w hS =>rg<|bxa hS O O O fun b2 w hb2 hS =>ala zr144 hS O O fun b4 w hb4 hS =>wt<|rg<|ian 3 3 un144 sz72 O O O O (by omega) (by omega) (by omega)<|lo 1 sc72 hS O O O O (WV_get _ 3 (by omega))<|mv O O O<|addi (by omega) (by omega) O O O O<|cv cf165 hS O O O O O (sp_keys_turned ((gw l 3)) ((r + 1)) _ _ (by omega) (by omega) (by omega)) fun w hS =>?_
 refine asg O O O<|wt<|wc_seq<|rg<|mv O O O<|wt<|wc_block ?_
 refine wc_loop (σ := Nat) (fun k =>[(2, Ptr b2 0), (4, Ptr b4 0), (5, U32 ((fwdL l (turned (gw l 3) (r + 1)) k).2)), (12, I ((k : Int)))])
  (fun k w => (k ≤ 4) ∧ St w0 [] [(b4, .cells (WV (Vector.replicate 4 0)) 144), (b2, .cells (WV ((fwdL l (turned (gw l 3) (r + 1)) k).1)) 144)] w) (fun k => 4 - k) 0 ⟨rfl, rfl, rfl, rfl, trivial⟩ ⟨by omega, hS⟩ ?_
 rintro k w ⟨hk, hS⟩
 refine rg<|lss O O O O<|wt<|wc_seq ?_
 refine wc_if O (fun hc1 =>?_) (fun hc1 =>?_)
 ·try simp only [SB] at hc1
  refine wc_skip<|wt<|wc_seq<|wc_block<|rg<|mv O O O<|asg O O O<|wt<|rg<|mv O O O<|ian k k un144 sz72 O O O O (by omega) (by omega) (by omega)<|lo 1 sc72 hS O O O O (WV_get _ k (by omega)) ?_
  refine mv O O O<|xor32 O O O O<|ian k k un144 sz72 O O O O (by omega) (by omega) (by omega)<|st 1 sz72 hS O O O O O O (by rw [WV_size]; omega) (WV_set _ _ ((gw ((fwdL l (turned (gw l 3) (r + 1)) k).1) k) ^^^ ((fwdL l (turned (gw l 3) (r + 1)) k).2) : UInt32)) fun w hS =>wt<|wc_region<|mv O O O<|ian k k un144 sz72 O O O O (by omega) (by omega) (by omega)<|lo 1 sc72 hS O O O O (WV_get _ k (by omega))<|asg O O O<|q_block_norm<|wt ?_
  refine wc_region<|addi (by omega) (by omega) O O O O<|mv O O O ?_
  refine again_q (k + 1) ⟨O, O, lkU32 O (gw_set_eq _ _ _ (by omega)), lkI O (by first | omega | rfl), trivial⟩ ⟨by omega, hS⟩ (by omega)
 ·try simp only [SB] at hc1
  refine wc_exit<|q_then_exit<|q_then_exit<|q_block_hit<|wt<|rg<|la 1 ag144 hS O O O O (WV_size _)<|sa 0 ag144 hS O O O (WV_one _) O (WV_size _) (WV_size _) fun w hS =>wt<|wc_ret<|fin1 (v := .agg (WV ((fwdL l (turned (gw l 3) (r + 1)) k).1))) O ⟨_, O, lv_a ag144 (hS.get 0 O) (WV_size _)⟩ ?_
  refine ⟨?_, hS.drop⟩
  have hk4 : k = 4 := by omega
  subst hk4; rfl
theorem sp_keys_Next (r : Nat) (b : V8 16) (r_ : Int) (w0 : World) (hr_ : r_ = (r : Int)) (hr : r < 10) : Calls Tryz.prog 111 #[I r_, .agg (BV b)] w0 (Ret w0 (.tuple #[.agg (BV (nextK r b)), .bool true])) := by
 subst hr_
 refine enter (args := [I (r : Int), .agg (BV b)]) Tryz.func111 O O<|startw fun w hS =>rg<|bxa hS O O O fun b3 w hb3 hS =>ala zr22 hS O O fun b4 w hb4 hS =>asg O O O<|wt<|wc_seq<|rg<|mv O O O<|lss O O O O<|mv O O O ?_
 refine spl 8 O (fun hb1 =>?_) (fun hb1 =>?_)
 ·try simp only [SB] at hb1
  exfalso; omega
 ·try simp only [SB] at hb1
  refine mv O O O<|geq O O O O<|pk_f O O O O<|wt ?_
  refine wc_if O (fun hc1 =>?_) (fun hc1 =>?_)
  ·try simp only [SB] at hc1
   exfalso; omega
  ·try simp only [SB] at hc1
   refine wc_skip<|wt<|rg<|la 1 ag22 hS O O O O (BV_size _)<|cv cf135 hS O O O O O (sp_keys_load b _) fun w hS =>mv O O O<|cv cf134 hS O O O O O (sp_keys_forward ((wds b)) r _ _ (by omega) (by omega)) fun w hS =>cv cf133 hS O O O O O (sp_keys_store ((fwd (wds b) r)) _) fun w hS =>sa 0 ag22 hS O O O (BV_one _) O (BV_size _) (BV_size _) fun w hS =>asg O O O<|wt<|wc_ret ?_
   refine fin2 (v := .agg (BV (unw (fwd (wds b) r)))) (u := .bool true) O ⟨_, O, lv_a ag22 (hS.get 0 O) (BV_size _)⟩ O ?_
   exact ⟨rfl, hS.drop⟩
theorem sp_keys_Expand (key : V8 16) (w0 : World) : Calls Tryz.prog 74 #[.agg (BV key)] w0 (Ret w0 (.agg (BV (expand key)))) := by
 refine enter (args := [.agg (BV key)]) Tryz.func74 O O<|startw fun w hS =>rg<|bxa hS O O O fun b1 w hb1 hS =>ala zr42 hS O O fun b2 w hb2 hS =>wt<|rg<|la 1 ag22 hS O O O O (BV_size _)<|bd (cs := BV (put8 (Vector.replicate 176 0) 0 key)) O O O ((bu42 _).trans (fill_w (off := 0) (size := 16) O (BV_size _) (le_sz (a := 176) (BV_size _) (by omega)) (BV_put _ _ _ (by omega))<|O))<|ala zr42 hS O O fun b3 w hb3 hS =>sa 0 ag42 hS O O O (BV_one _) O (BV_size _) (BV_size _) fun w hS =>wt ?_
 refine wc_seq<|rg<|mv O O O<|wt<|wc_block ?_
 refine wc_loop (σ := Nat) (fun k =>[(2, Ptr b2 0), (3, Ptr b3 0), (7, I ((k : Int)))])
  (fun k w => (k ≤ 10) ∧ St w0 [] [(b3, .cells (BV (expandL key k)) 42), (b2, .cells (BV (Vector.replicate 176 0)) 42), (b1, .cells (BV key) 22)] w) (fun k => 10 - k) 0 ⟨rfl, rfl, rfl, trivial⟩ ⟨by omega, hS⟩ ?_
 rintro k w ⟨hk, hS⟩
 refine rg<|lss O O O O<|wt<|wc_seq ?_
 refine wc_if O (fun hc1 =>?_) (fun hc1 =>?_)
 ·try simp only [SB] at hc1
  refine wc_skip<|wt<|wc_seq<|wc_block<|rg<|mv O O O<|asg O O O<|wt<|wc_region<|mv O O O<|addi (by omega) (by omega) O O O O<|mv O O O ?_
  refine mv O O O<|ian k (k * 16) un42 sz22 O O O O (by omega) (by omega) (by omega)<|lp (u := .agg (BV (seg8 16 (expandL key k) (k * 16)))) 0 ag22 hS O O O O (by rw [BV_size]; omega) (BV_extract 16 _ (k * 16) (by omega)) O<|cv cf111 hS O O O O O (sp_keys_Next k ((seg8 16 (expandL key k) (k * 16))) _ _ (by omega) (by omega)) fun w hS =>mv O O O<|ext O O O O<|ext O O O O<|ian (k + 1) ((k + 1) * 16) un42 sz22 O O O O (by omega) (by omega) (by omega)<|spp (cs' := BV (put8 (expandL key k) ((k + 1) * 16) (nextK k (seg8 16 (expandL key k) (k * 16))))) 0 ag22 hS O O O (BV_one _) O (le_sz (a := 176) (BV_size _) (by omega)) (BV_size _) (BV_put _ _ _ (by omega)) fun w hS =>q_block_norm<|wt<|wc_region ?_
  refine addi (by omega) (by omega) O O O O<|mv O O O ?_
  refine again_q (k + 1) ⟨O, O, lkI O (by first | omega | rfl), trivial⟩ ⟨by omega, hS⟩ (by omega)
 ·try simp only [SB] at hc1
  refine wc_exit<|q_then_exit<|q_then_exit<|q_block_hit<|wt<|rg<|la 0 ag42 hS O O O O (BV_size _)<|sa 1 ag42 hS O O O (BV_one _) O (BV_size _) (BV_size _) fun w hS =>wt<|wc_ret<|fin1 (v := .agg (BV (expandL key k))) O ⟨_, O, lv_a ag42 (hS.get 1 O) (BV_size _)⟩ ?_
  refine ⟨?_, hS.drop⟩
  have hk4 : k = 10 := by omega
  subst hk4; rfl
theorem sp_cipher_each (fid : Nat) (cap : List Value) (f : Nat → UInt8) (w0 : World) (hcf : Callable Tryz.prog fid) (hf : ∀ (k : Nat) (w : World), k < 16 → St w0 [] [] w → Calls Tryz.prog fid (I (k : Int) :: cap).toArray w (Ret w (U8 (f k)))) : Calls Tryz.prog 136 #[.func (.func fid) #[] cap.toArray] w0 (Ret w0 (.agg (BV (Vector.ofFn (n := 16) fun i => f i.val)))) := by
 refine enter (args := [.func (.func fid) #[] cap.toArray]) Tryz.func136 O O<|startw fun w hS =>rg<|ala zr22 hS O O fun b2 w hb2 hS =>wt<|rg<|ala zr22 hS O O fun b3 w hb3 hS =>wt<|wc_seq<|rg<|mv O O O<|wt ?_
 refine wc_block ?_
 refine wc_loop (σ := Nat) (fun k =>[(0, .func (.func fid) #[] cap.toArray), (2, Ptr b2 0), (3, Ptr b3 0), (5, I ((k : Int)))])
  (fun k w => (k ≤ 16) ∧ St w0 [] [(b3, .cells (BV (fill8 16 f (Vector.replicate 16 0) k)) 22), (b2, .cells (BV (Vector.replicate 16 0)) 22)] w) (fun k => 16 - k) 0 ⟨rfl, rfl, rfl, rfl, trivial⟩ ⟨by omega, (by simp only [Nat.zero_mul, Nat.add_zero, fill8_0, fill32_0]; exact hS)⟩ ?_
 rintro k w ⟨hk, hS⟩
 refine rg<|lss O O O O<|wt<|wc_seq ?_
 refine wc_if O (fun hc1 =>?_) (fun hc1 =>?_)
 ·try simp only [SB] at hc1
  refine wc_skip<|wt<|wc_seq<|wc_block<|rg<|mv O O O<|asg O O O<|wt<|wc_region<|mv O O O<|mv O O O<|mv O O O ?_
  refine cv hcf hS O O O O O (hf k w (by omega) hS.drop) fun w hS =>ian k k un22 sz5 O O O O (by omega) (by omega) (by omega)<|st (cs' := BV (fill8 16 f (Vector.replicate 16 0) (k + 1))) 0 sz5 hS O O O O O O (by rw [BV_size]; omega) (by rw [BV_set]; exact congrArg BV (fill8_succ f (Vector.replicate 16 0) k)) fun w hS =>q_block_norm<|wt<|wc_region<|addi (by omega) (by omega) O O O O<|mv O O O ?_
  refine again_q (k + 1) ⟨O, O, O, lkI O (by first | omega | rfl), trivial⟩ ⟨by omega, hS⟩ (by omega)
 ·try simp only [SB] at hc1
  refine wc_exit<|q_then_exit<|q_then_exit<|q_block_hit<|wt<|rg<|la 0 ag22 hS O O O O (BV_size _)<|sa 1 ag22 hS O O O (BV_one _) O (BV_size _) (BV_size _) fun w hS =>wt<|wc_ret<|fin1 (v := .agg (BV (fill8 16 f (Vector.replicate 16 0) k))) O ⟨_, O, lv_a ag22 (hS.get 1 O) (BV_size _)⟩ ?_
  refine ⟨?_, hS.drop⟩
  have hk4 : k = 16 := by omega
  subst hk4; rw [fill8_n]
theorem sp_field_Sum (a : Option Addr) (n cap : Nat) (bs : List UInt8) (w0 : World) (hn : bs.length = n) (hN : n ≤ 1000000) (hc : Cel w0 a (c8 bs)) : Calls Tryz.prog 167 #[.slice a n cap] w0 (Ret w0 (U8 (xorl bs))) := by
 refine enter (args := [.slice a n cap]) Tryz.func167 O O<|startw fun w hS =>rg<|asg O O O<|wt<|rg<|asg O O O<|wt<|wc_seq<|rg<|mv O O O<|lens un30 O O O ?_
 refine mv O O O<|wt<|wc_block ?_
 refine wc_loop (σ := Nat) (fun k =>[(2, U8 0), (3, U8 (xorl (bs.take k))), (6, .slice a n cap), (7, I (((n : Nat) : Int))), (8, I ((k : Int)))])
  (fun k w => (k ≤ n) ∧ St w0 [] [] w) (fun k => n - k) 0 ⟨rfl, rfl, rfl, rfl, rfl, trivial⟩ ⟨by omega, hS⟩ ?_
 rintro k w ⟨hk, hS⟩
 refine rg<|lss O O O O<|wt<|wc_seq ?_
 refine wc_if O (fun hc1 =>?_) (fun hc1 =>?_)
 ·try simp only [SB] at hc1
  refine wc_skip<|wt<|wc_seq<|wc_block<|rg<|slx k un30 sz5 O O O O (by omega) (by omega) ((hc.st hS).some8 (j := k) (by first | omega | (simp; done) | (simp; omega)))<|ldx sc5 O O O (hc.st hS) (by first | omega | (simp; done) | (simp; omega))<|asg O O O<|wt<|wc_region<|mv O O O<|mv O O O ?_
  refine xor8 O O O O<|asg O O O<|q_block_norm<|wt<|wc_region<|addi (by omega) (by omega) O O O O<|mv O O O ?_
  refine again_q (k + 1) ⟨O, lkU8 O ((xorl_take bs k (by omega)).symm), O, O, lkI O (by first | omega | rfl), trivial⟩ ⟨by omega, hS⟩ (by omega)
 ·try simp only [SB] at hc1
  have he : k = bs.length := by omega
  refine wc_exit<|q_then_exit<|q_then_exit<|q_block_hit<|wt<|rg<|mv O O O<|asg O O O<|wt<|wc_ret<|fin1 (v := U8 (xorl (bs.take k))) O O ?_
  refine ⟨?_, hS.drop⟩
  rw [he, List.take_length]
theorem sp_field_Dot (a b : V8 4) (w0 : World) : Calls Tryz.prog 138 #[.agg (BV a), .agg (BV b)] w0 (Ret w0 (U8 (dot a b))) := by
 refine enter (args := [.agg (BV a), .agg (BV b)]) Tryz.func138 O O<|startw fun w hS =>rg<|bxa hS O O O fun b2 w hb2 hS =>bxa hS O O O fun b3 w hb3 hS =>asg O O O<|wt<|rd mo 22 (fun w =>St w0 [] [(b3, .cells (BV b) 205), (b2, .cells (BV a) 205)] w)<|have hS := hS.drew; jx hS fun jj =>dx 0 O (by kernel_rfl) (fun w hS =>ian 0 0 un205 sz5 O O O O (by omega) (by omega) (by omega) rr) jj<|dx 1 O (by kernel_rfl) (fun w hS =>lo 1 sc5 hS O O O O (BV_get _ 0 (by omega)) rr) jj<|dx 2 O (by kernel_rfl) (fun w hS =>ian 0 0 un205 sz5 O O O O (by omega) (by omega) (by omega) rr) jj ?_
 refine dx 3 O (by kernel_rfl) (fun w hS =>lo 0 sc5 hS O O O O (BV_get _ 0 (by omega)) rr) jj<|dx 5 O (by kernel_rfl) (fun w hS =>ian 1 1 un205 sz5 O O O O (by omega) (by omega) (by omega) rr) jj<|dx 6 O (by kernel_rfl) (fun w hS =>lo 1 sc5 hS O O O O (BV_get _ 1 (by omega)) rr) jj<|dx 7 O (by kernel_rfl) (fun w hS =>ian 1 1 un205 sz5 O O O O (by omega) (by omega) (by omega) rr) jj<|dx 8 O (by kernel_rfl) (fun w hS =>lo 0 sc5 hS O O O O (BV_get _ 1 (by omega)) rr) jj<|dx 10 O (by kernel_rfl) (fun w hS =>ian 2 2 un205 sz5 O O O O (by omega) (by omega) (by omega) rr) jj<|dx 11 O (by kernel_rfl) (fun w hS =>lo 1 sc5 hS O O O O (BV_get _ 2 (by omega)) rr) jj<|dx 12 O (by kernel_rfl) (fun w hS =>ian 2 2 un205 sz5 O O O O (by omega) (by omega) (by omega) rr) jj<|dx 13 O (by kernel_rfl) (fun w hS =>lo 0 sc5 hS O O O O (BV_get _ 2 (by omega)) rr) jj<|dx 15 O (by kernel_rfl) (fun w hS =>ian 3 3 un205 sz5 O O O O (by omega) (by omega) (by omega) rr) jj<|dx 16 O (by kernel_rfl) (fun w hS =>lo 1 sc5 hS O O O O (BV_get _ 3 (by omega)) rr) jj<|dx 17 O (by kernel_rfl) (fun w hS =>ian 3 3 un205 sz5 O O O O (by omega) (by omega) (by omega) rr) jj ?_
 refine dx 18 O (by kernel_rfl) (fun w hS =>lo 0 sc5 hS O O O O (BV_get _ 3 (by omega)) rr) jj ?_
 refine dl 4 O (by kernel_rfl)<|cv cf110 hS O O O O O (sp_field_Mul ((gv a 0)) ((gv b 0)) _) fun w hS =>lx hS fun jj =>?_
 refine dl 9 O (by kernel_rfl)<|cv cf110 hS O O O O O (sp_field_Mul ((gv a 1)) ((gv b 1)) _) fun w hS =>lx hS fun jj =>?_
 refine dl 14 O (by kernel_rfl)<|cv cf110 hS O O O O O (sp_field_Mul ((gv a 2)) ((gv b 2)) _) fun w hS =>lx hS fun jj =>?_
 refine dl 19 O (by kernel_rfl)<|cv cf110 hS O O O O O (sp_field_Mul ((gv a 3)) ((gv b 3)) _) fun w hS =>lx hS fun jj =>?_
 refine dl 20 O (by kernel_rfl)<|bsl (cs := #[U8 (mul (gv a 0) (gv b 0)), U8 (mul (gv a 1) (gv b 1)), U8 (mul (gv a 2) (gv b 2)), U8 (mul (gv a 3) (gv b 3))]) sl30 hS O O O O (by kernel_rfl) fun b25 w hb25 hS =>lx hS.tl fun jj =>?_
 refine dl 21 O (by kernel_rfl)<|cv cf167 hS O O O O O (sp_field_Sum ((some ⟨b25, 0, none⟩)) 4 4 (([mul (gv a 0) (gv b 0), mul (gv a 1) (gv b 1), mul (gv a 2) (gv b 2), mul (gv a 3) (gv b 3)])) _ (by first | rfl | omega | (simp; omega) | (simp; done)) (by omega) (Cel.lb (l := [mul (gv a 0) (gv b 0), mul (gv a 1) (gv b 1), mul (gv a 2) (gv b 2), mul (gv a 3) (gv b 3)]) (hS.get 0 O))) fun w hS =>lx hS.tl fun jj =>?_
 refine dl 22 O (by kernel_rfl)<|asg O O O<|ly O<|de (by kernel_rfl)<|wt<|wc_ret<|fin1 (v := U8 (xorl ([mul (gv a 0) (gv b 0), mul (gv a 1) (gv b 1), mul (gv a 2) (gv b 2), mul (gv a 3) (gv b 3)]))) O O ?_
 exact ⟨rfl, hS.drop⟩
theorem sp_cipher_columns_1 (i rb bb E1 E2 : Nat) (row : V8 4) (b : V8 16) (i_ : Int) (w0 : World) (hi_ : i_ = (i : Int)) (hi : i < 16) (hr : w0.heap[rb]? = some (.cells (BV row) E1)) (hb : w0.heap[bb]? = some (.cells (BV b) E2)) : Calls Tryz.prog 137 #[I i_, Ptr rb 0, Ptr bb 0] w0 (Ret w0 (U8 (colf row b i))) := by
 subst hi_
 refine enter (args := [I (i : Int), Ptr rb 0, Ptr bb 0]) Tryz.func137 O O<|startw fun w hS =>rg<|asg O O O<|wt<|rg<|mv O O O<|andni (D := 4) 2 (by decide) (by decide) (by decide) (by omega) (by omega) O O O O<|mv O O O<|andi (D := 4) 2 (by decide) (by decide) (by decide) O O O O<|asg O O O<|asg O O O ?_
 refine wt<|rd mo 22 (fun w =>St w0 [] [] w)<|have hS := hS.drew; jx hS fun jj =>dx 0 O (by kernel_rfl) (fun w hS =>mv O O O rr) jj<|dx 1 O (by kernel_rfl) (fun w hS =>subi (by omega) (by omega) O O O O rr) jj<|dx 2 O (by kernel_rfl) (fun w hS =>andi (D := 4) 2 (by decide) (by decide) (by decide) O O O O rr) jj<|dx 3 O (by kernel_rfl) (fun w hS =>ian ((4 - (i % 4)) % 4) (((4 - (i % 4)) % 4)) un205 sz5 O O O O (by omega) (by omega) (by omega) rr) jj<|dx 4 O (by kernel_rfl) (fun w hS =>lod hr List.not_mem_nil sc5 hS O O O (BV_get _ ((4 - (i % 4)) % 4) (by omega)) rr) jj<|dx 5 O (by kernel_rfl) (fun w hS =>mv O O O rr) jj<|dx 6 O (by kernel_rfl) (fun w hS =>subi (by omega) (by omega) O O O O rr) jj<|dx 7 O (by kernel_rfl) (fun w hS =>andi (D := 4) 2 (by decide) (by decide) (by decide) O O O O rr) jj<|dx 8 O (by kernel_rfl) (fun w hS =>ian ((5 - (i % 4)) % 4) (((5 - (i % 4)) % 4)) un205 sz5 O O O O (by omega) (by omega) (by omega) rr) jj ?_
 refine dx 9 O (by kernel_rfl) (fun w hS =>lod hr List.not_mem_nil sc5 hS O O O (BV_get _ ((5 - (i % 4)) % 4) (by omega)) rr) jj<|dx 10 O (by kernel_rfl) (fun w hS =>mv O O O rr) jj<|dx 11 O (by kernel_rfl) (fun w hS =>subi (by omega) (by omega) O O O O rr) jj<|dx 12 O (by kernel_rfl) (fun w hS =>andi (D := 4) 2 (by decide) (by decide) (by decide) O O O O rr) jj<|dx 13 O (by kernel_rfl) (fun w hS =>ian ((6 - (i % 4)) % 4) (((6 - (i % 4)) % 4)) un205 sz5 O O O O (by omega) (by omega) (by omega) rr) jj<|dx 14 O (by kernel_rfl) (fun w hS =>lod hr List.not_mem_nil sc5 hS O O O (BV_get _ ((6 - (i % 4)) % 4) (by omega)) rr) jj<|dx 15 O (by kernel_rfl) (fun w hS =>mv O O O rr) jj<|dx 16 O (by kernel_rfl) (fun w hS =>subi (by omega) (by omega) O O O O rr) jj<|dx 17 O (by kernel_rfl) (fun w hS =>andi (D := 4) 2 (by decide) (by decide) (by decide) O O O O rr) jj<|dx 18 O (by kernel_rfl) (fun w hS =>ian ((7 - (i % 4)) % 4) (((7 - (i % 4)) % 4)) un205 sz5 O O O O (by omega) (by omega) (by omega) rr) jj<|dx 19 O (by kernel_rfl) (fun w hS =>lod hr List.not_mem_nil sc5 hS O O O (BV_get _ ((7 - (i % 4)) % 4) (by omega)) rr) jj<|dx 20 O (by kernel_rfl) (fun w hS =>bd (cs := BV (#v[gv row ((4 - (i % 4)) % 4), gv row ((5 - (i % 4)) % 4), gv row ((6 - (i % 4)) % 4), gv row ((7 - (i % 4)) % 4)])) O O O (by kernel_rfl) rr) jj ?_
 refine dl 21 O (by kernel_rfl)<|ala zr205 hS O O fun b7 w hb7 hS =>lx hS.tl fun jj =>?_
 refine dl 22 O (by kernel_rfl)<|sa 0 ag205 hS O O O (BV_one _) O (BV_size _) (BV_size _) fun w hS =>ly O<|de (by kernel_rfl)<|wt<|rd mo 8 (fun w =>St w0 [] [(b7, .cells (BV (#v[gv row ((4 - (i % 4)) % 4), gv row ((5 - (i % 4)) % 4), gv row ((6 - (i % 4)) % 4), gv row ((7 - (i % 4)) % 4)])) 205)] w)<|have hS := hS.drew; jx hS fun jj =>dx 0 O (by kernel_rfl) (fun w hS =>la 0 ag205 hS O O O O (BV_size _) rr) jj<|dx 1 O (by kernel_rfl) (fun w hS =>mv O O O rr) jj<|dx 2 O (by kernel_rfl) (fun w hS =>mv O O O rr) jj<|dx 3 O (by kernel_rfl) (fun w hS =>addi (by omega) (by omega) O O O O rr) jj<|dx 4 O (by kernel_rfl) (fun w hS =>a_lhn (i - i % 4) ((i - i % 4) + 4) ((i - i % 4)) un22 sz5 O O O O O (by omega) (by omega) (by omega) (by omega) (by omega) (by omega) rr) jj ?_
 refine dx 5 O (by kernel_rfl) (fun w hS =>s2a un205 O O O (by omega) rr) jj<|dx 6 O (by kernel_rfl) (fun w hS =>lpd (u := .agg (BV (seg8 4 b (i - i % 4)))) hb List.not_mem_nil ag205 hS O O O (by rw [BV_size]; omega) (BV_extract 4 _ (i - i % 4) (by omega)) O rr) jj ?_
 refine dl 7 O (by kernel_rfl)<|cv cf138 hS O O O O O (sp_field_Dot ((#v[gv row ((4 - (i % 4)) % 4), gv row ((5 - (i % 4)) % 4), gv row ((6 - (i % 4)) % 4), gv row ((7 - (i % 4)) % 4)])) ((seg8 4 b (i - i % 4))) _) fun w hS =>lx hS fun jj =>?_
 refine dl 8 O (by kernel_rfl)<|asg O O O<|ly O<|de (by kernel_rfl)<|wt<|wc_ret<|fin1 (v := U8 (dot (#v[gv row ((4 - (i % 4)) % 4), gv row ((5 - (i % 4)) % 4), gv row ((6 - (i % 4)) % 4), gv row ((7 - (i % 4)) % 4)]) (seg8 4 b (i - i % 4)))) O O ?_
 exact ⟨rfl, hS.drop⟩
theorem sp_cipher_columns (b : V8 16) (row : V8 4) (w0 : World) : Calls Tryz.prog 112 #[.agg (BV b), .agg (BV row)] w0 (Ret w0 (.agg (BV (cols b row)))) := by
 refine enter (args := [.agg (BV b), .agg (BV row)]) Tryz.func112 O O<|startw fun w hS =>rg<|bxa hS O O O fun b2 w hb2 hS =>bxa hS O O O fun b3 w hb3 hS =>ala zr22 hS O O fun b4 w hb4 hS =>wt<|rg<|mkf O O O<|cv cf136 hS O O O O O (sp_cipher_each 137 [Ptr b3 0, Ptr b2 0] (colf row b) w cf137 (fun k w hk hq =>sp_cipher_columns_1 k b3 b2 _ _ row b _ w O hk (hq.old (hS.get 1 O) List.not_mem_nil) (hq.old (hS.get 2 O) List.not_mem_nil))) fun w hS =>sa 0 ag22 hS O O O (BV_one _) O (BV_size _) (BV_size _) fun w hS =>wt ?_
 refine wc_ret<|fin1 (v := .agg (BV (cols b row))) O ⟨_, O, lv_a ag22 (hS.get 0 O) (BV_size _)⟩ ?_
 exact ⟨rfl, hS.drop⟩
theorem sp_cipher_Unmix (b : V8 16) (w0 : World) : Calls Tryz.prog 76 #[.agg (BV b)] w0 (Ret w0 (.agg (BV (unmix b)))) := by
 refine enter (args := [.agg (BV b)]) Tryz.func76 O O<|startw fun w hS =>rg<|bxa hS O O O fun b1 w hb1 hS =>ala zr22 hS O O fun b2 w hb2 hS =>wt<|rg<|la 1 ag22 hS O O O O (BV_size _)<|bd (cs := BV (#v[14, 11, 13, 9])) O O O (by kernel_rfl)<|cv cf112 hS O O O O O (sp_cipher_columns b (#v[14, 11, 13, 9]) _) fun w hS =>sa 0 ag22 hS O O O (BV_one _) O (BV_size _) (BV_size _) fun w hS =>wt ?_
 refine wc_ret<|fin1 (v := .agg (BV (cols b #v[14, 11, 13, 9]))) O ⟨_, O, lv_a ag22 (hS.get 0 O) (BV_size _)⟩ ?_
 exact ⟨rfl, hS.drop⟩
theorem sp_fast_column (a b c e : UInt8) (w0 : World) : Calls Tryz.prog 109 #[U8 a, U8 b, U8 c, U8 e] w0 (Ret w0 (U32 (col a b c e))) := by
 refine enter (args := [U8 a, U8 b, U8 c, U8 e]) Tryz.func109 O O<|startw fun w hS =>rg<|asg O O O<|wt<|rg<|mv O O O<|cvu32 un72 ⟨_, un5⟩ O O O<|shln32 24 (by omega) O O O O<|mv O O O<|cvu32 un72 ⟨_, un5⟩ O O O<|shln32 16 (by omega) O O O O ?_
 refine or32 O O O O<|mv O O O<|cvu32 un72 ⟨_, un5⟩ O O O<|shln32 8 (by omega) O O O O<|or32 O O O O<|mv O O O<|cvu32 un72 ⟨_, un5⟩ O O O<|or32 O O O O<|asg O O O<|wt<|wc_ret<|fin1 (v := U32 ((((shl32 (toU32 (((a).toNat : Int))) 24) ||| (shl32 (toU32 (((b).toNat : Int))) 16)) ||| (shl32 (toU32 (((c).toNat : Int))) 8)) ||| (toU32 (((e).toNat : Int))))) O O ?_
 exact ⟨rfl, hS.drop⟩
end Go.Proofs.XS
