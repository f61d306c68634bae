/- The datagrams that a session sends have rising numbers; at the greatest one it is exhausted, for ever, and emits nothing: for every key and every two numbers, true; the arguments read as before. -/
import Derived.Test.YtdcophmboncacaaGreatDoorBase6
import Derived.Test.YtdcophmboncacaaGreatDoorProg
import Derived.Test.YtdcophmboncacaaGreatDoorCards
import Derived.Test.YtdcophmboncacaaGreatDoorTie
set_option linter.unusedVariables false
set_option linter.unusedSimpArgs false
set_option linter.unnecessarySimpa false
/- walks -/
namespace Go.Proofs.XS
open Go Go.X Go.Proofs
set_option maxRecDepth 1000000 in
theorem cf8 : Callable Tryz.prog 8 := ⟨_, Tryz.func8, by kernel_rfl, rfl⟩
end Go.Proofs.XS

/- The numbers that a session gives (no program in sight). -/
namespace Go.X
open Go
def NumI (key : V8 16) (k i : Nat) (m : SS) : Prop := m.cz = false ∧ m.ad = [115, 58, 49] ∧ m.key = key ∧ m.dir = 0 ∧ m.nx.toNat = 9223372036854775807 - k + min i k ∧ m.fs + m.gv = m.nx
def frsN (k : Nat) : UInt64 := 9223372036854775807 - toU64 (k : Int)
theorem frsN_nat {k : Nat} (h : k ≤ 5) : (frsN k).toNat = 9223372036854775807 - k := by
  have e1 : (toU64 (k : Int)).toNat = k := by simp only [toU64, UInt64.toNat_ofNat']; omega
  have e2 : (9223372036854775807 : UInt64).toNat = 9223372036854775807 := rfl
  rw [frsN, UInt64.toNat_sub_of_le _ _ (by rw [UInt64.le_iff_toNat_le, e1, e2]; omega), e1, e2]
theorem frs_eq (x : Nat) : 9223372036854775807 - toU64 ((x : Int) % 6) = frsN (x % 6) :=
  congrArg (fun z : Int => (9223372036854775807 : UInt64) - toU64 z) (by omega : (x : Int) % 6 = ((x % 6 : Nat) : Int))
theorem mn_lo {x : UInt64} (h : x.toNat ≤ 9223372036854775807) : mnU x 9223372036854775807 = x := by
  unfold mnU; rw [if_neg (fun h2 => by have := UInt64.lt_iff_toNat_lt.1 h2; have e : (9223372036854775807 : UInt64).toNat = 9223372036854775807 := rfl; omega)]
theorem num_0' (key : V8 16) {k : Nat} {x : UInt64} (h : x.toNat = 9223372036854775807 - k) : NumI key k 0 (sesN key 0 [115, 58, 49] x) := by
  have e := mn_lo (x := x) (by omega)
  have ok : adA [115, 58, 49] = [115, 58, 49] := by decide
  unfold NumI sesN
  rw [e]
  exact ⟨rfl, ok, rfl, rfl, by show x.toNat = _; rw [h]; simp, by show x + 0 = x; rw [UInt64.add_zero]⟩
theorem num_0 (key : V8 16) {k : Nat} (h : k ≤ 5) {m : SS} (hm : m = sesN key 0 [115, 58, 49] (frsN k)) : NumI key k 0 m := by
  rw [hm]; exact num_0' key (frsN_nat h)
theorem num_lo {key : V8 16} {k i : Nat} {m m2 : SS} {e : Nat} {ad q : List UInt8} {x : UInt64} (hI : NumI key k i m) (h : i < k) (hk : k ≤ 5) (hm : m2 = sndM m 0) (he : e = sndE m 0) (ha : ad = sndA m 0) (hq : q = sndB m [] x) :
    e = 0 ∧ ad = [115, 58, 49] ∧ q.length = 28 ∧ headD2 q = 0 ∧ headS2 q = frsN k + toU64 (i : Int) ∧ NumI key k (i + 1) m2 := by
  obtain ⟨h1, h2, h3, h4, h5, h6⟩ := hI
  have h0 : sndE m 0 = 0 := sndE_ok h1 (by omega) (by rw [h2]; decide) (by omega)
  have hQ : q = encP key ((0 : Nat) : Int) m.nx (ofT x) (replyV m.kp x) [] := by rw [hq, sndB, if_pos (by exact h0), h3, h4]
  obtain ⟨a1, _, _, _, _, _, _, a8, a9⟩ := encP_cons (key := key) (d := 0) (s := m.nx) (t := ofT x) (e := replyV m.kp x) (bs := []) (by omega) (by omega) (by decide)
  rw [← hQ] at a1 a8 a9
  have hl : lng q.length = 0 := by rw [a1]; rfl
  obtain ⟨b1, b2⟩ := peek_ok (bs := q) rfl hl
  have e1 : (toU64 (i : Int)).toNat = i := by simp only [toU64, UInt64.toNat_ofNat']; omega
  have hn : m.nx = frsN k + toU64 (i : Int) := UInt64.toNat_inj.1 (by rw [UInt64.toNat_add, frsN_nat hk, e1, h5]; omega)
  have e2 : (1 : UInt64).toNat = 1 := rfl
  refine ⟨by omega, by rw [ha, sndA, if_pos h0, h2], a1, by omega, by rw [← b2, a9, hn], ?_⟩
  rw [hm, sndM, if_pos h0]
  exact ⟨h1, h2, h3, h4, by show (m.nx + 1).toNat = _; rw [UInt64.toNat_add, h5, e2]; omega, by show m.fs + (m.gv + 1) = m.nx + 1; rw [← UInt64.add_assoc, h6]⟩
theorem num_hi {key : V8 16} {k i : Nat} {m m2 : SS} {e : Nat} {ad q : List UInt8} {x : UInt64} (hI : NumI key k i m) (h : k ≤ i) (hk : k ≤ 5) (hm : m2 = sndM m 0) (he : e = sndE m 0) (ha : ad = sndA m 0) (hq : q = sndB m [] x) :
    e = 6 ∧ ad = [] ∧ q.length = 0 ∧ NumI key k (i + 1) m2 := by
  obtain ⟨h1, h2, h3, h4, h5, h6⟩ := hI
  have h0 : sndE m 0 = 6 := sndE_6 h1 (by omega) (by rw [h2]; decide) (by omega)
  have hne : ¬ sndE m 0 = 0 := by omega
  refine ⟨by omega, by rw [ha, sndA, if_neg hne], by rw [hq, sndB, if_neg (by exact hne)]; rfl, ?_⟩
  rw [hm, sndM, if_neg hne]
  exact ⟨h1, h2, h3, h4, by omega, h6⟩
theorem num_end {key : V8 16} {k j i : Nat} {m : SS} (hI : NumI key k i m) (h : k ≤ i) (hk : k ≤ 5) : m.fs + m.gv = frsN k + toU64 ((min k (k + j) : Nat) : Int) := by
  obtain ⟨h1, h2, h3, h4, h5, h6⟩ := hI
  have e1 : (toU64 ((min k (k + j) : Nat) : Int)).toNat = k := by simp only [toU64, UInt64.toNat_ofNat']; omega
  rw [h6]
  exact UInt64.toNat_inj.1 (by rw [UInt64.toNat_add, frsN_nat hk, e1, h5]; omega)
end Go.X

/- walks -/
namespace Go.Proofs.XS
open Go Go.X Go.Proofs
set_option maxRecDepth 100000 in
theorem sp_mooringref01_Number (a : Option Addr) (n cap : Nat) (bs : List UInt8) (w0 : World) (hn : bs.length = n) (hN : n ≤ 1000000) (hc : Cel w0 a (c8 bs)) : Calls Tryz.prog 40 #[.slice a n cap] w0 (Ret w0 (U64 (num2 bs))) := by
  refine enter (args := [.slice a n cap]) Tryz.func40 rfl rfl ?_
  refine startw fun w hS => ?_
  refine rg ?_
  refine asg rfl rfl rfl ?_
  refine wq_then ?_
  refine rg ?_
  refine asg rfl rfl rfl ?_
  refine wq_then ?_
  refine wc_seq ?_
  refine rg ?_
  refine asg rfl rfl rfl ?_
  refine wq_then ?_
  refine wc_block ?_
  refine wc_loop (σ := Nat) (fun k => [(0, .slice a n cap), (2, U64 (0)), (3, U64 (num2 (bs.take k))), (4, I ((k : Int)))])
    (fun k w => (k ≤ n) ∧ St w0 [] [] w) (fun k => n - k) 0 ⟨rfl, rfl, rfl, rfl, trivial⟩ ⟨by omega, hS⟩ ?_
  rintro k w ⟨hk, hS⟩
  refine wc_seq ?_
  refine rg ?_
  refine mv rfl rfl rfl ?_
  refine mv rfl rfl rfl ?_
  refine lens Tryz.underlying30 rfl rfl rfl ?_
  refine lss rfl rfl rfl rfl ?_
  refine wq_then ?_
  refine wc_if rfl (fun hc1 => ?_) (fun hc1 => ?_)
  · skip
    try simp only [SB] at hc1
    refine wc_skip ?_
    refine wq_then ?_
    refine wc_seq ?_
    refine wc_block ?_
    refine wc_region ?_
    refine mv rfl rfl rfl ?_
    refine mul64 (q := (256 : UInt64)) rfl rfl rfl rfl ?_
    refine mv rfl rfl rfl ?_
    refine mv rfl rfl rfl ?_
    refine slx (k) Tryz.underlying30 sz5 rfl rfl rfl rfl (by omega) (by omega) ((hc.st hS).some8 (j := k) (by first | omega | (simp; done) | (simp; omega))) ?_
    refine ldx sc5 rfl rfl rfl (hc.st hS) (by first | omega | (simp; done) | (simp; omega)) ?_
    refine cvu64 Tryz.underlying24 ⟨_, Tryz.underlying5⟩ rfl rfl rfl ?_
    refine add64 rfl rfl rfl rfl ?_
    refine asg rfl rfl rfl ?_
    refine q_block_norm ?_
    refine wq_then ?_
    refine wc_region ?_
    refine mv rfl rfl rfl ?_
    refine addi (by omega) (by omega) rfl rfl rfl rfl ?_
    refine asg rfl rfl rfl ?_
    refine again_q (k + 1) ⟨rfl, rfl, lkU64 rfl (num2_take _ _ (by omega)), lkI rfl (by first | omega | rfl), trivial⟩ ⟨by omega, hS⟩ (by omega)
  · skip
    try simp only [SB] at hc1
    have hk4 : k = bs.length := by omega
    refine wc_exit ?_
    refine q_then_exit ?_
    refine q_then_exit ?_
    refine q_block_hit ?_
    refine wq_then ?_
    refine rg ?_
    refine mv rfl rfl rfl ?_
    refine asg rfl rfl rfl ?_
    refine wq_then ?_
    refine wc_ret ?_
    refine fin1 (v := U64 (num2 (bs.take k))) rfl rfl ?_
    refine ⟨?_, hS.drop⟩
    rw [hk4, List.take_length]
end Go.Proofs.XS

/- walks -/
namespace Go.Proofs.XS
open Go Go.X Go.Proofs
set_option maxRecDepth 100000 in
theorem sp_mooringref15_ParseHead (a : Option Addr) (n cap : Nat) (bs : List UInt8) (w0 : World) (hn : bs.length = n) (hN : n ≤ 1000000) (hc : Cel w0 a (c8 bs)) (hcap : n ≤ cap) (h8 : 8 ≤ n) : Calls Tryz.prog 11 #[.slice a n cap] w0 (Ret w0 (.tuple #[I ((headD2 bs : Nat) : Int), U64 (headS2 bs)])) := by
  refine enter (args := [.slice a n cap]) Tryz.func11 rfl rfl ?_
  refine startw fun w hS => ?_
  refine rg ?_
  refine asg rfl rfl rfl ?_
  refine asg rfl rfl rfl ?_
  refine wq_then ?_
  refine rg ?_
  refine mv rfl rfl rfl ?_
  refine s_h (8) Tryz.underlying30 ⟨_, sz5⟩ rfl rfl rfl rfl (by omega) (by omega) ?_
  refine cv cf40 hS rfl rfl rfl rfl rfl (sp_mooringref01_Number (a) (8) (cap) (((bs).take 8)) _ (by first | rfl | omega | (simp; omega) | (simp; done)) (by omega) ((hc.st hS).take8 8)) ?_
  intro w hS
  refine asg rfl rfl rfl ?_
  refine wq_then ?_
  refine wc_seq ?_
  refine rg ?_
  refine mv rfl rfl rfl ?_
  refine geq rfl rfl rfl rfl ?_
  refine wq_then ?_
  refine wc_if rfl (fun hc1 => ?_) (fun hc1 => ?_)
  · skip
    try simp only [SB] at hc1
    refine rg ?_
    refine mv rfl rfl rfl ?_
    refine sub64 (q := (9223372036854775808 : UInt64)) rfl rfl rfl rfl ?_
    refine asg rfl rfl rfl ?_
    refine asg rfl rfl rfl ?_
    refine wq_then ?_
    refine wc_ret ?_
    refine q_then_ret ?_
    refine fin2 (v := I (1)) (u := U64 ((num2 ((bs).take 8)) - 9223372036854775808)) rfl rfl rfl ?_
    refine ⟨?_, hS.drop⟩
    have hg : 9223372036854775808 ≤ (num2 (bs.take 8)).toNat := by omega
    simp only [headD2, headS2, if_pos hg]; rfl
  · skip
    try simp only [SB] at hc1
    refine wc_skip ?_
    refine wq_then ?_
    refine rg ?_
    refine mv rfl rfl rfl ?_
    refine asg rfl rfl rfl ?_
    refine asg rfl rfl rfl ?_
    refine wq_then ?_
    refine wc_ret ?_
    refine fin2 (v := I (0)) (u := U64 (num2 ((bs).take 8))) rfl rfl rfl ?_
    refine ⟨?_, hS.drop⟩
    have hg : ¬ 9223372036854775808 ≤ (num2 (bs.take 8)).toNat := by omega
    simp only [headD2, headS2, if_neg hg]; rfl
end Go.Proofs.XS

/- walks -/
namespace Go.Proofs.XS
open Go Go.X Go.Proofs
set_option maxRecDepth 100000 in
theorem sp_mooringlaw22_SessionNumbers (key : V8 16) (b c : UInt8) (w0 : World) (hG : Gl 1 w0) : Calls Tryz.prog 3 #[.agg (BV key), U8 b, U8 c] w0 (Ret w0 (.bool true)) := by
  refine enter (args := [.agg (BV key), U8 b, U8 c]) Tryz.func3 rfl rfl ?_
  refine startw fun w hS => ?_
  refine rg ?_
  refine bxa hS rfl rfl rfl ?_
  intro b3 w hb3 hS
  refine asg rfl rfl rfl ?_
  refine wq_then ?_
  refine wc_seq ?_
  refine rg ?_
  refine cv cf8 hS rfl rfl rfl rfl rfl (sp_awake22 _ (hG.st hS)) ?_
  intro w hS
  refine notb rfl rfl rfl ?_
  refine wq_then ?_
  refine wc_if_f rfl ?_
  refine wc_skip ?_
  refine wq_then ?_
  refine rg ?_
  refine mv rfl rfl rfl ?_
  refine cvi Tryz.underlying3 ⟨_, Tryz.underlying5⟩ (by have := (b).toNat_lt; omega) (by have := (b).toNat_lt; omega) rfl rfl rfl ?_
  refine remi (by omega) (by omega) rfl rfl rfl rfl ?_
  refine asg rfl rfl rfl ?_
  refine wq_then ?_
  refine rg ?_
  refine mv rfl rfl rfl ?_
  refine cvu64 Tryz.underlying24 ⟨_, Tryz.underlying3⟩ rfl rfl rfl ?_
  refine sub64 (p := (9223372036854775807 : UInt64)) rfl rfl rfl rfl ?_
  refine asg rfl rfl rfl ?_
  refine wq_then ?_
  refine rg ?_
  refine la 0 ag22 hS rfl rfl rfl rfl (BV_size _) ?_
  refine mv rfl rfl rfl ?_
  refine cs cf9 hS rfl rfl rfl rfl rfl (sp_session_New (key) (0) (([115, 58, 49])) ((9223372036854775807 - (toU64 (((b).toNat : Int) % 6)))) _ _ (by omega) (by omega)) ?_
  rintro _ X28 w ⟨s28, rfl, hO28⟩ hS
  have hS := St.tailin (X := X28) hS [(b3, .cells (BV key) 22)] [] rfl
  obtain ⟨m28, hm28⟩ : ∃ m, m = sesN key 0 ([115, 58, 49]) (9223372036854775807 - (toU64 (((b).toNat : Int) % 6))) := ⟨_, rfl⟩
  rw [← hm28] at hO28
  have hbd28 : Bd m28 0 := by rw [hm28]; exact Bd_new _ _ _ _
  rw [frs_eq] at hm28
  refine mv rfl rfl rfl ?_
  refine ext rfl rfl rfl rfl ?_
  refine ext rfl rfl rfl rfl ?_
  refine asg rfl rfl rfl ?_
  refine asg rfl rfl rfl ?_
  refine wq_then ?_
  refine wc_seq ?_
  refine rg ?_
  refine mv rfl rfl rfl ?_
  refine eqpn Tryz.underlying25 rfl rfl rfl rfl ?_
  refine wq_then ?_
  refine wc_if_f rfl ?_
  refine wc_skip ?_
  refine wq_then ?_
  refine wc_seq ?_
  refine rg ?_
  refine asg rfl rfl rfl ?_
  refine wq_then ?_
  refine wc_block ?_
  refine wc_loop (σ := Nat × SS × List (Nat × Obj)) (fun u => [(2, U8 (c)), (7, I (((b).toNat : Int) % 6)), (8, U64 (9223372036854775807 - (toU64 (((b).toNat : Int) % 6)))), (9, Ptr s28 0), (11, I ((u.1 : Int)))])
    (fun u w => (u.1 ≤ b.toNat % 6 + c.toNat % 4 ∧ SesO s28 u.2.1 u.2.2 ∧ Bd u.2.1 0 ∧ NumI key (b.toNat % 6) u.1 u.2.1) ∧ St w0 [] ([(b3, .cells (BV key) 22)] ++ (u.2.2 ++ [])) w) (fun u => b.toNat % 6 + c.toNat % 4 - u.1) (0, m28, X28) ⟨rfl, rfl, rfl, rfl, rfl, trivial⟩ ⟨⟨by omega, hO28, hbd28, num_0 key (by omega) hm28⟩, hS⟩ ?_
  rintro u w ⟨⟨hk, hO, hbd, hI⟩, hS⟩
  refine wc_seq ?_
  refine rg ?_
  refine mv rfl rfl rfl ?_
  refine mv rfl rfl rfl ?_
  refine mv rfl rfl rfl ?_
  refine cvi Tryz.underlying3 ⟨_, Tryz.underlying5⟩ (by have := (c).toNat_lt; omega) (by have := (c).toNat_lt; omega) rfl rfl rfl ?_
  refine remi (by omega) (by omega) rfl rfl rfl rfl ?_
  refine addi (by omega) (by omega) rfl rfl rfl rfl ?_
  refine lss rfl rfl rfl rfl ?_
  refine wq_then ?_
  refine wc_if rfl (fun hc1 => ?_) (fun hc1 => ?_)
  · skip
    try simp only [SB] at hc1
    refine wc_skip ?_
    refine wq_then ?_
    refine wc_seq ?_
    refine wc_block ?_
    refine rg ?_
    refine mv rfl rfl rfl ?_
    refine mv rfl rfl rfl ?_
    refine cvu64 Tryz.underlying24 ⟨_, Tryz.underlying3⟩ rfl rfl rfl ?_
    have hS : St w0 [] ([(b3, .cells (BV key) 22)] ++ (u.2.2 ++ [])) w := hS
    refine cm cf10 rfl rfl rfl rfl rfl (sp_SndG s28 u.2.1 u.2.2 none 0 0 [] (toU64 ((u.1 : Int))) _ hO (St.memT hS) (St.nodupT hS) (rfl) (by omega) (by omega) (fun _ w _ => Cel.nil w none) (fun _ _ k => by have hS := St.callX hS k; exact hG.st hS)) ?_
    rintro _ _ w ⟨a46, n46, c46, X46, Y46, m46, e46, ad46, q46, rfl, hO46, hm46, he46, ha46, hq46, hl46, hN46, hcp46, hR46, rfl⟩ hS1
    have hbd46 : Bd m46 0 := by rw [hm46]; exact Bd_snd hbd _
    have hS : St w0 [] ([(b3, .cells (BV key) 22)] ++ (X46 ++ (Y46 ++ []))) w := St.callXY hS hS1
    refine mv rfl rfl rfl ?_
    refine ext rfl rfl rfl rfl ?_
    refine ext rfl rfl rfl rfl ?_
    refine ext rfl rfl rfl rfl ?_
    refine asg rfl rfl rfl ?_
    refine asg rfl rfl rfl ?_
    refine asg rfl rfl rfl ?_
    refine wq_then ?_
    refine wc_seq ?_
    refine rg ?_
    refine mv rfl rfl rfl ?_
    refine mv rfl rfl rfl ?_
    refine geq rfl rfl rfl rfl ?_
    refine wq_then ?_
    refine wc_if rfl (fun hc2 => ?_) (fun hc2 => ?_)
    · skip
      try simp only [SB] at hc2
      obtain ⟨z1, z2, z3, z4⟩ := num_hi hI (by omega) (by omega) hm46 he46 ha46 hq46
      refine wc_seq ?_
      refine rg ?_
      refine mv rfl rfl rfl ?_
      refine lens Tryz.underlying30 rfl rfl rfl ?_
      refine nei rfl rfl rfl rfl ?_
      refine mv rfl rfl rfl ?_
      refine spl 56 rfl (fun hb1 => ?_) (fun hb1 => ?_)
      · skip
        try simp only [SB] at hb1
        first | (exfalso; omega) | (exact absurd z2 hb1) | (exact absurd (by rw [z6, frs_eq]) hb1) | (rw [z2] at hb1; simp at hb1)
      · skip
        try simp only [SB] at hb1
        refine mv rfl rfl rfl ?_
        refine nes rfl rfl rfl rfl ?_
        refine pk_f rfl rfl rfl rfl ?_
        refine mv rfl rfl rfl ?_
        refine spl 60 rfl (fun hb2 => ?_) (fun hb2 => ?_)
        · skip
          try simp only [SB] at hb2
          first | (exfalso; omega) | (exact absurd z2 hb2) | (exact absurd (by rw [z6, frs_eq]) hb2) | (rw [z2] at hb2; simp at hb2)
        · skip
          try simp only [SB] at hb2
          refine mv rfl rfl rfl ?_
          refine mki cc33 rfl rfl rfl ?_
          refine neEE (c := e46) Tryz.underlying27 ec33 rfl rfl rfl rfl ?_
          refine pk_f rfl rfl rfl rfl ?_
          refine wq_then ?_
          refine wc_if rfl (fun hc3 => ?_) (fun hc3 => ?_)
          · skip
            try simp only [SB] at hc3
            first | (exfalso; omega) | (exact absurd z2 hc3) | (exact absurd (by rw [z6, frs_eq]) hc3) | (rw [z2] at hc3; simp at hc3)
          · skip
            try simp only [SB] at hc3
            refine wc_skip ?_
            refine wq_then ?_
            refine wc_exit ?_
            refine q_then_exit ?_
            refine q_block_hit ?_
            refine wq_then ?_
            refine wc_region ?_
            refine mv rfl rfl rfl ?_
            refine addi (by omega) (by omega) rfl rfl rfl rfl ?_
            refine asg rfl rfl rfl ?_
            refine again_q (u.1 + 1, m46, X46) ⟨rfl, rfl, rfl, rfl, lkI rfl (by first | omega | rfl), trivial⟩ ⟨⟨by omega, hO46, hbd46, z4⟩, (St.only hS)⟩ (by omega)
    · skip
      try simp only [SB] at hc2
      obtain ⟨z1, z2, z3, z5, z6, z4⟩ := num_lo hI (by omega) (by omega) hm46 he46 ha46 hq46
      refine wc_skip ?_
      refine wq_then ?_
      refine wc_seq ?_
      refine rg ?_
      refine mv rfl rfl rfl ?_
      refine neE (C := 33) (c := e46) Tryz.underlying27 rfl rfl rfl ?_
      refine mv rfl rfl rfl ?_
      refine spl 67 rfl (fun hb3 => ?_) (fun hb3 => ?_)
      · skip
        try simp only [SB] at hb3
        first | (exfalso; omega) | (exact absurd z2 hb3) | (exact absurd (by rw [z6, frs_eq]) hb3) | (rw [z2] at hb3; simp at hb3)
      · skip
        try simp only [SB] at hb3
        refine mv rfl rfl rfl ?_
        refine lens Tryz.underlying30 rfl rfl rfl ?_
        refine nei rfl rfl rfl rfl ?_
        refine pk_f rfl rfl rfl rfl ?_
        refine mv rfl rfl rfl ?_
        refine spl 72 rfl (fun hb4 => ?_) (fun hb4 => ?_)
        · skip
          try simp only [SB] at hb4
          first | (exfalso; omega) | (exact absurd z2 hb4) | (exact absurd (by rw [z6, frs_eq]) hb4) | (rw [z2] at hb4; simp at hb4)
        · skip
          try simp only [SB] at hb4
          refine mv rfl rfl rfl ?_
          refine nes rfl rfl rfl rfl ?_
          refine pk_f rfl rfl rfl rfl ?_
          refine wq_then ?_
          refine wc_if rfl (fun hc4 => ?_) (fun hc4 => ?_)
          · skip
            try simp only [SB] at hc4
            first | (exfalso; omega) | (exact absurd z2 hc4) | (exact absurd (by rw [z6, frs_eq]) hc4) | (rw [z2] at hc4; simp at hc4)
          · skip
            try simp only [SB] at hc4
            refine wc_skip ?_
            refine wq_then ?_
            refine rg ?_
            refine mv rfl rfl rfl ?_
            refine cv cf11 hS rfl rfl rfl rfl rfl (sp_mooringref15_ParseHead (a46) (n46) (c46) (q46) _ hl46 (by omega) (hR46 _ _ _ _ hS (fun p hp => by simp [hp])) (by omega) (by omega)) ?_
            intro w hS
            refine mv rfl rfl rfl ?_
            refine ext rfl rfl rfl rfl ?_
            refine ext rfl rfl rfl rfl ?_
            refine asg rfl rfl rfl ?_
            refine asg rfl rfl rfl ?_
            refine wq_then ?_
            refine rg ?_
            refine mv rfl rfl rfl ?_
            refine nei rfl rfl rfl rfl ?_
            refine mv rfl rfl rfl ?_
            refine spl 83 rfl (fun hb5 => ?_) (fun hb5 => ?_)
            · skip
              try simp only [SB] at hb5
              first | (exfalso; omega) | (exact absurd z2 hb5) | (exact absurd (by rw [z6, frs_eq]) hb5) | (rw [z2] at hb5; simp at hb5)
            · skip
              try simp only [SB] at hb5
              refine mv rfl rfl rfl ?_
              refine mv rfl rfl rfl ?_
              refine mv rfl rfl rfl ?_
              refine cvu64 Tryz.underlying24 ⟨_, Tryz.underlying3⟩ rfl rfl rfl ?_
              refine add64 rfl rfl rfl rfl ?_
              refine nei rfl rfl rfl rfl ?_
              refine pk_f rfl rfl rfl rfl ?_
              refine wq_then ?_
              refine wc_if rfl (fun hc5 => ?_) (fun hc5 => ?_)
              · skip
                try simp only [SB] at hc5
                first | (exfalso; omega) | (exact absurd z2 hc5) | (exact absurd (by rw [z6, frs_eq]) hc5) | (rw [z2] at hc5; simp at hc5)
              · skip
                try simp only [SB] at hc5
                refine wc_skip ?_
                refine q_block_norm ?_
                refine wq_then ?_
                refine wc_region ?_
                refine mv rfl rfl rfl ?_
                refine addi (by omega) (by omega) rfl rfl rfl rfl ?_
                refine asg rfl rfl rfl ?_
                refine again_q (u.1 + 1, m46, X46) ⟨rfl, rfl, rfl, rfl, lkI rfl (by first | omega | rfl), trivial⟩ ⟨⟨by omega, hO46, hbd46, z4⟩, (St.only hS)⟩ (by omega)
  · skip
    try simp only [SB] at hc1
    refine wc_exit ?_
    refine q_then_exit ?_
    refine q_then_exit ?_
    refine q_block_hit ?_
    refine wq_then ?_
    refine rg ?_
    refine mv rfl rfl rfl ?_
    have hS : St w0 [] ([(b3, .cells (BV key) 22)] ++ (u.2.2 ++ [])) w := hS
    refine cv (v := .agg (#[U64 (u.2.1.fs + u.2.1.gv), U64 (lstV u.2.1.ls), .bool (decide (u.2.1.ls ≠ 0)), I (((u.2.1.ac : Nat) : Int)), I (((u.2.1.rf : Nat) : Int)), Str u.2.1.ad, I (((u.2.1.mv : Nat) : Int)), I (((u.2.1.rc : Nat) : Int)), U16 (u.2.1.rl), .bool (u.2.1.cz)])) cf12 hS rfl rfl rfl rfl rfl (sp_session_Session_Status s28 u.2.1 u.2.2 _ hO (St.memT hS)) ?_
    intro w hS
    refine fld Tryz.underlying38 rfl sc24 rfl rfl rfl rfl ?_
    refine mv rfl rfl rfl ?_
    refine mv rfl rfl rfl ?_
    refine mv rfl rfl rfl ?_
    refine mv rfl rfl rfl ?_
    refine cvi Tryz.underlying3 ⟨_, Tryz.underlying5⟩ (by have := (c).toNat_lt; omega) (by have := (c).toNat_lt; omega) rfl rfl rfl ?_
    refine remi (by omega) (by omega) rfl rfl rfl rfl ?_
    refine addi (by omega) (by omega) rfl rfl rfl rfl ?_
    refine minin (min (((b).toNat) % 6) ((((b).toNat) % 6) + (((c).toNat) % 4))) (by omega) rfl rfl rfl rfl ?_
    refine cvu64 Tryz.underlying24 ⟨_, Tryz.underlying3⟩ rfl rfl rfl ?_
    refine add64 rfl rfl rfl rfl ?_
    refine eqi rfl rfl rfl rfl ?_
    refine asg rfl rfl rfl ?_
    refine wq_then ?_
    refine wc_ret ?_
    refine fin1 (v := .bool ((((u.2.1.fs + u.2.1.gv).toNat : Int) : Int) == (((9223372036854775807 - (toU64 (((b).toNat : Int) % 6))) + (toU64 (((min (((b).toNat) % 6) ((((b).toNat) % 6) + (((c).toNat) % 4)) : Nat) : Int)))).toNat : Int))) rfl rfl ?_
    refine ⟨?_, hS.drop⟩
    have z := num_end (j := c.toNat % 4) hI (by omega) (by omega)
    rw [z, frs_eq, beq_self_eq_true]
end Go.Proofs.XS

/- SessionNumbers -/

namespace Go.Proofs.YtdcophmboncacaaGreatDoor.sessionNumbersP
open Go Go.ChangeShapes Go.WideShapes Go.ChangeAt Go.RowKit Go.Deep Go.X

theorem own : ownKnob Tryz.prog.godebug = none := by kernel_rfl
theorem laidOut : laidOutB Tryz.prog = true := by kernel_rfl
theorem gTab : Tryz.prog.globalNamed "math/bits.deBruijn64tab" = some 1 := by kernel_rfl
theorem gTabType : (Tryz.prog.globals[1]?).map (·.type) = some 283 := by kernel_rfl
theorem cellsGT : Tryz.prog.cellsOf 283 = 64 := by kernel_rfl
theorem cells5 : Tryz.prog.cellsOf 5 = 1 := by kernel_rfl
theorem rr5 : Tryz.prog.readableRec 5 = true ∧ 5 < Tryz.prog.types.size := ⟨by kernel_rfl, of_decide_eq_true (by kernel_rfl)⟩
theorem rr22 : Tryz.prog.readableRec 22 = true ∧ 22 < Tryz.prog.types.size := ⟨by kernel_rfl, of_decide_eq_true (by kernel_rfl)⟩
theorem ws5 : Tryz.prog.wantsStandIn 5 = false := by kernel_rfl
theorem ws22 : Tryz.prog.wantsStandIn 22 = false := by kernel_rfl
theorem cells22 : Tryz.prog.cellsOf 22 = 16 := by kernel_rfl
theorem reads : ∀ t ∈ Tryz.f3.params.toList, Tryz.prog.readableRec t = true ∧ t < Tryz.prog.types.size := by
  rw [Tryz.params3]; intro t ht
  simp only [List.mem_cons, List.not_mem_nil, or_false] at ht
  rcases ht with rfl | rfl | rfl
  · exact rr22
  · exact rr5
  · exact rr5

/-- what the row's list gives: the table of the numbers of zeros -/
theorem table {W : World} (h : laidMetH Tryz.prog Rows.sessionNumbersRow.laid W) : Lib.TabIs Tryz.prog W "math/bits.deBruijn64tab" .u8 deBz :=
  Lib.tabIs_of_head (rest := []) gTab gTabType Tryz.underlying283 Tryz.underlying5 cells5 cellsGT h

set_option maxRecDepth 100000 in
/-- what the walk gives, for every argument and every world that holds the table -/
theorem contract (H : Type) (enc : TypeId × Value → H) (W : World) (base : Nat) (args : Array Value) (ds gs : List (DataW H)) (before : List MemPlace)
    (hval : ∀ (j : Nat) t v, Tryz.f3.params[j]? = some t → args[j]? = some v → Value.okWide Tryz.prog W .any base t v)
    (hW : DataW.Whole enc Tryz.prog Tryz.f3.params.toList Rows.sessionNumbersSpec.vars false W args.toList ds gs before) (hL : laidMetH Tryz.prog Rows.sessionNumbersRow.laid W) :
    Calls Tryz.prog 3 args W fun e W' => ∃ v, e = .returned v ∧ Rows.sessionNumbersSpec.post enc Tryz.prog Tryz.f3 false true false false W args v W' := by
  have hW' := hW
  obtain ⟨p, q, hA0, hV, rfl, hfz, hnd⟩ := hW
  have hA : DataW.TrodAll enc Tryz.prog W 0 (fun _ => true) true Tryz.f3.params.toList args.toList ds p := hA0
  have hAk := hA
  have hlt : ∀ x ∈ p, x.block < W.heap.size := fun x hx => hW'.lt x (by simp [hx])
  rw [Tryz.params3] at hA hval
  obtain ⟨v0, vs0, d0, ds0, p0, q0, hargs, rfl, rfl, h0, r0⟩ := trodAll_cons hA
  obtain ⟨v1, vs1, d1, ds1, p1, q1, rfl, rfl, rfl, h1, r1⟩ := trodAll_cons r0
  obtain ⟨v2, vs2, d2, ds2, p2, q2, rfl, rfl, rfl, h2, r2⟩ := trodAll_cons r1
  obtain ⟨rfl, rfl, rfl⟩ := trodAll_nil r2
  obtain ⟨rfl, rfl⟩ := trodVars_none hV
  have hG : Gl 1 W := gl_of_tab gTab (table hL)
  obtain rfl : args = #[v0, v1, v2] := by cases args; simp_all
  obtain ⟨k0, rfl⟩ := arg_array Tryz.underlying22 Tryz.underlying5 cells5 cells22 (hval 0 22 v0 rfl rfl) h0
  obtain ⟨z1, rfl⟩ := arg_u8 Tryz.underlying5 (hval 1 5 v1 rfl rfl) h1
  obtain ⟨z2, rfl⟩ := arg_u8 Tryz.underlying5 (hval 2 5 v2 rfl rfl) h2
  refine (XS.sp_mooringlaw22_SessionNumbers k0 z1 z2 W hG).mono fun e W' ⟨he, hS⟩ => ?_
  subst he
  have hb := hS.below
  exact ⟨_, rfl, _, _, _, [], _, [], hW', trodAll_cons_mk (shut_bool Tryz.underlying4 _) trodAll_mk0, args_below laidOut reads hAk hb hlt, rfl, hb.frame _, fun h => by cases h⟩

/-- a world for the witness -/
noncomputable def laidWorld (os : Os) : World :=
  { World.holding Tryz.prog os ⟨#[], #[], []⟩ with heap := (World.holding Tryz.prog os ⟨#[], #[], []⟩).heap.modify 1 fun
      | .cells _ t frozen => .cells (deBz.map fun z => Value.int .u8 z).toArray t frozen
      | o => o }
theorem laid_met (os : Os) : laidMet Tryz.prog Rows.sessionNumbersRow.laid ((laidWorld os).forCall (fun _ _ => 0) ⟨#[], #[.agg (List.replicate 16 (Value.int .u8 0)).toArray, .int .u8 0, .int .u8 0], []⟩).memory :=
  laidMet_of_run' 8 (by kernel_rfl) (by kernel_rfl)
theorem reading (os : Os) {H : Type} (enc : TypeId × Value → H) : ∃ places, DataW.whole enc Tryz.prog ((laidWorld os).forCall (fun _ _ => 0) ⟨#[], #[.agg (List.replicate 16 (Value.int .u8 0)).toArray, .int .u8 0, .int .u8 0], []⟩).memory Tryz.f3.params.toList Rows.sessionNumbersSpec.vars false (#[.agg (List.replicate 16 (Value.int .u8 0)).toArray, .int .u8 0, .int .u8 0] : Array Value).toList 8 = some ([.agg (List.replicate 16 (DataW.lit (.int .u8 0))), .lit (.int .u8 0), .lit (.int .u8 0)], [], places) :=
  ⟨[], by kernel_rfl⟩

set_option maxRecDepth 100000 in
theorem lifted (os : Os) (started : os.Started) (H : Type) (enc : TypeId × Value → H) (F : Stop.Interp) :
    ReturnsInHanded {} Tryz.checked os 3 .any ((OpenSpec.ofChange Rows.sessionNumbersSpec).preRow enc Tryz.prog Tryz.f3 Rows.sessionNumbersRow.domain false Rows.sessionNumbersRow.laid) (((OpenSpec.ofChange Rows.sessionNumbersSpec).at F).post enc Tryz.prog Tryz.f3 false true false false) := by
  obtain ⟨places, hx⟩ := reading os enc
  refine returnsInHanded_of_row (C := Tryz.checked) (s := OpenSpec.ofChange Rows.sessionNumbersSpec) own started (by kernel_rfl) Tryz.func3
    (witness_row_at (enc := enc) (C := Tryz.checked) false (laidWorld os) #[.agg (List.replicate 16 (Value.int .u8 0)).toArray, .int .u8 0, .int .u8 0] rfl (by kernel_rfl) (by kernel_rfl) (by kernel_rfl)
      (OpenSpec.preRow_of_cond 8 hx (by kernel_rfl) (fun k hk => by cases hk) (by kernel_rfl) (laid_met os))) ?_
  intro W base args ds gs before hval hW _ _ _ hL _ _
  exact contract H enc W base args ds gs before hval hW hL

theorem said : Rows.SessionNumbersSaid :=
  OpenClaim.holds_of_cond 3 Tryz.f3 rfl rfl rfl rfl rfl rfl rfl ⟨rfl, rfl, rfl, rfl, rfl⟩ rfl rfl rfl rfl rfl (by kernel_rfl) Tryz.func3 (by kernel_rfl)
    (of_decide_eq_true (by kernel_rfl)) (by unfold Func.isWrapper; first | (rw [if_pos (by decide +kernel)]; kernel_rfl) | (rw [if_neg (by decide +kernel)]; exact ⟨rfl, rfl⟩))
    (fun os started H enc _ F => by rw [OpenClaim.pre_eq_preRow]; exact lifted os started H enc F)

theorem plain (f : FuncId) (fn : Func) (hf : Tryz.pinned.checked.prog.funcNamed "mooring/mooringlaw22.SessionNumbers" = some f) (hfn : Tryz.pinned.checked.prog.funcs[f]? = some fn) :
    true = Tryz.pinned.checked.prog.looks [] ∧ ∀ (j : Nat) t, fn.params[j]? = some t → Tryz.pinned.checked.prog.wantsStandIn t = false := by
  obtain rfl : f = 3 := Option.some.inj ((show Tryz.prog.funcNamed "mooring/mooringlaw22.SessionNumbers" = some 3 by kernel_rfl).symm.trans hf) |>.symm
  obtain rfl : fn = Tryz.f3 := (Option.some.inj (Tryz.func3.symm.trans hfn)).symm
  refine ⟨by kernel_rfl, fun j t ht => ?_⟩
  rw [Tryz.params3] at ht
  have hm := Array.mem_of_getElem? ht
  simp only [List.mem_toArray, List.mem_cons, List.not_mem_nil, or_false] at hm
  rcases hm with rfl | rfl | rfl
  · exact ws22
  · exact ws5
  · exact ws5
end Go.Proofs.YtdcophmboncacaaGreatDoor.sessionNumbersP
namespace Go.Proofs.YtdcophmboncacaaGreatDoor
open Go
/-- the tied card -/
theorem sessionNumbers_card : Rows.SessionNumbersCardSaid :=
  Claim7.holds_tied_plain_at .later [] _ _ _ _ sessionNumbersP.said (fun _ h => by cases h) (by kernel_rfl) (fun _ h => by cases h) sessionNumbers_row_tie rfl ⟨rfl, rfl⟩ (by kernel_rfl) rfl sessionNumbersP.plain (by kernel_rfl)
#print axioms sessionNumbers_card
end Go.Proofs.YtdcophmboncacaaGreatDoor
