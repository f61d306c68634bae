/- A nil session is closed, and so is one after Close; other directions have an error: for every key, direction and bytes, true; the arguments read as before. -/
import Derived.Test.YtdcophmboncacaaGreatDoorBase7
import Derived.Test.YtdcophmboncacaaGreatDoorProg
import Derived.Test.YtdcophmboncacaaGreatDoorCards
import Derived.Test.YtdcophmboncacaaGreatDoorTie
set_option linter.unusedVariables false
set_option linter.unusedSimpArgs false
set_option linter.unnecessarySimpa false
/- walks -/
namespace Go.Proofs.XS
open Go Go.X Go.Proofs
set_option maxRecDepth 1000000 in
theorem cf8 : Callable Tryz.prog 8 := ⟨_, Tryz.func8, by kernel_rfl, rfl⟩
end Go.Proofs.XS

/- walks -/
namespace Go.Proofs.XS
open Go Go.X Go.Proofs
set_option maxRecDepth 1000000 in
theorem cf22 : Callable Tryz.prog 22 := ⟨_, Tryz.func22, by kernel_rfl, rfl⟩
set_option maxRecDepth 1000000 in
theorem cf16 : Callable Tryz.prog 16 := ⟨_, Tryz.func16, by kernel_rfl, rfl⟩
set_option maxRecDepth 1000000 in
theorem cf23 : Callable Tryz.prog 23 := ⟨_, Tryz.func23, by kernel_rfl, rfl⟩
end Go.Proofs.XS

/- walks -/
namespace Go.Proofs.XS
open Go Go.X Go.Proofs
set_option maxRecDepth 100000 in
theorem sp_session_Session_Close (s : Nat) (m : SS) (X : List (Nat × Obj)) (w0 : World) (hO : SesO s m X) (hX : ∀ p ∈ X, w0.heap[p.1]? = some p.2) (hnd : (X.map Prod.fst).Nodup) : Calls Tryz.prog 22 #[Ptr s 0] w0 (RetM w0 (X.map Prod.fst) (fun v L' => SesO s { m with cz := true } L')) := by
  refine enter (args := [Ptr s 0]) Tryz.func22 rfl rfl ?_
  obtain ⟨G, hGe⟩ : ∃ G, G = X.map Prod.fst := ⟨_, rfl⟩
  rw [← hGe]
  obtain ⟨pp, pm, pc, pf, pe, t, c, E1, E2, E3, E4, E5, E6, mm, Z, hd1, hE, hXe⟩ := hO
  subst hXe
  refine startx (F := G) (L := [(s, .cells (#[Ptr pp 0, I (((m.dir : Nat) : Int)), Ptr t 0, Ptr pc 0, Ptr pf 0, Ptr pe 0, U16 (m.rl), I (((m.rc : Nat) : Int)), U32 (m.re), U64 (m.fs), .bool (m.cz)]) E1), (pf, .cells (#[I (((m.ac : Nat) : Int)), I (((m.rf : Nat) : Int)), U64 (m.ls)]) E2), (pc, .cells (#[U64 (m.nx), U64 (m.gv), .bool (false)]) E3), (t, .cells (tableC c m.key) E4), (c, .cells (cipherC m.key) E5), (pp, .cells (#[Str m.ad, .bool (m.fx), I (((m.mv : Nat) : Int)), .map (some pm)]) E6), (pm, mOb encS vI mm)] ++ (Z ++ [])) (by rw [hGe, List.append_nil]; exact St.starts hX hnd) fun w hS => ?_
  refine rg ?_
  refine mv rfl rfl rfl ?_
  refine nepn Tryz.underlying25 rfl rfl rfl rfl ?_
  refine wq_then ?_
  refine wc_if_t rfl ?_
  refine wc_region ?_
  refine mv rfl rfl rfl ?_
  refine nilp rfl rfl rfl ?_
  refine fan (10) (10) Tryz.underlying90 rfl sz4 (by decide) rfl rfl rfl rfl (by omega) ?_
  refine st 0 sz4 hS rfl rfl rfl rfl rfl rfl (by show (10 : Nat) < 11; decide) rfl ?_
  intro w hS
  refine q_norm_ret ?_
  refine fin0 rfl ?_
  exact ⟨_, _, rfl, ⟨pp, pm, pc, pf, pe, t, c, _, _, _, _, _, _, _, _, hd1, hE, rfl⟩, by simpa using hS⟩
end Go.Proofs.XS

/- walks -/
namespace Go.Proofs.XS
open Go Go.X Go.Proofs
set_option maxRecDepth 100000 in
theorem sp_NilSend (a : Option Addr) (n cap : Nat) (x : UInt64) (w0 : World) : Calls Tryz.prog 10 #[.pointer none, .slice a n cap, U64 x] w0 (Ret w0 (.tuple #[.slice none 0 0, Str [], errV 33 7])) := by
  refine enter (args := [.pointer none, .slice a n cap, U64 x]) Tryz.func10 rfl rfl ?_
  refine startw fun w hS => ?_
  refine rg ?_
  refine bx1 hS rfl rfl rfl rfl ?_
  intro b3 w hb3 hS
  refine asg rfl rfl rfl ?_
  refine asg rfl rfl rfl ?_
  refine asg rfl rfl rfl ?_
  refine wq_then ?_
  refine wc_seq ?_
  refine rg ?_
  refine lo 0 sc25 hS rfl rfl rfl rfl rfl ?_
  refine eqpp Tryz.underlying25 rfl rfl rfl rfl ?_
  refine wq_then ?_
  refine wc_if_t rfl ?_
  refine rg ?_
  refine mki cc33 rfl rfl rfl ?_
  refine asg rfl rfl rfl ?_
  refine asg rfl rfl rfl ?_
  refine asg rfl rfl rfl ?_
  refine wq_then ?_
  refine wc_ret ?_
  refine q_then_ret ?_
  refine fin3 (v := (.slice none 0 0)) (u := Str ([])) (x := (.iface 33 (I (7)))) rfl rfl rfl rfl ?_
  exact ⟨rfl, hS.drop⟩
end Go.Proofs.XS

/- walks -/
namespace Go.Proofs.XS
open Go Go.X Go.Proofs
set_option maxRecDepth 100000 in
theorem sp_NilReceive (a : Option Addr) (n cap : Nat) (fr : List UInt8) (x : UInt64) (w0 : World) : Calls Tryz.prog 14 #[.pointer none, .slice a n cap, Str fr, U64 x] w0 (Ret w0 (.tuple #[.slice none 0 0, errV 33 7])) := by
  refine enter (args := [.pointer none, .slice a n cap, Str fr, U64 x]) Tryz.func14 rfl rfl ?_
  refine startw fun w hS => ?_
  refine rg ?_
  refine asg rfl rfl rfl ?_
  refine al1 zr27 hS rfl rfl rfl ?_
  intro b9 w hb9 hS
  refine wq_then ?_
  refine wc_seq ?_
  refine rg ?_
  refine mv rfl rfl rfl ?_
  refine eqpp Tryz.underlying25 rfl rfl rfl rfl ?_
  refine mv rfl rfl rfl ?_
  refine no rfl rfl ?_
  refine no rfl rfl ?_
  refine no rfl rfl ?_
  refine no rfl rfl ?_
  refine pk_t rfl rfl rfl rfl ?_
  refine wq_then ?_
  refine wc_if_t rfl ?_
  refine rg ?_
  refine mki cc33 rfl rfl rfl ?_
  refine asg rfl rfl rfl ?_
  refine st 0 sz27 hS rfl rfl rfl rfl rfl rfl Nat.zero_lt_one rfl ?_
  intro w hS
  refine wq_then ?_
  refine wc_ret ?_
  refine q_then_ret ?_
  refine fin2 (v := (.slice none 0 0)) (u := (.iface 33 (I (7)))) rfl rfl ⟨_, rfl, lv_c sc27 (hS.get 0 rfl) rfl⟩ ?_
  exact ⟨rfl, hS.drop⟩
end Go.Proofs.XS

/- walks -/
namespace Go.Proofs.XS
open Go Go.X Go.Proofs
set_option maxRecDepth 100000 in
theorem sp_NilStatus (w0 : World) : Calls Tryz.prog 12 #[.pointer none] w0 (Ret w0 (.agg #[U64 0, U64 0, .bool false, I 0, I 0, Str [], I 0, I 0, U16 0, .bool true])) := by
  refine enter (args := [.pointer none]) Tryz.func12 rfl rfl ?_
  refine startw fun w hS => ?_
  refine rg ?_
  refine ala zr38 hS rfl rfl ?_
  intro b2 w hb2 hS
  refine wq_then ?_
  refine wc_seq ?_
  refine rg ?_
  refine mv rfl rfl rfl ?_
  refine eqpp Tryz.underlying25 rfl rfl rfl rfl ?_
  refine wq_then ?_
  refine wc_if_t rfl ?_
  refine rg ?_
  refine bd (cs := #[U64 (0), U64 (0), .bool (false), I (0), I (0), Str ([]), I (0), I (0), U16 (0), .bool (true)]) rfl rfl rfl (by kernel_rfl) ?_
  refine sa 0 ag38 hS rfl rfl rfl (by kernel_rfl) rfl rfl rfl ?_
  intro w hS
  refine wq_then ?_
  refine wc_ret ?_
  refine q_then_ret ?_
  refine fin1 (v := .agg (#[U64 (0), U64 (0), .bool (false), I (0), I (0), Str ([]), I (0), I (0), U16 (0), .bool (true)])) rfl ⟨_, rfl, lv_a ag38 (hS.get 0 rfl) rfl⟩ ?_
  exact ⟨rfl, hS.drop⟩
end Go.Proofs.XS

/- walks -/
namespace Go.Proofs.XS
open Go Go.X Go.Proofs
set_option maxRecDepth 100000 in
theorem sp_NilEstimate (w0 : World) : Calls Tryz.prog 23 #[.pointer none] w0 (Ret w0 (U32 0)) := by
  refine enter (args := [.pointer none]) Tryz.func23 rfl rfl ?_
  refine startw fun w hS => ?_
  refine rg ?_
  refine asg rfl rfl rfl ?_
  refine wq_then ?_
  refine wc_seq ?_
  refine rg ?_
  refine mv rfl rfl rfl ?_
  refine eqpp Tryz.underlying25 rfl rfl rfl rfl ?_
  refine wq_then ?_
  refine wc_if_t rfl ?_
  refine rg ?_
  refine asg rfl rfl rfl ?_
  refine wq_then ?_
  refine wc_ret ?_
  refine q_then_ret ?_
  refine fin1 (v := U32 (0)) rfl rfl ?_
  exact ⟨rfl, hS.drop⟩
end Go.Proofs.XS

/- walks -/
namespace Go.Proofs.XS
open Go Go.X Go.Proofs
set_option maxRecDepth 100000 in
theorem sp_NilClose (w0 : World) : Calls Tryz.prog 22 #[.pointer none] w0 (Ret w0 (.tuple #[])) := by
  refine enter (args := [.pointer none]) Tryz.func22 rfl rfl ?_
  refine startw fun w hS => ?_
  refine rg ?_
  refine mv rfl rfl rfl ?_
  refine nepp Tryz.underlying25 rfl rfl rfl rfl ?_
  refine wq_then ?_
  refine wc_if_f rfl ?_
  refine wc_skip ?_
  refine q_norm_ret ?_
  refine fin0 rfl ?_
  exact ⟨rfl, hS.drop⟩
end Go.Proofs.XS

/- walks -/
namespace Go.Proofs.XS
open Go Go.X Go.Proofs
set_option maxRecDepth 100000 in
theorem sp_told (c : Nat) (k : Int) (w0 : World) : Calls Tryz.prog 16 #[errV 33 c, I k] w0 (Ret w0 (.bool (decide ((c : Int) = k)))) := by
  refine enter (args := [errV 33 c, I k]) Tryz.func16 rfl rfl ?_
  refine startw fun w hS => ?_
  refine rg ?_
  refine asg rfl rfl rfl ?_
  refine wq_then ?_
  refine rg ?_
  refine mv rfl rfl rfl ?_
  refine eqi rfl rfl rfl rfl ?_
  refine mv rfl rfl rfl ?_
  refine spl 7 rfl (fun hb1 => ?_) (fun hb1 => ?_)
  · skip
    try simp only [SB] at hb1
    refine mv rfl rfl rfl ?_
    refine eqE (C := 33) (c := c) Tryz.underlying27 rfl rfl rfl ?_
    refine pk_t rfl rfl rfl rfl ?_
    refine mv rfl rfl rfl ?_
    refine spl 11 rfl (fun hb2 => ?_) (fun hb2 => ?_)
    · skip
      try simp only [SB] at hb2
      refine no rfl rfl ?_
      refine no rfl rfl ?_
      refine no rfl rfl ?_
      refine no rfl rfl ?_
      refine no rfl rfl ?_
      refine no rfl rfl ?_
      refine no rfl rfl ?_
      refine no rfl rfl ?_
      refine pk_t rfl rfl rfl rfl ?_
      refine asg rfl rfl rfl ?_
      refine wq_then ?_
      refine wc_ret ?_
      refine fin1 (v := .bool (true)) rfl rfl ?_
      refine ⟨?_, hS.drop⟩
      first | (exfalso; omega) | rw [decide_eq_true (by omega)] | rw [decide_eq_false (by omega)] | exact congrArg (fun b => Ending.returned (Value.bool b)) (decide_eq_decide.2 (by omega))
    · skip
      try simp only [SB] at hb2
      refine mv rfl rfl rfl ?_
      refine nei rfl rfl rfl rfl ?_
      refine mv rfl rfl rfl ?_
      refine spl 14 rfl (fun hb3 => ?_) (fun hb3 => ?_)
      · skip
        try simp only [SB] at hb3
        refine mv rfl rfl rfl ?_
        refine mv rfl rfl rfl ?_
        refine mki cc33 rfl rfl rfl ?_
        refine eqEE (c := c) Tryz.underlying27 ec33 rfl rfl rfl rfl ?_
        refine pk_t rfl rfl rfl rfl ?_
        refine pk_f rfl rfl rfl rfl ?_
        refine asg rfl rfl rfl ?_
        refine wq_then ?_
        refine wc_ret ?_
        refine fin1 (v := .bool (decide (((c : Nat) : Int) = k ∧ c ≠ 0))) rfl rfl ?_
        refine ⟨?_, hS.drop⟩
        first | (exfalso; omega) | rw [decide_eq_true (by omega)] | rw [decide_eq_false (by omega)] | exact congrArg (fun b => Ending.returned (Value.bool b)) (decide_eq_decide.2 (by omega))
      · skip
        try simp only [SB] at hb3
        refine no rfl rfl ?_
        refine no rfl rfl ?_
        refine no rfl rfl ?_
        refine no rfl rfl ?_
        refine pk_f rfl rfl rfl rfl ?_
        refine pk_f rfl rfl rfl rfl ?_
        refine asg rfl rfl rfl ?_
        refine wq_then ?_
        refine wc_ret ?_
        refine fin1 (v := .bool (false)) rfl rfl ?_
        refine ⟨?_, hS.drop⟩
        first | (exfalso; omega) | rw [decide_eq_true (by omega)] | rw [decide_eq_false (by omega)] | exact congrArg (fun b => Ending.returned (Value.bool b)) (decide_eq_decide.2 (by omega))
  · skip
    try simp only [SB] at hb1
    refine no rfl rfl ?_
    refine no rfl rfl ?_
    refine pk_f rfl rfl rfl rfl ?_
    refine mv rfl rfl rfl ?_
    refine mv rfl rfl rfl ?_
    refine nei rfl rfl rfl rfl ?_
    refine mv rfl rfl rfl ?_
    refine spl 14 rfl (fun hb4 => ?_) (fun hb4 => ?_)
    · skip
      try simp only [SB] at hb4
      refine mv rfl rfl rfl ?_
      refine mv rfl rfl rfl ?_
      refine mki cc33 rfl rfl rfl ?_
      refine eqEE (c := c) Tryz.underlying27 ec33 rfl rfl rfl rfl ?_
      refine pk_t rfl rfl rfl rfl ?_
      refine pk_f rfl rfl rfl rfl ?_
      refine asg rfl rfl rfl ?_
      refine wq_then ?_
      refine wc_ret ?_
      refine fin1 (v := .bool (decide (((c : Nat) : Int) = k ∧ c ≠ 0))) rfl rfl ?_
      refine ⟨?_, hS.drop⟩
      first | (exfalso; omega) | rw [decide_eq_true (by omega)] | rw [decide_eq_false (by omega)] | exact congrArg (fun b => Ending.returned (Value.bool b)) (decide_eq_decide.2 (by omega))
    · skip
      try simp only [SB] at hb4
      refine no rfl rfl ?_
      refine no rfl rfl ?_
      refine no rfl rfl ?_
      refine no rfl rfl ?_
      refine pk_f rfl rfl rfl rfl ?_
      refine pk_f rfl rfl rfl rfl ?_
      refine asg rfl rfl rfl ?_
      refine wq_then ?_
      refine wc_ret ?_
      refine fin1 (v := .bool (false)) rfl rfl ?_
      refine ⟨?_, hS.drop⟩
      first | (exfalso; omega) | rw [decide_eq_true (by omega)] | rw [decide_eq_false (by omega)] | exact congrArg (fun b => Ending.returned (Value.bool b)) (decide_eq_decide.2 (by omega))
end Go.Proofs.XS

/- walks -/
namespace Go.Proofs.XS
open Go Go.X Go.Proofs
set_option maxRecDepth 100000 in
theorem sp_NilGood (key : V8 16) (d : Nat) (a : Option Addr) (n cap : Nat) (bs : List UInt8) (d_ : Int) (w0 : World) (hd_ : d_ = (d : Int)) (hn : bs.length = n) (hc : Cel w0 a (c8 bs)) (hcap : n ≤ cap) (hG : Gl 1 w0) (hd : d ≤ 1) : Calls Tryz.prog 7 #[.agg (BV key), I d_, .slice a n cap] w0 (Ret w0 (.bool true)) := by
  subst hd_
  refine enter (args := [.agg (BV key), I (d : Int), .slice a n cap]) Tryz.func7 rfl rfl ?_
  refine startw fun w hS => ?_
  refine rg ?_
  refine bxa hS rfl rfl rfl ?_
  intro b3 w hb3 hS
  refine asg rfl rfl rfl ?_
  refine wq_then ?_
  refine wc_seq ?_
  refine rg ?_
  refine cv cf8 hS rfl rfl rfl rfl rfl (sp_awake22 _ (hG.st hS)) ?_
  intro w hS
  refine notb rfl rfl rfl ?_
  refine mv rfl rfl rfl ?_
  refine mv rfl rfl rfl ?_
  refine lens Tryz.underlying30 rfl rfl rfl ?_
  refine gtr rfl rfl rfl rfl ?_
  refine pk_f rfl rfl rfl rfl ?_
  refine wq_then ?_
  refine wc_if rfl (fun hc1 => ?_) (fun hc1 => ?_)
  · skip
    try simp only [SB] at hc1
    refine rg ?_
    refine cv cf8 hS rfl rfl rfl rfl rfl (sp_awake22 _ (hG.st hS)) ?_
    intro w hS
    refine asg rfl rfl rfl ?_
    refine wq_then ?_
    refine wc_ret ?_
    refine q_then_ret ?_
    refine fin1 (v := .bool (true)) rfl rfl ?_
    refine ⟨?_, hS.drop⟩
    first | rfl | (rw [g7]; rfl)
  · skip
    try simp only [SB] at hc1
    refine wc_skip ?_
    refine wq_then ?_
    refine rg ?_
    refine asg rfl rfl rfl ?_
    refine wq_then ?_
    refine rg ?_
    refine mv rfl rfl rfl ?_
    refine cv cf22 hS rfl rfl rfl rfl rfl (sp_NilClose _) ?_
    intro w hS
    refine wq_then ?_
    refine rg ?_
    refine mv rfl rfl rfl ?_
    refine mv rfl rfl rfl ?_
    refine cv cf10 hS rfl rfl rfl rfl rfl (sp_NilSend (a) (n) (cap) (0) _) ?_
    intro w hS
    refine mv rfl rfl rfl ?_
    refine ext rfl rfl rfl rfl ?_
    refine ext rfl rfl rfl rfl ?_
    refine ext rfl rfl rfl rfl ?_
    refine asg rfl rfl rfl ?_
    refine asg rfl rfl rfl ?_
    refine asg rfl rfl rfl ?_
    refine wq_then ?_
    refine rg ?_
    refine mv rfl rfl rfl ?_
    refine mv rfl rfl rfl ?_
    refine cv cf14 hS rfl rfl rfl rfl rfl (sp_NilReceive (a) (n) (cap) (([97])) (0) _) ?_
    intro w hS
    refine mv rfl rfl rfl ?_
    refine ext rfl rfl rfl rfl ?_
    refine ext rfl rfl rfl rfl ?_
    refine asg rfl rfl rfl ?_
    refine asg rfl rfl rfl ?_
    refine wq_then ?_
    refine rg ?_
    refine la 0 ag22 hS rfl rfl rfl rfl (BV_size _) ?_
    refine mv rfl rfl rfl ?_
    refine cs cf9 hS rfl rfl rfl rfl rfl (sp_session_New (key) (d) (([97])) (0) _ _ (by omega) (by omega)) ?_
    rintro _ X46 w ⟨s46, rfl, hO46⟩ hS
    have hS := St.tailin (X := X46) hS [(b3, .cells (BV key) 22)] [] rfl
    obtain ⟨m46, hm46⟩ : ∃ m, m = sesN key d ([97]) 0 := ⟨_, rfl⟩
    rw [← hm46] at hO46
    have hbd46 : Bd m46 0 := by rw [hm46]; exact Bd_new _ _ _ _
    refine mv rfl rfl rfl ?_
    refine ext rfl rfl rfl rfl ?_
    refine ext rfl rfl rfl rfl ?_
    refine asg rfl rfl rfl ?_
    refine asg rfl rfl rfl ?_
    refine wq_then ?_
    refine wc_seq ?_
    refine rg ?_
    refine mv rfl rfl rfl ?_
    refine cv (v := .bool true) cf16 hS rfl rfl rfl rfl rfl (sp_told 7 7 _) ?_
    intro w hS
    refine notb rfl rfl rfl ?_
    refine mv rfl rfl rfl ?_
    refine mv rfl rfl rfl ?_
    refine cv (v := .bool true) cf16 hS rfl rfl rfl rfl rfl (sp_told 7 7 _) ?_
    intro w hS
    refine notb rfl rfl rfl ?_
    refine pk_f rfl rfl rfl rfl ?_
    refine mv rfl rfl rfl ?_
    refine mv rfl rfl rfl ?_
    refine cv cf12 hS rfl rfl rfl rfl rfl (sp_NilStatus _) ?_
    intro w hS
    refine bd (cs := #[U64 (0), U64 (0), .bool (false), I (0), I (0), Str ([]), I (0), I (0), U16 (0), .bool (true)]) rfl rfl rfl (by kernel_rfl) ?_
    refine nest Tryz.underlying38 (by kernel_rfl) (by kernel_rfl) (by kernel_rfl) rfl rfl rfl rfl rfl ?_
    refine pk_f rfl rfl rfl rfl ?_
    refine mv rfl rfl rfl ?_
    refine mv rfl rfl rfl ?_
    refine cv cf23 hS rfl rfl rfl rfl rfl (sp_NilEstimate _) ?_
    intro w hS
    refine nei rfl rfl rfl rfl ?_
    refine pk_f rfl rfl rfl rfl ?_
    refine wq_then ?_
    refine wc_if_f rfl ?_
    refine wc_skip ?_
    refine wq_then ?_
    refine wc_seq ?_
    refine rg ?_
    refine mv rfl rfl rfl ?_
    refine nei rfl rfl rfl rfl ?_
    refine mv rfl rfl rfl ?_
    refine spl 70 rfl (fun hb1 => ?_) (fun hb1 => ?_)
    · skip
      try simp only [SB] at hb1
      refine mv rfl rfl rfl ?_
      refine nei rfl rfl rfl rfl ?_
      refine pk_t rfl rfl rfl rfl ?_
      refine wq_then ?_
      refine wc_if rfl (fun hc2 => ?_) (fun hc2 => ?_)
      · skip
        try simp only [SB] at hc2
        exfalso; omega
      · skip
        try simp only [SB] at hc2
        refine wc_skip ?_
        refine wq_then ?_
        refine wc_seq ?_
        refine rg ?_
        refine mv rfl rfl rfl ?_
        refine eqpn Tryz.underlying25 rfl rfl rfl rfl ?_
        refine wq_then ?_
        refine wc_if_f rfl ?_
        refine wc_skip ?_
        refine wq_then ?_
        refine rg ?_
        refine mv rfl rfl rfl ?_
        have hS : St w0 [] ([(b3, .cells (BV key) 22)] ++ (X46 ++ [])) w := hS
        refine cm cf22 rfl rfl rfl rfl rfl (sp_session_Session_Close s46 m46 X46 _ hO46 (St.memT hS) (St.nodupT hS)) ?_
        rintro _ Xz46 w hOz46 hS1
        obtain ⟨mz46, hmz46⟩ : ∃ m : SS, m = { m46 with cz := true } := ⟨_, rfl⟩
        rw [← hmz46] at hOz46
        have hbdz46 : Bd mz46 0 := by rw [hmz46]; exact hbd46
        have hS : St w0 [] ([(b3, .cells (BV key) 22)] ++ (Xz46 ++ [])) w := St.callX hS hS1
        refine wq_then ?_
        refine rg ?_
        refine mv rfl rfl rfl ?_
        refine mks (2000) sl30 hS rfl rfl rfl rfl (by omega) (by omega) (by omega) (by omega) (madeLB _) ?_
        intro b86 w hb86 hS
        have hS : St w0 [] ([(b86, .cells (LB (List.replicate 2000 0)) 5), (b3, .cells (BV key) 22)] ++ (Xz46 ++ [])) w := hS
        refine cm cf10 rfl rfl rfl rfl rfl (sp_SndG s46 mz46 Xz46 (some ⟨b86, 0, none⟩) 2000 2000 (List.replicate 2000 0) 0 _ hOz46 (St.memT hS) (St.nodupT hS) (by first | rfl | omega | (simp; omega) | (simp; done)) (by omega) (by omega) (fun _ _ k => by have hS := St.callX hS k; exact Cel.lb (l := List.replicate 2000 0) (hS.get 0 rfl)) (fun _ _ k => by have hS := St.callX hS k; exact hG.st hS)) ?_
        rintro _ _ w ⟨a87, n87, c87, X87, Y87, m87, e87, ad87, q87, rfl, hO87, hm87, he87, ha87, hq87, hl87, hN87, hcp87, hR87, rfl⟩ hS1
        have hbd87 : Bd m87 0 := by rw [hm87]; exact Bd_snd hbdz46 _
        have hS : St w0 [] ([(b86, .cells (LB (List.replicate 2000 0)) 5), (b3, .cells (BV key) 22)] ++ (X87 ++ (Y87 ++ []))) w := St.callXY hS hS1
        refine mv rfl rfl rfl ?_
        refine ext rfl rfl rfl rfl ?_
        refine ext rfl rfl rfl rfl ?_
        refine ext rfl rfl rfl rfl ?_
        refine asg rfl rfl rfl ?_
        refine asg rfl rfl rfl ?_
        refine asg rfl rfl rfl ?_
        refine wq_then ?_
        refine rg ?_
        refine mv rfl rfl rfl ?_
        refine mv rfl rfl rfl ?_
        have hS : St w0 [] ([(b86, .cells (LB (List.replicate 2000 0)) 5), (b3, .cells (BV key) 22)] ++ (X87 ++ (Y87 ++ []))) w := hS
        refine cm cf14 rfl rfl rfl rfl rfl (sp_RcvG s46 m87 X87 a n cap bs ([97]) 0 _ hO87 (St.memT hS) (St.nodupT hS) (by first | rfl | omega | (simp; omega) | (simp; done)) (by omega) (by omega) (fun _ _ k => by have hS := St.callX hS k; exact hc.st hS) (fun _ _ k => by have hS := St.callX hS k; exact hG.st hS) hbd87 (by omega)) ?_
        rintro _ _ w ⟨a94, n94, c94, X94, Y94, m94, e94, q94, rfl, hO94, hm94, he94, hq94, hl94, hN94, hcp94, hR94, rfl⟩ hS1
        have hbd94 : Bd m94 (0 + 1) := by rw [hm94]; exact Bd_rcv hbd87 _ _ _
        have hS : St w0 [] ([(b86, .cells (LB (List.replicate 2000 0)) 5), (b3, .cells (BV key) 22)] ++ (X94 ++ (Y94 ++ (Y87 ++ [])))) w := St.callXY hS hS1
        have g1 : e87 = 7 := by rw [he87]; exact sndE_cz (by rw [hmz46])
        have g2 : e94 = 7 := by rw [he94]; exact rcvE_cz (by rw [hm87, sndM_cz (by rw [hmz46]), hmz46])
        have g4 : m94 = mz46 := by rw [hm94, hm87, sndM_cz (by rw [hmz46])]; exact rcvM_cz (by rw [hmz46])
        have g5 : m94.cz = true ∧ m94.rf = 0 := by rw [g4, hmz46, hm46]; exact ⟨rfl, rfl⟩
        obtain ⟨g6, g7⟩ := g5
        refine mv rfl rfl rfl ?_
        refine ext rfl rfl rfl rfl ?_
        refine ext rfl rfl rfl rfl ?_
        refine asg rfl rfl rfl ?_
        refine asg rfl rfl rfl ?_
        refine wq_then ?_
        refine rg ?_
        refine mv rfl rfl rfl ?_
        refine eqnn (s := 0) Tryz.underlying27 rfl rfl rfl rfl ?_
        refine mv rfl rfl rfl ?_
        refine mv rfl rfl rfl ?_
        refine cv cf16 hS rfl rfl rfl rfl rfl (sp_told e87 7 _) ?_
        intro w hS
        refine pk_t rfl rfl rfl rfl ?_
        refine mv rfl rfl rfl ?_
        refine spl 103 rfl (fun hb2 => ?_) (fun hb2 => ?_)
        · skip
          try simp only [SB] at hb2
          refine mv rfl rfl rfl ?_
          refine cv cf16 hS rfl rfl rfl rfl rfl (sp_told e94 7 _) ?_
          intro w hS
          refine pk_t rfl rfl rfl rfl ?_
          refine mv rfl rfl rfl ?_
          refine spl 107 rfl (fun hb3 => ?_) (fun hb3 => ?_)
          · skip
            try simp only [SB] at hb3
            refine mv rfl rfl rfl ?_
            have hS : St w0 [] ([(b86, .cells (LB (List.replicate 2000 0)) 5), (b3, .cells (BV key) 22)] ++ (X94 ++ (Y94 ++ (Y87 ++ [])))) w := hS
            refine cv (v := .agg (#[U64 (m94.fs + m94.gv), U64 (lstV m94.ls), .bool (decide (m94.ls ≠ 0)), I (((m94.ac : Nat) : Int)), I (((m94.rf : Nat) : Int)), Str m94.ad, I (((m94.mv : Nat) : Int)), I (((m94.rc : Nat) : Int)), U16 (m94.rl), .bool (m94.cz)])) cf12 hS rfl rfl rfl rfl rfl (sp_session_Session_Status s46 m94 X94 _ hO94 (St.memT hS)) ?_
            intro w hS
            refine fld Tryz.underlying38 rfl sc4 rfl rfl rfl rfl ?_
            refine pk_t rfl rfl rfl rfl ?_
            refine mv rfl rfl rfl ?_
            refine spl 112 rfl (fun hb4 => ?_) (fun hb4 => ?_)
            · skip
              try simp only [SB] at hb4
              refine mv rfl rfl rfl ?_
              have hS : St w0 [] ([(b86, .cells (LB (List.replicate 2000 0)) 5), (b3, .cells (BV key) 22)] ++ (X94 ++ (Y94 ++ (Y87 ++ [])))) w := hS
              refine cv (v := .agg (#[U64 (m94.fs + m94.gv), U64 (lstV m94.ls), .bool (decide (m94.ls ≠ 0)), I (((m94.ac : Nat) : Int)), I (((m94.rf : Nat) : Int)), Str m94.ad, I (((m94.mv : Nat) : Int)), I (((m94.rc : Nat) : Int)), U16 (m94.rl), .bool (m94.cz)])) cf12 hS rfl rfl rfl rfl rfl (sp_session_Session_Status s46 m94 X94 _ hO94 (St.memT hS)) ?_
              intro w hS
              refine fld Tryz.underlying38 rfl sc3 rfl rfl rfl rfl ?_
              refine eqi rfl rfl rfl rfl ?_
              refine pk_t rfl rfl rfl rfl ?_
              refine asg rfl rfl rfl ?_
              refine wq_then ?_
              refine wc_ret ?_
              refine fin1 (v := .bool ((((m94.rf : Nat) : Int) : Int) == 0)) rfl rfl ?_
              refine ⟨?_, hS.drop⟩
              first | rfl | (rw [g7]; rfl)
            · skip
              try simp only [SB] at hb4
              first | exact absurd (by first | omega | exact g6) hb4 | (rw [g6] at hb4; cases hb4)
          · skip
            try simp only [SB] at hb3
            first | exact absurd (by first | omega | exact g6) hb3 | (rw [g6] at hb3; cases hb3)
        · skip
          try simp only [SB] at hb2
          first | exact absurd (by first | omega | exact g6) hb2 | (rw [g6] at hb2; cases hb2)
    · skip
      try simp only [SB] at hb1
      refine no rfl rfl ?_
      refine no rfl rfl ?_
      refine pk_f rfl rfl rfl rfl ?_
      refine wq_then ?_
      refine wc_if_f rfl ?_
      refine wc_skip ?_
      refine wq_then ?_
      refine wc_seq ?_
      refine rg ?_
      refine mv rfl rfl rfl ?_
      refine eqpn Tryz.underlying25 rfl rfl rfl rfl ?_
      refine wq_then ?_
      refine wc_if_f rfl ?_
      refine wc_skip ?_
      refine wq_then ?_
      refine rg ?_
      refine mv rfl rfl rfl ?_
      have hS : St w0 [] ([(b3, .cells (BV key) 22)] ++ (X46 ++ [])) w := hS
      refine cm cf22 rfl rfl rfl rfl rfl (sp_session_Session_Close s46 m46 X46 _ hO46 (St.memT hS) (St.nodupT hS)) ?_
      rintro _ Xz46 w hOz46 hS1
      obtain ⟨mz46, hmz46⟩ : ∃ m : SS, m = { m46 with cz := true } := ⟨_, rfl⟩
      rw [← hmz46] at hOz46
      have hbdz46 : Bd mz46 0 := by rw [hmz46]; exact hbd46
      have hS : St w0 [] ([(b3, .cells (BV key) 22)] ++ (Xz46 ++ [])) w := St.callX hS hS1
      refine wq_then ?_
      refine rg ?_
      refine mv rfl rfl rfl ?_
      refine mks (2000) sl30 hS rfl rfl rfl rfl (by omega) (by omega) (by omega) (by omega) (madeLB _) ?_
      intro b86 w hb86 hS
      have hS : St w0 [] ([(b86, .cells (LB (List.replicate 2000 0)) 5), (b3, .cells (BV key) 22)] ++ (Xz46 ++ [])) w := hS
      refine cm cf10 rfl rfl rfl rfl rfl (sp_SndG s46 mz46 Xz46 (some ⟨b86, 0, none⟩) 2000 2000 (List.replicate 2000 0) 0 _ hOz46 (St.memT hS) (St.nodupT hS) (by first | rfl | omega | (simp; omega) | (simp; done)) (by omega) (by omega) (fun _ _ k => by have hS := St.callX hS k; exact Cel.lb (l := List.replicate 2000 0) (hS.get 0 rfl)) (fun _ _ k => by have hS := St.callX hS k; exact hG.st hS)) ?_
      rintro _ _ w ⟨a87, n87, c87, X87, Y87, m87, e87, ad87, q87, rfl, hO87, hm87, he87, ha87, hq87, hl87, hN87, hcp87, hR87, rfl⟩ hS1
      have hbd87 : Bd m87 0 := by rw [hm87]; exact Bd_snd hbdz46 _
      have hS : St w0 [] ([(b86, .cells (LB (List.replicate 2000 0)) 5), (b3, .cells (BV key) 22)] ++ (X87 ++ (Y87 ++ []))) w := St.callXY hS hS1
      refine mv rfl rfl rfl ?_
      refine ext rfl rfl rfl rfl ?_
      refine ext rfl rfl rfl rfl ?_
      refine ext rfl rfl rfl rfl ?_
      refine asg rfl rfl rfl ?_
      refine asg rfl rfl rfl ?_
      refine asg rfl rfl rfl ?_
      refine wq_then ?_
      refine rg ?_
      refine mv rfl rfl rfl ?_
      refine mv rfl rfl rfl ?_
      have hS : St w0 [] ([(b86, .cells (LB (List.replicate 2000 0)) 5), (b3, .cells (BV key) 22)] ++ (X87 ++ (Y87 ++ []))) w := hS
      refine cm cf14 rfl rfl rfl rfl rfl (sp_RcvG s46 m87 X87 a n cap bs ([97]) 0 _ hO87 (St.memT hS) (St.nodupT hS) (by first | rfl | omega | (simp; omega) | (simp; done)) (by omega) (by omega) (fun _ _ k => by have hS := St.callX hS k; exact hc.st hS) (fun _ _ k => by have hS := St.callX hS k; exact hG.st hS) hbd87 (by omega)) ?_
      rintro _ _ w ⟨a94, n94, c94, X94, Y94, m94, e94, q94, rfl, hO94, hm94, he94, hq94, hl94, hN94, hcp94, hR94, rfl⟩ hS1
      have hbd94 : Bd m94 (0 + 1) := by rw [hm94]; exact Bd_rcv hbd87 _ _ _
      have hS : St w0 [] ([(b86, .cells (LB (List.replicate 2000 0)) 5), (b3, .cells (BV key) 22)] ++ (X94 ++ (Y94 ++ (Y87 ++ [])))) w := St.callXY hS hS1
      have g1 : e87 = 7 := by rw [he87]; exact sndE_cz (by rw [hmz46])
      have g2 : e94 = 7 := by rw [he94]; exact rcvE_cz (by rw [hm87, sndM_cz (by rw [hmz46]), hmz46])
      have g4 : m94 = mz46 := by rw [hm94, hm87, sndM_cz (by rw [hmz46])]; exact rcvM_cz (by rw [hmz46])
      have g5 : m94.cz = true ∧ m94.rf = 0 := by rw [g4, hmz46, hm46]; exact ⟨rfl, rfl⟩
      obtain ⟨g6, g7⟩ := g5
      refine mv rfl rfl rfl ?_
      refine ext rfl rfl rfl rfl ?_
      refine ext rfl rfl rfl rfl ?_
      refine asg rfl rfl rfl ?_
      refine asg rfl rfl rfl ?_
      refine wq_then ?_
      refine rg ?_
      refine mv rfl rfl rfl ?_
      refine eqnn (s := 0) Tryz.underlying27 rfl rfl rfl rfl ?_
      refine mv rfl rfl rfl ?_
      refine mv rfl rfl rfl ?_
      refine cv cf16 hS rfl rfl rfl rfl rfl (sp_told e87 7 _) ?_
      intro w hS
      refine pk_t rfl rfl rfl rfl ?_
      refine mv rfl rfl rfl ?_
      refine spl 103 rfl (fun hb5 => ?_) (fun hb5 => ?_)
      · skip
        try simp only [SB] at hb5
        refine mv rfl rfl rfl ?_
        refine cv cf16 hS rfl rfl rfl rfl rfl (sp_told e94 7 _) ?_
        intro w hS
        refine pk_t rfl rfl rfl rfl ?_
        refine mv rfl rfl rfl ?_
        refine spl 107 rfl (fun hb6 => ?_) (fun hb6 => ?_)
        · skip
          try simp only [SB] at hb6
          refine mv rfl rfl rfl ?_
          have hS : St w0 [] ([(b86, .cells (LB (List.replicate 2000 0)) 5), (b3, .cells (BV key) 22)] ++ (X94 ++ (Y94 ++ (Y87 ++ [])))) w := hS
          refine cv (v := .agg (#[U64 (m94.fs + m94.gv), U64 (lstV m94.ls), .bool (decide (m94.ls ≠ 0)), I (((m94.ac : Nat) : Int)), I (((m94.rf : Nat) : Int)), Str m94.ad, I (((m94.mv : Nat) : Int)), I (((m94.rc : Nat) : Int)), U16 (m94.rl), .bool (m94.cz)])) cf12 hS rfl rfl rfl rfl rfl (sp_session_Session_Status s46 m94 X94 _ hO94 (St.memT hS)) ?_
          intro w hS
          refine fld Tryz.underlying38 rfl sc4 rfl rfl rfl rfl ?_
          refine pk_t rfl rfl rfl rfl ?_
          refine mv rfl rfl rfl ?_
          refine spl 112 rfl (fun hb7 => ?_) (fun hb7 => ?_)
          · skip
            try simp only [SB] at hb7
            refine mv rfl rfl rfl ?_
            have hS : St w0 [] ([(b86, .cells (LB (List.replicate 2000 0)) 5), (b3, .cells (BV key) 22)] ++ (X94 ++ (Y94 ++ (Y87 ++ [])))) w := hS
            refine cv (v := .agg (#[U64 (m94.fs + m94.gv), U64 (lstV m94.ls), .bool (decide (m94.ls ≠ 0)), I (((m94.ac : Nat) : Int)), I (((m94.rf : Nat) : Int)), Str m94.ad, I (((m94.mv : Nat) : Int)), I (((m94.rc : Nat) : Int)), U16 (m94.rl), .bool (m94.cz)])) cf12 hS rfl rfl rfl rfl rfl (sp_session_Session_Status s46 m94 X94 _ hO94 (St.memT hS)) ?_
            intro w hS
            refine fld Tryz.underlying38 rfl sc3 rfl rfl rfl rfl ?_
            refine eqi rfl rfl rfl rfl ?_
            refine pk_t rfl rfl rfl rfl ?_
            refine asg rfl rfl rfl ?_
            refine wq_then ?_
            refine wc_ret ?_
            refine fin1 (v := .bool ((((m94.rf : Nat) : Int) : Int) == 0)) rfl rfl ?_
            refine ⟨?_, hS.drop⟩
            first | rfl | (rw [g7]; rfl)
          · skip
            try simp only [SB] at hb7
            first | exact absurd (by first | omega | exact g6) hb7 | (rw [g6] at hb7; cases hb7)
        · skip
          try simp only [SB] at hb6
          first | exact absurd (by first | omega | exact g6) hb6 | (rw [g6] at hb6; cases hb6)
      · skip
        try simp only [SB] at hb5
        first | exact absurd (by first | omega | exact g6) hb5 | (rw [g6] at hb5; cases hb5)
end Go.Proofs.XS

/- walks -/
namespace Go.Proofs.XS
open Go Go.X Go.Proofs
set_option maxRecDepth 100000 in
theorem sp_NilBad (key : V8 16) (d : Int) (a : Option Addr) (n cap : Nat) (bs : List UInt8) (w0 : World) (hn : bs.length = n) (hc : Cel w0 a (c8 bs)) (hcap : n ≤ cap) (hG : Gl 1 w0) (hd : d ≠ 0) (hd1 : d ≠ 1) : Calls Tryz.prog 7 #[.agg (BV key), I d, .slice a n cap] w0 (Ret w0 (.bool true)) := by
  refine enter (args := [.agg (BV key), I d, .slice a n cap]) Tryz.func7 rfl rfl ?_
  refine startw fun w hS => ?_
  refine rg ?_
  refine bxa hS rfl rfl rfl ?_
  intro b3 w hb3 hS
  refine asg rfl rfl rfl ?_
  refine wq_then ?_
  refine wc_seq ?_
  refine rg ?_
  refine cv cf8 hS rfl rfl rfl rfl rfl (sp_awake22 _ (hG.st hS)) ?_
  intro w hS
  refine notb rfl rfl rfl ?_
  refine mv rfl rfl rfl ?_
  refine mv rfl rfl rfl ?_
  refine lens Tryz.underlying30 rfl rfl rfl ?_
  refine gtr rfl rfl rfl rfl ?_
  refine pk_f rfl rfl rfl rfl ?_
  refine wq_then ?_
  refine wc_if rfl (fun hc1 => ?_) (fun hc1 => ?_)
  · skip
    try simp only [SB] at hc1
    refine rg ?_
    refine cv cf8 hS rfl rfl rfl rfl rfl (sp_awake22 _ (hG.st hS)) ?_
    intro w hS
    refine asg rfl rfl rfl ?_
    refine wq_then ?_
    refine wc_ret ?_
    refine q_then_ret ?_
    refine fin1 (v := .bool (true)) rfl rfl ?_
    refine ⟨?_, hS.drop⟩
    rfl
  · skip
    try simp only [SB] at hc1
    refine wc_skip ?_
    refine wq_then ?_
    refine rg ?_
    refine asg rfl rfl rfl ?_
    refine wq_then ?_
    refine rg ?_
    refine mv rfl rfl rfl ?_
    refine cv cf22 hS rfl rfl rfl rfl rfl (sp_NilClose _) ?_
    intro w hS
    refine wq_then ?_
    refine rg ?_
    refine mv rfl rfl rfl ?_
    refine mv rfl rfl rfl ?_
    refine cv cf10 hS rfl rfl rfl rfl rfl (sp_NilSend (a) (n) (cap) (0) _) ?_
    intro w hS
    refine mv rfl rfl rfl ?_
    refine ext rfl rfl rfl rfl ?_
    refine ext rfl rfl rfl rfl ?_
    refine ext rfl rfl rfl rfl ?_
    refine asg rfl rfl rfl ?_
    refine asg rfl rfl rfl ?_
    refine asg rfl rfl rfl ?_
    refine wq_then ?_
    refine rg ?_
    refine mv rfl rfl rfl ?_
    refine mv rfl rfl rfl ?_
    refine cv cf14 hS rfl rfl rfl rfl rfl (sp_NilReceive (a) (n) (cap) (([97])) (0) _) ?_
    intro w hS
    refine mv rfl rfl rfl ?_
    refine ext rfl rfl rfl rfl ?_
    refine ext rfl rfl rfl rfl ?_
    refine asg rfl rfl rfl ?_
    refine asg rfl rfl rfl ?_
    refine wq_then ?_
    refine rg ?_
    refine la 0 ag22 hS rfl rfl rfl rfl (BV_size _) ?_
    refine mv rfl rfl rfl ?_
    refine cv cf9 hS rfl rfl rfl rfl rfl (sp_NewBad (key) (d) (([97])) (0) _ (by first | assumption | decide) (by first | assumption | decide)) ?_
    intro w hS
    refine mv rfl rfl rfl ?_
    refine ext rfl rfl rfl rfl ?_
    refine ext rfl rfl rfl rfl ?_
    refine asg rfl rfl rfl ?_
    refine asg rfl rfl rfl ?_
    refine wq_then ?_
    refine wc_seq ?_
    refine rg ?_
    refine mv rfl rfl rfl ?_
    refine cv (v := .bool true) cf16 hS rfl rfl rfl rfl rfl (sp_told 7 7 _) ?_
    intro w hS
    refine notb rfl rfl rfl ?_
    refine mv rfl rfl rfl ?_
    refine mv rfl rfl rfl ?_
    refine cv (v := .bool true) cf16 hS rfl rfl rfl rfl rfl (sp_told 7 7 _) ?_
    intro w hS
    refine notb rfl rfl rfl ?_
    refine pk_f rfl rfl rfl rfl ?_
    refine mv rfl rfl rfl ?_
    refine mv rfl rfl rfl ?_
    refine cv cf12 hS rfl rfl rfl rfl rfl (sp_NilStatus _) ?_
    intro w hS
    refine bd (cs := #[U64 (0), U64 (0), .bool (false), I (0), I (0), Str ([]), I (0), I (0), U16 (0), .bool (true)]) rfl rfl rfl (by kernel_rfl) ?_
    refine nest Tryz.underlying38 (by kernel_rfl) (by kernel_rfl) (by kernel_rfl) rfl rfl rfl rfl rfl ?_
    refine pk_f rfl rfl rfl rfl ?_
    refine mv rfl rfl rfl ?_
    refine mv rfl rfl rfl ?_
    refine cv cf23 hS rfl rfl rfl rfl rfl (sp_NilEstimate _) ?_
    intro w hS
    refine nei rfl rfl rfl rfl ?_
    refine pk_f rfl rfl rfl rfl ?_
    refine wq_then ?_
    refine wc_if_f rfl ?_
    refine wc_skip ?_
    refine wq_then ?_
    refine wc_seq ?_
    refine rg ?_
    refine mv rfl rfl rfl ?_
    refine nei rfl rfl rfl rfl ?_
    refine mv rfl rfl rfl ?_
    refine spl 70 rfl (fun hb1 => ?_) (fun hb1 => ?_)
    · skip
      try simp only [SB] at hb1
      refine mv rfl rfl rfl ?_
      refine nei rfl rfl rfl rfl ?_
      refine pk_t rfl rfl rfl rfl ?_
      refine wq_then ?_
      refine wc_if rfl (fun hc2 => ?_) (fun hc2 => ?_)
      · skip
        try simp only [SB] at hc2
        refine rg ?_
        refine mv rfl rfl rfl ?_
        refine eqpp Tryz.underlying25 rfl rfl rfl rfl ?_
        refine mv rfl rfl rfl ?_
        refine mv rfl rfl rfl ?_
        refine cv (v := .bool true) cf16 hS rfl rfl rfl rfl rfl (sp_told 8 8 _) ?_
        intro w hS
        refine pk_t rfl rfl rfl rfl ?_
        refine asg rfl rfl rfl ?_
        refine wq_then ?_
        refine wc_ret ?_
        refine q_then_ret ?_
        refine fin1 (v := .bool (true)) rfl rfl ?_
        refine ⟨?_, hS.drop⟩
        rfl
      · skip
        try simp only [SB] at hc2
        exfalso; omega
    · skip
      try simp only [SB] at hb1
      exfalso; omega
end Go.Proofs.XS

/- walks -/
namespace Go.Proofs.XS
open Go Go.X Go.Proofs
theorem sp_mooringlaw22_SessionNil (key : V8 16) (d : Int) (a : Option Addr) (n cap : Nat) (bs : List UInt8) (w0 : World) (hn : bs.length = n) (hc : Cel w0 a (c8 bs)) (hcap : n ≤ cap) (hG : Gl 1 w0) : Calls Tryz.prog 7 #[.agg (BV key), I d, .slice a n cap] w0 (Ret w0 (.bool true)) := by
  by_cases h0 : d = 0
  · exact sp_NilGood key 0 a n cap bs d w0 h0 hn hc hcap hG (by omega)
  · by_cases h1 : d = 1
    · exact sp_NilGood key 1 a n cap bs d w0 h1 hn hc hcap hG (by omega)
    · exact sp_NilBad key d a n cap bs w0 hn hc hcap hG h0 h1
end Go.Proofs.XS

/- SessionNil -/

namespace Go.Proofs.YtdcophmboncacaaGreatDoor.sessionNilP
open Go Go.ChangeShapes Go.WideShapes Go.ChangeAt Go.RowKit Go.Deep Go.X

theorem own : ownKnob Tryz.prog.godebug = none := by kernel_rfl
theorem laidOut : laidOutB Tryz.prog = true := by kernel_rfl
theorem gTab : Tryz.prog.globalNamed "math/bits.deBruijn64tab" = some 1 := by kernel_rfl
theorem gTabType : (Tryz.prog.globals[1]?).map (·.type) = some 283 := by kernel_rfl
theorem cellsGT : Tryz.prog.cellsOf 283 = 64 := by kernel_rfl
theorem cells5 : Tryz.prog.cellsOf 5 = 1 := by kernel_rfl
theorem rr3 : Tryz.prog.readableRec 3 = true ∧ 3 < Tryz.prog.types.size := ⟨by kernel_rfl, of_decide_eq_true (by kernel_rfl)⟩
theorem rr22 : Tryz.prog.readableRec 22 = true ∧ 22 < Tryz.prog.types.size := ⟨by kernel_rfl, of_decide_eq_true (by kernel_rfl)⟩
theorem rr30 : Tryz.prog.readableRec 30 = true ∧ 30 < Tryz.prog.types.size := ⟨by kernel_rfl, of_decide_eq_true (by kernel_rfl)⟩
theorem ws3 : Tryz.prog.wantsStandIn 3 = false := by kernel_rfl
theorem ws22 : Tryz.prog.wantsStandIn 22 = false := by kernel_rfl
theorem ws30 : Tryz.prog.wantsStandIn 30 = false := by kernel_rfl
theorem cells22 : Tryz.prog.cellsOf 22 = 16 := by kernel_rfl
theorem reads : ∀ t ∈ Tryz.f7.params.toList, Tryz.prog.readableRec t = true ∧ t < Tryz.prog.types.size := by
  rw [Tryz.params7]; intro t ht
  simp only [List.mem_cons, List.not_mem_nil, or_false] at ht
  rcases ht with rfl | rfl | rfl
  · exact rr22
  · exact rr3
  · exact rr30

/-- what the row's list gives: the table of the numbers of zeros -/
theorem table {W : World} (h : laidMetH Tryz.prog Rows.sessionNilRow.laid W) : Lib.TabIs Tryz.prog W "math/bits.deBruijn64tab" .u8 deBz :=
  Lib.tabIs_of_head (rest := []) gTab gTabType Tryz.underlying283 Tryz.underlying5 cells5 cellsGT h

set_option maxRecDepth 100000 in
/-- what the walk gives, for every argument and every world that holds the table -/
theorem contract (H : Type) (enc : TypeId × Value → H) (W : World) (base : Nat) (args : Array Value) (ds gs : List (DataW H)) (before : List MemPlace)
    (hval : ∀ (j : Nat) t v, Tryz.f7.params[j]? = some t → args[j]? = some v → Value.okWide Tryz.prog W .any base t v)
    (hW : DataW.Whole enc Tryz.prog Tryz.f7.params.toList Rows.sessionNilSpec.vars false W args.toList ds gs before) (hL : laidMetH Tryz.prog Rows.sessionNilRow.laid W) :
    Calls Tryz.prog 7 args W fun e W' => ∃ v, e = .returned v ∧ Rows.sessionNilSpec.post enc Tryz.prog Tryz.f7 false true false false W args v W' := by
  have hW' := hW
  obtain ⟨p, q, hA0, hV, rfl, hfz, hnd⟩ := hW
  have hA : DataW.TrodAll enc Tryz.prog W 0 (fun _ => true) true Tryz.f7.params.toList args.toList ds p := hA0
  have hAk := hA
  have hlt : ∀ x ∈ p, x.block < W.heap.size := fun x hx => hW'.lt x (by simp [hx])
  rw [Tryz.params7] at hA hval
  obtain ⟨v0, vs0, d0, ds0, p0, q0, hargs, rfl, rfl, h0, r0⟩ := trodAll_cons hA
  obtain ⟨v1, vs1, d1, ds1, p1, q1, rfl, rfl, rfl, h1, r1⟩ := trodAll_cons r0
  obtain ⟨v2, vs2, d2, ds2, p2, q2, rfl, rfl, rfl, h2, r2⟩ := trodAll_cons r1
  obtain ⟨rfl, rfl, rfl⟩ := trodAll_nil r2
  obtain ⟨rfl, rfl⟩ := trodVars_none hV
  have hG : Gl 1 W := gl_of_tab gTab (table hL)
  obtain rfl : args = #[v0, v1, v2] := by cases args; simp_all
  obtain ⟨k0, rfl⟩ := arg_array Tryz.underlying22 Tryz.underlying5 cells5 cells22 (hval 0 22 v0 rfl rfl) h0
  obtain ⟨z1, rfl, hz1⟩ := arg_i64 Tryz.underlying3 (hval 1 3 v1 rfl rfl) h1
  obtain ⟨a2, n2, c2, b2, rfl, hn2, hl2, hc2⟩ := arg_bytes Tryz.underlying30 Tryz.underlying5 cells5 (hval 2 30 v2 rfl rfl) h2
  refine (XS.sp_mooringlaw22_SessionNil k0 z1 a2 n2 c2 b2 W hn2 hc2 hl2 hG).mono fun e W' ⟨he, hS⟩ => ?_
  subst he
  have hb := hS.below
  exact ⟨_, rfl, _, _, _, [], _, [], hW', trodAll_cons_mk (shut_bool Tryz.underlying4 _) trodAll_mk0, args_below laidOut reads hAk hb hlt, rfl, hb.frame _, fun h => by cases h⟩

/-- a world for the witness -/
noncomputable def laidWorld (os : Os) : World :=
  { World.holding Tryz.prog os ⟨#[], #[], []⟩ with heap := (World.holding Tryz.prog os ⟨#[], #[], []⟩).heap.modify 1 fun
      | .cells _ t frozen => .cells (deBz.map fun z => Value.int .u8 z).toArray t frozen
      | o => o }
theorem laid_met (os : Os) : laidMet Tryz.prog Rows.sessionNilRow.laid ((laidWorld os).forCall (fun _ _ => 0) ⟨#[], #[.agg (List.replicate 16 (Value.int .u8 0)).toArray, .int .i64 0, .slice none 0 0], []⟩).memory :=
  laidMet_of_run' 8 (by kernel_rfl) (by kernel_rfl)
theorem reading (os : Os) {H : Type} (enc : TypeId × Value → H) : ∃ places, DataW.whole enc Tryz.prog ((laidWorld os).forCall (fun _ _ => 0) ⟨#[], #[.agg (List.replicate 16 (Value.int .u8 0)).toArray, .int .i64 0, .slice none 0 0], []⟩).memory Tryz.f7.params.toList Rows.sessionNilSpec.vars false (#[.agg (List.replicate 16 (Value.int .u8 0)).toArray, .int .i64 0, .slice none 0 0] : Array Value).toList 8 = some ([.agg (List.replicate 16 (DataW.lit (.int .u8 0))), .lit (.int .i64 0), .nil], [], places) :=
  ⟨[], by kernel_rfl⟩

set_option maxRecDepth 100000 in
theorem lifted (os : Os) (started : os.Started) (H : Type) (enc : TypeId × Value → H) (F : Stop.Interp) :
    ReturnsInHanded {} Tryz.checked os 7 .any ((OpenSpec.ofChange Rows.sessionNilSpec).preRow enc Tryz.prog Tryz.f7 Rows.sessionNilRow.domain false Rows.sessionNilRow.laid) (((OpenSpec.ofChange Rows.sessionNilSpec).at F).post enc Tryz.prog Tryz.f7 false true false false) := by
  obtain ⟨places, hx⟩ := reading os enc
  refine returnsInHanded_of_row (C := Tryz.checked) (s := OpenSpec.ofChange Rows.sessionNilSpec) own started (by kernel_rfl) Tryz.func7
    (witness_row_at (enc := enc) (C := Tryz.checked) false (laidWorld os) #[.agg (List.replicate 16 (Value.int .u8 0)).toArray, .int .i64 0, .slice none 0 0] rfl (by kernel_rfl) (by kernel_rfl) (by kernel_rfl)
      (OpenSpec.preRow_of_cond 8 hx (by kernel_rfl) (fun k hk => by cases hk) (by kernel_rfl) (laid_met os))) ?_
  intro W base args ds gs before hval hW _ _ _ hL _ _
  exact contract H enc W base args ds gs before hval hW hL

theorem said : Rows.SessionNilSaid :=
  OpenClaim.holds_of_cond 7 Tryz.f7 rfl rfl rfl rfl rfl rfl rfl ⟨rfl, rfl, rfl, rfl, rfl⟩ rfl rfl rfl rfl rfl (by kernel_rfl) Tryz.func7 (by kernel_rfl)
    (of_decide_eq_true (by kernel_rfl)) (by unfold Func.isWrapper; first | (rw [if_pos (by decide +kernel)]; kernel_rfl) | (rw [if_neg (by decide +kernel)]; exact ⟨rfl, rfl⟩))
    (fun os started H enc _ F => by rw [OpenClaim.pre_eq_preRow]; exact lifted os started H enc F)

theorem plain (f : FuncId) (fn : Func) (hf : Tryz.pinned.checked.prog.funcNamed "mooring/mooringlaw22.SessionNil" = some f) (hfn : Tryz.pinned.checked.prog.funcs[f]? = some fn) :
    true = Tryz.pinned.checked.prog.looks [] ∧ ∀ (j : Nat) t, fn.params[j]? = some t → Tryz.pinned.checked.prog.wantsStandIn t = false := by
  obtain rfl : f = 7 := Option.some.inj ((show Tryz.prog.funcNamed "mooring/mooringlaw22.SessionNil" = some 7 by kernel_rfl).symm.trans hf) |>.symm
  obtain rfl : fn = Tryz.f7 := (Option.some.inj (Tryz.func7.symm.trans hfn)).symm
  refine ⟨by kernel_rfl, fun j t ht => ?_⟩
  rw [Tryz.params7] at ht
  have hm := Array.mem_of_getElem? ht
  simp only [List.mem_toArray, List.mem_cons, List.not_mem_nil, or_false] at hm
  rcases hm with rfl | rfl | rfl
  · exact ws22
  · exact ws3
  · exact ws30
end Go.Proofs.YtdcophmboncacaaGreatDoor.sessionNilP
namespace Go.Proofs.YtdcophmboncacaaGreatDoor
open Go
/-- the tied card -/
theorem sessionNil_card : Rows.SessionNilCardSaid :=
  Claim7.holds_tied_plain_at .later [] _ _ _ _ sessionNilP.said (fun _ h => by cases h) (by kernel_rfl) (fun _ h => by cases h) sessionNil_row_tie rfl ⟨rfl, rfl⟩ (by kernel_rfl) rfl sessionNilP.plain (by kernel_rfl)
#print axioms sessionNil_card
end Go.Proofs.YtdcophmboncacaaGreatDoor
