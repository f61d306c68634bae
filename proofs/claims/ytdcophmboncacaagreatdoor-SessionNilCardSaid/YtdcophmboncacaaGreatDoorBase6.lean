/- Part 6 of the ground of this seat's proofs: rules of a calculus of walks, and what the functions of the lower layers compute; no conditions beyond those that each statement bears. -/
import Derived.Test.YtdcophmboncacaaGreatDoorBase5
set_option linter.unusedVariables false
set_option linter.unusedSimpArgs false
set_option linter.unnecessarySimpa false
/- walks -/
namespace Go.Proofs.XS
open Go Go.X Go.Proofs
set_option maxRecDepth 100000 in
theorem sp_session_Session_Send (s : Nat) (m : SS) (X : List (Nat × Obj)) (a : Option Addr) (n cap : Nat) (bs : List UInt8) (x : UInt64) (w0 : World) (hO : SesO s m X) (hX : ∀ p ∈ X, w0.heap[p.1]? = some p.2) (hnd : (X.map Prod.fst).Nodup) (hn : bs.length = n) (hN : n ≤ 1000000) (hcap : n ≤ cap) (hc : CelX (X.map Prod.fst) w0 a (c8 bs)) (hG : GlX 1 (X.map Prod.fst) w0) : Calls Tryz.prog 10 #[Ptr s 0, .slice a n cap, U64 x] w0 (RetM w0 (X.map Prod.fst) (fun v L' => ∃ a' n' c' X' Y, v = .tuple #[.slice a' n' c', Str (sndA m n), errV 33 (sndE m n)] ∧ SesO s (sndM m n) X' ∧ Gives a' n' c' (sndB m bs x) Y ∧ L' = X' ++ Y)) := by
  refine enter (args := [Ptr s 0, .slice a n cap, U64 x]) Tryz.func10 rfl rfl ?_
  obtain ⟨G, hGe⟩ : ∃ G, G = X.map Prod.fst := ⟨_, rfl⟩
  rw [← hGe] at hc hG ⊢
  obtain ⟨pp, pm, pc, pf, pe, t, c, E1, E2, E3, E4, E5, E6, mm, Z, hd1, hE, hXe⟩ := hO
  subst hXe
  refine startx (F := G) (L := [(s, .cells (#[Ptr pp 0, I (((m.dir : Nat) : Int)), Ptr t 0, Ptr pc 0, Ptr pf 0, Ptr pe 0, U16 (m.rl), I (((m.rc : Nat) : Int)), U32 (m.re), U64 (m.fs), .bool (m.cz)]) E1), (pf, .cells (#[I (((m.ac : Nat) : Int)), I (((m.rf : Nat) : Int)), U64 (m.ls)]) E2), (pc, .cells (#[U64 (m.nx), U64 (m.gv), .bool (false)]) E3), (t, .cells (tableC c m.key) E4), (c, .cells (cipherC m.key) E5), (pp, .cells (#[Str m.ad, .bool (m.fx), I (((m.mv : Nat) : Int)), .map (some pm)]) E6), (pm, mOb encS vI mm)] ++ (Z ++ [])) (by rw [hGe, List.append_nil]; exact St.starts hX hnd) fun w hS => ?_
  refine rg ?_
  refine bx1 hS rfl rfl rfl rfl ?_
  intro b3 w hb3 hS
  refine asg rfl rfl rfl ?_
  refine asg rfl rfl rfl ?_
  refine asg rfl rfl rfl ?_
  refine wq_then ?_
  refine wc_seq ?_
  refine rg ?_
  refine lo 0 sc25 hS rfl rfl rfl rfl rfl ?_
  refine eqpn Tryz.underlying25 rfl rfl rfl rfl ?_
  refine wq_then ?_
  refine wc_if_f rfl ?_
  refine wc_skip ?_
  refine wq_then ?_
  refine rg ?_
  refine lo 0 sc25 hS rfl rfl rfl rfl rfl ?_
  refine nilp rfl rfl rfl ?_
  refine fan (0) (0) Tryz.underlying90 rfl sz76 (by decide) rfl rfl rfl rfl (by omega) ?_
  refine lo 1 sc76 hS rfl rfl rfl rfl rfl ?_
  refine cv cf31 hS rfl rfl rfl rfl rfl (sp_peer_Peer_Address (pp) (_) (_) (m.ad) (m.fx) (m.mv) _ (hS.get 6 rfl)) ?_
  intro w hS
  refine mv rfl rfl rfl ?_
  refine ext rfl rfl rfl rfl ?_
  refine ext rfl rfl rfl rfl ?_
  refine asg rfl rfl rfl ?_
  refine asg rfl rfl rfl ?_
  refine wq_then ?_
  refine rg ?_
  refine mkf rfl rfl rfl ?_
  refine asg rfl rfl rfl ?_
  refine wq_then ?_
  refine wc_seq ?_
  refine rg ?_
  refine lo 0 sc25 hS rfl rfl rfl rfl rfl ?_
  refine nilp rfl rfl rfl ?_
  refine fan (10) (10) Tryz.underlying90 rfl sz4 (by decide) rfl rfl rfl rfl (by omega) ?_
  refine lo 1 sc4 hS rfl rfl rfl rfl rfl ?_
  refine cs cf35 hS rfl rfl rfl rfl rfl (sp_session_when (m.cz) (7) _) ?_
  rintro _ _ w ⟨p33, q33, rfl, rfl⟩ hS
  refine mv rfl rfl rfl ?_
  refine lens Tryz.underlying30 rfl rfl rfl ?_
  refine gtr rfl rfl rfl rfl ?_
  refine cs cf35 hS rfl rfl rfl rfl rfl (sp_session_when ((decide (((n : Nat) : Int) > 1200))) (2) _) ?_
  rintro _ _ w ⟨p37, q37, rfl, rfl⟩ hS
  refine mv rfl rfl rfl ?_
  refine notb rfl rfl rfl ?_
  refine cs cf35 hS rfl rfl rfl rfl rfl (sp_session_when ((!(decide (m.ad ≠ [])))) (12) _) ?_
  rintro _ _ w ⟨p40, q40, rfl, rfl⟩ hS
  refine mv rfl rfl rfl ?_
  refine bsl (cs := #[.func (.func 78) #[] #[Ptr p33 0, Ptr q33 0], .func (.func 78) #[] #[Ptr p37 0, Ptr q37 0], .func (.func 78) #[] #[Ptr p40 0, Ptr q40 0], .func (.func 32) #[] #[Ptr b3 0]]) sl160 hS rfl rfl rfl rfl (by kernel_rfl) ?_
  intro b42 w hb42 hS
  refine cv cf34 hS rfl rfl rfl rfl rfl (sp_session_first b42 95 4 _ (nth4 78 78 78 32) (nth4 ([Ptr p33 0, Ptr q33 0]) ([Ptr p37 0, Ptr q37 0]) ([Ptr p40 0, Ptr q40 0]) ([Ptr b3 0])) (nth4 (if m.cz = true then 7 else 0) (if (decide (((n : Nat) : Int) > 1200)) = true then 2 else 0) (if (!(decide (m.ad ≠ []))) = true then 12 else 0) (pekE m.nx false)) _ (by omega) (hS.get 0 rfl) (fun k hk => by rcases (show k = 0 ∨ k = 1 ∨ k = 2 ∨ k = 3 by omega) with rfl | rfl | rfl | rfl <;> rfl) (fun k hk => by rcases (show k = 0 ∨ k = 1 ∨ k = 2 ∨ k = 3 by omega) with rfl | rfl | rfl | rfl <;> first | exact cf32 | exact cf78) (fun k hk W hW => by
      rcases (show k = 0 ∨ k = 1 ∨ k = 2 ∨ k = 3 by omega) with rfl | rfl | rfl | rfl
      · exact sp_session_when_1 p33 _ q33 _ m.cz 7 W (hW.old (hS.get 6 rfl) List.not_mem_nil) (hW.old (hS.get 5 rfl) List.not_mem_nil) (by decide)
      · exact sp_session_when_1 p37 _ q37 _ (decide (((n : Nat) : Int) > 1200)) 2 W (hW.old (hS.get 4 rfl) List.not_mem_nil) (hW.old (hS.get 3 rfl) List.not_mem_nil) (by decide)
      · exact sp_session_when_1 p40 _ q40 _ (!(decide (m.ad ≠ []))) 12 W (hW.old (hS.get 2 rfl) List.not_mem_nil) (hW.old (hS.get 1 rfl) List.not_mem_nil) (by decide)
      · exact sp_session_Session_Send_1 b3 _ s _ _ _ _ _ _ _ _ _ _ _ _ _ _ _ _ W (hW.old (hS.get 7 rfl) List.not_mem_nil) (hW.old (hS.get 8 rfl) List.not_mem_nil) (hW.old (hS.get 10 rfl) List.not_mem_nil))) ?_
  intro w hS
  refine asg rfl rfl rfl ?_
  refine wq_then ?_
  refine rg ?_
  refine mv rfl rfl rfl ?_
  refine neE (C := 33) (c := (fstE (nth4 (if m.cz = true then 7 else 0) (if (decide (((n : Nat) : Int) > 1200)) = true then 2 else 0) (if (!(decide (m.ad ≠ []))) = true then 12 else 0) (pekE m.nx false)) 4)) Tryz.underlying27 rfl rfl rfl ?_
  refine wq_then ?_
  refine wc_if rfl (fun hc1 => ?_) (fun hc1 => ?_)
  · skip
    try simp only [SB] at hc1
    have hE2 : ¬ sndE m n = 0 := by simpa [sndE] using hc1
    refine rg ?_
    refine mv rfl rfl rfl ?_
    refine asg rfl rfl rfl ?_
    refine asg rfl rfl rfl ?_
    refine asg rfl rfl rfl ?_
    refine wq_then ?_
    refine wc_ret ?_
    refine q_then_ret ?_
    refine fin3 (v := (.slice none 0 0)) (u := Str ([])) (x := (errV 33 (fstE (nth4 (if m.cz = true then 7 else 0) (if (decide (((n : Nat) : Int) > 1200)) = true then 2 else 0) (if (!(decide (m.ad ≠ []))) = true then 12 else 0) (pekE m.nx false)) 4))) rfl rfl rfl rfl ?_
    have eM : sndM m n = m := if_neg hE2
    have eA : sndA m n = [] := if_neg hE2
    have eB : sndB m bs x = [] := by rw [sndB, hn, if_neg hE2]
    exact ⟨_, _, rfl, ⟨none, 0, 0, [(s, .cells (#[Ptr pp 0, I (((m.dir : Nat) : Int)), Ptr t 0, Ptr pc 0, Ptr pf 0, Ptr pe 0, U16 (m.rl), I (((m.rc : Nat) : Int)), U32 (m.re), U64 (m.fs), .bool (m.cz)]) E1), (pf, .cells (#[I (((m.ac : Nat) : Int)), I (((m.rf : Nat) : Int)), U64 (m.ls)]) E2), (pc, .cells (#[U64 (m.nx), U64 (m.gv), .bool (false)]) E3), (t, .cells (tableC c m.key) E4), (c, .cells (cipherC m.key) E5), (pp, .cells (#[Str m.ad, .bool (m.fx), I (((m.mv : Nat) : Int)), .map (some pm)]) E6), (pm, mOb encS vI mm)] ++ Z, [], by rw [eA]; rfl, by rw [eM]; exact ⟨pp, pm, pc, pf, pe, t, c, _, _, _, _, _, _, _, _, hd1, hE, rfl⟩, by rw [eB]; exact Gives.nil, rfl⟩, St.pk0 (U := [(b42, .cells (#[.func (.func 78) #[] #[Ptr p33 0, Ptr q33 0], .func (.func 78) #[] #[Ptr p37 0, Ptr q37 0], .func (.func 78) #[] #[Ptr p40 0, Ptr q40 0], .func (.func 32) #[] #[Ptr b3 0]]) 95), (q40, .cells (#[I (12)]) 33), (p40, .cells (#[.bool ((!(decide (m.ad ≠ []))))]) 4), (q37, .cells (#[I (2)]) 33), (p37, .cells (#[.bool ((decide (((n : Nat) : Int) > 1200)))]) 4), (q33, .cells (#[I (7)]) 33), (p33, .cells (#[.bool (m.cz)]) 4), (b3, .cells (#[Ptr s 0]) 25)]) (B := [(s, .cells (#[Ptr pp 0, I (((m.dir : Nat) : Int)), Ptr t 0, Ptr pc 0, Ptr pf 0, Ptr pe 0, U16 (m.rl), I (((m.rc : Nat) : Int)), U32 (m.re), U64 (m.fs), .bool (m.cz)]) E1), (pf, .cells (#[I (((m.ac : Nat) : Int)), I (((m.rf : Nat) : Int)), U64 (m.ls)]) E2), (pc, .cells (#[U64 (m.nx), U64 (m.gv), .bool (false)]) E3), (t, .cells (tableC c m.key) E4), (c, .cells (cipherC m.key) E5), (pp, .cells (#[Str m.ad, .bool (m.fx), I (((m.mv : Nat) : Int)), .map (some pm)]) E6), (pm, mOb encS vI mm)]) (Z := Z) (R := []) hS⟩
  · skip
    try simp only [SB] at hc1
    have hE2 : sndE m n = 0 := by simpa [sndE] using hc1
    obtain ⟨h1, h2, h3, h4⟩ := fst4_0.1 hE2
    have hn12 : n ≤ 1200 := by simp at h2; omega
    refine wc_skip ?_
    refine wq_then ?_
    refine rg ?_
    refine lo 7 sc25 hS rfl rfl rfl rfl rfl ?_
    refine nilp rfl rfl rfl ?_
    refine fan (3) (3) Tryz.underlying90 rfl sz81 (by decide) rfl rfl rfl rfl (by omega) ?_
    refine lo 8 sc81 hS rfl rfl rfl rfl rfl ?_
    refine cm cf36 rfl rfl rfl rfl rfl (sp_counter_Counter_Next (pc) (_) (m.nx) (m.gv) (false) _ (hS.get 10 rfl) (by assumption)) ?_
    rintro _ _ w ⟨rfl, rfl⟩ hS1
    have hS : St w0 G ([(b42, .cells (#[.func (.func 78) #[] #[Ptr p33 0, Ptr q33 0], .func (.func 78) #[] #[Ptr p37 0, Ptr q37 0], .func (.func 78) #[] #[Ptr p40 0, Ptr q40 0], .func (.func 32) #[] #[Ptr b3 0]]) 95), (q40, .cells (#[I (12)]) 33), (p40, .cells (#[.bool ((!(decide (m.ad ≠ []))))]) 4), (q37, .cells (#[I (2)]) 33), (p37, .cells (#[.bool ((decide (((n : Nat) : Int) > 1200)))]) 4), (q33, .cells (#[I (7)]) 33), (p33, .cells (#[.bool (m.cz)]) 4), (b3, .cells (#[Ptr s 0]) 25), (s, .cells (#[Ptr pp 0, I (((m.dir : Nat) : Int)), Ptr t 0, Ptr pc 0, Ptr pf 0, Ptr pe 0, U16 (m.rl), I (((m.rc : Nat) : Int)), U32 (m.re), U64 (m.fs), .bool (m.cz)]) E1), (pf, .cells (#[I (((m.ac : Nat) : Int)), I (((m.rf : Nat) : Int)), U64 (m.ls)]) E2), (pc, .cells (#[U64 (m.nx + 1), U64 (m.gv + 1), .bool (false)]) E3), (t, .cells (tableC c m.key) E4), (c, .cells (cipherC m.key) E5), (pp, .cells (#[Str m.ad, .bool (m.fx), I (((m.mv : Nat) : Int)), .map (some pm)]) E6), (pm, mOb encS vI mm)] ++ (Z ++ [])) w := St.calls (L1 := [(pc, .cells (#[U64 (m.nx), U64 (m.gv), .bool (false)]) E3)]) (N := [(pc, .cells (#[U64 (m.nx + 1), U64 (m.gv + 1), .bool (false)]) E3)]) (L2 := []) hS [10] rfl rfl hS1
    refine mv rfl rfl rfl ?_
    refine ext rfl rfl rfl rfl ?_
    refine ext rfl rfl rfl rfl ?_
    refine asg rfl rfl rfl ?_
    refine asg rfl rfl rfl ?_
    refine wq_then ?_
    refine sqj (fun l w => ∃ (Y67 : List (Nat × Obj)) (b15 : Nat), (EchO pe none Y67) ∧ l = [(3, Ptr b3 0), (6, (.slice none 0 0)), (7, Str ([])), (8, .nilIface), (9, (Str m.ad)), (15, Ptr b15 0)] ∧ St w0 G ([(b15, .cells (#[I (((m.dir : Nat) : Int)), U64 (m.nx), U16 (ofT x), U16 (replyV m.kp x), .slice a n cap]) 100), (b42, .cells (#[.func (.func 78) #[] #[Ptr p33 0, Ptr q33 0], .func (.func 78) #[] #[Ptr p37 0, Ptr q37 0], .func (.func 78) #[] #[Ptr p40 0, Ptr q40 0], .func (.func 32) #[] #[Ptr b3 0]]) 95), (q40, .cells (#[I (12)]) 33), (p40, .cells (#[.bool ((!(decide (m.ad ≠ []))))]) 4), (q37, .cells (#[I (2)]) 33), (p37, .cells (#[.bool ((decide (((n : Nat) : Int) > 1200)))]) 4), (q33, .cells (#[I (7)]) 33), (p33, .cells (#[.bool (m.cz)]) 4), (b3, .cells (#[Ptr s 0]) 25), (s, .cells (#[Ptr pp 0, I (((m.dir : Nat) : Int)), Ptr t 0, Ptr pc 0, Ptr pf 0, Ptr pe 0, U16 (m.rl), I (((m.rc : Nat) : Int)), U32 (m.re), U64 (m.fs), .bool (m.cz)]) E1), (pf, .cells (#[I (((m.ac : Nat) : Int)), I (((m.rf : Nat) : Int)), U64 (m.ls)]) E2), (pc, .cells (#[U64 (m.nx + 1), U64 (m.gv + 1), .bool (false)]) E3), (t, .cells (tableC c m.key) E4), (c, .cells (cipherC m.key) E5), (pp, .cells (#[Str m.ad, .bool (m.fx), I (((m.mv : Nat) : Int)), .map (some pm)]) E6), (pm, mOb encS vI mm)] ++ (Y67 ++ [])) w) ?_ ?_
    · skip
      refine wc_draw mo 16 (fun w => St w0 G [(b3, .cells (#[Ptr s 0]) 25), (s, .cells (#[Ptr pp 0, I (((m.dir : Nat) : Int)), Ptr t 0, Ptr pc 0, Ptr pf 0, Ptr pe 0, U16 (m.rl), I (((m.rc : Nat) : Int)), U32 (m.re), U64 (m.fs), .bool (m.cz)]) E1)] w) ?_
      have hS := hS.drew
      refine dq 0 rfl (by kernel_rfl) (by kernel_rfl) (by kernel_rfl) rfl rfl (fun w hS => lo 0 sc25 hS rfl rfl rfl rfl rfl ⟨rfl, rfl⟩) (hS.sublist (.cons _ (.cons _ (.cons _ (.cons _ (.cons _ (.cons _ (.cons _ (.cons_cons _ (.cons_cons _ (.cons _ (.cons _ (.cons _ (.cons _ (.cons _ (.cons _ (List.nil_sublist _))))))))))))))))) ?_
      refine dq 1 rfl (by kernel_rfl) (by kernel_rfl) (by kernel_rfl) rfl rfl (fun w hS => nilp rfl rfl rfl ⟨rfl, rfl⟩) (hS.sublist (.cons _ (.cons _ (.cons _ (.cons _ (.cons _ (.cons _ (.cons _ (.cons_cons _ (.cons_cons _ (.cons _ (.cons _ (.cons _ (.cons _ (.cons _ (.cons _ (List.nil_sublist _))))))))))))))))) ?_
      refine dq 2 rfl (by kernel_rfl) (by kernel_rfl) (by kernel_rfl) rfl rfl (fun w hS => fan (1) (1) Tryz.underlying90 rfl sz3 (by decide) rfl rfl rfl rfl (by omega) ⟨rfl, rfl⟩) (hS.sublist (.cons _ (.cons _ (.cons _ (.cons _ (.cons _ (.cons _ (.cons _ (.cons_cons _ (.cons_cons _ (.cons _ (.cons _ (.cons _ (.cons _ (.cons _ (.cons _ (List.nil_sublist _))))))))))))))))) ?_
      refine dq 3 rfl (by kernel_rfl) (by kernel_rfl) (by kernel_rfl) rfl rfl (fun w hS => lo 1 sc3 hS rfl rfl rfl rfl rfl ⟨rfl, rfl⟩) (hS.sublist (.cons _ (.cons _ (.cons _ (.cons _ (.cons _ (.cons _ (.cons _ (.cons_cons _ (.cons_cons _ (.cons _ (.cons _ (.cons _ (.cons _ (.cons _ (.cons _ (List.nil_sublist _))))))))))))))))) ?_
      refine dq 4 rfl (by kernel_rfl) (by kernel_rfl) (by kernel_rfl) rfl rfl (fun w hS => mv rfl rfl rfl ⟨rfl, rfl⟩) (hS.sublist (.cons _ (.cons _ (.cons _ (.cons _ (.cons _ (.cons _ (.cons _ (.cons_cons _ (.cons_cons _ (.cons _ (.cons _ (.cons _ (.cons _ (.cons _ (.cons _ (List.nil_sublist _))))))))))))))))) ?_
      refine dq 5 rfl (by kernel_rfl) (by kernel_rfl) (by kernel_rfl) rfl rfl (fun w hS => mv rfl rfl rfl ⟨rfl, rfl⟩) (hS.sublist (.cons _ (.cons _ (.cons _ (.cons _ (.cons _ (.cons _ (.cons _ (.cons_cons _ (.cons_cons _ (.cons _ (.cons _ (.cons _ (.cons _ (.cons _ (.cons _ (List.nil_sublist _))))))))))))))))) ?_
      refine dq 7 rfl (by kernel_rfl) (by kernel_rfl) (by kernel_rfl) rfl rfl (fun w hS => lo 0 sc25 hS rfl rfl rfl rfl rfl ⟨rfl, rfl⟩) (hS.sublist (.cons _ (.cons _ (.cons _ (.cons _ (.cons _ (.cons _ (.cons _ (.cons_cons _ (.cons_cons _ (.cons _ (.cons _ (.cons _ (.cons _ (.cons _ (.cons _ (List.nil_sublist _))))))))))))))))) ?_
      refine dq 8 rfl (by kernel_rfl) (by kernel_rfl) (by kernel_rfl) rfl rfl (fun w hS => nilp rfl rfl rfl ⟨rfl, rfl⟩) (hS.sublist (.cons _ (.cons _ (.cons _ (.cons _ (.cons _ (.cons _ (.cons _ (.cons_cons _ (.cons_cons _ (.cons _ (.cons _ (.cons _ (.cons _ (.cons _ (.cons _ (List.nil_sublist _))))))))))))))))) ?_
      refine dq 9 rfl (by kernel_rfl) (by kernel_rfl) (by kernel_rfl) rfl rfl (fun w hS => fan (5) (5) Tryz.underlying90 rfl sz85 (by decide) rfl rfl rfl rfl (by omega) ⟨rfl, rfl⟩) (hS.sublist (.cons _ (.cons _ (.cons _ (.cons _ (.cons _ (.cons _ (.cons _ (.cons_cons _ (.cons_cons _ (.cons _ (.cons _ (.cons _ (.cons _ (.cons _ (.cons _ (List.nil_sublist _))))))))))))))))) ?_
      refine dq 10 rfl (by kernel_rfl) (by kernel_rfl) (by kernel_rfl) rfl rfl (fun w hS => lo 1 sc85 hS rfl rfl rfl rfl rfl ⟨rfl, rfl⟩) (hS.sublist (.cons _ (.cons _ (.cons _ (.cons _ (.cons _ (.cons _ (.cons _ (.cons_cons _ (.cons_cons _ (.cons _ (.cons _ (.cons _ (.cons _ (.cons _ (.cons _ (List.nil_sublist _))))))))))))))))) ?_
      refine dq 11 rfl (by kernel_rfl) (by kernel_rfl) (by kernel_rfl) rfl rfl (fun w hS => mv rfl rfl rfl ⟨rfl, rfl⟩) (hS.sublist (.cons _ (.cons _ (.cons _ (.cons _ (.cons _ (.cons _ (.cons _ (.cons_cons _ (.cons_cons _ (.cons _ (.cons _ (.cons _ (.cons _ (.cons _ (.cons _ (List.nil_sublist _))))))))))))))))) ?_
      refine dq 13 rfl (by kernel_rfl) (by kernel_rfl) (by kernel_rfl) rfl rfl (fun w hS => mv rfl rfl rfl ⟨rfl, rfl⟩) (hS.sublist (.cons _ (.cons _ (.cons _ (.cons _ (.cons _ (.cons _ (.cons _ (.cons_cons _ (.cons_cons _ (.cons _ (.cons _ (.cons _ (.cons _ (.cons _ (.cons _ (List.nil_sublist _))))))))))))))))) ?_
      refine dl2 6 15 rfl rfl (by kernel_rfl) ?_ ?_
      · skip
        refine cv cf37 hS rfl rfl rfl rfl rfl (sp_stamp_Of (x) _) ?_
        intro w hS
        refine ⟨fun _ => (hS.sublist (.cons _ (.cons _ (.cons _ (.cons _ (.cons _ (.cons _ (.cons _ (.cons_cons _ (.cons_cons _ (.cons _ (.cons _ (.cons _ (.cons _ (.cons _ (.cons _ (List.nil_sublist _))))))))))))))))), ?_⟩
        refine dl2 12 15 rfl rfl (by kernel_rfl) ?_ ?_
        · skip
          refine cm cf38 rfl rfl rfl rfl rfl (sp_EchoReply pe m.kp x Z _ hE (St.memT (A := [(b42, .cells (#[.func (.func 78) #[] #[Ptr p33 0, Ptr q33 0], .func (.func 78) #[] #[Ptr p37 0, Ptr q37 0], .func (.func 78) #[] #[Ptr p40 0, Ptr q40 0], .func (.func 32) #[] #[Ptr b3 0]]) 95), (q40, .cells (#[I (12)]) 33), (p40, .cells (#[.bool ((!(decide (m.ad ≠ []))))]) 4), (q37, .cells (#[I (2)]) 33), (p37, .cells (#[.bool ((decide (((n : Nat) : Int) > 1200)))]) 4), (q33, .cells (#[I (7)]) 33), (p33, .cells (#[.bool (m.cz)]) 4), (b3, .cells (#[Ptr s 0]) 25), (s, .cells (#[Ptr pp 0, I (((m.dir : Nat) : Int)), Ptr t 0, Ptr pc 0, Ptr pf 0, Ptr pe 0, U16 (m.rl), I (((m.rc : Nat) : Int)), U32 (m.re), U64 (m.fs), .bool (m.cz)]) E1), (pf, .cells (#[I (((m.ac : Nat) : Int)), I (((m.rf : Nat) : Int)), U64 (m.ls)]) E2), (pc, .cells (#[U64 (m.nx + 1), U64 (m.gv + 1), .bool (false)]) E3), (t, .cells (tableC c m.key) E4), (c, .cells (cipherC m.key) E5), (pp, .cells (#[Str m.ad, .bool (m.fx), I (((m.mv : Nat) : Int)), .map (some pm)]) E6), (pm, mOb encS vI mm)]) (X := Z) (R := []) hS) (St.nodupT (A := [(b42, .cells (#[.func (.func 78) #[] #[Ptr p33 0, Ptr q33 0], .func (.func 78) #[] #[Ptr p37 0, Ptr q37 0], .func (.func 78) #[] #[Ptr p40 0, Ptr q40 0], .func (.func 32) #[] #[Ptr b3 0]]) 95), (q40, .cells (#[I (12)]) 33), (p40, .cells (#[.bool ((!(decide (m.ad ≠ []))))]) 4), (q37, .cells (#[I (2)]) 33), (p37, .cells (#[.bool ((decide (((n : Nat) : Int) > 1200)))]) 4), (q33, .cells (#[I (7)]) 33), (p33, .cells (#[.bool (m.cz)]) 4), (b3, .cells (#[Ptr s 0]) 25), (s, .cells (#[Ptr pp 0, I (((m.dir : Nat) : Int)), Ptr t 0, Ptr pc 0, Ptr pf 0, Ptr pe 0, U16 (m.rl), I (((m.rc : Nat) : Int)), U32 (m.re), U64 (m.fs), .bool (m.cz)]) E1), (pf, .cells (#[I (((m.ac : Nat) : Int)), I (((m.rf : Nat) : Int)), U64 (m.ls)]) E2), (pc, .cells (#[U64 (m.nx + 1), U64 (m.gv + 1), .bool (false)]) E3), (t, .cells (tableC c m.key) E4), (c, .cells (cipherC m.key) E5), (pp, .cells (#[Str m.ad, .bool (m.fx), I (((m.mv : Nat) : Int)), .map (some pm)]) E6), (pm, mOb encS vI mm)]) (X := Z) (R := []) hS)) ?_
          rintro _ Y67 w ⟨rfl, hE1⟩ hS1
          have hS : St w0 G ([(b42, .cells (#[.func (.func 78) #[] #[Ptr p33 0, Ptr q33 0], .func (.func 78) #[] #[Ptr p37 0, Ptr q37 0], .func (.func 78) #[] #[Ptr p40 0, Ptr q40 0], .func (.func 32) #[] #[Ptr b3 0]]) 95), (q40, .cells (#[I (12)]) 33), (p40, .cells (#[.bool ((!(decide (m.ad ≠ []))))]) 4), (q37, .cells (#[I (2)]) 33), (p37, .cells (#[.bool ((decide (((n : Nat) : Int) > 1200)))]) 4), (q33, .cells (#[I (7)]) 33), (p33, .cells (#[.bool (m.cz)]) 4), (b3, .cells (#[Ptr s 0]) 25), (s, .cells (#[Ptr pp 0, I (((m.dir : Nat) : Int)), Ptr t 0, Ptr pc 0, Ptr pf 0, Ptr pe 0, U16 (m.rl), I (((m.rc : Nat) : Int)), U32 (m.re), U64 (m.fs), .bool (m.cz)]) E1), (pf, .cells (#[I (((m.ac : Nat) : Int)), I (((m.rf : Nat) : Int)), U64 (m.ls)]) E2), (pc, .cells (#[U64 (m.nx + 1), U64 (m.gv + 1), .bool (false)]) E3), (t, .cells (tableC c m.key) E4), (c, .cells (cipherC m.key) E5), (pp, .cells (#[Str m.ad, .bool (m.fx), I (((m.mv : Nat) : Int)), .map (some pm)]) E6), (pm, mOb encS vI mm)] ++ (Y67 ++ [])) w := St.callX (A := [(b42, .cells (#[.func (.func 78) #[] #[Ptr p33 0, Ptr q33 0], .func (.func 78) #[] #[Ptr p37 0, Ptr q37 0], .func (.func 78) #[] #[Ptr p40 0, Ptr q40 0], .func (.func 32) #[] #[Ptr b3 0]]) 95), (q40, .cells (#[I (12)]) 33), (p40, .cells (#[.bool ((!(decide (m.ad ≠ []))))]) 4), (q37, .cells (#[I (2)]) 33), (p37, .cells (#[.bool ((decide (((n : Nat) : Int) > 1200)))]) 4), (q33, .cells (#[I (7)]) 33), (p33, .cells (#[.bool (m.cz)]) 4), (b3, .cells (#[Ptr s 0]) 25), (s, .cells (#[Ptr pp 0, I (((m.dir : Nat) : Int)), Ptr t 0, Ptr pc 0, Ptr pf 0, Ptr pe 0, U16 (m.rl), I (((m.rc : Nat) : Int)), U32 (m.re), U64 (m.fs), .bool (m.cz)]) E1), (pf, .cells (#[I (((m.ac : Nat) : Int)), I (((m.rf : Nat) : Int)), U64 (m.ls)]) E2), (pc, .cells (#[U64 (m.nx + 1), U64 (m.gv + 1), .bool (false)]) E3), (t, .cells (tableC c m.key) E4), (c, .cells (cipherC m.key) E5), (pp, .cells (#[Str m.ad, .bool (m.fx), I (((m.mv : Nat) : Int)), .map (some pm)]) E6), (pm, mOb encS vI mm)]) (X := Z) (R := []) hS hS1
          refine ⟨fun _ => (hS.sublist (.cons _ (.cons _ (.cons _ (.cons _ (.cons _ (.cons _ (.cons _ (.cons_cons _ (.cons_cons _ (.cons _ (.cons _ (.cons _ (.cons _ (.cons _ (.cons _ (List.nil_sublist _))))))))))))))))), ?_⟩
          refine dq 14 rfl (by kernel_rfl) (by kernel_rfl) (by kernel_rfl) rfl rfl (fun w hS => bd (cs := #[I (((m.dir : Nat) : Int)), U64 (m.nx), U16 (ofT x), U16 (replyV m.kp x), .slice a n cap]) rfl rfl rfl (by kernel_rfl) ⟨rfl, rfl⟩) (hS.sublist (.cons _ (.cons _ (.cons _ (.cons _ (.cons _ (.cons _ (.cons _ (.cons_cons _ (.cons_cons _ (.cons _ (.cons _ (.cons _ (.cons _ (.cons _ (.cons _ (List.nil_sublist _))))))))))))))))) ?_
          refine dl 15 rfl (by kernel_rfl) ?_
          refine ala zr100 hS rfl rfl ?_
          intro b15 w hb15 hS
          refine ⟨fun _ => (hS.sublist (.cons _ (.cons _ (.cons _ (.cons _ (.cons _ (.cons _ (.cons _ (.cons _ (.cons_cons _ (.cons_cons _ (.cons _ (.cons _ (.cons _ (.cons _ (.cons _ (.cons _ (List.nil_sublist _)))))))))))))))))), ?_⟩
          refine dl 16 rfl (by kernel_rfl) ?_
          refine sa 0 ag100 hS rfl rfl rfl (by kernel_rfl) rfl rfl rfl ?_
          intro w hS
          refine ⟨fun h => (by cases h), ?_⟩
          refine de (by kernel_rfl) ?_
          exact mmq ⟨Y67, b15, hE1, rfl, hS⟩ ⟨rfl, rfl, rfl, rfl, rfl, rfl, trivial⟩
        · skip
          refine ala zr100 hS rfl rfl ?_
          intro b15 w hb15 hS
          refine ⟨fun _ => (hS.sublist (.cons _ (.cons _ (.cons _ (.cons _ (.cons _ (.cons _ (.cons _ (.cons _ (.cons_cons _ (.cons_cons _ (.cons _ (.cons _ (.cons _ (.cons _ (.cons _ (.cons _ (List.nil_sublist _)))))))))))))))))), ?_⟩
          refine dl 12 rfl (by kernel_rfl) ?_
          refine cm cf38 rfl rfl rfl rfl rfl (sp_EchoReply pe m.kp x Z _ hE (St.memT (A := [(b15, .cells (#[I (0), U64 (0), U16 (0), U16 (0), (.slice none 0 0)]) 100), (b42, .cells (#[.func (.func 78) #[] #[Ptr p33 0, Ptr q33 0], .func (.func 78) #[] #[Ptr p37 0, Ptr q37 0], .func (.func 78) #[] #[Ptr p40 0, Ptr q40 0], .func (.func 32) #[] #[Ptr b3 0]]) 95), (q40, .cells (#[I (12)]) 33), (p40, .cells (#[.bool ((!(decide (m.ad ≠ []))))]) 4), (q37, .cells (#[I (2)]) 33), (p37, .cells (#[.bool ((decide (((n : Nat) : Int) > 1200)))]) 4), (q33, .cells (#[I (7)]) 33), (p33, .cells (#[.bool (m.cz)]) 4), (b3, .cells (#[Ptr s 0]) 25), (s, .cells (#[Ptr pp 0, I (((m.dir : Nat) : Int)), Ptr t 0, Ptr pc 0, Ptr pf 0, Ptr pe 0, U16 (m.rl), I (((m.rc : Nat) : Int)), U32 (m.re), U64 (m.fs), .bool (m.cz)]) E1), (pf, .cells (#[I (((m.ac : Nat) : Int)), I (((m.rf : Nat) : Int)), U64 (m.ls)]) E2), (pc, .cells (#[U64 (m.nx + 1), U64 (m.gv + 1), .bool (false)]) E3), (t, .cells (tableC c m.key) E4), (c, .cells (cipherC m.key) E5), (pp, .cells (#[Str m.ad, .bool (m.fx), I (((m.mv : Nat) : Int)), .map (some pm)]) E6), (pm, mOb encS vI mm)]) (X := Z) (R := []) hS) (St.nodupT (A := [(b15, .cells (#[I (0), U64 (0), U16 (0), U16 (0), (.slice none 0 0)]) 100), (b42, .cells (#[.func (.func 78) #[] #[Ptr p33 0, Ptr q33 0], .func (.func 78) #[] #[Ptr p37 0, Ptr q37 0], .func (.func 78) #[] #[Ptr p40 0, Ptr q40 0], .func (.func 32) #[] #[Ptr b3 0]]) 95), (q40, .cells (#[I (12)]) 33), (p40, .cells (#[.bool ((!(decide (m.ad ≠ []))))]) 4), (q37, .cells (#[I (2)]) 33), (p37, .cells (#[.bool ((decide (((n : Nat) : Int) > 1200)))]) 4), (q33, .cells (#[I (7)]) 33), (p33, .cells (#[.bool (m.cz)]) 4), (b3, .cells (#[Ptr s 0]) 25), (s, .cells (#[Ptr pp 0, I (((m.dir : Nat) : Int)), Ptr t 0, Ptr pc 0, Ptr pf 0, Ptr pe 0, U16 (m.rl), I (((m.rc : Nat) : Int)), U32 (m.re), U64 (m.fs), .bool (m.cz)]) E1), (pf, .cells (#[I (((m.ac : Nat) : Int)), I (((m.rf : Nat) : Int)), U64 (m.ls)]) E2), (pc, .cells (#[U64 (m.nx + 1), U64 (m.gv + 1), .bool (false)]) E3), (t, .cells (tableC c m.key) E4), (c, .cells (cipherC m.key) E5), (pp, .cells (#[Str m.ad, .bool (m.fx), I (((m.mv : Nat) : Int)), .map (some pm)]) E6), (pm, mOb encS vI mm)]) (X := Z) (R := []) hS)) ?_
          rintro _ Y67 w ⟨rfl, hE1⟩ hS1
          have hS : St w0 G ([(b15, .cells (#[I (0), U64 (0), U16 (0), U16 (0), (.slice none 0 0)]) 100), (b42, .cells (#[.func (.func 78) #[] #[Ptr p33 0, Ptr q33 0], .func (.func 78) #[] #[Ptr p37 0, Ptr q37 0], .func (.func 78) #[] #[Ptr p40 0, Ptr q40 0], .func (.func 32) #[] #[Ptr b3 0]]) 95), (q40, .cells (#[I (12)]) 33), (p40, .cells (#[.bool ((!(decide (m.ad ≠ []))))]) 4), (q37, .cells (#[I (2)]) 33), (p37, .cells (#[.bool ((decide (((n : Nat) : Int) > 1200)))]) 4), (q33, .cells (#[I (7)]) 33), (p33, .cells (#[.bool (m.cz)]) 4), (b3, .cells (#[Ptr s 0]) 25), (s, .cells (#[Ptr pp 0, I (((m.dir : Nat) : Int)), Ptr t 0, Ptr pc 0, Ptr pf 0, Ptr pe 0, U16 (m.rl), I (((m.rc : Nat) : Int)), U32 (m.re), U64 (m.fs), .bool (m.cz)]) E1), (pf, .cells (#[I (((m.ac : Nat) : Int)), I (((m.rf : Nat) : Int)), U64 (m.ls)]) E2), (pc, .cells (#[U64 (m.nx + 1), U64 (m.gv + 1), .bool (false)]) E3), (t, .cells (tableC c m.key) E4), (c, .cells (cipherC m.key) E5), (pp, .cells (#[Str m.ad, .bool (m.fx), I (((m.mv : Nat) : Int)), .map (some pm)]) E6), (pm, mOb encS vI mm)] ++ (Y67 ++ [])) w := St.callX (A := [(b15, .cells (#[I (0), U64 (0), U16 (0), U16 (0), (.slice none 0 0)]) 100), (b42, .cells (#[.func (.func 78) #[] #[Ptr p33 0, Ptr q33 0], .func (.func 78) #[] #[Ptr p37 0, Ptr q37 0], .func (.func 78) #[] #[Ptr p40 0, Ptr q40 0], .func (.func 32) #[] #[Ptr b3 0]]) 95), (q40, .cells (#[I (12)]) 33), (p40, .cells (#[.bool ((!(decide (m.ad ≠ []))))]) 4), (q37, .cells (#[I (2)]) 33), (p37, .cells (#[.bool ((decide (((n : Nat) : Int) > 1200)))]) 4), (q33, .cells (#[I (7)]) 33), (p33, .cells (#[.bool (m.cz)]) 4), (b3, .cells (#[Ptr s 0]) 25), (s, .cells (#[Ptr pp 0, I (((m.dir : Nat) : Int)), Ptr t 0, Ptr pc 0, Ptr pf 0, Ptr pe 0, U16 (m.rl), I (((m.rc : Nat) : Int)), U32 (m.re), U64 (m.fs), .bool (m.cz)]) E1), (pf, .cells (#[I (((m.ac : Nat) : Int)), I (((m.rf : Nat) : Int)), U64 (m.ls)]) E2), (pc, .cells (#[U64 (m.nx + 1), U64 (m.gv + 1), .bool (false)]) E3), (t, .cells (tableC c m.key) E4), (c, .cells (cipherC m.key) E5), (pp, .cells (#[Str m.ad, .bool (m.fx), I (((m.mv : Nat) : Int)), .map (some pm)]) E6), (pm, mOb encS vI mm)]) (X := Z) (R := []) hS hS1
          refine ⟨fun _ => (hS.sublist (.cons _ (.cons _ (.cons _ (.cons _ (.cons _ (.cons _ (.cons _ (.cons _ (.cons_cons _ (.cons_cons _ (.cons _ (.cons _ (.cons _ (.cons _ (.cons _ (.cons _ (List.nil_sublist _)))))))))))))))))), ?_⟩
          refine dq 14 rfl (by kernel_rfl) (by kernel_rfl) (by kernel_rfl) rfl rfl (fun w hS => bd (cs := #[I (((m.dir : Nat) : Int)), U64 (m.nx), U16 (ofT x), U16 (replyV m.kp x), .slice a n cap]) rfl rfl rfl (by kernel_rfl) ⟨rfl, rfl⟩) (hS.sublist (.cons _ (.cons _ (.cons _ (.cons _ (.cons _ (.cons _ (.cons _ (.cons _ (.cons_cons _ (.cons_cons _ (.cons _ (.cons _ (.cons _ (.cons _ (.cons _ (.cons _ (List.nil_sublist _)))))))))))))))))) ?_
          refine dl 16 rfl (by kernel_rfl) ?_
          refine sa 0 ag100 hS rfl rfl rfl (by kernel_rfl) rfl rfl rfl ?_
          intro w hS
          refine ⟨fun h => (by cases h), ?_⟩
          refine de (by kernel_rfl) ?_
          exact mmq ⟨Y67, b15, hE1, rfl, hS⟩ ⟨rfl, rfl, rfl, rfl, rfl, rfl, trivial⟩
      · skip
        refine ala zr100 hS rfl rfl ?_
        intro b15 w hb15 hS
        refine ⟨fun _ => (hS.sublist (.cons _ (.cons _ (.cons _ (.cons _ (.cons _ (.cons _ (.cons _ (.cons _ (.cons_cons _ (.cons_cons _ (.cons _ (.cons _ (.cons _ (.cons _ (.cons _ (.cons _ (List.nil_sublist _)))))))))))))))))), ?_⟩
        refine dl 6 rfl (by kernel_rfl) ?_
        refine cv cf37 hS rfl rfl rfl rfl rfl (sp_stamp_Of (x) _) ?_
        intro w hS
        refine ⟨fun _ => (hS.sublist (.cons _ (.cons _ (.cons _ (.cons _ (.cons _ (.cons _ (.cons _ (.cons _ (.cons_cons _ (.cons_cons _ (.cons _ (.cons _ (.cons _ (.cons _ (.cons _ (.cons _ (List.nil_sublist _)))))))))))))))))), ?_⟩
        refine dl 12 rfl (by kernel_rfl) ?_
        refine cm cf38 rfl rfl rfl rfl rfl (sp_EchoReply pe m.kp x Z _ hE (St.memT (A := [(b15, .cells (#[I (0), U64 (0), U16 (0), U16 (0), (.slice none 0 0)]) 100), (b42, .cells (#[.func (.func 78) #[] #[Ptr p33 0, Ptr q33 0], .func (.func 78) #[] #[Ptr p37 0, Ptr q37 0], .func (.func 78) #[] #[Ptr p40 0, Ptr q40 0], .func (.func 32) #[] #[Ptr b3 0]]) 95), (q40, .cells (#[I (12)]) 33), (p40, .cells (#[.bool ((!(decide (m.ad ≠ []))))]) 4), (q37, .cells (#[I (2)]) 33), (p37, .cells (#[.bool ((decide (((n : Nat) : Int) > 1200)))]) 4), (q33, .cells (#[I (7)]) 33), (p33, .cells (#[.bool (m.cz)]) 4), (b3, .cells (#[Ptr s 0]) 25), (s, .cells (#[Ptr pp 0, I (((m.dir : Nat) : Int)), Ptr t 0, Ptr pc 0, Ptr pf 0, Ptr pe 0, U16 (m.rl), I (((m.rc : Nat) : Int)), U32 (m.re), U64 (m.fs), .bool (m.cz)]) E1), (pf, .cells (#[I (((m.ac : Nat) : Int)), I (((m.rf : Nat) : Int)), U64 (m.ls)]) E2), (pc, .cells (#[U64 (m.nx + 1), U64 (m.gv + 1), .bool (false)]) E3), (t, .cells (tableC c m.key) E4), (c, .cells (cipherC m.key) E5), (pp, .cells (#[Str m.ad, .bool (m.fx), I (((m.mv : Nat) : Int)), .map (some pm)]) E6), (pm, mOb encS vI mm)]) (X := Z) (R := []) hS) (St.nodupT (A := [(b15, .cells (#[I (0), U64 (0), U16 (0), U16 (0), (.slice none 0 0)]) 100), (b42, .cells (#[.func (.func 78) #[] #[Ptr p33 0, Ptr q33 0], .func (.func 78) #[] #[Ptr p37 0, Ptr q37 0], .func (.func 78) #[] #[Ptr p40 0, Ptr q40 0], .func (.func 32) #[] #[Ptr b3 0]]) 95), (q40, .cells (#[I (12)]) 33), (p40, .cells (#[.bool ((!(decide (m.ad ≠ []))))]) 4), (q37, .cells (#[I (2)]) 33), (p37, .cells (#[.bool ((decide (((n : Nat) : Int) > 1200)))]) 4), (q33, .cells (#[I (7)]) 33), (p33, .cells (#[.bool (m.cz)]) 4), (b3, .cells (#[Ptr s 0]) 25), (s, .cells (#[Ptr pp 0, I (((m.dir : Nat) : Int)), Ptr t 0, Ptr pc 0, Ptr pf 0, Ptr pe 0, U16 (m.rl), I (((m.rc : Nat) : Int)), U32 (m.re), U64 (m.fs), .bool (m.cz)]) E1), (pf, .cells (#[I (((m.ac : Nat) : Int)), I (((m.rf : Nat) : Int)), U64 (m.ls)]) E2), (pc, .cells (#[U64 (m.nx + 1), U64 (m.gv + 1), .bool (false)]) E3), (t, .cells (tableC c m.key) E4), (c, .cells (cipherC m.key) E5), (pp, .cells (#[Str m.ad, .bool (m.fx), I (((m.mv : Nat) : Int)), .map (some pm)]) E6), (pm, mOb encS vI mm)]) (X := Z) (R := []) hS)) ?_
        rintro _ Y67 w ⟨rfl, hE1⟩ hS1
        have hS : St w0 G ([(b15, .cells (#[I (0), U64 (0), U16 (0), U16 (0), (.slice none 0 0)]) 100), (b42, .cells (#[.func (.func 78) #[] #[Ptr p33 0, Ptr q33 0], .func (.func 78) #[] #[Ptr p37 0, Ptr q37 0], .func (.func 78) #[] #[Ptr p40 0, Ptr q40 0], .func (.func 32) #[] #[Ptr b3 0]]) 95), (q40, .cells (#[I (12)]) 33), (p40, .cells (#[.bool ((!(decide (m.ad ≠ []))))]) 4), (q37, .cells (#[I (2)]) 33), (p37, .cells (#[.bool ((decide (((n : Nat) : Int) > 1200)))]) 4), (q33, .cells (#[I (7)]) 33), (p33, .cells (#[.bool (m.cz)]) 4), (b3, .cells (#[Ptr s 0]) 25), (s, .cells (#[Ptr pp 0, I (((m.dir : Nat) : Int)), Ptr t 0, Ptr pc 0, Ptr pf 0, Ptr pe 0, U16 (m.rl), I (((m.rc : Nat) : Int)), U32 (m.re), U64 (m.fs), .bool (m.cz)]) E1), (pf, .cells (#[I (((m.ac : Nat) : Int)), I (((m.rf : Nat) : Int)), U64 (m.ls)]) E2), (pc, .cells (#[U64 (m.nx + 1), U64 (m.gv + 1), .bool (false)]) E3), (t, .cells (tableC c m.key) E4), (c, .cells (cipherC m.key) E5), (pp, .cells (#[Str m.ad, .bool (m.fx), I (((m.mv : Nat) : Int)), .map (some pm)]) E6), (pm, mOb encS vI mm)] ++ (Y67 ++ [])) w := St.callX (A := [(b15, .cells (#[I (0), U64 (0), U16 (0), U16 (0), (.slice none 0 0)]) 100), (b42, .cells (#[.func (.func 78) #[] #[Ptr p33 0, Ptr q33 0], .func (.func 78) #[] #[Ptr p37 0, Ptr q37 0], .func (.func 78) #[] #[Ptr p40 0, Ptr q40 0], .func (.func 32) #[] #[Ptr b3 0]]) 95), (q40, .cells (#[I (12)]) 33), (p40, .cells (#[.bool ((!(decide (m.ad ≠ []))))]) 4), (q37, .cells (#[I (2)]) 33), (p37, .cells (#[.bool ((decide (((n : Nat) : Int) > 1200)))]) 4), (q33, .cells (#[I (7)]) 33), (p33, .cells (#[.bool (m.cz)]) 4), (b3, .cells (#[Ptr s 0]) 25), (s, .cells (#[Ptr pp 0, I (((m.dir : Nat) : Int)), Ptr t 0, Ptr pc 0, Ptr pf 0, Ptr pe 0, U16 (m.rl), I (((m.rc : Nat) : Int)), U32 (m.re), U64 (m.fs), .bool (m.cz)]) E1), (pf, .cells (#[I (((m.ac : Nat) : Int)), I (((m.rf : Nat) : Int)), U64 (m.ls)]) E2), (pc, .cells (#[U64 (m.nx + 1), U64 (m.gv + 1), .bool (false)]) E3), (t, .cells (tableC c m.key) E4), (c, .cells (cipherC m.key) E5), (pp, .cells (#[Str m.ad, .bool (m.fx), I (((m.mv : Nat) : Int)), .map (some pm)]) E6), (pm, mOb encS vI mm)]) (X := Z) (R := []) hS hS1
        refine ⟨fun _ => (hS.sublist (.cons _ (.cons _ (.cons _ (.cons _ (.cons _ (.cons _ (.cons _ (.cons _ (.cons_cons _ (.cons_cons _ (.cons _ (.cons _ (.cons _ (.cons _ (.cons _ (.cons _ (List.nil_sublist _)))))))))))))))))), ?_⟩
        refine dq 14 rfl (by kernel_rfl) (by kernel_rfl) (by kernel_rfl) rfl rfl (fun w hS => bd (cs := #[I (((m.dir : Nat) : Int)), U64 (m.nx), U16 (ofT x), U16 (replyV m.kp x), .slice a n cap]) rfl rfl rfl (by kernel_rfl) ⟨rfl, rfl⟩) (hS.sublist (.cons _ (.cons _ (.cons _ (.cons _ (.cons _ (.cons _ (.cons _ (.cons _ (.cons_cons _ (.cons_cons _ (.cons _ (.cons _ (.cons _ (.cons _ (.cons _ (.cons _ (List.nil_sublist _)))))))))))))))))) ?_
        refine dl 16 rfl (by kernel_rfl) ?_
        refine sa 0 ag100 hS rfl rfl rfl (by kernel_rfl) rfl rfl rfl ?_
        intro w hS
        refine ⟨fun h => (by cases h), ?_⟩
        refine de (by kernel_rfl) ?_
        exact mmq ⟨Y67, b15, hE1, rfl, hS⟩ ⟨rfl, rfl, rfl, rfl, rfl, rfl, trivial⟩
    · rintro _ w ⟨Y67, b15, hE1, rfl, hS⟩
      refine rd mo 10 (fun w => St w0 G [(b15, .cells (#[I (((m.dir : Nat) : Int)), U64 (m.nx), U16 (ofT x), U16 (replyV m.kp x), .slice a n cap]) 100), (b3, .cells (#[Ptr s 0]) 25), (s, .cells (#[Ptr pp 0, I (((m.dir : Nat) : Int)), Ptr t 0, Ptr pc 0, Ptr pf 0, Ptr pe 0, U16 (m.rl), I (((m.rc : Nat) : Int)), U32 (m.re), U64 (m.fs), .bool (m.cz)]) E1)] w) ?_
      have hS := hS.drew
      refine dq 0 rfl (by kernel_rfl) (by kernel_rfl) (by kernel_rfl) rfl rfl (fun w hS => lo 1 sc25 hS rfl rfl rfl rfl rfl ⟨rfl, rfl⟩) (hS.sublist (.cons_cons _ (.cons _ (.cons _ (.cons _ (.cons _ (.cons _ (.cons _ (.cons _ (.cons_cons _ (.cons_cons _ (.cons _ (.cons _ (.cons _ (.cons _ (.cons _ (.cons _ (List.nil_sublist _)))))))))))))))))) ?_
      refine dq 1 rfl (by kernel_rfl) (by kernel_rfl) (by kernel_rfl) rfl rfl (fun w hS => nilp rfl rfl rfl ⟨rfl, rfl⟩) (hS.sublist (.cons_cons _ (.cons _ (.cons _ (.cons _ (.cons _ (.cons _ (.cons _ (.cons _ (.cons_cons _ (.cons_cons _ (.cons _ (.cons _ (.cons _ (.cons _ (.cons _ (.cons _ (List.nil_sublist _)))))))))))))))))) ?_
      refine dq 2 rfl (by kernel_rfl) (by kernel_rfl) (by kernel_rfl) rfl rfl (fun w hS => fan (2) (2) Tryz.underlying90 rfl sz77 (by decide) rfl rfl rfl rfl (by omega) ⟨rfl, rfl⟩) (hS.sublist (.cons_cons _ (.cons _ (.cons _ (.cons _ (.cons _ (.cons _ (.cons _ (.cons _ (.cons_cons _ (.cons_cons _ (.cons _ (.cons _ (.cons _ (.cons _ (.cons _ (.cons _ (List.nil_sublist _)))))))))))))))))) ?_
      refine dq 3 rfl (by kernel_rfl) (by kernel_rfl) (by kernel_rfl) rfl rfl (fun w hS => lo 2 sc77 hS rfl rfl rfl rfl rfl ⟨rfl, rfl⟩) (hS.sublist (.cons_cons _ (.cons _ (.cons _ (.cons _ (.cons _ (.cons _ (.cons _ (.cons _ (.cons_cons _ (.cons_cons _ (.cons _ (.cons _ (.cons _ (.cons _ (.cons _ (.cons _ (List.nil_sublist _)))))))))))))))))) ?_
      refine dq 4 rfl (by kernel_rfl) (by kernel_rfl) (by kernel_rfl) rfl rfl (fun w hS => la 0 ag100 hS rfl rfl rfl rfl rfl ⟨rfl, rfl⟩) (hS.sublist (.cons_cons _ (.cons _ (.cons _ (.cons _ (.cons _ (.cons _ (.cons _ (.cons _ (.cons_cons _ (.cons_cons _ (.cons _ (.cons _ (.cons _ (.cons _ (.cons _ (.cons _ (List.nil_sublist _)))))))))))))))))) ?_
      refine dl 5 rfl (by kernel_rfl) ?_
      refine cs cf39 hS rfl rfl rfl rfl rfl (sp_packet_Encode (t) (c) (m.key) (((m.dir : Nat) : Int)) (m.nx) ((ofT x)) ((replyV m.kp x)) (a) (n) (cap) (bs) _ (⟨⟨_, hS.get 12 rfl⟩, _, hS.get 13 rfl⟩) (by first | rfl | omega | (simp; omega) | (simp; done)) (by omega) (hc _ _ hS) (by omega) (hG _ _ hS)) ?_
      rintro _ X76 w ⟨a76, n76, c76, rfl, hO76⟩ hS
      have hS := St.tailin (X := X76) hS [(b15, .cells (#[I (((m.dir : Nat) : Int)), U64 (m.nx), U16 (ofT x), U16 (replyV m.kp x), .slice a n cap]) 100), (b42, .cells (#[.func (.func 78) #[] #[Ptr p33 0, Ptr q33 0], .func (.func 78) #[] #[Ptr p37 0, Ptr q37 0], .func (.func 78) #[] #[Ptr p40 0, Ptr q40 0], .func (.func 32) #[] #[Ptr b3 0]]) 95), (q40, .cells (#[I (12)]) 33), (p40, .cells (#[.bool ((!(decide (m.ad ≠ []))))]) 4), (q37, .cells (#[I (2)]) 33), (p37, .cells (#[.bool ((decide (((n : Nat) : Int) > 1200)))]) 4), (q33, .cells (#[I (7)]) 33), (p33, .cells (#[.bool (m.cz)]) 4), (b3, .cells (#[Ptr s 0]) 25), (s, .cells (#[Ptr pp 0, I (((m.dir : Nat) : Int)), Ptr t 0, Ptr pc 0, Ptr pf 0, Ptr pe 0, U16 (m.rl), I (((m.rc : Nat) : Int)), U32 (m.re), U64 (m.fs), .bool (m.cz)]) E1), (pf, .cells (#[I (((m.ac : Nat) : Int)), I (((m.rf : Nat) : Int)), U64 (m.ls)]) E2), (pc, .cells (#[U64 (m.nx + 1), U64 (m.gv + 1), .bool (false)]) E3), (t, .cells (tableC c m.key) E4), (c, .cells (cipherC m.key) E5), (pp, .cells (#[Str m.ad, .bool (m.fx), I (((m.mv : Nat) : Int)), .map (some pm)]) E6), (pm, mOb encS vI mm)] (Y67 ++ []) rfl
      refine ⟨fun _ => (hS.sublist (.cons_cons _ (.cons _ (.cons _ (.cons _ (.cons _ (.cons _ (.cons _ (.cons _ (.cons_cons _ (.cons_cons _ (.cons _ (.cons _ (.cons _ (.cons _ (.cons _ (.cons _ (List.nil_sublist _)))))))))))))))))), ?_⟩
      refine dq 6 rfl (by kernel_rfl) (by kernel_rfl) (by kernel_rfl) rfl rfl (fun w hS => mv rfl rfl rfl ⟨rfl, rfl⟩) (hS.sublist (.cons_cons _ (.cons _ (.cons _ (.cons _ (.cons _ (.cons _ (.cons _ (.cons _ (.cons_cons _ (.cons_cons _ (.cons _ (.cons _ (.cons _ (.cons _ (.cons _ (.cons _ (List.nil_sublist _)))))))))))))))))) ?_
      refine dq 7 rfl (by kernel_rfl) (by kernel_rfl) (by kernel_rfl) rfl rfl (fun w hS => ext rfl rfl rfl rfl ⟨rfl, rfl⟩) (hS.sublist (.cons_cons _ (.cons _ (.cons _ (.cons _ (.cons _ (.cons _ (.cons _ (.cons _ (.cons_cons _ (.cons_cons _ (.cons _ (.cons _ (.cons _ (.cons _ (.cons _ (.cons _ (List.nil_sublist _)))))))))))))))))) ?_
      refine dq 8 rfl (by kernel_rfl) (by kernel_rfl) (by kernel_rfl) rfl rfl (fun w hS => ext rfl rfl rfl rfl ⟨rfl, rfl⟩) (hS.sublist (.cons_cons _ (.cons _ (.cons _ (.cons _ (.cons _ (.cons _ (.cons _ (.cons _ (.cons_cons _ (.cons_cons _ (.cons _ (.cons _ (.cons _ (.cons _ (.cons _ (.cons _ (List.nil_sublist _)))))))))))))))))) ?_
      refine dq 9 rfl (by kernel_rfl) (by kernel_rfl) (by kernel_rfl) rfl rfl (fun w hS => asg rfl rfl rfl ⟨rfl, rfl⟩) (hS.sublist (.cons_cons _ (.cons _ (.cons _ (.cons _ (.cons _ (.cons _ (.cons _ (.cons _ (.cons_cons _ (.cons_cons _ (.cons _ (.cons _ (.cons _ (.cons _ (.cons _ (.cons _ (List.nil_sublist _)))))))))))))))))) ?_
      refine dl 10 rfl (by kernel_rfl) ?_
      refine asg rfl rfl rfl ?_
      refine ⟨fun h => (by cases h), ?_⟩
      refine de (by kernel_rfl) ?_
      refine wq_then ?_
      refine rg ?_
      refine mv rfl rfl rfl ?_
      refine mv rfl rfl rfl ?_
      refine mv rfl rfl rfl ?_
      refine asg rfl rfl rfl ?_
      refine asg rfl rfl rfl ?_
      refine asg rfl rfl rfl ?_
      refine wq_then ?_
      refine wc_ret ?_
      refine fin3 (v := .slice a76 n76 c76) (u := (Str m.ad)) (x := (errV 33 (chk ((m.dir : Nat) : Int) m.nx n))) rfl rfl rfl rfl ?_
      have eM : sndM m n = { m with nx := m.nx + 1, gv := m.gv + 1, kp := none } := if_pos hE2
      have eA : sndA m n = m.ad := if_pos hE2
      have eB : sndB m bs x = encP m.key (m.dir : Int) m.nx (ofT x) (replyV m.kp x) bs := by rw [sndB, hn, if_pos hE2]
      have hck : chk ((m.dir : Nat) : Int) m.nx n = 0 := chk_ok hd1 h4 hn12
      have hl := hO76.len8
      have hl2 := encP_le (key := m.key) (d := (m.dir : Int)) (s := m.nx) (t := ofT x) (e := replyV m.kp x) (bs := bs) (by omega)
      exact ⟨_, _, rfl, ⟨_, _, _, [(s, .cells (#[Ptr pp 0, I (((m.dir : Nat) : Int)), Ptr t 0, Ptr pc 0, Ptr pf 0, Ptr pe 0, U16 (m.rl), I (((m.rc : Nat) : Int)), U32 (m.re), U64 (m.fs), .bool (m.cz)]) E1), (pf, .cells (#[I (((m.ac : Nat) : Int)), I (((m.rf : Nat) : Int)), U64 (m.ls)]) E2), (pc, .cells (#[U64 (m.nx + 1), U64 (m.gv + 1), .bool (false)]) E3), (t, .cells (tableC c m.key) E4), (c, .cells (cipherC m.key) E5), (pp, .cells (#[Str m.ad, .bool (m.fx), I (((m.mv : Nat) : Int)), .map (some pm)]) E6), (pm, mOb encS vI mm)] ++ Y67, X76, by rw [eA, hck, hE2], by rw [eM]; exact ⟨pp, pm, pc, pf, pe, t, c, _, _, _, _, _, _, _, _, hd1, hE1, rfl⟩, by rw [eB]; exact Gives.own hO76 (by omega), rfl⟩, St.pk (U := [(b15, .cells (#[I (((m.dir : Nat) : Int)), U64 (m.nx), U16 (ofT x), U16 (replyV m.kp x), .slice a n cap]) 100), (b42, .cells (#[.func (.func 78) #[] #[Ptr p33 0, Ptr q33 0], .func (.func 78) #[] #[Ptr p37 0, Ptr q37 0], .func (.func 78) #[] #[Ptr p40 0, Ptr q40 0], .func (.func 32) #[] #[Ptr b3 0]]) 95), (q40, .cells (#[I (12)]) 33), (p40, .cells (#[.bool ((!(decide (m.ad ≠ []))))]) 4), (q37, .cells (#[I (2)]) 33), (p37, .cells (#[.bool ((decide (((n : Nat) : Int) > 1200)))]) 4), (q33, .cells (#[I (7)]) 33), (p33, .cells (#[.bool (m.cz)]) 4), (b3, .cells (#[Ptr s 0]) 25)]) (B := [(s, .cells (#[Ptr pp 0, I (((m.dir : Nat) : Int)), Ptr t 0, Ptr pc 0, Ptr pf 0, Ptr pe 0, U16 (m.rl), I (((m.rc : Nat) : Int)), U32 (m.re), U64 (m.fs), .bool (m.cz)]) E1), (pf, .cells (#[I (((m.ac : Nat) : Int)), I (((m.rf : Nat) : Int)), U64 (m.ls)]) E2), (pc, .cells (#[U64 (m.nx + 1), U64 (m.gv + 1), .bool (false)]) E3), (t, .cells (tableC c m.key) E4), (c, .cells (cipherC m.key) E5), (pp, .cells (#[Str m.ad, .bool (m.fx), I (((m.mv : Nat) : Int)), .map (some pm)]) E6), (pm, mOb encS vI mm)]) (Y := X76) (Z := Y67) (R := []) hS⟩
end Go.Proofs.XS

/- walks -/
namespace Go.Proofs.XS
open Go Go.X Go.Proofs
theorem sp_SndG (s : Nat) (m : SS) (X : List (Nat × Obj)) (a : Option Addr) (n cap : Nat) (bs : List UInt8) (x : UInt64) (w0 : World) (hO : SesO s m X) (hX : ∀ p ∈ X, w0.heap[p.1]? = some p.2) (hnd : (X.map Prod.fst).Nodup) (hn : bs.length = n) (hN : n ≤ 1000000) (hcap : n ≤ cap) (hc : CelX (X.map Prod.fst) w0 a (c8 bs)) (hG : GlX 1 (X.map Prod.fst) w0) : Calls Tryz.prog 10 #[Ptr s 0, .slice a n cap, U64 x] w0 (RetM w0 (X.map Prod.fst) (fun v L' => ∃ a' n' c' X' Y m' e' ad' b', v = .tuple #[.slice a' n' c', Str ad', errV 33 e'] ∧ SesO s m' X' ∧ m' = sndM m n ∧ e' = sndE m n ∧ ad' = sndA m n ∧ b' = sndB m bs x ∧ b'.length = n' ∧ n' ≤ 1000000 ∧ n' ≤ c' ∧ Rd a' b' Y ∧ L' = X' ++ Y)) :=
  (sp_session_Session_Send s m X a n cap bs x w0 hO hX hnd hn hN hcap hc hG).mono fun e w' ⟨v, L, he, ⟨a', n', c', X', Y, hv, hO2, hg, hL⟩, hS⟩ => ⟨v, L, he, ⟨a', n', c', X', Y, _, _, _, _, hv, hO2, rfl, rfl, rfl, rfl, hg.1, hg.2.1, hg.2.2.1, hg.2.2.2, hL⟩, hS⟩
end Go.Proofs.XS

/- walks -/
namespace Go.Proofs.XS
open Go Go.X Go.Proofs
set_option maxRecDepth 100000 in
theorem sp_bits_Number (a : Option Addr) (n cap : Nat) (bs : List UInt8) (w0 : World) (hn : bs.length = n) (hN : n ≤ 1000000) (hc : Cel w0 a (c8 bs)) (hcap : n ≤ cap) : Calls Tryz.prog 92 #[.slice a n cap] w0 (Ret w0 (U64 (number bs))) := by
  refine enter (args := [.slice a n cap]) Tryz.func92 rfl rfl ?_
  refine startw fun w hS => ?_
  refine rg ?_
  refine asg rfl rfl rfl ?_
  refine wq_then ?_
  refine rg ?_
  refine asg rfl rfl rfl ?_
  refine wq_then ?_
  refine wc_seq ?_
  refine rg ?_
  refine mv rfl rfl rfl ?_
  refine mv rfl rfl rfl ?_
  refine lens Tryz.underlying30 rfl rfl rfl ?_
  refine subi (by omega) (by omega) rfl rfl rfl rfl ?_
  refine maxin (n - 8) (by omega) rfl rfl rfl rfl ?_
  refine s_l (n - 8) Tryz.underlying30 sz5 rfl rfl rfl rfl (by omega) (by omega) ?_
  refine lens Tryz.underlying30 rfl rfl rfl ?_
  refine mv rfl rfl rfl ?_
  refine wq_then ?_
  refine wc_block ?_
  refine wc_loop (σ := Nat) (fun k => [(2, U64 (0)), (3, U64 (num ((bs.drop (n - 8)).take k))), (11, .slice (sla a (n - 8) cap) (n - (n - 8)) (cap - (n - 8))), (12, I (((n - (n - 8) : Nat) : Int))), (13, I ((k : Int)))])
    (fun k w => (k ≤ n - (n - 8)) ∧ St w0 [] [] w) (fun k => n - (n - 8) - k) 0 ⟨rfl, rfl, rfl, rfl, rfl, trivial⟩ ⟨by omega, hS⟩ ?_
  rintro k w ⟨hk, hS⟩
  refine rg ?_
  refine lss rfl rfl rfl rfl ?_
  refine wq_then ?_
  refine wc_seq ?_
  refine wc_if rfl (fun hc1 => ?_) (fun hc1 => ?_)
  · skip
    try simp only [SB] at hc1
    refine wc_skip ?_
    refine wq_then ?_
    refine wc_seq ?_
    refine wc_block ?_
    refine rg ?_
    refine slx (k) Tryz.underlying30 sz5 rfl rfl rfl rfl (by omega) (by omega) (((hc.st hS).drop8 (lo := n - 8) (cap := cap) (by first | omega | (simp; omega) | simp)).some8 (j := k) (by first | omega | (simp; done) | (simp; omega))) ?_
    refine ldx sc5 rfl rfl rfl ((hc.st hS).drop8 (lo := n - 8) (cap := cap) (by first | omega | (simp; omega) | simp)) (by first | omega | (simp; done) | (simp; omega)) ?_
    refine asg rfl rfl rfl ?_
    refine wq_then ?_
    refine wc_region ?_
    refine mv rfl rfl rfl ?_
    refine shln64 (8) (by omega) rfl rfl rfl rfl ?_
    refine mv rfl rfl rfl ?_
    refine cvu64 Tryz.underlying24 ⟨_, Tryz.underlying5⟩ rfl rfl rfl ?_
    refine or64 rfl rfl rfl rfl ?_
    refine asg rfl rfl rfl ?_
    refine q_block_norm ?_
    refine wq_then ?_
    refine wc_region ?_
    refine addi (by omega) (by omega) rfl rfl rfl rfl ?_
    refine mv rfl rfl rfl ?_
    refine again_q (k + 1) ⟨rfl, lkU64 rfl (num_take _ _ (by rw [List.length_drop]; omega)), rfl, rfl, lkI rfl (by first | omega | rfl), trivial⟩ ⟨by omega, hS⟩ (by omega)
  · skip
    try simp only [SB] at hc1
    have hk4 : k = (bs.drop (n - 8)).length := by rw [List.length_drop]; omega
    refine wc_exit ?_
    refine q_then_exit ?_
    refine q_then_exit ?_
    refine q_block_hit ?_
    refine wq_then ?_
    refine rg ?_
    refine mv rfl rfl rfl ?_
    refine asg rfl rfl rfl ?_
    refine wq_then ?_
    refine wc_ret ?_
    refine fin1 (v := U64 (num ((bs.drop (n - 8)).take k))) rfl rfl ?_
    refine ⟨?_, hS.drop⟩
    rw [hk4, List.take_length, ← hn]; rfl
end Go.Proofs.XS

/- walks -/
namespace Go.Proofs.XS
open Go Go.X Go.Proofs
set_option maxRecDepth 100000 in
theorem sp_nonce_ParseHead (a : Option Addr) (n cap : Nat) (bs : List UInt8) (w0 : World) (hn : bs.length = n) (hN : n ≤ 1000000) (hc : Cel w0 a (c8 bs)) (hcap : n ≤ cap) (h8 : 8 ≤ n) : Calls Tryz.prog 91 #[.slice a n cap] w0 (Ret w0 (.tuple #[I ((headD bs : Nat) : Int), U64 (headS bs), .bool true])) := by
  refine enter (args := [.slice a n cap]) Tryz.func91 rfl rfl ?_
  refine startw fun w hS => ?_
  have h63 := shr63_lt (number (bs.take 8))
  refine rg ?_
  refine asg rfl rfl rfl ?_
  refine asg rfl rfl rfl ?_
  refine asg rfl rfl rfl ?_
  refine wq_then ?_
  refine wc_seq ?_
  refine rg ?_
  refine mv rfl rfl rfl ?_
  refine lens Tryz.underlying30 rfl rfl rfl ?_
  refine lss rfl rfl rfl rfl ?_
  refine wq_then ?_
  refine wc_if rfl (fun hc1 => ?_) (fun hc1 => ?_)
  · skip
    try simp only [SB] at hc1
    exfalso; omega
  · skip
    try simp only [SB] at hc1
    refine wc_skip ?_
    refine wq_then ?_
    refine rg ?_
    refine mv rfl rfl rfl ?_
    refine s_h (8) Tryz.underlying30 ⟨_, sz5⟩ rfl rfl rfl rfl (by omega) (by omega) ?_
    refine cv cf92 hS rfl rfl rfl rfl rfl (sp_bits_Number (a) (8) (cap) (((bs).take 8)) _ (by first | rfl | omega | (simp; omega) | (simp; done)) (by omega) ((hc.st hS).take8 8) (by omega)) ?_
    intro w hS
    refine asg rfl rfl rfl ?_
    refine wq_then ?_
    refine rg ?_
    refine mv rfl rfl rfl ?_
    refine shrn64 (63) (by omega) rfl rfl rfl rfl ?_
    refine cvi Tryz.underlying3 ⟨_, Tryz.underlying24⟩ (by omega) (by omega) rfl rfl rfl ?_
    refine mv rfl rfl rfl ?_
    refine and64 (q := (9223372036854775807 : UInt64)) rfl rfl rfl rfl ?_
    refine asg rfl rfl rfl ?_
    refine asg rfl rfl rfl ?_
    refine asg rfl rfl rfl ?_
    refine wq_then ?_
    refine wc_ret ?_
    refine fin3 (v := I (((shr64 (number ((bs).take 8)) 63).toNat : Int))) (u := U64 ((number ((bs).take 8)) &&& 9223372036854775807)) (x := .bool (true)) rfl rfl rfl rfl ?_
    exact ⟨rfl, hS.drop⟩
end Go.Proofs.XS

/- walks -/
namespace Go.Proofs.XS
open Go Go.X Go.Proofs
set_option maxRecDepth 100000 in
theorem sp_packet_length (n : Nat) (n_ : Int) (w0 : World) (hn_ : n_ = (n : Int)) : Calls Tryz.prog 89 #[I n_] w0 (Ret w0 (errV 33 (lng n))) := by
  subst hn_
  refine enter (args := [I (n : Int)]) Tryz.func89 rfl rfl ?_
  refine startw fun w hS => ?_
  refine rg ?_
  refine asg rfl rfl rfl ?_
  refine wq_then ?_
  refine wc_seq ?_
  refine wc_block ?_
  refine rg ?_
  refine mv rfl rfl rfl ?_
  refine lss rfl rfl rfl rfl ?_
  refine asg rfl rfl rfl ?_
  refine wq_then ?_
  refine wc_if rfl (fun hc1 => ?_) (fun hc1 => ?_)
  · skip
    try simp only [SB] at hc1
    refine rg ?_
    refine mki cc33 rfl rfl rfl ?_
    refine asg rfl rfl rfl ?_
    refine wq_then ?_
    refine wc_ret ?_
    refine q_block_ret ?_
    refine q_then_ret ?_
    refine fin1 (v := (.iface 33 (I (1)))) rfl rfl ?_
    refine ⟨?_, hS.drop⟩
    have hk : lng n = 1 := by simp only [lng]; (repeat' split) <;> omega
    rw [hk]; rfl
  · skip
    try simp only [SB] at hc1
    refine rg ?_
    refine mv rfl rfl rfl ?_
    refine gtr rfl rfl rfl rfl ?_
    refine asg rfl rfl rfl ?_
    refine wq_then ?_
    refine wc_if rfl (fun hc2 => ?_) (fun hc2 => ?_)
    · skip
      try simp only [SB] at hc2
      refine rg ?_
      refine mki cc33 rfl rfl rfl ?_
      refine asg rfl rfl rfl ?_
      refine wq_then ?_
      refine wc_ret ?_
      refine q_block_ret ?_
      refine q_then_ret ?_
      refine fin1 (v := (.iface 33 (I (2)))) rfl rfl ?_
      refine ⟨?_, hS.drop⟩
      have hk : lng n = 2 := by simp only [lng]; (repeat' split) <;> omega
      rw [hk]; rfl
    · skip
      try simp only [SB] at hc2
      refine wc_skip ?_
      refine q_block_norm ?_
      refine wq_then ?_
      refine rg ?_
      refine asg rfl rfl rfl ?_
      refine wq_then ?_
      refine wc_ret ?_
      refine fin1 (v := .nilIface) rfl rfl ?_
      refine ⟨?_, hS.drop⟩
      have hk : lng n = 0 := by simp only [lng]; (repeat' split) <;> omega
      rw [hk]; rfl
end Go.Proofs.XS

/- walks -/
namespace Go.Proofs.XS
open Go Go.X Go.Proofs
set_option maxRecDepth 100000 in
theorem sp_bits_Xor (a : Option Addr) (n cap : Nat) (bs : List UInt8) (a2 : Option Addr) (n2 cap2 : Nat) (bs2 : List UInt8) (w0 : World) (hn : bs.length = n) (hN : n ≤ 1000000) (hc : Cel w0 a (c8 bs)) (hn2 : bs2.length = n2) (hN2 : n2 ≤ 1000000) (hc2 : Cel w0 a2 (c8 bs2)) : Calls Tryz.prog 152 #[.slice a n cap, .slice a2 n2 cap2] w0 (RetS w0 (fun v L => ∃ b, v = .slice (some ⟨b, 0, none⟩) (min n n2) (min n n2) ∧ L = [(b, .cells (LB (xorb bs bs2)) 5)])) := by
  refine enter (args := [.slice a n cap, .slice a2 n2 cap2]) Tryz.func152 rfl rfl ?_
  refine startw fun w hS => ?_
  refine rg ?_
  refine asg rfl rfl rfl ?_
  refine wq_then ?_
  refine rg ?_
  refine mv rfl rfl rfl ?_
  refine lens Tryz.underlying30 rfl rfl rfl ?_
  refine mv rfl rfl rfl ?_
  refine lens Tryz.underlying30 rfl rfl rfl ?_
  refine minin (min n n2) (by omega) rfl rfl rfl rfl ?_
  refine mks (min n n2) sl30 hS rfl rfl rfl rfl (by omega) (by omega) (by omega) (by omega) (madeLB _) ?_
  intro b12 w hb12 hS
  refine asg rfl rfl rfl ?_
  refine wq_then ?_
  refine wc_seq ?_
  refine rg ?_
  refine mv rfl rfl rfl ?_
  refine lens Tryz.underlying30 rfl rfl rfl ?_
  refine mv rfl rfl rfl ?_
  refine wq_then ?_
  refine wc_block ?_
  refine wc_loop (σ := Nat) (fun k => [(0, .slice a n cap), (1, .slice a2 n2 cap2), (4, (.slice none 0 0)), (5, .slice (some ⟨b12, 0, none⟩) (min n n2) (min n n2)), (14, I (((min n n2 : Nat) : Int))), (15, I ((k : Int)))])
    (fun k w => (k ≤ min n n2) ∧ St w0 [] [(b12, .cells (LB (flL (min n n2) (fun i => gl bs i ^^^ gl bs2 i) k)) 5)] w) (fun k => min n n2 - k) 0 ⟨rfl, rfl, rfl, rfl, rfl, rfl, trivial⟩ ⟨by omega, (by rw [← flL_0]; exact hS)⟩ ?_
  rintro k w ⟨hk, hS⟩
  refine rg ?_
  refine lss rfl rfl rfl rfl ?_
  refine wq_then ?_
  refine wc_seq ?_
  refine wc_if rfl (fun hc1 => ?_) (fun hc1 => ?_)
  · skip
    try simp only [SB] at hc1
    refine wc_skip ?_
    refine wq_then ?_
    refine wc_seq ?_
    refine wc_block ?_
    refine rg ?_
    refine mv rfl rfl rfl ?_
    refine asg rfl rfl rfl ?_
    refine wq_then ?_
    refine wc_draw mo 11 (fun w => St w0 [] [(b12, .cells (LB (flL (min n n2) (fun i => gl bs i ^^^ gl bs2 i) k)) 5)] w) ?_
    have hS := hS.drew
    refine dq 0 rfl (by kernel_rfl) (by kernel_rfl) (by kernel_rfl) rfl rfl (fun w hS => mv rfl rfl rfl ⟨rfl, rfl⟩) hS ?_
    refine dq 1 rfl (by kernel_rfl) (by kernel_rfl) (by kernel_rfl) rfl rfl (fun w hS => mv rfl rfl rfl ⟨rfl, rfl⟩) hS ?_
    refine dq 2 rfl (by kernel_rfl) (by kernel_rfl) (by kernel_rfl) rfl rfl (fun w hS => mv rfl rfl rfl ⟨rfl, rfl⟩) hS ?_
    refine dq 3 rfl (by kernel_rfl) (by kernel_rfl) (by kernel_rfl) rfl rfl (fun w hS => mv rfl rfl rfl ⟨rfl, rfl⟩) hS ?_
    refine dq 4 rfl (by kernel_rfl) (by kernel_rfl) (by kernel_rfl) rfl rfl (fun w hS => slx (k) Tryz.underlying30 sz5 rfl rfl rfl rfl (by omega) (by omega) ((hc.st hS).some8 (j := k) (by first | omega | (simp; done) | (simp; omega))) ⟨rfl, rfl⟩) hS ?_
    refine dq 5 rfl (by kernel_rfl) (by kernel_rfl) (by kernel_rfl) rfl rfl (fun w hS => ldx sc5 rfl rfl rfl (hc.st hS) (by first | omega | (simp; done) | (simp; omega)) ⟨rfl, rfl⟩) hS ?_
    refine dq 6 rfl (by kernel_rfl) (by kernel_rfl) (by kernel_rfl) rfl rfl (fun w hS => mv rfl rfl rfl ⟨rfl, rfl⟩) hS ?_
    refine dq 7 rfl (by kernel_rfl) (by kernel_rfl) (by kernel_rfl) rfl rfl (fun w hS => mv rfl rfl rfl ⟨rfl, rfl⟩) hS ?_
    refine dq 8 rfl (by kernel_rfl) (by kernel_rfl) (by kernel_rfl) rfl rfl (fun w hS => slx (k) Tryz.underlying30 sz5 rfl rfl rfl rfl (by omega) (by omega) ((hc2.st hS).some8 (j := k) (by first | omega | (simp; done) | (simp; omega))) ⟨rfl, rfl⟩) hS ?_
    refine dq 9 rfl (by kernel_rfl) (by kernel_rfl) (by kernel_rfl) rfl rfl (fun w hS => ldx sc5 rfl rfl rfl (hc2.st hS) (by first | omega | (simp; done) | (simp; omega)) ⟨rfl, rfl⟩) hS ?_
    refine dq 10 rfl (by kernel_rfl) (by kernel_rfl) (by kernel_rfl) rfl rfl (fun w hS => xor8 rfl rfl rfl rfl ⟨rfl, rfl⟩) hS ?_
    refine dl 11 rfl (by kernel_rfl) ?_
    refine isn (k) Tryz.underlying30 sz5 rfl rfl rfl rfl (by omega) (by omega) ?_
    refine ⟨fun h => (by cases h), ?_⟩
    refine dl 12 rfl (by kernel_rfl) ?_
    refine st (cs' := LB (flL (min n n2) (fun i => gl bs i ^^^ gl bs2 i) (k + 1))) 0 sz5 hS rfl rfl rfl rfl rfl rfl (by rw [LB_size, flL_len]; omega) (by rw [LB_set]; exact congrArg LB (flL_succ _ _ k)) ?_
    intro w hS
    refine ⟨fun h => (by cases h), ?_⟩
    refine de (by kernel_rfl) ?_
    refine q_block_norm ?_
    refine wq_then ?_
    refine wc_region ?_
    refine addi (by omega) (by omega) rfl rfl rfl rfl ?_
    refine mv rfl rfl rfl ?_
    refine again_q (k + 1) ⟨rfl, rfl, rfl, rfl, rfl, lkI rfl (by first | omega | rfl), trivial⟩ ⟨by omega, hS⟩ (by omega)
  · skip
    try simp only [SB] at hc1
    refine wc_exit ?_
    refine q_then_exit ?_
    refine q_then_exit ?_
    refine q_block_hit ?_
    refine wq_then ?_
    refine rg ?_
    refine mv rfl rfl rfl ?_
    refine asg rfl rfl rfl ?_
    refine wq_then ?_
    refine wc_ret ?_
    refine fin1 (v := .slice (some ⟨b12, 0, none⟩) (min n n2) (min n n2)) rfl rfl ?_
    have hk4 : k = min n n2 := by omega
    refine ⟨_, _, rfl, ⟨b12, rfl, rfl⟩, ?_⟩
    rw [hk4, flL_n] at hS
    simp only [xorb, hn, hn2]; exact hS.sublist (by simp)
end Go.Proofs.XS

/- walks -/
namespace Go.Proofs.XS
open Go Go.X Go.Proofs
set_option maxRecDepth 100000 in
theorem sp_bits_Equal (a : Option Addr) (n cap : Nat) (bs : List UInt8) (a2 : Option Addr) (n2 cap2 : Nat) (bs2 : List UInt8) (w0 : World) (hn : bs.length = n) (hN : n ≤ 1000000) (hc : Cel w0 a (c8 bs)) (hn2 : bs2.length = n2) (hN2 : n2 ≤ 1000000) (hc2 : Cel w0 a2 (c8 bs2)) : Calls Tryz.prog 122 #[.slice a n cap, .slice a2 n2 cap2] w0 (Ret w0 (.bool (eqB bs bs2))) := by
  refine enter (args := [.slice a n cap, .slice a2 n2 cap2]) Tryz.func122 rfl rfl ?_
  refine startw fun w hS => ?_
  have hx := xorb_len bs bs2
  refine rg ?_
  refine asg rfl rfl rfl ?_
  refine wq_then ?_
  refine rg ?_
  refine asg rfl rfl rfl ?_
  refine wq_then ?_
  refine wc_seq ?_
  refine rg ?_
  refine mv rfl rfl rfl ?_
  refine mv rfl rfl rfl ?_
  refine cs cf152 hS rfl rfl rfl rfl rfl (sp_bits_Xor (a) (n) (cap) (bs) (a2) (n2) (cap2) (bs2) _ (by first | rfl | omega | (simp; omega) | (simp; done)) (by omega) (hc.st hS) (by first | rfl | omega | (simp; omega) | (simp; done)) (by omega) (hc2.st hS)) ?_
  rintro _ _ w ⟨q10, rfl, rfl⟩ hS
  refine lens Tryz.underlying30 rfl rfl rfl ?_
  refine mv rfl rfl rfl ?_
  refine wq_then ?_
  refine wc_block ?_
  refine wc_loop (σ := Nat) (fun k => [(0, .slice a n cap), (1, .slice a2 n2 cap2), (4, .bool (false)), (5, U8 (orl ((xorb bs bs2).take k))), (10, .slice (some ⟨q10, 0, none⟩) (min n n2) (min n n2)), (11, I (((min n n2 : Nat) : Int))), (12, I ((k : Int)))])
    (fun k w => (k ≤ min n n2) ∧ St w0 [] [(q10, .cells (LB (xorb bs bs2)) 5)] w) (fun k => min n n2 - k) 0 ⟨rfl, rfl, rfl, rfl, rfl, rfl, rfl, trivial⟩ ⟨by omega, hS⟩ ?_
  rintro k w ⟨hk, hS⟩
  refine rg ?_
  refine lss rfl rfl rfl rfl ?_
  refine wq_then ?_
  refine wc_seq ?_
  refine wc_if rfl (fun hc1 => ?_) (fun hc1 => ?_)
  · skip
    try simp only [SB] at hc1
    refine wc_skip ?_
    refine wq_then ?_
    refine wc_seq ?_
    refine wc_block ?_
    refine rg ?_
    refine isn (k) Tryz.underlying30 sz5 rfl rfl rfl rfl (by omega) (by omega) ?_
    refine lo 0 sc5 hS rfl rfl rfl rfl (LB_get _ k (by first | omega | (simp; done) | (simp; omega))) ?_
    refine asg rfl rfl rfl ?_
    refine wq_then ?_
    refine wc_region ?_
    refine mv rfl rfl rfl ?_
    refine mv rfl rfl rfl ?_
    refine or8 rfl rfl rfl rfl ?_
    refine asg rfl rfl rfl ?_
    refine q_block_norm ?_
    refine wq_then ?_
    refine wc_region ?_
    refine addi (by omega) (by omega) rfl rfl rfl rfl ?_
    refine mv rfl rfl rfl ?_
    refine again_q (k + 1) ⟨rfl, rfl, rfl, lkU8 rfl (orl_take _ _ (by omega)), rfl, rfl, lkI rfl (by first | omega | rfl), trivial⟩ ⟨by omega, hS⟩ (by omega)
  · skip
    try simp only [SB] at hc1
    have hk4 : k = (xorb bs bs2).length := by omega
    have ho : orl ((xorb bs bs2).take k) = orl (xorb bs bs2) := by rw [hk4, List.take_length]
    refine wc_exit ?_
    refine q_then_exit ?_
    refine q_then_exit ?_
    refine q_block_hit ?_
    refine wq_then ?_
    refine rg ?_
    refine mv rfl rfl rfl ?_
    refine eqi rfl rfl rfl rfl ?_
    refine mv rfl rfl rfl ?_
    refine spl 22 rfl (fun hb1 => ?_) (fun hb1 => ?_)
    · skip
      try simp only [SB] at hb1
      have hz : orl (xorb bs bs2) = 0 := by rw [← ho]; exact UInt8.toNat_inj.1 (by have := hb1; simp at this ⊢; omega)
      refine mv rfl rfl rfl ?_
      refine lens Tryz.underlying30 rfl rfl rfl ?_
      refine mv rfl rfl rfl ?_
      refine lens Tryz.underlying30 rfl rfl rfl ?_
      refine eqi rfl rfl rfl rfl ?_
      refine pk_t rfl rfl rfl rfl ?_
      refine asg rfl rfl rfl ?_
      refine wq_then ?_
      refine wc_ret ?_
      refine fin1 (v := .bool ((((n : Nat) : Int) : Int) == ((n2 : Nat) : Int))) rfl rfl ?_
      refine ⟨?_, hS.drop⟩
      simp only [eqB]
      rw [if_pos hz, hn, hn2, beqn]
    · skip
      try simp only [SB] at hb1
      have hz : ¬ orl (xorb bs bs2) = 0 := fun e => by rw [← ho] at e; rw [e] at hb1; exact hb1 rfl
      refine no rfl rfl ?_
      refine no rfl rfl ?_
      refine no rfl rfl ?_
      refine no rfl rfl ?_
      refine no rfl rfl ?_
      refine pk_f rfl rfl rfl rfl ?_
      refine asg rfl rfl rfl ?_
      refine wq_then ?_
      refine wc_ret ?_
      refine fin1 (v := .bool (false)) rfl rfl ?_
      refine ⟨?_, hS.drop⟩
      simp only [eqB]
      rw [if_neg hz]
end Go.Proofs.XS

/- walks -/
namespace Go.Proofs.XS
open Go Go.X Go.Proofs
set_option maxRecDepth 100000 in
theorem sp_fast_Cipher_Decrypt (c E : Nat) (key : V8 16) (b : V8 16) (w0 : World) (hC : w0.heap[c]? = some (.cells (cipherC key) E)) : Calls Tryz.prog 151 #[Ptr c 0, .agg (BV b)] w0 (Ret w0 (.agg (BV (dec key b)))) := by
  refine enter (args := [Ptr c 0, .agg (BV b)]) Tryz.func151 rfl rfl ?_
  refine startw fun w hS => ?_
  refine rg ?_
  refine bxa hS rfl rfl rfl ?_
  intro b3 w hb3 hS
  refine ala zr22 hS rfl rfl ?_
  intro b4 w hb4 hS
  refine wq_then ?_
  refine rg ?_
  refine mv rfl rfl rfl ?_
  refine cv cf105 hS rfl rfl rfl rfl rfl (sp_fast_Cipher_right (c) (_) (_) _ (hS.old hC List.not_mem_nil)) ?_
  intro w hS
  refine asg rfl rfl rfl ?_
  refine wq_then ?_
  refine rd mo 9 (fun w => St w0 [] [(b4, .cells (BV (Vector.replicate 16 0)) 22), (b3, .cells (BV b) 22)] w) ?_
  have hS := hS.drew
  refine dq 0 rfl (by kernel_rfl) (by kernel_rfl) (by kernel_rfl) rfl rfl (fun w hS => la 1 ag22 hS rfl rfl rfl rfl (BV_size _) ⟨rfl, rfl⟩) hS ?_
  refine dq 1 rfl (by kernel_rfl) (by kernel_rfl) (by kernel_rfl) rfl rfl (fun w hS => mv rfl rfl rfl ⟨rfl, rfl⟩) hS ?_
  refine dq 2 rfl (by kernel_rfl) (by kernel_rfl) (by kernel_rfl) rfl rfl (fun w hS => nilp rfl rfl rfl ⟨rfl, rfl⟩) hS ?_
  refine dq 3 rfl (by kernel_rfl) (by kernel_rfl) (by kernel_rfl) rfl rfl (fun w hS => fan (45) (45) Tryz.underlying147 rfl sz145 (by decide) rfl rfl rfl rfl (by omega) ⟨rfl, rfl⟩) hS ?_
  refine dq 4 rfl (by kernel_rfl) (by kernel_rfl) (by kernel_rfl) rfl rfl (fun w hS => mv rfl rfl rfl ⟨rfl, rfl⟩) hS ?_
  refine dq 5 rfl (by kernel_rfl) (by kernel_rfl) (by kernel_rfl) rfl rfl (fun w hS => nilp rfl rfl rfl ⟨rfl, rfl⟩) hS ?_
  refine dq 6 rfl (by kernel_rfl) (by kernel_rfl) (by kernel_rfl) rfl rfl (fun w hS => fan (105) (105) Tryz.underlying147 rfl sz142 (by decide) rfl rfl rfl rfl (by omega) ⟨rfl, rfl⟩) hS ?_
  refine dq 7 rfl (by kernel_rfl) (by kernel_rfl) (by kernel_rfl) rfl rfl (fun w hS => fan (256) (361) Tryz.underlying142 rfl sz140 (by decide) rfl rfl rfl rfl (by omega) ⟨rfl, rfl⟩) hS ?_
  refine dl 8 rfl (by kernel_rfl) ?_
  refine cv cf106 hS rfl rfl rfl rfl rfl (sp_fast_run b c 45 c 361 3 108 _ _ (cipherC key) (cipherC key) (bkK key 11) bckT back _ _ rfl (by omega) (hS.old hC List.not_mem_nil) (hS.old hC List.not_mem_nil) (ci_bk key) (ci_u key) cf108 (fun x w _ => sp_sbox_Back x w)) ?_
  intro w hS
  refine ⟨fun _ => hS, ?_⟩
  refine dl 9 rfl (by kernel_rfl) ?_
  refine sa 0 ag22 hS rfl rfl rfl (BV_one _) rfl (BV_size _) (BV_size _) ?_
  intro w hS
  refine ⟨fun h => (by cases h), ?_⟩
  refine de (by kernel_rfl) ?_
  refine wq_then ?_
  refine wc_ret ?_
  refine fin1 (v := .agg (BV (runf (bkK key 11) bckT 3 back b))) rfl ⟨_, rfl, lv_a ag22 (hS.get 0 rfl) (BV_size _)⟩ ?_
  exact ⟨rfl, hS.drop⟩
end Go.Proofs.XS

/- walks -/
namespace Go.Proofs.XS
open Go Go.X Go.Proofs
set_option maxRecDepth 100000 in
theorem sp_open_Decrypt_1 (a : Option Addr) (n cap : Nat) (bs : List UInt8) (wh ck : V8 16) (ob E cb E2 : Nat) (oa : Option Addr) (on oc : Nat) (xs : List UInt8) (X : List (Nat × Obj)) (w0 : World) (hn : bs.length = n) (hN : on + n ≤ 2000000) (hc : Cel w0 a (c8 bs)) (hb : w0.heap[ob]? = some (.cells #[.slice oa on oc] E)) (hb2 : w0.heap[cb]? = some (.cells (BV ck) E2)) (hO : Own 1 oa on oc (c8 xs) X) (hX : ∀ p ∈ X, w0.heap[p.1]? = some p.2) (hd : (ob :: cb :: X.map Prod.fst).Nodup) : Calls Tryz.prog 150 #[.slice a n cap, .agg (BV wh), Ptr ob 0, Ptr cb 0] w0 fun e w' => ∃ a' c' X', (∃ v, e = .returned v) ∧ Own 1 a' (on + n) c' (c8 (xs ++ bs)) X' ∧ St w0 (ob :: cb :: X.map Prod.fst) ((ob, .cells #[.slice a' (on + n) c'] E) :: (cb, .cells (BV (xorV ck wh)) E2) :: (X' ++ [])) w' := by
  refine enter (args := [.slice a n cap, .agg (BV wh), Ptr ob 0, Ptr cb 0]) Tryz.func150 rfl rfl ?_
  have hS : St w0 (ob :: cb :: X.map Prod.fst) ([(ob, .cells (#[.slice oa on oc]) E), (cb, .cells (BV ck) E2)] ++ (X ++ [])) w0 := by
    have h := St.start w0 ((ob, .cells #[.slice oa on oc] E) :: (cb, .cells (BV ck) E2) :: X) (fun p hp => by rcases List.mem_cons.1 hp with rfl | hp; exact hb; rcases List.mem_cons.1 hp with rfl | hp; exact hb2; exact hX p hp) hd
    simpa using h
  refine rg ?_
  refine bxa hS rfl rfl rfl ?_
  intro b5 w hb5 hS
  refine wq_then ?_
  refine rg ?_
  refine lo 1 sc30 hS rfl rfl rfl rfl rfl ?_
  refine mv rfl rfl rfl ?_
  refine app (A := [(b5, .cells (BV wh) 22), (ob, .cells (#[.slice oa on oc]) E), (cb, .cells (BV ck) E2)]) (R := []) sl30 hO hS rfl rfl rfl rfl (src8 Tryz.underlying30 _ (hc.st (St.same2 (q := (ob, .cells #[.slice oa on oc] E)) (r := (cb, .cells (BV ck) E2)) hS hb hb2 hX)) (by first | rfl | omega | (simp; omega) | (simp; done))) (by omega) (by omega) ?_
  intro a8 cq8 X8 w hO8 hS
  try simp only [c8_app] at hO8
  refine st 1 sz30 hS rfl rfl rfl rfl rfl rfl Nat.zero_lt_one rfl ?_
  intro w hS
  refine wq_then ?_
  refine wc_region ?_
  refine la 2 ag22 hS rfl rfl rfl rfl (BV_size _) ?_
  refine la 0 ag22 hS rfl rfl rfl rfl (BV_size _) ?_
  refine cv cf143 hS rfl rfl rfl rfl rfl (sp_block_Xor (ck) (wh) _) ?_
  intro w hS
  refine sa 2 ag22 hS rfl rfl rfl (BV_one _) rfl (BV_size _) (BV_size _) ?_
  intro w hS
  refine q_norm_ret ?_
  refine fin0 rfl ?_
  exact ⟨_, _, _, ⟨_, rfl⟩, hO8, hS.tl⟩
end Go.Proofs.XS

/- walks -/
namespace Go.Proofs.XS
open Go Go.X Go.Proofs
set_option maxRecDepth 100000 in
set_option maxHeartbeats 1600000 in
theorem sp_open_Decrypt (t c : Nat) (key : V8 16) (nonce : V8 12) (a : Option Addr) (n cap : Nat) (bs : List UInt8) (w0 : World) (hT : TabAt w0 t c key) (hn : bs.length = n) (hN : n ≤ 1000000) (hc : Cel w0 a (c8 bs)) (hcap : n ≤ cap) (hG : Gl 1 w0) : Calls Tryz.prog 121 #[Ptr t 0, .agg (BV nonce), .slice a n cap] w0 (RetS w0 (fun v X => ∃ a' c', v = .tuple #[.slice a' n c', .agg (BV (decC key nonce bs)), .agg (BV (cryO key nonce n))] ∧ Own 1 a' n c' (c8 (decT key nonce bs)) X)) := by
  refine enterM (args := [Ptr t 0, .agg (BV nonce), .slice a n cap]) Tryz.func121 rfl rfl ?_
  refine startw fun w hS => ?_
  obtain ⟨⟨T, hT1⟩, E, hC⟩ := id hT
  refine rg ?_
  refine bx1 hS rfl rfl rfl rfl ?_
  intro b3 w hb3 hS
  refine bxa hS rfl rfl rfl ?_
  intro b4 w hb4 hS
  refine al1 zr30 hS rfl rfl rfl ?_
  intro b6 w hb6 hS
  refine ala zr22 hS rfl rfl ?_
  intro b7 w hb7 hS
  refine ala zr22 hS rfl rfl ?_
  intro b8 w hb8 hS
  refine wq_then ?_
  refine rg ?_
  refine lo 4 sc77 hS rfl rfl rfl rfl rfl ?_
  refine la 3 ag173 hS rfl rfl rfl rfl (BV_size _) ?_
  refine cv cf139 hS rfl rfl rfl rfl rfl (sp_offset_Start (t) (c) (key) (nonce) _ (hT.st hS)) ?_
  intro w hS
  refine sa 0 ag22 hS rfl rfl rfl (BV_one _) rfl (BV_size _) (BV_size _) ?_
  intro w hS
  refine wq_then ?_
  refine rg ?_
  refine mkf rfl rfl rfl ?_
  refine al1 zr241 hS rfl rfl rfl ?_
  intro b9 w hb9 hS
  refine st 0 sz241 hS rfl rfl rfl rfl rfl rfl Nat.zero_lt_one rfl ?_
  intro w hS
  refine wq_then ?_
  refine wc_seq ?_
  refine rg ?_
  refine mv rfl rfl rfl ?_
  refine cs cf141 hS rfl rfl rfl rfl rfl (sp_block_All (a) (n) (cap) _) ?_
  rintro _ _ w ⟨b23, rfl, rfl⟩ hS
  refine wq_then ?_
  refine wc_block ?_
  refine wc_range2 (m := 0) (fun k => I ((k + 1 : Nat) : Int)) (fun k => .agg (BV (blk bs k))) (n / 16) (fun W => W.heap[b23]? = some (.cells #[.slice a n cap] 30) ∧ Cel W a (c8 bs)) (fun k L => ∃ s : Option Addr × Nat × List (Nat × Obj), (Own 1 s.1 (k * 16) s.2.1 (c8 (deT key nonce bs k)) s.2.2) ∧ L = ([(b23, .cells (#[(.slice a n cap)]) 30), (b9, .cells (#[.func (.func 150) #[] #[Ptr b6 0, Ptr b7 0]]) 241), (b8, .cells (BV (crO key nonce k)) 22), (b7, .cells (BV (deC key nonce bs k)) 22), (b6, .cells (#[.slice s.1 (k * 16) s.2.1]) 30), (b4, .cells (BV nonce) 173), (b3, .cells (#[Ptr t 0]) 77)] ++ (s.2.2 ++ []))) rfl cf172 rfl rfl hS ⟨(none, 0, []), Own.nil 1, rfl⟩ ?_ ?_ ?_ ?_
  · exact fun lp J W hJ hY h0 => sp_block_All_1 0 lp b23 _ n cap a bs J hn hN hcap hJ hY W h0
  · exact fun k L' W hL hS => by obtain ⟨s, hinv, rfl⟩ := hL; exact ⟨hS.get 0 rfl, hc.st hS⟩
  · rintro k lp D r _ w hr hp hk ⟨s, hO, rfl⟩ hS
    have hS : St w0 [] ([(lp, .loop r), (D, .deferred (some [])), (b23, .cells (#[(.slice a n cap)]) 30), (b9, .cells (#[.func (.func 150) #[] #[Ptr b6 0, Ptr b7 0]]) 241), (b8, .cells (BV (crO key nonce k)) 22), (b7, .cells (BV (deC key nonce bs k)) 22), (b6, .cells (#[.slice s.1 (k * 16) s.2.1]) 30), (b4, .cells (BV nonce) 173), (b3, .cells (#[Ptr t 0]) 77)] ++ (s.2.2 ++ [])) w := hS
    have hx := toU64_ne (k + 1) (by omega) (by omega)
    refine rgi ?_
    refine wi rfl (asg rfl rfl rfl ?_)
    refine wqi_then ?_
    refine wci_region ?_
    refine wi rfl (ala zr22 hS rfl rfl ?_)
    intro b11 w hb11 hS
    refine wi rfl (sa 0 ag22 hS rfl rfl rfl (BV_one _) rfl (BV_size _) (BV_size _) ?_)
    intro w hS
    refine begin_q 1 hS rfl hr (fun w hS => wk_ci ?_)
    refine wci_block ?_
    refine rgi ?_
    refine wi rfl (lo 9 sc77 hS rfl rfl rfl rfl rfl ?_)
    refine wi rfl (la 5 ag22 hS rfl rfl rfl rfl (BV_size _) ?_)
    refine wi rfl (mv rfl rfl rfl ?_)
    refine wi rfl (cvu64 Tryz.underlying24 ⟨_, Tryz.underlying3⟩ rfl rfl rfl ?_)
    refine wi rfl (cv (v := .agg (BV (crO key nonce (k + 1)))) cf142 hS rfl rfl rfl rfl rfl (sp_offset_Next (t) (c) (key) ((crO key nonce k)) ((toU64 (((k + 1 : Nat) : Int)))) _ (hT.st hS) (by assumption) (hG.st hS)) ?_)
    intro w hS
    refine wi rfl (sa 5 ag22 hS rfl rfl rfl (BV_one _) rfl (BV_size _) (BV_size _) ?_)
    intro w hS
    refine wqi_then ?_
    refine rdi mo (by kernel_rfl) 9 (fun w => St w0 [] ([(b11, .cells (BV (blk bs k)) 22), (lp, .loop { r with state := .busy }), (D, .deferred (some [])), (b23, .cells (#[(.slice a n cap)]) 30), (b9, .cells (#[.func (.func 150) #[] #[Ptr b6 0, Ptr b7 0]]) 241), (b8, .cells (BV (crO key nonce (k + 1))) 22), (b7, .cells (BV (deC key nonce bs k)) 22), (b6, .cells (#[.slice s.1 (k * 16) s.2.1]) 30), (b4, .cells (BV nonce) 173), (b3, .cells (#[Ptr t 0]) 77)] ++ (s.2.2 ++ [])) w) ?_
    have hS := hS.drew
    refine dq 0 rfl (by kernel_rfl) (by kernel_rfl) (by kernel_rfl) rfl rfl (fun w hS => la 5 ag22 hS rfl rfl rfl rfl (BV_size _) ⟨rfl, rfl⟩) hS ?_
    refine dq 1 rfl (by kernel_rfl) (by kernel_rfl) (by kernel_rfl) rfl rfl (fun w hS => lo 9 sc77 hS rfl rfl rfl rfl rfl ⟨rfl, rfl⟩) hS ?_
    refine dq 3 rfl (by kernel_rfl) (by kernel_rfl) (by kernel_rfl) rfl rfl (fun w hS => la 0 ag22 hS rfl rfl rfl rfl (BV_size _) ⟨rfl, rfl⟩) hS ?_
    refine dq 4 rfl (by kernel_rfl) (by kernel_rfl) (by kernel_rfl) rfl rfl (fun w hS => la 5 ag22 hS rfl rfl rfl rfl (BV_size _) ⟨rfl, rfl⟩) hS ?_
    refine dl2 2 8 rfl rfl (by kernel_rfl) ?_ ?_
    · skip
      refine cv cf144 hS rfl rfl rfl rfl rfl (sp_table_Table_Cipher (t) (c) (key) _ (hT.st hS)) ?_
      intro w hS
      refine ⟨fun _ => hS, ?_⟩
      refine dl2 5 8 rfl rfl (by kernel_rfl) ?_ ?_
      · skip
        refine cv cf143 hS rfl rfl rfl rfl rfl (sp_block_Xor ((blk bs k)) ((crO key nonce (k + 1))) _) ?_
        intro w hS
        refine ⟨fun _ => hS, ?_⟩
        refine dl2 6 8 rfl rfl (by kernel_rfl) ?_ ?_
        · skip
          refine cv cf151 hS rfl rfl rfl rfl rfl (sp_fast_Cipher_Decrypt (c) (_) (key) ((xorV (blk bs k) (crO key nonce (k + 1)))) _ (hS.old hC List.not_mem_nil)) ?_
          intro w hS
          refine ⟨fun _ => hS, ?_⟩
          refine dl2 7 8 rfl rfl (by kernel_rfl) ?_ ?_
          · skip
            refine cv (v := .agg (BV (deB key nonce bs k))) cf143 hS rfl rfl rfl rfl rfl (sp_block_Xor ((crO key nonce (k + 1))) ((dec key (xorV (blk bs k) (crO key nonce (k + 1))))) _) ?_
            intro w hS
            refine ⟨fun _ => hS, ?_⟩
            refine dl 8 rfl (by kernel_rfl) ?_
            refine ala zr22 hS rfl rfl ?_
            intro b12 w hb12 hS
            refine ⟨fun _ => hS.tl, ?_⟩
            refine dl 9 rfl (by kernel_rfl) ?_
            refine sa 0 ag22 hS rfl rfl rfl (BV_one _) rfl (BV_size _) (BV_size _) ?_
            intro w hS
            refine ⟨fun h => (by cases h), ?_⟩
            refine de (by kernel_rfl) ?_
            refine wqi_then ?_
            refine wci_draw mo (by kernel_rfl) 3 (fun w => St w0 [] ([(b12, .cells (BV (deB key nonce bs k)) 22), (b11, .cells (BV (blk bs k)) 22), (lp, .loop { r with state := .busy }), (D, .deferred (some [])), (b23, .cells (#[(.slice a n cap)]) 30), (b9, .cells (#[.func (.func 150) #[] #[Ptr b6 0, Ptr b7 0]]) 241), (b8, .cells (BV (crO key nonce (k + 1))) 22), (b7, .cells (BV (deC key nonce bs k)) 22), (b6, .cells (#[.slice s.1 (k * 16) s.2.1]) 30), (b4, .cells (BV nonce) 173), (b3, .cells (#[Ptr t 0]) 77)] ++ (s.2.2 ++ [])) w) ?_
            have hS := hS.drew
            refine dq 0 rfl (by kernel_rfl) (by kernel_rfl) (by kernel_rfl) rfl rfl (fun w hS => lo 5 sc241 hS rfl rfl rfl rfl rfl ⟨rfl, rfl⟩) hS ?_
            refine dq 1 rfl (by kernel_rfl) (by kernel_rfl) (by kernel_rfl) rfl rfl (fun w hS => a_all Tryz.underlying22 ⟨_, sz5⟩ rfl rfl rfl ⟨rfl, rfl⟩) hS ?_
            refine dq 2 rfl (by kernel_rfl) (by kernel_rfl) (by kernel_rfl) rfl rfl (fun w hS => la 0 ag22 hS rfl rfl rfl rfl (BV_size _) ⟨rfl, rfl⟩) hS ?_
            refine dl 3 rfl (by kernel_rfl) ?_
            refine cl cf150 rfl rfl rfl rfl rfl (sp_open_Decrypt_1 (some ⟨b12, 0, none⟩) 16 16 ((deB key nonce bs k).toList) (deB key nonce bs k) (deC key nonce bs k) _ _ _ _ s.1 (k * 16) s.2.1 (deT key nonce bs k) s.2.2 _ Vector.length_toList (by omega) (Cel.bv (hS.get 0 rfl)) (hS.get 8 rfl) (hS.get 7 rfl) hO (fun p hp => (hS.own p (by simp [hp])).2) (St.nd2 (A := [(b12, .cells (BV (deB key nonce bs k)) 22), (b11, .cells (BV (blk bs k)) 22), (lp, .loop { r with state := .busy }), (D, .deferred (some [])), (b23, .cells (#[(.slice a n cap)]) 30), (b9, .cells (#[.func (.func 150) #[] #[Ptr b6 0, Ptr b7 0]]) 241), (b8, .cells (BV (crO key nonce (k + 1))) 22), (b7, .cells (BV (deC key nonce bs k)) 22), (b6, .cells (#[.slice s.1 (k * 16) s.2.1]) 30), (b4, .cells (BV nonce) 173), (b3, .cells (#[Ptr t 0]) 77)]) (R := []) (i := 8) (j := 7) hS rfl rfl)) ?_
            rintro _ w ⟨a42, c42, X42, ⟨v42, rfl⟩, hO42, hS1⟩
            refine ⟨_, rfl, ?_⟩
            have hS : St w0 [] ([(b12, .cells (BV (deB key nonce bs k)) 22), (b11, .cells (BV (blk bs k)) 22), (lp, .loop { r with state := .busy }), (D, .deferred (some [])), (b23, .cells (#[(.slice a n cap)]) 30), (b9, .cells (#[.func (.func 150) #[] #[Ptr b6 0, Ptr b7 0]]) 241), (b8, .cells (BV (crO key nonce (k + 1))) 22), (b7, .cells (BV (xorV (deC key nonce bs k) (deB key nonce bs k))) 22), (b6, .cells (#[.slice a42 ((k * 16) + 16) c42]) 30), (b4, .cells (BV nonce) 173), (b3, .cells (#[Ptr t 0]) 77)] ++ (X42 ++ [])) w := St.call_out2 (A := [(b12, .cells (BV (deB key nonce bs k)) 22), (b11, .cells (BV (blk bs k)) 22), (lp, .loop { r with state := .busy }), (D, .deferred (some [])), (b23, .cells (#[(.slice a n cap)]) 30), (b9, .cells (#[.func (.func 150) #[] #[Ptr b6 0, Ptr b7 0]]) 241), (b8, .cells (BV (crO key nonce (k + 1))) 22), (b7, .cells (BV (deC key nonce bs k)) 22), (b6, .cells (#[.slice s.1 (k * 16) s.2.1]) 30), (b4, .cells (BV nonce) 173), (b3, .cells (#[Ptr t 0]) 77)]) (A2 := [(b12, .cells (BV (deB key nonce bs k)) 22), (b11, .cells (BV (blk bs k)) 22), (lp, .loop { r with state := .busy }), (D, .deferred (some [])), (b23, .cells (#[(.slice a n cap)]) 30), (b9, .cells (#[.func (.func 150) #[] #[Ptr b6 0, Ptr b7 0]]) 241), (b8, .cells (BV (crO key nonce (k + 1))) 22), (b7, .cells (BV (xorV (deC key nonce bs k) (deB key nonce bs k))) 22), (b6, .cells (#[.slice a42 ((k * 16) + 16) c42]) 30), (b4, .cells (BV nonce) 173), (b3, .cells (#[Ptr t 0]) 77)]) (i := 8) (j := 7) hS rfl rfl rfl rfl rfl hS1
            refine ⟨fun h => (by cases h), ?_⟩
            refine de (by kernel_rfl) ?_
            refine q_block_norm ?_
            refine end_q 2 hS rfl hr hp (fun w hS => ?_)
            have e16 : k * 16 + 16 = (k + 1) * 16 := by omega
            rw [e16] at hS hO42
            exact ⟨rfl, _, ⟨(a42, c42, X42), hO42, rfl⟩, hS.tl.tl⟩
          · skip
            refine ala zr22 hS rfl rfl ?_
            intro b12 w hb12 hS
            refine ⟨fun _ => hS.tl, ?_⟩
            refine dl 7 rfl (by kernel_rfl) ?_
            refine cv (v := .agg (BV (deB key nonce bs k))) cf143 hS rfl rfl rfl rfl rfl (sp_block_Xor ((crO key nonce (k + 1))) ((dec key (xorV (blk bs k) (crO key nonce (k + 1))))) _) ?_
            intro w hS
            refine ⟨fun _ => hS.tl, ?_⟩
            refine dl 9 rfl (by kernel_rfl) ?_
            refine sa 0 ag22 hS rfl rfl rfl (BV_one _) rfl (BV_size _) (BV_size _) ?_
            intro w hS
            refine ⟨fun h => (by cases h), ?_⟩
            refine de (by kernel_rfl) ?_
            refine wqi_then ?_
            refine wci_draw mo (by kernel_rfl) 3 (fun w => St w0 [] ([(b12, .cells (BV (deB key nonce bs k)) 22), (b11, .cells (BV (blk bs k)) 22), (lp, .loop { r with state := .busy }), (D, .deferred (some [])), (b23, .cells (#[(.slice a n cap)]) 30), (b9, .cells (#[.func (.func 150) #[] #[Ptr b6 0, Ptr b7 0]]) 241), (b8, .cells (BV (crO key nonce (k + 1))) 22), (b7, .cells (BV (deC key nonce bs k)) 22), (b6, .cells (#[.slice s.1 (k * 16) s.2.1]) 30), (b4, .cells (BV nonce) 173), (b3, .cells (#[Ptr t 0]) 77)] ++ (s.2.2 ++ [])) w) ?_
            have hS := hS.drew
            refine dq 0 rfl (by kernel_rfl) (by kernel_rfl) (by kernel_rfl) rfl rfl (fun w hS => lo 5 sc241 hS rfl rfl rfl rfl rfl ⟨rfl, rfl⟩) hS ?_
            refine dq 1 rfl (by kernel_rfl) (by kernel_rfl) (by kernel_rfl) rfl rfl (fun w hS => a_all Tryz.underlying22 ⟨_, sz5⟩ rfl rfl rfl ⟨rfl, rfl⟩) hS ?_
            refine dq 2 rfl (by kernel_rfl) (by kernel_rfl) (by kernel_rfl) rfl rfl (fun w hS => la 0 ag22 hS rfl rfl rfl rfl (BV_size _) ⟨rfl, rfl⟩) hS ?_
            refine dl 3 rfl (by kernel_rfl) ?_
            refine cl cf150 rfl rfl rfl rfl rfl (sp_open_Decrypt_1 (some ⟨b12, 0, none⟩) 16 16 ((deB key nonce bs k).toList) (deB key nonce bs k) (deC key nonce bs k) _ _ _ _ s.1 (k * 16) s.2.1 (deT key nonce bs k) s.2.2 _ Vector.length_toList (by omega) (Cel.bv (hS.get 0 rfl)) (hS.get 8 rfl) (hS.get 7 rfl) hO (fun p hp => (hS.own p (by simp [hp])).2) (St.nd2 (A := [(b12, .cells (BV (deB key nonce bs k)) 22), (b11, .cells (BV (blk bs k)) 22), (lp, .loop { r with state := .busy }), (D, .deferred (some [])), (b23, .cells (#[(.slice a n cap)]) 30), (b9, .cells (#[.func (.func 150) #[] #[Ptr b6 0, Ptr b7 0]]) 241), (b8, .cells (BV (crO key nonce (k + 1))) 22), (b7, .cells (BV (deC key nonce bs k)) 22), (b6, .cells (#[.slice s.1 (k * 16) s.2.1]) 30), (b4, .cells (BV nonce) 173), (b3, .cells (#[Ptr t 0]) 77)]) (R := []) (i := 8) (j := 7) hS rfl rfl)) ?_
            rintro _ w ⟨a42, c42, X42, ⟨v42, rfl⟩, hO42, hS1⟩
            refine ⟨_, rfl, ?_⟩
            have hS : St w0 [] ([(b12, .cells (BV (deB key nonce bs k)) 22), (b11, .cells (BV (blk bs k)) 22), (lp, .loop { r with state := .busy }), (D, .deferred (some [])), (b23, .cells (#[(.slice a n cap)]) 30), (b9, .cells (#[.func (.func 150) #[] #[Ptr b6 0, Ptr b7 0]]) 241), (b8, .cells (BV (crO key nonce (k + 1))) 22), (b7, .cells (BV (xorV (deC key nonce bs k) (deB key nonce bs k))) 22), (b6, .cells (#[.slice a42 ((k * 16) + 16) c42]) 30), (b4, .cells (BV nonce) 173), (b3, .cells (#[Ptr t 0]) 77)] ++ (X42 ++ [])) w := St.call_out2 (A := [(b12, .cells (BV (deB key nonce bs k)) 22), (b11, .cells (BV (blk bs k)) 22), (lp, .loop { r with state := .busy }), (D, .deferred (some [])), (b23, .cells (#[(.slice a n cap)]) 30), (b9, .cells (#[.func (.func 150) #[] #[Ptr b6 0, Ptr b7 0]]) 241), (b8, .cells (BV (crO key nonce (k + 1))) 22), (b7, .cells (BV (deC key nonce bs k)) 22), (b6, .cells (#[.slice s.1 (k * 16) s.2.1]) 30), (b4, .cells (BV nonce) 173), (b3, .cells (#[Ptr t 0]) 77)]) (A2 := [(b12, .cells (BV (deB key nonce bs k)) 22), (b11, .cells (BV (blk bs k)) 22), (lp, .loop { r with state := .busy }), (D, .deferred (some [])), (b23, .cells (#[(.slice a n cap)]) 30), (b9, .cells (#[.func (.func 150) #[] #[Ptr b6 0, Ptr b7 0]]) 241), (b8, .cells (BV (crO key nonce (k + 1))) 22), (b7, .cells (BV (xorV (deC key nonce bs k) (deB key nonce bs k))) 22), (b6, .cells (#[.slice a42 ((k * 16) + 16) c42]) 30), (b4, .cells (BV nonce) 173), (b3, .cells (#[Ptr t 0]) 77)]) (i := 8) (j := 7) hS rfl rfl rfl rfl rfl hS1
            refine ⟨fun h => (by cases h), ?_⟩
            refine de (by kernel_rfl) ?_
            refine q_block_norm ?_
            refine end_q 2 hS rfl hr hp (fun w hS => ?_)
            have e16 : k * 16 + 16 = (k + 1) * 16 := by omega
            rw [e16] at hS hO42
            exact ⟨rfl, _, ⟨(a42, c42, X42), hO42, rfl⟩, hS.tl.tl⟩
        · skip
          refine ala zr22 hS rfl rfl ?_
          intro b12 w hb12 hS
          refine ⟨fun _ => hS.tl, ?_⟩
          refine dl 6 rfl (by kernel_rfl) ?_
          refine cv cf151 hS rfl rfl rfl rfl rfl (sp_fast_Cipher_Decrypt (c) (_) (key) ((xorV (blk bs k) (crO key nonce (k + 1)))) _ (hS.old hC List.not_mem_nil)) ?_
          intro w hS
          refine ⟨fun _ => hS.tl, ?_⟩
          refine dl 7 rfl (by kernel_rfl) ?_
          refine cv (v := .agg (BV (deB key nonce bs k))) cf143 hS rfl rfl rfl rfl rfl (sp_block_Xor ((crO key nonce (k + 1))) ((dec key (xorV (blk bs k) (crO key nonce (k + 1))))) _) ?_
          intro w hS
          refine ⟨fun _ => hS.tl, ?_⟩
          refine dl 9 rfl (by kernel_rfl) ?_
          refine sa 0 ag22 hS rfl rfl rfl (BV_one _) rfl (BV_size _) (BV_size _) ?_
          intro w hS
          refine ⟨fun h => (by cases h), ?_⟩
          refine de (by kernel_rfl) ?_
          refine wqi_then ?_
          refine wci_draw mo (by kernel_rfl) 3 (fun w => St w0 [] ([(b12, .cells (BV (deB key nonce bs k)) 22), (b11, .cells (BV (blk bs k)) 22), (lp, .loop { r with state := .busy }), (D, .deferred (some [])), (b23, .cells (#[(.slice a n cap)]) 30), (b9, .cells (#[.func (.func 150) #[] #[Ptr b6 0, Ptr b7 0]]) 241), (b8, .cells (BV (crO key nonce (k + 1))) 22), (b7, .cells (BV (deC key nonce bs k)) 22), (b6, .cells (#[.slice s.1 (k * 16) s.2.1]) 30), (b4, .cells (BV nonce) 173), (b3, .cells (#[Ptr t 0]) 77)] ++ (s.2.2 ++ [])) w) ?_
          have hS := hS.drew
          refine dq 0 rfl (by kernel_rfl) (by kernel_rfl) (by kernel_rfl) rfl rfl (fun w hS => lo 5 sc241 hS rfl rfl rfl rfl rfl ⟨rfl, rfl⟩) hS ?_
          refine dq 1 rfl (by kernel_rfl) (by kernel_rfl) (by kernel_rfl) rfl rfl (fun w hS => a_all Tryz.underlying22 ⟨_, sz5⟩ rfl rfl rfl ⟨rfl, rfl⟩) hS ?_
          refine dq 2 rfl (by kernel_rfl) (by kernel_rfl) (by kernel_rfl) rfl rfl (fun w hS => la 0 ag22 hS rfl rfl rfl rfl (BV_size _) ⟨rfl, rfl⟩) hS ?_
          refine dl 3 rfl (by kernel_rfl) ?_
          refine cl cf150 rfl rfl rfl rfl rfl (sp_open_Decrypt_1 (some ⟨b12, 0, none⟩) 16 16 ((deB key nonce bs k).toList) (deB key nonce bs k) (deC key nonce bs k) _ _ _ _ s.1 (k * 16) s.2.1 (deT key nonce bs k) s.2.2 _ Vector.length_toList (by omega) (Cel.bv (hS.get 0 rfl)) (hS.get 8 rfl) (hS.get 7 rfl) hO (fun p hp => (hS.own p (by simp [hp])).2) (St.nd2 (A := [(b12, .cells (BV (deB key nonce bs k)) 22), (b11, .cells (BV (blk bs k)) 22), (lp, .loop { r with state := .busy }), (D, .deferred (some [])), (b23, .cells (#[(.slice a n cap)]) 30), (b9, .cells (#[.func (.func 150) #[] #[Ptr b6 0, Ptr b7 0]]) 241), (b8, .cells (BV (crO key nonce (k + 1))) 22), (b7, .cells (BV (deC key nonce bs k)) 22), (b6, .cells (#[.slice s.1 (k * 16) s.2.1]) 30), (b4, .cells (BV nonce) 173), (b3, .cells (#[Ptr t 0]) 77)]) (R := []) (i := 8) (j := 7) hS rfl rfl)) ?_
          rintro _ w ⟨a42, c42, X42, ⟨v42, rfl⟩, hO42, hS1⟩
          refine ⟨_, rfl, ?_⟩
          have hS : St w0 [] ([(b12, .cells (BV (deB key nonce bs k)) 22), (b11, .cells (BV (blk bs k)) 22), (lp, .loop { r with state := .busy }), (D, .deferred (some [])), (b23, .cells (#[(.slice a n cap)]) 30), (b9, .cells (#[.func (.func 150) #[] #[Ptr b6 0, Ptr b7 0]]) 241), (b8, .cells (BV (crO key nonce (k + 1))) 22), (b7, .cells (BV (xorV (deC key nonce bs k) (deB key nonce bs k))) 22), (b6, .cells (#[.slice a42 ((k * 16) + 16) c42]) 30), (b4, .cells (BV nonce) 173), (b3, .cells (#[Ptr t 0]) 77)] ++ (X42 ++ [])) w := St.call_out2 (A := [(b12, .cells (BV (deB key nonce bs k)) 22), (b11, .cells (BV (blk bs k)) 22), (lp, .loop { r with state := .busy }), (D, .deferred (some [])), (b23, .cells (#[(.slice a n cap)]) 30), (b9, .cells (#[.func (.func 150) #[] #[Ptr b6 0, Ptr b7 0]]) 241), (b8, .cells (BV (crO key nonce (k + 1))) 22), (b7, .cells (BV (deC key nonce bs k)) 22), (b6, .cells (#[.slice s.1 (k * 16) s.2.1]) 30), (b4, .cells (BV nonce) 173), (b3, .cells (#[Ptr t 0]) 77)]) (A2 := [(b12, .cells (BV (deB key nonce bs k)) 22), (b11, .cells (BV (blk bs k)) 22), (lp, .loop { r with state := .busy }), (D, .deferred (some [])), (b23, .cells (#[(.slice a n cap)]) 30), (b9, .cells (#[.func (.func 150) #[] #[Ptr b6 0, Ptr b7 0]]) 241), (b8, .cells (BV (crO key nonce (k + 1))) 22), (b7, .cells (BV (xorV (deC key nonce bs k) (deB key nonce bs k))) 22), (b6, .cells (#[.slice a42 ((k * 16) + 16) c42]) 30), (b4, .cells (BV nonce) 173), (b3, .cells (#[Ptr t 0]) 77)]) (i := 8) (j := 7) hS rfl rfl rfl rfl rfl hS1
          refine ⟨fun h => (by cases h), ?_⟩
          refine de (by kernel_rfl) ?_
          refine q_block_norm ?_
          refine end_q 2 hS rfl hr hp (fun w hS => ?_)
          have e16 : k * 16 + 16 = (k + 1) * 16 := by omega
          rw [e16] at hS hO42
          exact ⟨rfl, _, ⟨(a42, c42, X42), hO42, rfl⟩, hS.tl.tl⟩
      · skip
        refine ala zr22 hS rfl rfl ?_
        intro b12 w hb12 hS
        refine ⟨fun _ => hS.tl, ?_⟩
        refine dl 5 rfl (by kernel_rfl) ?_
        refine cv cf143 hS rfl rfl rfl rfl rfl (sp_block_Xor ((blk bs k)) ((crO key nonce (k + 1))) _) ?_
        intro w hS
        refine ⟨fun _ => hS.tl, ?_⟩
        refine dl 6 rfl (by kernel_rfl) ?_
        refine cv cf151 hS rfl rfl rfl rfl rfl (sp_fast_Cipher_Decrypt (c) (_) (key) ((xorV (blk bs k) (crO key nonce (k + 1)))) _ (hS.old hC List.not_mem_nil)) ?_
        intro w hS
        refine ⟨fun _ => hS.tl, ?_⟩
        refine dl 7 rfl (by kernel_rfl) ?_
        refine cv (v := .agg (BV (deB key nonce bs k))) cf143 hS rfl rfl rfl rfl rfl (sp_block_Xor ((crO key nonce (k + 1))) ((dec key (xorV (blk bs k) (crO key nonce (k + 1))))) _) ?_
        intro w hS
        refine ⟨fun _ => hS.tl, ?_⟩
        refine dl 9 rfl (by kernel_rfl) ?_
        refine sa 0 ag22 hS rfl rfl rfl (BV_one _) rfl (BV_size _) (BV_size _) ?_
        intro w hS
        refine ⟨fun h => (by cases h), ?_⟩
        refine de (by kernel_rfl) ?_
        refine wqi_then ?_
        refine wci_draw mo (by kernel_rfl) 3 (fun w => St w0 [] ([(b12, .cells (BV (deB key nonce bs k)) 22), (b11, .cells (BV (blk bs k)) 22), (lp, .loop { r with state := .busy }), (D, .deferred (some [])), (b23, .cells (#[(.slice a n cap)]) 30), (b9, .cells (#[.func (.func 150) #[] #[Ptr b6 0, Ptr b7 0]]) 241), (b8, .cells (BV (crO key nonce (k + 1))) 22), (b7, .cells (BV (deC key nonce bs k)) 22), (b6, .cells (#[.slice s.1 (k * 16) s.2.1]) 30), (b4, .cells (BV nonce) 173), (b3, .cells (#[Ptr t 0]) 77)] ++ (s.2.2 ++ [])) w) ?_
        have hS := hS.drew
        refine dq 0 rfl (by kernel_rfl) (by kernel_rfl) (by kernel_rfl) rfl rfl (fun w hS => lo 5 sc241 hS rfl rfl rfl rfl rfl ⟨rfl, rfl⟩) hS ?_
        refine dq 1 rfl (by kernel_rfl) (by kernel_rfl) (by kernel_rfl) rfl rfl (fun w hS => a_all Tryz.underlying22 ⟨_, sz5⟩ rfl rfl rfl ⟨rfl, rfl⟩) hS ?_
        refine dq 2 rfl (by kernel_rfl) (by kernel_rfl) (by kernel_rfl) rfl rfl (fun w hS => la 0 ag22 hS rfl rfl rfl rfl (BV_size _) ⟨rfl, rfl⟩) hS ?_
        refine dl 3 rfl (by kernel_rfl) ?_
        refine cl cf150 rfl rfl rfl rfl rfl (sp_open_Decrypt_1 (some ⟨b12, 0, none⟩) 16 16 ((deB key nonce bs k).toList) (deB key nonce bs k) (deC key nonce bs k) _ _ _ _ s.1 (k * 16) s.2.1 (deT key nonce bs k) s.2.2 _ Vector.length_toList (by omega) (Cel.bv (hS.get 0 rfl)) (hS.get 8 rfl) (hS.get 7 rfl) hO (fun p hp => (hS.own p (by simp [hp])).2) (St.nd2 (A := [(b12, .cells (BV (deB key nonce bs k)) 22), (b11, .cells (BV (blk bs k)) 22), (lp, .loop { r with state := .busy }), (D, .deferred (some [])), (b23, .cells (#[(.slice a n cap)]) 30), (b9, .cells (#[.func (.func 150) #[] #[Ptr b6 0, Ptr b7 0]]) 241), (b8, .cells (BV (crO key nonce (k + 1))) 22), (b7, .cells (BV (deC key nonce bs k)) 22), (b6, .cells (#[.slice s.1 (k * 16) s.2.1]) 30), (b4, .cells (BV nonce) 173), (b3, .cells (#[Ptr t 0]) 77)]) (R := []) (i := 8) (j := 7) hS rfl rfl)) ?_
        rintro _ w ⟨a42, c42, X42, ⟨v42, rfl⟩, hO42, hS1⟩
        refine ⟨_, rfl, ?_⟩
        have hS : St w0 [] ([(b12, .cells (BV (deB key nonce bs k)) 22), (b11, .cells (BV (blk bs k)) 22), (lp, .loop { r with state := .busy }), (D, .deferred (some [])), (b23, .cells (#[(.slice a n cap)]) 30), (b9, .cells (#[.func (.func 150) #[] #[Ptr b6 0, Ptr b7 0]]) 241), (b8, .cells (BV (crO key nonce (k + 1))) 22), (b7, .cells (BV (xorV (deC key nonce bs k) (deB key nonce bs k))) 22), (b6, .cells (#[.slice a42 ((k * 16) + 16) c42]) 30), (b4, .cells (BV nonce) 173), (b3, .cells (#[Ptr t 0]) 77)] ++ (X42 ++ [])) w := St.call_out2 (A := [(b12, .cells (BV (deB key nonce bs k)) 22), (b11, .cells (BV (blk bs k)) 22), (lp, .loop { r with state := .busy }), (D, .deferred (some [])), (b23, .cells (#[(.slice a n cap)]) 30), (b9, .cells (#[.func (.func 150) #[] #[Ptr b6 0, Ptr b7 0]]) 241), (b8, .cells (BV (crO key nonce (k + 1))) 22), (b7, .cells (BV (deC key nonce bs k)) 22), (b6, .cells (#[.slice s.1 (k * 16) s.2.1]) 30), (b4, .cells (BV nonce) 173), (b3, .cells (#[Ptr t 0]) 77)]) (A2 := [(b12, .cells (BV (deB key nonce bs k)) 22), (b11, .cells (BV (blk bs k)) 22), (lp, .loop { r with state := .busy }), (D, .deferred (some [])), (b23, .cells (#[(.slice a n cap)]) 30), (b9, .cells (#[.func (.func 150) #[] #[Ptr b6 0, Ptr b7 0]]) 241), (b8, .cells (BV (crO key nonce (k + 1))) 22), (b7, .cells (BV (xorV (deC key nonce bs k) (deB key nonce bs k))) 22), (b6, .cells (#[.slice a42 ((k * 16) + 16) c42]) 30), (b4, .cells (BV nonce) 173), (b3, .cells (#[Ptr t 0]) 77)]) (i := 8) (j := 7) hS rfl rfl rfl rfl rfl hS1
        refine ⟨fun h => (by cases h), ?_⟩
        refine de (by kernel_rfl) ?_
        refine q_block_norm ?_
        refine end_q 2 hS rfl hr hp (fun w hS => ?_)
        have e16 : k * 16 + 16 = (k + 1) * 16 := by omega
        rw [e16] at hS hO42
        exact ⟨rfl, _, ⟨(a42, c42, X42), hO42, rfl⟩, hS.tl.tl⟩
    · skip
      refine ala zr22 hS rfl rfl ?_
      intro b12 w hb12 hS
      refine ⟨fun _ => hS.tl, ?_⟩
      refine dl 2 rfl (by kernel_rfl) ?_
      refine cv cf144 hS rfl rfl rfl rfl rfl (sp_table_Table_Cipher (t) (c) (key) _ (hT.st hS)) ?_
      intro w hS
      refine ⟨fun _ => hS.tl, ?_⟩
      refine dl 5 rfl (by kernel_rfl) ?_
      refine cv cf143 hS rfl rfl rfl rfl rfl (sp_block_Xor ((blk bs k)) ((crO key nonce (k + 1))) _) ?_
      intro w hS
      refine ⟨fun _ => hS.tl, ?_⟩
      refine dl 6 rfl (by kernel_rfl) ?_
      refine cv cf151 hS rfl rfl rfl rfl rfl (sp_fast_Cipher_Decrypt (c) (_) (key) ((xorV (blk bs k) (crO key nonce (k + 1)))) _ (hS.old hC List.not_mem_nil)) ?_
      intro w hS
      refine ⟨fun _ => hS.tl, ?_⟩
      refine dl 7 rfl (by kernel_rfl) ?_
      refine cv (v := .agg (BV (deB key nonce bs k))) cf143 hS rfl rfl rfl rfl rfl (sp_block_Xor ((crO key nonce (k + 1))) ((dec key (xorV (blk bs k) (crO key nonce (k + 1))))) _) ?_
      intro w hS
      refine ⟨fun _ => hS.tl, ?_⟩
      refine dl 9 rfl (by kernel_rfl) ?_
      refine sa 0 ag22 hS rfl rfl rfl (BV_one _) rfl (BV_size _) (BV_size _) ?_
      intro w hS
      refine ⟨fun h => (by cases h), ?_⟩
      refine de (by kernel_rfl) ?_
      refine wqi_then ?_
      refine wci_draw mo (by kernel_rfl) 3 (fun w => St w0 [] ([(b12, .cells (BV (deB key nonce bs k)) 22), (b11, .cells (BV (blk bs k)) 22), (lp, .loop { r with state := .busy }), (D, .deferred (some [])), (b23, .cells (#[(.slice a n cap)]) 30), (b9, .cells (#[.func (.func 150) #[] #[Ptr b6 0, Ptr b7 0]]) 241), (b8, .cells (BV (crO key nonce (k + 1))) 22), (b7, .cells (BV (deC key nonce bs k)) 22), (b6, .cells (#[.slice s.1 (k * 16) s.2.1]) 30), (b4, .cells (BV nonce) 173), (b3, .cells (#[Ptr t 0]) 77)] ++ (s.2.2 ++ [])) w) ?_
      have hS := hS.drew
      refine dq 0 rfl (by kernel_rfl) (by kernel_rfl) (by kernel_rfl) rfl rfl (fun w hS => lo 5 sc241 hS rfl rfl rfl rfl rfl ⟨rfl, rfl⟩) hS ?_
      refine dq 1 rfl (by kernel_rfl) (by kernel_rfl) (by kernel_rfl) rfl rfl (fun w hS => a_all Tryz.underlying22 ⟨_, sz5⟩ rfl rfl rfl ⟨rfl, rfl⟩) hS ?_
      refine dq 2 rfl (by kernel_rfl) (by kernel_rfl) (by kernel_rfl) rfl rfl (fun w hS => la 0 ag22 hS rfl rfl rfl rfl (BV_size _) ⟨rfl, rfl⟩) hS ?_
      refine dl 3 rfl (by kernel_rfl) ?_
      refine cl cf150 rfl rfl rfl rfl rfl (sp_open_Decrypt_1 (some ⟨b12, 0, none⟩) 16 16 ((deB key nonce bs k).toList) (deB key nonce bs k) (deC key nonce bs k) _ _ _ _ s.1 (k * 16) s.2.1 (deT key nonce bs k) s.2.2 _ Vector.length_toList (by omega) (Cel.bv (hS.get 0 rfl)) (hS.get 8 rfl) (hS.get 7 rfl) hO (fun p hp => (hS.own p (by simp [hp])).2) (St.nd2 (A := [(b12, .cells (BV (deB key nonce bs k)) 22), (b11, .cells (BV (blk bs k)) 22), (lp, .loop { r with state := .busy }), (D, .deferred (some [])), (b23, .cells (#[(.slice a n cap)]) 30), (b9, .cells (#[.func (.func 150) #[] #[Ptr b6 0, Ptr b7 0]]) 241), (b8, .cells (BV (crO key nonce (k + 1))) 22), (b7, .cells (BV (deC key nonce bs k)) 22), (b6, .cells (#[.slice s.1 (k * 16) s.2.1]) 30), (b4, .cells (BV nonce) 173), (b3, .cells (#[Ptr t 0]) 77)]) (R := []) (i := 8) (j := 7) hS rfl rfl)) ?_
      rintro _ w ⟨a42, c42, X42, ⟨v42, rfl⟩, hO42, hS1⟩
      refine ⟨_, rfl, ?_⟩
      have hS : St w0 [] ([(b12, .cells (BV (deB key nonce bs k)) 22), (b11, .cells (BV (blk bs k)) 22), (lp, .loop { r with state := .busy }), (D, .deferred (some [])), (b23, .cells (#[(.slice a n cap)]) 30), (b9, .cells (#[.func (.func 150) #[] #[Ptr b6 0, Ptr b7 0]]) 241), (b8, .cells (BV (crO key nonce (k + 1))) 22), (b7, .cells (BV (xorV (deC key nonce bs k) (deB key nonce bs k))) 22), (b6, .cells (#[.slice a42 ((k * 16) + 16) c42]) 30), (b4, .cells (BV nonce) 173), (b3, .cells (#[Ptr t 0]) 77)] ++ (X42 ++ [])) w := St.call_out2 (A := [(b12, .cells (BV (deB key nonce bs k)) 22), (b11, .cells (BV (blk bs k)) 22), (lp, .loop { r with state := .busy }), (D, .deferred (some [])), (b23, .cells (#[(.slice a n cap)]) 30), (b9, .cells (#[.func (.func 150) #[] #[Ptr b6 0, Ptr b7 0]]) 241), (b8, .cells (BV (crO key nonce (k + 1))) 22), (b7, .cells (BV (deC key nonce bs k)) 22), (b6, .cells (#[.slice s.1 (k * 16) s.2.1]) 30), (b4, .cells (BV nonce) 173), (b3, .cells (#[Ptr t 0]) 77)]) (A2 := [(b12, .cells (BV (deB key nonce bs k)) 22), (b11, .cells (BV (blk bs k)) 22), (lp, .loop { r with state := .busy }), (D, .deferred (some [])), (b23, .cells (#[(.slice a n cap)]) 30), (b9, .cells (#[.func (.func 150) #[] #[Ptr b6 0, Ptr b7 0]]) 241), (b8, .cells (BV (crO key nonce (k + 1))) 22), (b7, .cells (BV (xorV (deC key nonce bs k) (deB key nonce bs k))) 22), (b6, .cells (#[.slice a42 ((k * 16) + 16) c42]) 30), (b4, .cells (BV nonce) 173), (b3, .cells (#[Ptr t 0]) 77)]) (i := 8) (j := 7) hS rfl rfl rfl rfl rfl hS1
      refine ⟨fun h => (by cases h), ?_⟩
      refine de (by kernel_rfl) ?_
      refine q_block_norm ?_
      refine end_q 2 hS rfl hr hp (fun w hS => ?_)
      have e16 : k * 16 + 16 = (k + 1) * 16 := by omega
      rw [e16] at hS hO42
      exact ⟨rfl, _, ⟨(a42, c42, X42), hO42, rfl⟩, hS.tl.tl⟩
  · rintro D _ w ⟨s, hO, rfl⟩ hS
    have hS : St w0 [] ([(D, .deferred (some [])), (b23, .cells (#[(.slice a n cap)]) 30), (b9, .cells (#[.func (.func 150) #[] #[Ptr b6 0, Ptr b7 0]]) 241), (b8, .cells (BV (crO key nonce (n / 16))) 22), (b7, .cells (BV (deC key nonce bs (n / 16))) 22), (b6, .cells (#[.slice s.1 ((n / 16) * 16) s.2.1]) 30), (b4, .cells (BV nonce) 173), (b3, .cells (#[Ptr t 0]) 77)] ++ (s.2.2 ++ [])) w := hS
    refine q_block_norm ?_
    refine wq_then ?_
    refine rg ?_
    refine mv rfl rfl rfl ?_
    refine lo 5 sc30 hS rfl rfl rfl rfl rfl ?_
    refine lens Tryz.underlying30 rfl rfl rfl ?_
    refine s_l ((n / 16) * 16) Tryz.underlying30 sz5 rfl rfl rfl rfl (by omega) (by omega) ?_
    refine asg rfl rfl rfl ?_
    refine wq_then ?_
    refine wc_seq ?_
    refine rg ?_
    refine mv rfl rfl rfl ?_
    refine lens Tryz.underlying30 rfl rfl rfl ?_
    refine eqi rfl rfl rfl rfl ?_
    refine wq_then ?_
    refine wc_if rfl (fun hc1 => ?_) (fun hc1 => ?_)
    · skip
      try simp only [SB] at hc1
      have hz : n / 16 * 16 = n := by omega
      refine rd mo 5 (fun w => St w0 [] ([(D, .deferred (some [])), (b23, .cells (#[(.slice a n cap)]) 30), (b9, .cells (#[.func (.func 150) #[] #[Ptr b6 0, Ptr b7 0]]) 241), (b8, .cells (BV (crO key nonce (n / 16))) 22), (b7, .cells (BV (deC key nonce bs (n / 16))) 22), (b6, .cells (#[.slice s.1 ((n / 16) * 16) s.2.1]) 30), (b4, .cells (BV nonce) 173), (b3, .cells (#[Ptr t 0]) 77)] ++ (s.2.2 ++ [])) w) ?_
      have hS := hS.drew
      refine dq 0 rfl (by kernel_rfl) (by kernel_rfl) (by kernel_rfl) rfl rfl (fun w hS => lo 5 sc30 hS rfl rfl rfl rfl rfl ⟨rfl, rfl⟩) hS ?_
      refine dq 1 rfl (by kernel_rfl) (by kernel_rfl) (by kernel_rfl) rfl rfl (fun w hS => la 4 ag22 hS rfl rfl rfl rfl (BV_size _) ⟨rfl, rfl⟩) hS ?_
      refine dq 2 rfl (by kernel_rfl) (by kernel_rfl) (by kernel_rfl) rfl rfl (fun w hS => la 3 ag22 hS rfl rfl rfl rfl (BV_size _) ⟨rfl, rfl⟩) hS ?_
      refine dl 3 rfl (by kernel_rfl) ?_
      refine st 5 sz30 hS rfl rfl rfl rfl rfl rfl Nat.zero_lt_one rfl ?_
      intro w hS
      refine ⟨fun _ => hS, ?_⟩
      refine dl 4 rfl (by kernel_rfl) ?_
      refine sa 4 ag22 hS rfl rfl rfl (BV_one _) rfl (BV_size _) (BV_size _) ?_
      intro w hS
      refine ⟨fun _ => hS, ?_⟩
      refine dl 5 rfl (by kernel_rfl) ?_
      refine sa 3 ag22 hS rfl rfl rfl (BV_one _) rfl (BV_size _) (BV_size _) ?_
      intro w hS
      refine ⟨fun h => (by cases h), ?_⟩
      refine de (by kernel_rfl) ?_
      refine wq_then ?_
      refine wc_ret ?_
      refine q_then_ret ?_
      refine finM3 (v := .slice s.1 ((n / 16) * 16) s.2.1) (u := .agg (BV (deC key nonce bs (n / 16)))) (x := .agg (BV (crO key nonce (n / 16)))) 0 hS rfl rfl rfl (fun w hS => ⟨_, rfl, lv_c sc30 (hS.get 5 rfl) rfl⟩) (fun w hS => ⟨_, rfl, lv_a ag22 (hS.get 4 rfl) (BV_size _)⟩) (fun w hS => ⟨_, rfl, lv_a ag22 (hS.get 3 rfl) (BV_size _)⟩) (fun w hS => ?_)
      exact ⟨_, _, rfl, ⟨_, _, dec_z1 hn hz, dec_z2 hn hz hO⟩, hS.sublist (.cons _ (.cons _ (.cons _ (.cons _ (.cons _ (.cons _ (.cons _ (.cons _ (List.sublist_append_left s.2.2 [])))))))))⟩
    · skip
      try simp only [SB] at hc1
      have hz : ¬ n / 16 * 16 = n := by omega
      refine wc_skip ?_
      refine wq_then ?_
      refine rd mo 4 (fun w => St w0 [] ([(D, .deferred (some [])), (b23, .cells (#[(.slice a n cap)]) 30), (b9, .cells (#[.func (.func 150) #[] #[Ptr b6 0, Ptr b7 0]]) 241), (b8, .cells (BV (crO key nonce (n / 16))) 22), (b7, .cells (BV (deC key nonce bs (n / 16))) 22), (b6, .cells (#[.slice s.1 ((n / 16) * 16) s.2.1]) 30), (b4, .cells (BV nonce) 173), (b3, .cells (#[Ptr t 0]) 77)] ++ (s.2.2 ++ [])) w) ?_
      have hS := hS.drew
      refine dq 0 rfl (by kernel_rfl) (by kernel_rfl) (by kernel_rfl) rfl rfl (fun w hS => la 3 ag22 hS rfl rfl rfl rfl (BV_size _) ⟨rfl, rfl⟩) hS ?_
      refine dq 1 rfl (by kernel_rfl) (by kernel_rfl) (by kernel_rfl) rfl rfl (fun w hS => lo 7 sc77 hS rfl rfl rfl rfl rfl ⟨rfl, rfl⟩) hS ?_
      refine dl 2 rfl (by kernel_rfl) ?_
      refine cv cf145 hS rfl rfl rfl rfl rfl (sp_table_Table_Star (t) (c) (key) _ (hT.st hS)) ?_
      intro w hS
      refine ⟨fun _ => hS, ?_⟩
      refine dl 3 rfl (by kernel_rfl) ?_
      refine cv cf143 hS rfl rfl rfl rfl rfl (sp_block_Xor ((crO key nonce (n / 16))) ((star key)) _) ?_
      intro w hS
      refine ⟨fun _ => hS, ?_⟩
      refine dl 4 rfl (by kernel_rfl) ?_
      refine sa 3 ag22 hS rfl rfl rfl (BV_one _) rfl (BV_size _) (BV_size _) ?_
      intro w hS
      refine ⟨fun h => (by cases h), ?_⟩
      refine de (by kernel_rfl) ?_
      refine wq_then ?_
      refine rd mo 5 (fun w => St w0 [] ([(D, .deferred (some [])), (b23, .cells (#[(.slice a n cap)]) 30), (b9, .cells (#[.func (.func 150) #[] #[Ptr b6 0, Ptr b7 0]]) 241), (b8, .cells (BV (xorV (crO key nonce (n / 16)) (star key))) 22), (b7, .cells (BV (deC key nonce bs (n / 16))) 22), (b6, .cells (#[.slice s.1 ((n / 16) * 16) s.2.1]) 30), (b4, .cells (BV nonce) 173), (b3, .cells (#[Ptr t 0]) 77)] ++ (s.2.2 ++ [])) w) ?_
      have hS := hS.drew
      refine dq 0 rfl (by kernel_rfl) (by kernel_rfl) (by kernel_rfl) rfl rfl (fun w hS => lo 7 sc77 hS rfl rfl rfl rfl rfl ⟨rfl, rfl⟩) hS ?_
      refine dq 2 rfl (by kernel_rfl) (by kernel_rfl) (by kernel_rfl) rfl rfl (fun w hS => la 3 ag22 hS rfl rfl rfl rfl (BV_size _) ⟨rfl, rfl⟩) hS ?_
      refine dl2 1 4 rfl rfl (by kernel_rfl) ?_ ?_
      · skip
        refine cv cf144 hS rfl rfl rfl rfl rfl (sp_table_Table_Cipher (t) (c) (key) _ (hT.st hS)) ?_
        intro w hS
        refine ⟨fun _ => hS, ?_⟩
        refine dl2 3 4 rfl rfl (by kernel_rfl) ?_ ?_
        · skip
          refine cv cf71 hS rfl rfl rfl rfl rfl (sp_fast_Cipher_Encrypt (c) (_) (key) ((xorV (crO key nonce (n / 16)) (star key))) _ (hS.old hC List.not_mem_nil)) ?_
          intro w hS
          refine ⟨fun _ => hS, ?_⟩
          refine dl 4 rfl (by kernel_rfl) ?_
          refine ala zr22 hS rfl rfl ?_
          intro b14 w hb14 hS
          refine ⟨fun _ => hS.tl, ?_⟩
          refine dl 5 rfl (by kernel_rfl) ?_
          refine sa 0 ag22 hS rfl rfl rfl (BV_one _) rfl (BV_size _) (BV_size _) ?_
          intro w hS
          refine ⟨fun h => (by cases h), ?_⟩
          refine de (by kernel_rfl) ?_
          refine wq_then ?_
          refine rg ?_
          refine mv rfl rfl rfl ?_
          refine a_all Tryz.underlying22 ⟨_, sz5⟩ rfl rfl rfl ?_
          refine cs cf152 hS rfl rfl rfl rfl rfl (sp_bits_Xor ((sla a ((n / 16) * 16) cap)) ((n - ((n / 16) * 16))) ((cap - ((n / 16) * 16))) (((bs).drop ((n / 16) * 16))) ((some ⟨b14, 0, none⟩)) (16) (16) (((enc key (xorV (crO key nonce (n / 16)) (star key))).toList)) _ (by first | rfl | omega | (simp; omega) | (simp; done)) (by omega) ((hc.st hS).drop8 (lo := (n / 16) * 16) (cap := cap) (by first | omega | (simp; omega) | simp)) Vector.length_toList (by omega) (Cel.bv (hS.get 0 rfl))) ?_
          rintro _ _ w ⟨q63, rfl, rfl⟩ hS
          refine asg rfl rfl rfl ?_
          refine wq_then ?_
          refine rg ?_
          refine mv rfl rfl rfl ?_
          refine cv cf146 hS rfl rfl rfl rfl rfl (sp_block_Pad ((some ⟨q63, 0, none⟩)) ((min (n - ((n / 16) * 16)) 16)) ((min (n - ((n / 16) * 16)) 16)) ((xorb ((bs).drop ((n / 16) * 16)) ((enc key (xorV (crO key nonce (n / 16)) (star key))).toList))) _ (by rw [xorb_len]; (try simp) <;> omega) (by omega) (Cel.lb (l := xorb ((bs).drop ((n / 16) * 16)) ((enc key (xorV (crO key nonce (n / 16)) (star key))).toList)) (hS.get 0 rfl)) (by omega)) ?_
          intro w hS
          refine mv rfl rfl rfl ?_
          refine ext rfl rfl rfl rfl ?_
          refine ext rfl rfl rfl rfl ?_
          refine ala zr22 hS rfl rfl ?_
          intro b16 w hb16 hS
          refine sa 0 ag22 hS rfl rfl rfl (BV_one _) rfl (BV_size _) (BV_size _) ?_
          intro w hS
          refine asg rfl rfl rfl ?_
          refine wq_then ?_
          refine rg ?_
          refine lo 5 sc241 hS rfl rfl rfl rfl rfl ?_
          refine mv rfl rfl rfl ?_
          refine la 0 ag22 hS rfl rfl rfl rfl (BV_size _) ?_
          refine cl cf150 rfl rfl rfl rfl rfl (sp_open_Decrypt_1 (some ⟨q63, 0, none⟩) (min (n - ((n / 16) * 16)) 16) (min (n - ((n / 16) * 16)) 16) (xorb ((bs).drop ((n / 16) * 16)) ((enc key (xorV (crO key nonce (n / 16)) (star key))).toList)) (padV (xorb ((bs).drop ((n / 16) * 16)) ((enc key (xorV (crO key nonce (n / 16)) (star key))).toList))) (deC key nonce bs (n / 16)) _ _ _ _ s.1 ((n / 16) * 16) s.2.1 (deT key nonce bs (n / 16)) s.2.2 _ (by rw [xorb_len]; (try simp) <;> omega) (by omega) (Cel.lb (l := xorb ((bs).drop ((n / 16) * 16)) ((enc key (xorV (crO key nonce (n / 16)) (star key))).toList)) (hS.get 1 rfl)) (hS.get 8 rfl) (hS.get 7 rfl) hO (fun p hp => (hS.own p (by simp [hp])).2) (St.nd2 (A := [(b16, .cells (BV (padV (xorb ((bs).drop ((n / 16) * 16)) ((enc key (xorV (crO key nonce (n / 16)) (star key))).toList)))) 22), (q63, .cells (LB (xorb ((bs).drop ((n / 16) * 16)) ((enc key (xorV (crO key nonce (n / 16)) (star key))).toList))) 5), (b14, .cells (BV (enc key (xorV (crO key nonce (n / 16)) (star key)))) 22), (D, .deferred (some [])), (b23, .cells (#[(.slice a n cap)]) 30), (b9, .cells (#[.func (.func 150) #[] #[Ptr b6 0, Ptr b7 0]]) 241), (b8, .cells (BV (xorV (crO key nonce (n / 16)) (star key))) 22), (b7, .cells (BV (deC key nonce bs (n / 16))) 22), (b6, .cells (#[.slice s.1 ((n / 16) * 16) s.2.1]) 30), (b4, .cells (BV nonce) 173), (b3, .cells (#[Ptr t 0]) 77)]) (R := []) (i := 8) (j := 7) hS rfl rfl)) ?_
          rintro _ w ⟨a72, c72, X72, ⟨v72, rfl⟩, hO72, hS1⟩
          refine ⟨_, rfl, ?_⟩
          have hS : St w0 [] ([(b16, .cells (BV (padV (xorb ((bs).drop ((n / 16) * 16)) ((enc key (xorV (crO key nonce (n / 16)) (star key))).toList)))) 22), (q63, .cells (LB (xorb ((bs).drop ((n / 16) * 16)) ((enc key (xorV (crO key nonce (n / 16)) (star key))).toList))) 5), (b14, .cells (BV (enc key (xorV (crO key nonce (n / 16)) (star key)))) 22), (D, .deferred (some [])), (b23, .cells (#[(.slice a n cap)]) 30), (b9, .cells (#[.func (.func 150) #[] #[Ptr b6 0, Ptr b7 0]]) 241), (b8, .cells (BV (xorV (crO key nonce (n / 16)) (star key))) 22), (b7, .cells (BV (xorV (deC key nonce bs (n / 16)) (padV (xorb ((bs).drop ((n / 16) * 16)) ((enc key (xorV (crO key nonce (n / 16)) (star key))).toList))))) 22), (b6, .cells (#[.slice a72 (((n / 16) * 16) + (min (n - ((n / 16) * 16)) 16)) c72]) 30), (b4, .cells (BV nonce) 173), (b3, .cells (#[Ptr t 0]) 77)] ++ (X72 ++ [])) w := St.call_out2 (A := [(b16, .cells (BV (padV (xorb ((bs).drop ((n / 16) * 16)) ((enc key (xorV (crO key nonce (n / 16)) (star key))).toList)))) 22), (q63, .cells (LB (xorb ((bs).drop ((n / 16) * 16)) ((enc key (xorV (crO key nonce (n / 16)) (star key))).toList))) 5), (b14, .cells (BV (enc key (xorV (crO key nonce (n / 16)) (star key)))) 22), (D, .deferred (some [])), (b23, .cells (#[(.slice a n cap)]) 30), (b9, .cells (#[.func (.func 150) #[] #[Ptr b6 0, Ptr b7 0]]) 241), (b8, .cells (BV (xorV (crO key nonce (n / 16)) (star key))) 22), (b7, .cells (BV (deC key nonce bs (n / 16))) 22), (b6, .cells (#[.slice s.1 ((n / 16) * 16) s.2.1]) 30), (b4, .cells (BV nonce) 173), (b3, .cells (#[Ptr t 0]) 77)]) (A2 := [(b16, .cells (BV (padV (xorb ((bs).drop ((n / 16) * 16)) ((enc key (xorV (crO key nonce (n / 16)) (star key))).toList)))) 22), (q63, .cells (LB (xorb ((bs).drop ((n / 16) * 16)) ((enc key (xorV (crO key nonce (n / 16)) (star key))).toList))) 5), (b14, .cells (BV (enc key (xorV (crO key nonce (n / 16)) (star key)))) 22), (D, .deferred (some [])), (b23, .cells (#[(.slice a n cap)]) 30), (b9, .cells (#[.func (.func 150) #[] #[Ptr b6 0, Ptr b7 0]]) 241), (b8, .cells (BV (xorV (crO key nonce (n / 16)) (star key))) 22), (b7, .cells (BV (xorV (deC key nonce bs (n / 16)) (padV (xorb ((bs).drop ((n / 16) * 16)) ((enc key (xorV (crO key nonce (n / 16)) (star key))).toList))))) 22), (b6, .cells (#[.slice a72 (((n / 16) * 16) + (min (n - ((n / 16) * 16)) 16)) c72]) 30), (b4, .cells (BV nonce) 173), (b3, .cells (#[Ptr t 0]) 77)]) (i := 8) (j := 7) hS rfl rfl rfl rfl rfl hS1
          refine wq_then ?_
          refine rd mo 5 (fun w => St w0 [] ([(b16, .cells (BV (padV (xorb ((bs).drop ((n / 16) * 16)) ((enc key (xorV (crO key nonce (n / 16)) (star key))).toList)))) 22), (q63, .cells (LB (xorb ((bs).drop ((n / 16) * 16)) ((enc key (xorV (crO key nonce (n / 16)) (star key))).toList))) 5), (b14, .cells (BV (enc key (xorV (crO key nonce (n / 16)) (star key)))) 22), (D, .deferred (some [])), (b23, .cells (#[(.slice a n cap)]) 30), (b9, .cells (#[.func (.func 150) #[] #[Ptr b6 0, Ptr b7 0]]) 241), (b8, .cells (BV (xorV (crO key nonce (n / 16)) (star key))) 22), (b7, .cells (BV (xorV (deC key nonce bs (n / 16)) (padV (xorb ((bs).drop ((n / 16) * 16)) ((enc key (xorV (crO key nonce (n / 16)) (star key))).toList))))) 22), (b6, .cells (#[.slice a72 (((n / 16) * 16) + (min (n - ((n / 16) * 16)) 16)) c72]) 30), (b4, .cells (BV nonce) 173), (b3, .cells (#[Ptr t 0]) 77)] ++ (X72 ++ [])) w) ?_
          have hS := hS.drew
          refine dq 0 rfl (by kernel_rfl) (by kernel_rfl) (by kernel_rfl) rfl rfl (fun w hS => lo 8 sc30 hS rfl rfl rfl rfl rfl ⟨rfl, rfl⟩) hS ?_
          refine dq 1 rfl (by kernel_rfl) (by kernel_rfl) (by kernel_rfl) rfl rfl (fun w hS => la 7 ag22 hS rfl rfl rfl rfl (BV_size _) ⟨rfl, rfl⟩) hS ?_
          refine dq 2 rfl (by kernel_rfl) (by kernel_rfl) (by kernel_rfl) rfl rfl (fun w hS => la 6 ag22 hS rfl rfl rfl rfl (BV_size _) ⟨rfl, rfl⟩) hS ?_
          refine dl 3 rfl (by kernel_rfl) ?_
          refine st 8 sz30 hS rfl rfl rfl rfl rfl rfl Nat.zero_lt_one rfl ?_
          intro w hS
          refine ⟨fun _ => hS, ?_⟩
          refine dl 4 rfl (by kernel_rfl) ?_
          refine sa 7 ag22 hS rfl rfl rfl (BV_one _) rfl (BV_size _) (BV_size _) ?_
          intro w hS
          refine ⟨fun _ => hS, ?_⟩
          refine dl 5 rfl (by kernel_rfl) ?_
          refine sa 6 ag22 hS rfl rfl rfl (BV_one _) rfl (BV_size _) (BV_size _) ?_
          intro w hS
          refine ⟨fun h => (by cases h), ?_⟩
          refine de (by kernel_rfl) ?_
          refine wq_then ?_
          refine wc_ret ?_
          refine finM3 (v := .slice a72 (((n / 16) * 16) + (min (n - ((n / 16) * 16)) 16)) c72) (u := .agg (BV (xorV (deC key nonce bs (n / 16)) (padV (xorb ((bs).drop ((n / 16) * 16)) ((enc key (xorV (crO key nonce (n / 16)) (star key))).toList)))))) (x := .agg (BV (xorV (crO key nonce (n / 16)) (star key)))) 3 hS rfl rfl rfl (fun w hS => ⟨_, rfl, lv_c sc30 (hS.get 8 rfl) rfl⟩) (fun w hS => ⟨_, rfl, lv_a ag22 (hS.get 7 rfl) (BV_size _)⟩) (fun w hS => ⟨_, rfl, lv_a ag22 (hS.get 6 rfl) (BV_size _)⟩) (fun w hS => ?_)
          exact ⟨_, _, rfl, ⟨_, _, dec_r1 hn hz _ (by omega), dec_r2 hn hz _ (by omega) hO72⟩, hS.sublist (.cons _ (.cons _ (.cons _ (.cons _ (.cons _ (.cons _ (.cons _ (.cons _ (.cons _ (.cons _ (.cons _ (List.sublist_append_left X72 []))))))))))))⟩
        · skip
          refine ala zr22 hS rfl rfl ?_
          intro b14 w hb14 hS
          refine ⟨fun _ => hS.tl, ?_⟩
          refine dl 3 rfl (by kernel_rfl) ?_
          refine cv cf71 hS rfl rfl rfl rfl rfl (sp_fast_Cipher_Encrypt (c) (_) (key) ((xorV (crO key nonce (n / 16)) (star key))) _ (hS.old hC List.not_mem_nil)) ?_
          intro w hS
          refine ⟨fun _ => hS.tl, ?_⟩
          refine dl 5 rfl (by kernel_rfl) ?_
          refine sa 0 ag22 hS rfl rfl rfl (BV_one _) rfl (BV_size _) (BV_size _) ?_
          intro w hS
          refine ⟨fun h => (by cases h), ?_⟩
          refine de (by kernel_rfl) ?_
          refine wq_then ?_
          refine rg ?_
          refine mv rfl rfl rfl ?_
          refine a_all Tryz.underlying22 ⟨_, sz5⟩ rfl rfl rfl ?_
          refine cs cf152 hS rfl rfl rfl rfl rfl (sp_bits_Xor ((sla a ((n / 16) * 16) cap)) ((n - ((n / 16) * 16))) ((cap - ((n / 16) * 16))) (((bs).drop ((n / 16) * 16))) ((some ⟨b14, 0, none⟩)) (16) (16) (((enc key (xorV (crO key nonce (n / 16)) (star key))).toList)) _ (by first | rfl | omega | (simp; omega) | (simp; done)) (by omega) ((hc.st hS).drop8 (lo := (n / 16) * 16) (cap := cap) (by first | omega | (simp; omega) | simp)) Vector.length_toList (by omega) (Cel.bv (hS.get 0 rfl))) ?_
          rintro _ _ w ⟨q63, rfl, rfl⟩ hS
          refine asg rfl rfl rfl ?_
          refine wq_then ?_
          refine rg ?_
          refine mv rfl rfl rfl ?_
          refine cv cf146 hS rfl rfl rfl rfl rfl (sp_block_Pad ((some ⟨q63, 0, none⟩)) ((min (n - ((n / 16) * 16)) 16)) ((min (n - ((n / 16) * 16)) 16)) ((xorb ((bs).drop ((n / 16) * 16)) ((enc key (xorV (crO key nonce (n / 16)) (star key))).toList))) _ (by rw [xorb_len]; (try simp) <;> omega) (by omega) (Cel.lb (l := xorb ((bs).drop ((n / 16) * 16)) ((enc key (xorV (crO key nonce (n / 16)) (star key))).toList)) (hS.get 0 rfl)) (by omega)) ?_
          intro w hS
          refine mv rfl rfl rfl ?_
          refine ext rfl rfl rfl rfl ?_
          refine ext rfl rfl rfl rfl ?_
          refine ala zr22 hS rfl rfl ?_
          intro b16 w hb16 hS
          refine sa 0 ag22 hS rfl rfl rfl (BV_one _) rfl (BV_size _) (BV_size _) ?_
          intro w hS
          refine asg rfl rfl rfl ?_
          refine wq_then ?_
          refine rg ?_
          refine lo 5 sc241 hS rfl rfl rfl rfl rfl ?_
          refine mv rfl rfl rfl ?_
          refine la 0 ag22 hS rfl rfl rfl rfl (BV_size _) ?_
          refine cl cf150 rfl rfl rfl rfl rfl (sp_open_Decrypt_1 (some ⟨q63, 0, none⟩) (min (n - ((n / 16) * 16)) 16) (min (n - ((n / 16) * 16)) 16) (xorb ((bs).drop ((n / 16) * 16)) ((enc key (xorV (crO key nonce (n / 16)) (star key))).toList)) (padV (xorb ((bs).drop ((n / 16) * 16)) ((enc key (xorV (crO key nonce (n / 16)) (star key))).toList))) (deC key nonce bs (n / 16)) _ _ _ _ s.1 ((n / 16) * 16) s.2.1 (deT key nonce bs (n / 16)) s.2.2 _ (by rw [xorb_len]; (try simp) <;> omega) (by omega) (Cel.lb (l := xorb ((bs).drop ((n / 16) * 16)) ((enc key (xorV (crO key nonce (n / 16)) (star key))).toList)) (hS.get 1 rfl)) (hS.get 8 rfl) (hS.get 7 rfl) hO (fun p hp => (hS.own p (by simp [hp])).2) (St.nd2 (A := [(b16, .cells (BV (padV (xorb ((bs).drop ((n / 16) * 16)) ((enc key (xorV (crO key nonce (n / 16)) (star key))).toList)))) 22), (q63, .cells (LB (xorb ((bs).drop ((n / 16) * 16)) ((enc key (xorV (crO key nonce (n / 16)) (star key))).toList))) 5), (b14, .cells (BV (enc key (xorV (crO key nonce (n / 16)) (star key)))) 22), (D, .deferred (some [])), (b23, .cells (#[(.slice a n cap)]) 30), (b9, .cells (#[.func (.func 150) #[] #[Ptr b6 0, Ptr b7 0]]) 241), (b8, .cells (BV (xorV (crO key nonce (n / 16)) (star key))) 22), (b7, .cells (BV (deC key nonce bs (n / 16))) 22), (b6, .cells (#[.slice s.1 ((n / 16) * 16) s.2.1]) 30), (b4, .cells (BV nonce) 173), (b3, .cells (#[Ptr t 0]) 77)]) (R := []) (i := 8) (j := 7) hS rfl rfl)) ?_
          rintro _ w ⟨a72, c72, X72, ⟨v72, rfl⟩, hO72, hS1⟩
          refine ⟨_, rfl, ?_⟩
          have hS : St w0 [] ([(b16, .cells (BV (padV (xorb ((bs).drop ((n / 16) * 16)) ((enc key (xorV (crO key nonce (n / 16)) (star key))).toList)))) 22), (q63, .cells (LB (xorb ((bs).drop ((n / 16) * 16)) ((enc key (xorV (crO key nonce (n / 16)) (star key))).toList))) 5), (b14, .cells (BV (enc key (xorV (crO key nonce (n / 16)) (star key)))) 22), (D, .deferred (some [])), (b23, .cells (#[(.slice a n cap)]) 30), (b9, .cells (#[.func (.func 150) #[] #[Ptr b6 0, Ptr b7 0]]) 241), (b8, .cells (BV (xorV (crO key nonce (n / 16)) (star key))) 22), (b7, .cells (BV (xorV (deC key nonce bs (n / 16)) (padV (xorb ((bs).drop ((n / 16) * 16)) ((enc key (xorV (crO key nonce (n / 16)) (star key))).toList))))) 22), (b6, .cells (#[.slice a72 (((n / 16) * 16) + (min (n - ((n / 16) * 16)) 16)) c72]) 30), (b4, .cells (BV nonce) 173), (b3, .cells (#[Ptr t 0]) 77)] ++ (X72 ++ [])) w := St.call_out2 (A := [(b16, .cells (BV (padV (xorb ((bs).drop ((n / 16) * 16)) ((enc key (xorV (crO key nonce (n / 16)) (star key))).toList)))) 22), (q63, .cells (LB (xorb ((bs).drop ((n / 16) * 16)) ((enc key (xorV (crO key nonce (n / 16)) (star key))).toList))) 5), (b14, .cells (BV (enc key (xorV (crO key nonce (n / 16)) (star key)))) 22), (D, .deferred (some [])), (b23, .cells (#[(.slice a n cap)]) 30), (b9, .cells (#[.func (.func 150) #[] #[Ptr b6 0, Ptr b7 0]]) 241), (b8, .cells (BV (xorV (crO key nonce (n / 16)) (star key))) 22), (b7, .cells (BV (deC key nonce bs (n / 16))) 22), (b6, .cells (#[.slice s.1 ((n / 16) * 16) s.2.1]) 30), (b4, .cells (BV nonce) 173), (b3, .cells (#[Ptr t 0]) 77)]) (A2 := [(b16, .cells (BV (padV (xorb ((bs).drop ((n / 16) * 16)) ((enc key (xorV (crO key nonce (n / 16)) (star key))).toList)))) 22), (q63, .cells (LB (xorb ((bs).drop ((n / 16) * 16)) ((enc key (xorV (crO key nonce (n / 16)) (star key))).toList))) 5), (b14, .cells (BV (enc key (xorV (crO key nonce (n / 16)) (star key)))) 22), (D, .deferred (some [])), (b23, .cells (#[(.slice a n cap)]) 30), (b9, .cells (#[.func (.func 150) #[] #[Ptr b6 0, Ptr b7 0]]) 241), (b8, .cells (BV (xorV (crO key nonce (n / 16)) (star key))) 22), (b7, .cells (BV (xorV (deC key nonce bs (n / 16)) (padV (xorb ((bs).drop ((n / 16) * 16)) ((enc key (xorV (crO key nonce (n / 16)) (star key))).toList))))) 22), (b6, .cells (#[.slice a72 (((n / 16) * 16) + (min (n - ((n / 16) * 16)) 16)) c72]) 30), (b4, .cells (BV nonce) 173), (b3, .cells (#[Ptr t 0]) 77)]) (i := 8) (j := 7) hS rfl rfl rfl rfl rfl hS1
          refine wq_then ?_
          refine rd mo 5 (fun w => St w0 [] ([(b16, .cells (BV (padV (xorb ((bs).drop ((n / 16) * 16)) ((enc key (xorV (crO key nonce (n / 16)) (star key))).toList)))) 22), (q63, .cells (LB (xorb ((bs).drop ((n / 16) * 16)) ((enc key (xorV (crO key nonce (n / 16)) (star key))).toList))) 5), (b14, .cells (BV (enc key (xorV (crO key nonce (n / 16)) (star key)))) 22), (D, .deferred (some [])), (b23, .cells (#[(.slice a n cap)]) 30), (b9, .cells (#[.func (.func 150) #[] #[Ptr b6 0, Ptr b7 0]]) 241), (b8, .cells (BV (xorV (crO key nonce (n / 16)) (star key))) 22), (b7, .cells (BV (xorV (deC key nonce bs (n / 16)) (padV (xorb ((bs).drop ((n / 16) * 16)) ((enc key (xorV (crO key nonce (n / 16)) (star key))).toList))))) 22), (b6, .cells (#[.slice a72 (((n / 16) * 16) + (min (n - ((n / 16) * 16)) 16)) c72]) 30), (b4, .cells (BV nonce) 173), (b3, .cells (#[Ptr t 0]) 77)] ++ (X72 ++ [])) w) ?_
          have hS := hS.drew
          refine dq 0 rfl (by kernel_rfl) (by kernel_rfl) (by kernel_rfl) rfl rfl (fun w hS => lo 8 sc30 hS rfl rfl rfl rfl rfl ⟨rfl, rfl⟩) hS ?_
          refine dq 1 rfl (by kernel_rfl) (by kernel_rfl) (by kernel_rfl) rfl rfl (fun w hS => la 7 ag22 hS rfl rfl rfl rfl (BV_size _) ⟨rfl, rfl⟩) hS ?_
          refine dq 2 rfl (by kernel_rfl) (by kernel_rfl) (by kernel_rfl) rfl rfl (fun w hS => la 6 ag22 hS rfl rfl rfl rfl (BV_size _) ⟨rfl, rfl⟩) hS ?_
          refine dl 3 rfl (by kernel_rfl) ?_
          refine st 8 sz30 hS rfl rfl rfl rfl rfl rfl Nat.zero_lt_one rfl ?_
          intro w hS
          refine ⟨fun _ => hS, ?_⟩
          refine dl 4 rfl (by kernel_rfl) ?_
          refine sa 7 ag22 hS rfl rfl rfl (BV_one _) rfl (BV_size _) (BV_size _) ?_
          intro w hS
          refine ⟨fun _ => hS, ?_⟩
          refine dl 5 rfl (by kernel_rfl) ?_
          refine sa 6 ag22 hS rfl rfl rfl (BV_one _) rfl (BV_size _) (BV_size _) ?_
          intro w hS
          refine ⟨fun h => (by cases h), ?_⟩
          refine de (by kernel_rfl) ?_
          refine wq_then ?_
          refine wc_ret ?_
          refine finM3 (v := .slice a72 (((n / 16) * 16) + (min (n - ((n / 16) * 16)) 16)) c72) (u := .agg (BV (xorV (deC key nonce bs (n / 16)) (padV (xorb ((bs).drop ((n / 16) * 16)) ((enc key (xorV (crO key nonce (n / 16)) (star key))).toList)))))) (x := .agg (BV (xorV (crO key nonce (n / 16)) (star key)))) 3 hS rfl rfl rfl (fun w hS => ⟨_, rfl, lv_c sc30 (hS.get 8 rfl) rfl⟩) (fun w hS => ⟨_, rfl, lv_a ag22 (hS.get 7 rfl) (BV_size _)⟩) (fun w hS => ⟨_, rfl, lv_a ag22 (hS.get 6 rfl) (BV_size _)⟩) (fun w hS => ?_)
          exact ⟨_, _, rfl, ⟨_, _, dec_r1 hn hz _ (by omega), dec_r2 hn hz _ (by omega) hO72⟩, hS.sublist (.cons _ (.cons _ (.cons _ (.cons _ (.cons _ (.cons _ (.cons _ (.cons _ (.cons _ (.cons _ (.cons _ (List.sublist_append_left X72 []))))))))))))⟩
      · skip
        refine ala zr22 hS rfl rfl ?_
        intro b14 w hb14 hS
        refine ⟨fun _ => hS.tl, ?_⟩
        refine dl 1 rfl (by kernel_rfl) ?_
        refine cv cf144 hS rfl rfl rfl rfl rfl (sp_table_Table_Cipher (t) (c) (key) _ (hT.st hS)) ?_
        intro w hS
        refine ⟨fun _ => hS.tl, ?_⟩
        refine dl 3 rfl (by kernel_rfl) ?_
        refine cv cf71 hS rfl rfl rfl rfl rfl (sp_fast_Cipher_Encrypt (c) (_) (key) ((xorV (crO key nonce (n / 16)) (star key))) _ (hS.old hC List.not_mem_nil)) ?_
        intro w hS
        refine ⟨fun _ => hS.tl, ?_⟩
        refine dl 5 rfl (by kernel_rfl) ?_
        refine sa 0 ag22 hS rfl rfl rfl (BV_one _) rfl (BV_size _) (BV_size _) ?_
        intro w hS
        refine ⟨fun h => (by cases h), ?_⟩
        refine de (by kernel_rfl) ?_
        refine wq_then ?_
        refine rg ?_
        refine mv rfl rfl rfl ?_
        refine a_all Tryz.underlying22 ⟨_, sz5⟩ rfl rfl rfl ?_
        refine cs cf152 hS rfl rfl rfl rfl rfl (sp_bits_Xor ((sla a ((n / 16) * 16) cap)) ((n - ((n / 16) * 16))) ((cap - ((n / 16) * 16))) (((bs).drop ((n / 16) * 16))) ((some ⟨b14, 0, none⟩)) (16) (16) (((enc key (xorV (crO key nonce (n / 16)) (star key))).toList)) _ (by first | rfl | omega | (simp; omega) | (simp; done)) (by omega) ((hc.st hS).drop8 (lo := (n / 16) * 16) (cap := cap) (by first | omega | (simp; omega) | simp)) Vector.length_toList (by omega) (Cel.bv (hS.get 0 rfl))) ?_
        rintro _ _ w ⟨q63, rfl, rfl⟩ hS
        refine asg rfl rfl rfl ?_
        refine wq_then ?_
        refine rg ?_
        refine mv rfl rfl rfl ?_
        refine cv cf146 hS rfl rfl rfl rfl rfl (sp_block_Pad ((some ⟨q63, 0, none⟩)) ((min (n - ((n / 16) * 16)) 16)) ((min (n - ((n / 16) * 16)) 16)) ((xorb ((bs).drop ((n / 16) * 16)) ((enc key (xorV (crO key nonce (n / 16)) (star key))).toList))) _ (by rw [xorb_len]; (try simp) <;> omega) (by omega) (Cel.lb (l := xorb ((bs).drop ((n / 16) * 16)) ((enc key (xorV (crO key nonce (n / 16)) (star key))).toList)) (hS.get 0 rfl)) (by omega)) ?_
        intro w hS
        refine mv rfl rfl rfl ?_
        refine ext rfl rfl rfl rfl ?_
        refine ext rfl rfl rfl rfl ?_
        refine ala zr22 hS rfl rfl ?_
        intro b16 w hb16 hS
        refine sa 0 ag22 hS rfl rfl rfl (BV_one _) rfl (BV_size _) (BV_size _) ?_
        intro w hS
        refine asg rfl rfl rfl ?_
        refine wq_then ?_
        refine rg ?_
        refine lo 5 sc241 hS rfl rfl rfl rfl rfl ?_
        refine mv rfl rfl rfl ?_
        refine la 0 ag22 hS rfl rfl rfl rfl (BV_size _) ?_
        refine cl cf150 rfl rfl rfl rfl rfl (sp_open_Decrypt_1 (some ⟨q63, 0, none⟩) (min (n - ((n / 16) * 16)) 16) (min (n - ((n / 16) * 16)) 16) (xorb ((bs).drop ((n / 16) * 16)) ((enc key (xorV (crO key nonce (n / 16)) (star key))).toList)) (padV (xorb ((bs).drop ((n / 16) * 16)) ((enc key (xorV (crO key nonce (n / 16)) (star key))).toList))) (deC key nonce bs (n / 16)) _ _ _ _ s.1 ((n / 16) * 16) s.2.1 (deT key nonce bs (n / 16)) s.2.2 _ (by rw [xorb_len]; (try simp) <;> omega) (by omega) (Cel.lb (l := xorb ((bs).drop ((n / 16) * 16)) ((enc key (xorV (crO key nonce (n / 16)) (star key))).toList)) (hS.get 1 rfl)) (hS.get 8 rfl) (hS.get 7 rfl) hO (fun p hp => (hS.own p (by simp [hp])).2) (St.nd2 (A := [(b16, .cells (BV (padV (xorb ((bs).drop ((n / 16) * 16)) ((enc key (xorV (crO key nonce (n / 16)) (star key))).toList)))) 22), (q63, .cells (LB (xorb ((bs).drop ((n / 16) * 16)) ((enc key (xorV (crO key nonce (n / 16)) (star key))).toList))) 5), (b14, .cells (BV (enc key (xorV (crO key nonce (n / 16)) (star key)))) 22), (D, .deferred (some [])), (b23, .cells (#[(.slice a n cap)]) 30), (b9, .cells (#[.func (.func 150) #[] #[Ptr b6 0, Ptr b7 0]]) 241), (b8, .cells (BV (xorV (crO key nonce (n / 16)) (star key))) 22), (b7, .cells (BV (deC key nonce bs (n / 16))) 22), (b6, .cells (#[.slice s.1 ((n / 16) * 16) s.2.1]) 30), (b4, .cells (BV nonce) 173), (b3, .cells (#[Ptr t 0]) 77)]) (R := []) (i := 8) (j := 7) hS rfl rfl)) ?_
        rintro _ w ⟨a72, c72, X72, ⟨v72, rfl⟩, hO72, hS1⟩
        refine ⟨_, rfl, ?_⟩
        have hS : St w0 [] ([(b16, .cells (BV (padV (xorb ((bs).drop ((n / 16) * 16)) ((enc key (xorV (crO key nonce (n / 16)) (star key))).toList)))) 22), (q63, .cells (LB (xorb ((bs).drop ((n / 16) * 16)) ((enc key (xorV (crO key nonce (n / 16)) (star key))).toList))) 5), (b14, .cells (BV (enc key (xorV (crO key nonce (n / 16)) (star key)))) 22), (D, .deferred (some [])), (b23, .cells (#[(.slice a n cap)]) 30), (b9, .cells (#[.func (.func 150) #[] #[Ptr b6 0, Ptr b7 0]]) 241), (b8, .cells (BV (xorV (crO key nonce (n / 16)) (star key))) 22), (b7, .cells (BV (xorV (deC key nonce bs (n / 16)) (padV (xorb ((bs).drop ((n / 16) * 16)) ((enc key (xorV (crO key nonce (n / 16)) (star key))).toList))))) 22), (b6, .cells (#[.slice a72 (((n / 16) * 16) + (min (n - ((n / 16) * 16)) 16)) c72]) 30), (b4, .cells (BV nonce) 173), (b3, .cells (#[Ptr t 0]) 77)] ++ (X72 ++ [])) w := St.call_out2 (A := [(b16, .cells (BV (padV (xorb ((bs).drop ((n / 16) * 16)) ((enc key (xorV (crO key nonce (n / 16)) (star key))).toList)))) 22), (q63, .cells (LB (xorb ((bs).drop ((n / 16) * 16)) ((enc key (xorV (crO key nonce (n / 16)) (star key))).toList))) 5), (b14, .cells (BV (enc key (xorV (crO key nonce (n / 16)) (star key)))) 22), (D, .deferred (some [])), (b23, .cells (#[(.slice a n cap)]) 30), (b9, .cells (#[.func (.func 150) #[] #[Ptr b6 0, Ptr b7 0]]) 241), (b8, .cells (BV (xorV (crO key nonce (n / 16)) (star key))) 22), (b7, .cells (BV (deC key nonce bs (n / 16))) 22), (b6, .cells (#[.slice s.1 ((n / 16) * 16) s.2.1]) 30), (b4, .cells (BV nonce) 173), (b3, .cells (#[Ptr t 0]) 77)]) (A2 := [(b16, .cells (BV (padV (xorb ((bs).drop ((n / 16) * 16)) ((enc key (xorV (crO key nonce (n / 16)) (star key))).toList)))) 22), (q63, .cells (LB (xorb ((bs).drop ((n / 16) * 16)) ((enc key (xorV (crO key nonce (n / 16)) (star key))).toList))) 5), (b14, .cells (BV (enc key (xorV (crO key nonce (n / 16)) (star key)))) 22), (D, .deferred (some [])), (b23, .cells (#[(.slice a n cap)]) 30), (b9, .cells (#[.func (.func 150) #[] #[Ptr b6 0, Ptr b7 0]]) 241), (b8, .cells (BV (xorV (crO key nonce (n / 16)) (star key))) 22), (b7, .cells (BV (xorV (deC key nonce bs (n / 16)) (padV (xorb ((bs).drop ((n / 16) * 16)) ((enc key (xorV (crO key nonce (n / 16)) (star key))).toList))))) 22), (b6, .cells (#[.slice a72 (((n / 16) * 16) + (min (n - ((n / 16) * 16)) 16)) c72]) 30), (b4, .cells (BV nonce) 173), (b3, .cells (#[Ptr t 0]) 77)]) (i := 8) (j := 7) hS rfl rfl rfl rfl rfl hS1
        refine wq_then ?_
        refine rd mo 5 (fun w => St w0 [] ([(b16, .cells (BV (padV (xorb ((bs).drop ((n / 16) * 16)) ((enc key (xorV (crO key nonce (n / 16)) (star key))).toList)))) 22), (q63, .cells (LB (xorb ((bs).drop ((n / 16) * 16)) ((enc key (xorV (crO key nonce (n / 16)) (star key))).toList))) 5), (b14, .cells (BV (enc key (xorV (crO key nonce (n / 16)) (star key)))) 22), (D, .deferred (some [])), (b23, .cells (#[(.slice a n cap)]) 30), (b9, .cells (#[.func (.func 150) #[] #[Ptr b6 0, Ptr b7 0]]) 241), (b8, .cells (BV (xorV (crO key nonce (n / 16)) (star key))) 22), (b7, .cells (BV (xorV (deC key nonce bs (n / 16)) (padV (xorb ((bs).drop ((n / 16) * 16)) ((enc key (xorV (crO key nonce (n / 16)) (star key))).toList))))) 22), (b6, .cells (#[.slice a72 (((n / 16) * 16) + (min (n - ((n / 16) * 16)) 16)) c72]) 30), (b4, .cells (BV nonce) 173), (b3, .cells (#[Ptr t 0]) 77)] ++ (X72 ++ [])) w) ?_
        have hS := hS.drew
        refine dq 0 rfl (by kernel_rfl) (by kernel_rfl) (by kernel_rfl) rfl rfl (fun w hS => lo 8 sc30 hS rfl rfl rfl rfl rfl ⟨rfl, rfl⟩) hS ?_
        refine dq 1 rfl (by kernel_rfl) (by kernel_rfl) (by kernel_rfl) rfl rfl (fun w hS => la 7 ag22 hS rfl rfl rfl rfl (BV_size _) ⟨rfl, rfl⟩) hS ?_
        refine dq 2 rfl (by kernel_rfl) (by kernel_rfl) (by kernel_rfl) rfl rfl (fun w hS => la 6 ag22 hS rfl rfl rfl rfl (BV_size _) ⟨rfl, rfl⟩) hS ?_
        refine dl 3 rfl (by kernel_rfl) ?_
        refine st 8 sz30 hS rfl rfl rfl rfl rfl rfl Nat.zero_lt_one rfl ?_
        intro w hS
        refine ⟨fun _ => hS, ?_⟩
        refine dl 4 rfl (by kernel_rfl) ?_
        refine sa 7 ag22 hS rfl rfl rfl (BV_one _) rfl (BV_size _) (BV_size _) ?_
        intro w hS
        refine ⟨fun _ => hS, ?_⟩
        refine dl 5 rfl (by kernel_rfl) ?_
        refine sa 6 ag22 hS rfl rfl rfl (BV_one _) rfl (BV_size _) (BV_size _) ?_
        intro w hS
        refine ⟨fun h => (by cases h), ?_⟩
        refine de (by kernel_rfl) ?_
        refine wq_then ?_
        refine wc_ret ?_
        refine finM3 (v := .slice a72 (((n / 16) * 16) + (min (n - ((n / 16) * 16)) 16)) c72) (u := .agg (BV (xorV (deC key nonce bs (n / 16)) (padV (xorb ((bs).drop ((n / 16) * 16)) ((enc key (xorV (crO key nonce (n / 16)) (star key))).toList)))))) (x := .agg (BV (xorV (crO key nonce (n / 16)) (star key)))) 3 hS rfl rfl rfl (fun w hS => ⟨_, rfl, lv_c sc30 (hS.get 8 rfl) rfl⟩) (fun w hS => ⟨_, rfl, lv_a ag22 (hS.get 7 rfl) (BV_size _)⟩) (fun w hS => ⟨_, rfl, lv_a ag22 (hS.get 6 rfl) (BV_size _)⟩) (fun w hS => ?_)
        exact ⟨_, _, rfl, ⟨_, _, dec_r1 hn hz _ (by omega), dec_r2 hn hz _ (by omega) hO72⟩, hS.sublist (.cons _ (.cons _ (.cons _ (.cons _ (.cons _ (.cons _ (.cons _ (.cons _ (.cons _ (.cons _ (.cons _ (List.sublist_append_left X72 []))))))))))))⟩
end Go.Proofs.XS

/- walks -/
namespace Go.Proofs.XS
open Go Go.X Go.Proofs
set_option maxRecDepth 100000 in
theorem sp_open_Open (t c : Nat) (key : V8 16) (nonce : V8 12) (a : Option Addr) (n cap : Nat) (bs : List UInt8) (a2 : Option Addr) (n2 cap2 : Nat) (bs2 : List UInt8) (w0 : World) (hT : TabAt w0 t c key) (hn : bs.length = n) (hN : n ≤ 1000000) (hc : Cel w0 a (c8 bs)) (hcap : n ≤ cap) (hn2 : bs2.length = n2) (hN2 : n2 ≤ 1000000) (he2 : Cel w0 a2 (c8 bs2)) (hcap2 : n2 ≤ cap2) (hG : Gl 1 w0) : Calls Tryz.prog 90 #[Ptr t 0, .agg (BV nonce), .slice a2 n2 cap2, .slice a n cap] w0 (RetS w0 (fun v X => ∃ a' n' c', v = .tuple #[.slice a' n' c', errV 33 (opnE key nonce bs2 bs)] ∧ Own 1 a' n' c' (c8 (if opnE key nonce bs2 bs = 0 then opnT key nonce bs else [])) X)) := by
  refine enter (args := [Ptr t 0, .agg (BV nonce), .slice a2 n2 cap2, .slice a n cap]) Tryz.func90 rfl rfl ?_
  refine startw fun w hS => ?_
  obtain ⟨⟨T, hT1⟩, E, hC⟩ := id hT
  refine rg ?_
  refine bxa hS rfl rfl rfl ?_
  intro b5 w hb5 hS
  refine asg rfl rfl rfl ?_
  refine asg rfl rfl rfl ?_
  refine wq_then ?_
  refine rg ?_
  refine mv rfl rfl rfl ?_
  refine lens Tryz.underlying30 rfl rfl rfl ?_
  refine subi (by omega) (by omega) rfl rfl rfl rfl ?_
  refine asg rfl rfl rfl ?_
  refine wq_then ?_
  refine wc_seq ?_
  refine rg ?_
  refine mv rfl rfl rfl ?_
  refine lss rfl rfl rfl rfl ?_
  refine wq_then ?_
  refine wc_if rfl (fun hc1 => ?_) (fun hc1 => ?_)
  · skip
    try simp only [SB] at hc1
    refine rg ?_
    refine mki cc33 rfl rfl rfl ?_
    refine asg rfl rfl rfl ?_
    refine asg rfl rfl rfl ?_
    refine wq_then ?_
    refine wc_ret ?_
    refine q_then_ret ?_
    refine fin2 (v := (.slice none 0 0)) (u := (.iface 33 (I (1)))) rfl rfl rfl ?_
    have he : opnE key nonce bs2 bs = 1 := opnE_s hn (by omega)
    exact ⟨_, [], rfl, ⟨none, 0, 0, opn_e (by decide) he, opn_o (by decide) he⟩, hS.drop⟩
  · skip
    try simp only [SB] at hc1
    refine wc_skip ?_
    refine wq_then ?_
    refine sqj (fun l w => ∃ (a27 : Option Addr) (c27 : Nat) (X27 : List (Nat × Obj)) (b12 : Nat) (b13 : Nat), (Own 1 a27 ((n - 16)) c27 (c8 (decT key nonce ((bs).take (n - 16)))) X27) ∧ l = [(0, Ptr t 0), (2, .slice a2 n2 cap2), (3, .slice a n cap), (8, (.slice none 0 0)), (9, .nilIface), (10, I (((n : Nat) : Int) - 16)), (11, .slice a27 (n - 16) c27), (12, Ptr b12 0), (13, Ptr b13 0)] ∧ St w0 [] ([(b13, .cells (BV (cryO key nonce (n - 16))) 22), (b12, .cells (BV (decC key nonce ((bs).take (n - 16)))) 22), (b5, .cells (BV nonce) 173)] ++ (X27 ++ [])) w) ?_ ?_
    · skip
      refine wc_draw mo 14 (fun w => St w0 [] [(b5, .cells (BV nonce) 173)] w) ?_
      have hS := hS.drew
      refine dq 0 rfl (by kernel_rfl) (by kernel_rfl) (by kernel_rfl) rfl rfl (fun w hS => mv rfl rfl rfl ⟨rfl, rfl⟩) hS ?_
      refine dq 1 rfl (by kernel_rfl) (by kernel_rfl) (by kernel_rfl) rfl rfl (fun w hS => la 0 ag173 hS rfl rfl rfl rfl (BV_size _) ⟨rfl, rfl⟩) hS ?_
      refine dq 2 rfl (by kernel_rfl) (by kernel_rfl) (by kernel_rfl) rfl rfl (fun w hS => mv rfl rfl rfl ⟨rfl, rfl⟩) hS ?_
      refine dq 3 rfl (by kernel_rfl) (by kernel_rfl) (by kernel_rfl) rfl rfl (fun w hS => mv rfl rfl rfl ⟨rfl, rfl⟩) hS ?_
      refine dq 4 rfl (by kernel_rfl) (by kernel_rfl) (by kernel_rfl) rfl rfl (fun w hS => s_h ((n - 16)) Tryz.underlying30 ⟨_, sz5⟩ rfl rfl rfl rfl (by omega) (by omega) ⟨rfl, rfl⟩) hS ?_
      refine dl3 5 10 11 rfl rfl rfl (by kernel_rfl) ?_ ?_ ?_
      · skip
        refine cs cf121 hS rfl rfl rfl rfl rfl (sp_open_Decrypt (t) (c) (key) (nonce) (a) ((n - 16)) (cap) (((bs).take (n - 16))) _ (hT.st hS) (by first | rfl | omega | (simp; omega) | (simp; done)) (by omega) ((hc.st hS).take8 (n - 16)) (by omega) (hG.st hS)) ?_
        rintro _ X27 w ⟨a27, c27, rfl, hO27⟩ hS
        have hS := St.tailin (X := X27) hS [(b5, .cells (BV nonce) 173)] [] rfl
        refine ⟨fun _ => (St.untail (A := [(b5, .cells (BV nonce) 173)]) (X := X27) (R := []) hS), ?_⟩
        refine dq 6 rfl (by kernel_rfl) (by kernel_rfl) (by kernel_rfl) rfl rfl (fun w hS => mv rfl rfl rfl ⟨rfl, rfl⟩) (St.untail (A := [(b5, .cells (BV nonce) 173)]) (X := X27) (R := []) hS) ?_
        refine dq 7 rfl (by kernel_rfl) (by kernel_rfl) (by kernel_rfl) rfl rfl (fun w hS => ext rfl rfl rfl rfl ⟨rfl, rfl⟩) (St.untail (A := [(b5, .cells (BV nonce) 173)]) (X := X27) (R := []) hS) ?_
        refine dq 8 rfl (by kernel_rfl) (by kernel_rfl) (by kernel_rfl) rfl rfl (fun w hS => ext rfl rfl rfl rfl ⟨rfl, rfl⟩) (St.untail (A := [(b5, .cells (BV nonce) 173)]) (X := X27) (R := []) hS) ?_
        refine dq 9 rfl (by kernel_rfl) (by kernel_rfl) (by kernel_rfl) rfl rfl (fun w hS => ext rfl rfl rfl rfl ⟨rfl, rfl⟩) (St.untail (A := [(b5, .cells (BV nonce) 173)]) (X := X27) (R := []) hS) ?_
        refine dl2 10 11 rfl rfl (by kernel_rfl) ?_ ?_
        · skip
          refine ala zr22 hS rfl rfl ?_
          intro b12 w hb12 hS
          refine ⟨fun _ => (St.untail (A := [(b12, .cells (BV (Vector.replicate 16 0)) 22), (b5, .cells (BV nonce) 173)]) (X := X27) (R := []) hS).tl, ?_⟩
          refine dl 11 rfl (by kernel_rfl) ?_
          refine ala zr22 hS rfl rfl ?_
          intro b13 w hb13 hS
          refine ⟨fun _ => (St.untail (A := [(b13, .cells (BV (Vector.replicate 16 0)) 22), (b12, .cells (BV (Vector.replicate 16 0)) 22), (b5, .cells (BV nonce) 173)]) (X := X27) (R := []) hS).tl.tl, ?_⟩
          refine dq 12 rfl (by kernel_rfl) (by kernel_rfl) (by kernel_rfl) rfl rfl (fun w hS => asg rfl rfl rfl ⟨rfl, rfl⟩) (St.untail (A := [(b13, .cells (BV (Vector.replicate 16 0)) 22), (b12, .cells (BV (Vector.replicate 16 0)) 22), (b5, .cells (BV nonce) 173)]) (X := X27) (R := []) hS).tl.tl ?_
          refine dl 13 rfl (by kernel_rfl) ?_
          refine sa 1 ag22 hS rfl rfl rfl (BV_one _) rfl (BV_size _) (BV_size _) ?_
          intro w hS
          refine ⟨fun _ => (St.untail (A := [(b13, .cells (BV (Vector.replicate 16 0)) 22), (b12, .cells (BV (decC key nonce ((bs).take (n - 16)))) 22), (b5, .cells (BV nonce) 173)]) (X := X27) (R := []) hS).tl.tl, ?_⟩
          refine dl 14 rfl (by kernel_rfl) ?_
          refine sa 0 ag22 hS rfl rfl rfl (BV_one _) rfl (BV_size _) (BV_size _) ?_
          intro w hS
          refine ⟨fun h => (by cases h), ?_⟩
          refine de (by kernel_rfl) ?_
          exact mmq ⟨a27, c27, X27, b12, b13, hO27, rfl, hS⟩ ⟨rfl, rfl, rfl, rfl, rfl, rfl, rfl, rfl, rfl, trivial⟩
        · skip
          refine ala zr22 hS rfl rfl ?_
          intro b13 w hb13 hS
          refine ⟨fun _ => (St.untail (A := [(b13, .cells (BV (Vector.replicate 16 0)) 22), (b5, .cells (BV nonce) 173)]) (X := X27) (R := []) hS).tl, ?_⟩
          refine dl 10 rfl (by kernel_rfl) ?_
          refine ala zr22 hS rfl rfl ?_
          intro b12 w hb12 hS
          refine ⟨fun _ => (St.untail (A := [(b12, .cells (BV (Vector.replicate 16 0)) 22), (b13, .cells (BV (Vector.replicate 16 0)) 22), (b5, .cells (BV nonce) 173)]) (X := X27) (R := []) hS).tl.tl, ?_⟩
          refine dq 12 rfl (by kernel_rfl) (by kernel_rfl) (by kernel_rfl) rfl rfl (fun w hS => asg rfl rfl rfl ⟨rfl, rfl⟩) (St.untail (A := [(b12, .cells (BV (Vector.replicate 16 0)) 22), (b13, .cells (BV (Vector.replicate 16 0)) 22), (b5, .cells (BV nonce) 173)]) (X := X27) (R := []) hS).tl.tl ?_
          refine dl 13 rfl (by kernel_rfl) ?_
          refine sa 0 ag22 hS rfl rfl rfl (BV_one _) rfl (BV_size _) (BV_size _) ?_
          intro w hS
          refine ⟨fun _ => (St.untail (A := [(b12, .cells (BV (decC key nonce ((bs).take (n - 16)))) 22), (b13, .cells (BV (Vector.replicate 16 0)) 22), (b5, .cells (BV nonce) 173)]) (X := X27) (R := []) hS).tl.tl, ?_⟩
          refine dl 14 rfl (by kernel_rfl) ?_
          refine sa 1 ag22 hS rfl rfl rfl (BV_one _) rfl (BV_size _) (BV_size _) ?_
          intro w hS
          refine ⟨fun h => (by cases h), ?_⟩
          refine de (by kernel_rfl) ?_
          exact mmq ⟨a27, c27, X27, b12, b13, hO27, rfl, St.prm (A := [(b12, .cells (BV (decC key nonce ((bs).take (n - 16)))) 22), (b13, .cells (BV (cryO key nonce (n - 16))) 22), (b5, .cells (BV nonce) 173)]) (B := [(b13, .cells (BV (cryO key nonce (n - 16))) 22), (b12, .cells (BV (decC key nonce ((bs).take (n - 16)))) 22), (b5, .cells (BV nonce) 173)]) (R := (X27 ++ [])) hS [1, 0, 2] (by decide) rfl⟩ ⟨rfl, rfl, rfl, rfl, rfl, rfl, rfl, rfl, rfl, trivial⟩
      · skip
        refine ala zr22 hS rfl rfl ?_
        intro b12 w hb12 hS
        refine ⟨fun _ => hS.tl, ?_⟩
        refine dl2 5 11 rfl rfl (by kernel_rfl) ?_ ?_
        · skip
          refine cs cf121 hS rfl rfl rfl rfl rfl (sp_open_Decrypt (t) (c) (key) (nonce) (a) ((n - 16)) (cap) (((bs).take (n - 16))) _ (hT.st hS) (by first | rfl | omega | (simp; omega) | (simp; done)) (by omega) ((hc.st hS).take8 (n - 16)) (by omega) (hG.st hS)) ?_
          rintro _ X27 w ⟨a27, c27, rfl, hO27⟩ hS
          have hS := St.tailin (X := X27) hS [(b12, .cells (BV (Vector.replicate 16 0)) 22), (b5, .cells (BV nonce) 173)] [] rfl
          refine ⟨fun _ => (St.untail (A := [(b12, .cells (BV (Vector.replicate 16 0)) 22), (b5, .cells (BV nonce) 173)]) (X := X27) (R := []) hS).tl, ?_⟩
          refine dq 6 rfl (by kernel_rfl) (by kernel_rfl) (by kernel_rfl) rfl rfl (fun w hS => mv rfl rfl rfl ⟨rfl, rfl⟩) (St.untail (A := [(b12, .cells (BV (Vector.replicate 16 0)) 22), (b5, .cells (BV nonce) 173)]) (X := X27) (R := []) hS).tl ?_
          refine dq 7 rfl (by kernel_rfl) (by kernel_rfl) (by kernel_rfl) rfl rfl (fun w hS => ext rfl rfl rfl rfl ⟨rfl, rfl⟩) (St.untail (A := [(b12, .cells (BV (Vector.replicate 16 0)) 22), (b5, .cells (BV nonce) 173)]) (X := X27) (R := []) hS).tl ?_
          refine dq 8 rfl (by kernel_rfl) (by kernel_rfl) (by kernel_rfl) rfl rfl (fun w hS => ext rfl rfl rfl rfl ⟨rfl, rfl⟩) (St.untail (A := [(b12, .cells (BV (Vector.replicate 16 0)) 22), (b5, .cells (BV nonce) 173)]) (X := X27) (R := []) hS).tl ?_
          refine dq 9 rfl (by kernel_rfl) (by kernel_rfl) (by kernel_rfl) rfl rfl (fun w hS => ext rfl rfl rfl rfl ⟨rfl, rfl⟩) (St.untail (A := [(b12, .cells (BV (Vector.replicate 16 0)) 22), (b5, .cells (BV nonce) 173)]) (X := X27) (R := []) hS).tl ?_
          refine dl 11 rfl (by kernel_rfl) ?_
          refine ala zr22 hS rfl rfl ?_
          intro b13 w hb13 hS
          refine ⟨fun _ => (St.untail (A := [(b13, .cells (BV (Vector.replicate 16 0)) 22), (b12, .cells (BV (Vector.replicate 16 0)) 22), (b5, .cells (BV nonce) 173)]) (X := X27) (R := []) hS).tl.tl, ?_⟩
          refine dq 12 rfl (by kernel_rfl) (by kernel_rfl) (by kernel_rfl) rfl rfl (fun w hS => asg rfl rfl rfl ⟨rfl, rfl⟩) (St.untail (A := [(b13, .cells (BV (Vector.replicate 16 0)) 22), (b12, .cells (BV (Vector.replicate 16 0)) 22), (b5, .cells (BV nonce) 173)]) (X := X27) (R := []) hS).tl.tl ?_
          refine dl 13 rfl (by kernel_rfl) ?_
          refine sa 1 ag22 hS rfl rfl rfl (BV_one _) rfl (BV_size _) (BV_size _) ?_
          intro w hS
          refine ⟨fun _ => (St.untail (A := [(b13, .cells (BV (Vector.replicate 16 0)) 22), (b12, .cells (BV (decC key nonce ((bs).take (n - 16)))) 22), (b5, .cells (BV nonce) 173)]) (X := X27) (R := []) hS).tl.tl, ?_⟩
          refine dl 14 rfl (by kernel_rfl) ?_
          refine sa 0 ag22 hS rfl rfl rfl (BV_one _) rfl (BV_size _) (BV_size _) ?_
          intro w hS
          refine ⟨fun h => (by cases h), ?_⟩
          refine de (by kernel_rfl) ?_
          exact mmq ⟨a27, c27, X27, b12, b13, hO27, rfl, hS⟩ ⟨rfl, rfl, rfl, rfl, rfl, rfl, rfl, rfl, rfl, trivial⟩
        · skip
          refine ala zr22 hS rfl rfl ?_
          intro b13 w hb13 hS
          refine ⟨fun _ => hS.tl.tl, ?_⟩
          refine dl 5 rfl (by kernel_rfl) ?_
          refine cs cf121 hS rfl rfl rfl rfl rfl (sp_open_Decrypt (t) (c) (key) (nonce) (a) ((n - 16)) (cap) (((bs).take (n - 16))) _ (hT.st hS) (by first | rfl | omega | (simp; omega) | (simp; done)) (by omega) ((hc.st hS).take8 (n - 16)) (by omega) (hG.st hS)) ?_
          rintro _ X27 w ⟨a27, c27, rfl, hO27⟩ hS
          have hS := St.tailin (X := X27) hS [(b13, .cells (BV (Vector.replicate 16 0)) 22), (b12, .cells (BV (Vector.replicate 16 0)) 22), (b5, .cells (BV nonce) 173)] [] rfl
          refine ⟨fun _ => (St.untail (A := [(b13, .cells (BV (Vector.replicate 16 0)) 22), (b12, .cells (BV (Vector.replicate 16 0)) 22), (b5, .cells (BV nonce) 173)]) (X := X27) (R := []) hS).tl.tl, ?_⟩
          refine dq 6 rfl (by kernel_rfl) (by kernel_rfl) (by kernel_rfl) rfl rfl (fun w hS => mv rfl rfl rfl ⟨rfl, rfl⟩) (St.untail (A := [(b13, .cells (BV (Vector.replicate 16 0)) 22), (b12, .cells (BV (Vector.replicate 16 0)) 22), (b5, .cells (BV nonce) 173)]) (X := X27) (R := []) hS).tl.tl ?_
          refine dq 7 rfl (by kernel_rfl) (by kernel_rfl) (by kernel_rfl) rfl rfl (fun w hS => ext rfl rfl rfl rfl ⟨rfl, rfl⟩) (St.untail (A := [(b13, .cells (BV (Vector.replicate 16 0)) 22), (b12, .cells (BV (Vector.replicate 16 0)) 22), (b5, .cells (BV nonce) 173)]) (X := X27) (R := []) hS).tl.tl ?_
          refine dq 8 rfl (by kernel_rfl) (by kernel_rfl) (by kernel_rfl) rfl rfl (fun w hS => ext rfl rfl rfl rfl ⟨rfl, rfl⟩) (St.untail (A := [(b13, .cells (BV (Vector.replicate 16 0)) 22), (b12, .cells (BV (Vector.replicate 16 0)) 22), (b5, .cells (BV nonce) 173)]) (X := X27) (R := []) hS).tl.tl ?_
          refine dq 9 rfl (by kernel_rfl) (by kernel_rfl) (by kernel_rfl) rfl rfl (fun w hS => ext rfl rfl rfl rfl ⟨rfl, rfl⟩) (St.untail (A := [(b13, .cells (BV (Vector.replicate 16 0)) 22), (b12, .cells (BV (Vector.replicate 16 0)) 22), (b5, .cells (BV nonce) 173)]) (X := X27) (R := []) hS).tl.tl ?_
          refine dq 12 rfl (by kernel_rfl) (by kernel_rfl) (by kernel_rfl) rfl rfl (fun w hS => asg rfl rfl rfl ⟨rfl, rfl⟩) (St.untail (A := [(b13, .cells (BV (Vector.replicate 16 0)) 22), (b12, .cells (BV (Vector.replicate 16 0)) 22), (b5, .cells (BV nonce) 173)]) (X := X27) (R := []) hS).tl.tl ?_
          refine dl 13 rfl (by kernel_rfl) ?_
          refine sa 1 ag22 hS rfl rfl rfl (BV_one _) rfl (BV_size _) (BV_size _) ?_
          intro w hS
          refine ⟨fun _ => (St.untail (A := [(b13, .cells (BV (Vector.replicate 16 0)) 22), (b12, .cells (BV (decC key nonce ((bs).take (n - 16)))) 22), (b5, .cells (BV nonce) 173)]) (X := X27) (R := []) hS).tl.tl, ?_⟩
          refine dl 14 rfl (by kernel_rfl) ?_
          refine sa 0 ag22 hS rfl rfl rfl (BV_one _) rfl (BV_size _) (BV_size _) ?_
          intro w hS
          refine ⟨fun h => (by cases h), ?_⟩
          refine de (by kernel_rfl) ?_
          exact mmq ⟨a27, c27, X27, b12, b13, hO27, rfl, hS⟩ ⟨rfl, rfl, rfl, rfl, rfl, rfl, rfl, rfl, rfl, trivial⟩
      · skip
        refine ala zr22 hS rfl rfl ?_
        intro b13 w hb13 hS
        refine ⟨fun _ => hS.tl, ?_⟩
        refine dl2 5 10 rfl rfl (by kernel_rfl) ?_ ?_
        · skip
          refine cs cf121 hS rfl rfl rfl rfl rfl (sp_open_Decrypt (t) (c) (key) (nonce) (a) ((n - 16)) (cap) (((bs).take (n - 16))) _ (hT.st hS) (by first | rfl | omega | (simp; omega) | (simp; done)) (by omega) ((hc.st hS).take8 (n - 16)) (by omega) (hG.st hS)) ?_
          rintro _ X27 w ⟨a27, c27, rfl, hO27⟩ hS
          have hS := St.tailin (X := X27) hS [(b13, .cells (BV (Vector.replicate 16 0)) 22), (b5, .cells (BV nonce) 173)] [] rfl
          refine ⟨fun _ => (St.untail (A := [(b13, .cells (BV (Vector.replicate 16 0)) 22), (b5, .cells (BV nonce) 173)]) (X := X27) (R := []) hS).tl, ?_⟩
          refine dq 6 rfl (by kernel_rfl) (by kernel_rfl) (by kernel_rfl) rfl rfl (fun w hS => mv rfl rfl rfl ⟨rfl, rfl⟩) (St.untail (A := [(b13, .cells (BV (Vector.replicate 16 0)) 22), (b5, .cells (BV nonce) 173)]) (X := X27) (R := []) hS).tl ?_
          refine dq 7 rfl (by kernel_rfl) (by kernel_rfl) (by kernel_rfl) rfl rfl (fun w hS => ext rfl rfl rfl rfl ⟨rfl, rfl⟩) (St.untail (A := [(b13, .cells (BV (Vector.replicate 16 0)) 22), (b5, .cells (BV nonce) 173)]) (X := X27) (R := []) hS).tl ?_
          refine dq 8 rfl (by kernel_rfl) (by kernel_rfl) (by kernel_rfl) rfl rfl (fun w hS => ext rfl rfl rfl rfl ⟨rfl, rfl⟩) (St.untail (A := [(b13, .cells (BV (Vector.replicate 16 0)) 22), (b5, .cells (BV nonce) 173)]) (X := X27) (R := []) hS).tl ?_
          refine dq 9 rfl (by kernel_rfl) (by kernel_rfl) (by kernel_rfl) rfl rfl (fun w hS => ext rfl rfl rfl rfl ⟨rfl, rfl⟩) (St.untail (A := [(b13, .cells (BV (Vector.replicate 16 0)) 22), (b5, .cells (BV nonce) 173)]) (X := X27) (R := []) hS).tl ?_
          refine dl 10 rfl (by kernel_rfl) ?_
          refine ala zr22 hS rfl rfl ?_
          intro b12 w hb12 hS
          refine ⟨fun _ => (St.untail (A := [(b12, .cells (BV (Vector.replicate 16 0)) 22), (b13, .cells (BV (Vector.replicate 16 0)) 22), (b5, .cells (BV nonce) 173)]) (X := X27) (R := []) hS).tl.tl, ?_⟩
          refine dq 12 rfl (by kernel_rfl) (by kernel_rfl) (by kernel_rfl) rfl rfl (fun w hS => asg rfl rfl rfl ⟨rfl, rfl⟩) (St.untail (A := [(b12, .cells (BV (Vector.replicate 16 0)) 22), (b13, .cells (BV (Vector.replicate 16 0)) 22), (b5, .cells (BV nonce) 173)]) (X := X27) (R := []) hS).tl.tl ?_
          refine dl 13 rfl (by kernel_rfl) ?_
          refine sa 0 ag22 hS rfl rfl rfl (BV_one _) rfl (BV_size _) (BV_size _) ?_
          intro w hS
          refine ⟨fun _ => (St.untail (A := [(b12, .cells (BV (decC key nonce ((bs).take (n - 16)))) 22), (b13, .cells (BV (Vector.replicate 16 0)) 22), (b5, .cells (BV nonce) 173)]) (X := X27) (R := []) hS).tl.tl, ?_⟩
          refine dl 14 rfl (by kernel_rfl) ?_
          refine sa 1 ag22 hS rfl rfl rfl (BV_one _) rfl (BV_size _) (BV_size _) ?_
          intro w hS
          refine ⟨fun h => (by cases h), ?_⟩
          refine de (by kernel_rfl) ?_
          exact mmq ⟨a27, c27, X27, b12, b13, hO27, rfl, St.prm (A := [(b12, .cells (BV (decC key nonce ((bs).take (n - 16)))) 22), (b13, .cells (BV (cryO key nonce (n - 16))) 22), (b5, .cells (BV nonce) 173)]) (B := [(b13, .cells (BV (cryO key nonce (n - 16))) 22), (b12, .cells (BV (decC key nonce ((bs).take (n - 16)))) 22), (b5, .cells (BV nonce) 173)]) (R := (X27 ++ [])) hS [1, 0, 2] (by decide) rfl⟩ ⟨rfl, rfl, rfl, rfl, rfl, rfl, rfl, rfl, rfl, trivial⟩
        · skip
          refine ala zr22 hS rfl rfl ?_
          intro b12 w hb12 hS
          refine ⟨fun _ => hS.tl.tl, ?_⟩
          refine dl 5 rfl (by kernel_rfl) ?_
          refine cs cf121 hS rfl rfl rfl rfl rfl (sp_open_Decrypt (t) (c) (key) (nonce) (a) ((n - 16)) (cap) (((bs).take (n - 16))) _ (hT.st hS) (by first | rfl | omega | (simp; omega) | (simp; done)) (by omega) ((hc.st hS).take8 (n - 16)) (by omega) (hG.st hS)) ?_
          rintro _ X27 w ⟨a27, c27, rfl, hO27⟩ hS
          have hS := St.tailin (X := X27) hS [(b12, .cells (BV (Vector.replicate 16 0)) 22), (b13, .cells (BV (Vector.replicate 16 0)) 22), (b5, .cells (BV nonce) 173)] [] rfl
          refine ⟨fun _ => (St.untail (A := [(b12, .cells (BV (Vector.replicate 16 0)) 22), (b13, .cells (BV (Vector.replicate 16 0)) 22), (b5, .cells (BV nonce) 173)]) (X := X27) (R := []) hS).tl.tl, ?_⟩
          refine dq 6 rfl (by kernel_rfl) (by kernel_rfl) (by kernel_rfl) rfl rfl (fun w hS => mv rfl rfl rfl ⟨rfl, rfl⟩) (St.untail (A := [(b12, .cells (BV (Vector.replicate 16 0)) 22), (b13, .cells (BV (Vector.replicate 16 0)) 22), (b5, .cells (BV nonce) 173)]) (X := X27) (R := []) hS).tl.tl ?_
          refine dq 7 rfl (by kernel_rfl) (by kernel_rfl) (by kernel_rfl) rfl rfl (fun w hS => ext rfl rfl rfl rfl ⟨rfl, rfl⟩) (St.untail (A := [(b12, .cells (BV (Vector.replicate 16 0)) 22), (b13, .cells (BV (Vector.replicate 16 0)) 22), (b5, .cells (BV nonce) 173)]) (X := X27) (R := []) hS).tl.tl ?_
          refine dq 8 rfl (by kernel_rfl) (by kernel_rfl) (by kernel_rfl) rfl rfl (fun w hS => ext rfl rfl rfl rfl ⟨rfl, rfl⟩) (St.untail (A := [(b12, .cells (BV (Vector.replicate 16 0)) 22), (b13, .cells (BV (Vector.replicate 16 0)) 22), (b5, .cells (BV nonce) 173)]) (X := X27) (R := []) hS).tl.tl ?_
          refine dq 9 rfl (by kernel_rfl) (by kernel_rfl) (by kernel_rfl) rfl rfl (fun w hS => ext rfl rfl rfl rfl ⟨rfl, rfl⟩) (St.untail (A := [(b12, .cells (BV (Vector.replicate 16 0)) 22), (b13, .cells (BV (Vector.replicate 16 0)) 22), (b5, .cells (BV nonce) 173)]) (X := X27) (R := []) hS).tl.tl ?_
          refine dq 12 rfl (by kernel_rfl) (by kernel_rfl) (by kernel_rfl) rfl rfl (fun w hS => asg rfl rfl rfl ⟨rfl, rfl⟩) (St.untail (A := [(b12, .cells (BV (Vector.replicate 16 0)) 22), (b13, .cells (BV (Vector.replicate 16 0)) 22), (b5, .cells (BV nonce) 173)]) (X := X27) (R := []) hS).tl.tl ?_
          refine dl 13 rfl (by kernel_rfl) ?_
          refine sa 0 ag22 hS rfl rfl rfl (BV_one _) rfl (BV_size _) (BV_size _) ?_
          intro w hS
          refine ⟨fun _ => (St.untail (A := [(b12, .cells (BV (decC key nonce ((bs).take (n - 16)))) 22), (b13, .cells (BV (Vector.replicate 16 0)) 22), (b5, .cells (BV nonce) 173)]) (X := X27) (R := []) hS).tl.tl, ?_⟩
          refine dl 14 rfl (by kernel_rfl) ?_
          refine sa 1 ag22 hS rfl rfl rfl (BV_one _) rfl (BV_size _) (BV_size _) ?_
          intro w hS
          refine ⟨fun h => (by cases h), ?_⟩
          refine de (by kernel_rfl) ?_
          exact mmq ⟨a27, c27, X27, b12, b13, hO27, rfl, St.prm (A := [(b12, .cells (BV (decC key nonce ((bs).take (n - 16)))) 22), (b13, .cells (BV (cryO key nonce (n - 16))) 22), (b5, .cells (BV nonce) 173)]) (B := [(b13, .cells (BV (cryO key nonce (n - 16))) 22), (b12, .cells (BV (decC key nonce ((bs).take (n - 16)))) 22), (b5, .cells (BV nonce) 173)]) (R := (X27 ++ [])) hS [1, 0, 2] (by decide) rfl⟩ ⟨rfl, rfl, rfl, rfl, rfl, rfl, rfl, rfl, rfl, trivial⟩
    · rintro _ w ⟨a27, c27, X27, b12, b13, hO27, rfl, hS⟩
      refine rg ?_
      refine mv rfl rfl rfl ?_
      refine la 1 ag22 hS rfl rfl rfl rfl (BV_size _) ?_
      refine la 0 ag22 hS rfl rfl rfl rfl (BV_size _) ?_
      refine mv rfl rfl rfl ?_
      refine cv cf117 hS rfl rfl rfl rfl rfl (sp_seal_Tag (t) (c) (key) ((decC key nonce ((bs).take (n - 16)))) ((cryO key nonce (n - 16))) (a2) (n2) (cap2) (bs2) _ (hT.st hS) (by first | rfl | omega | (simp; omega) | (simp; done)) (by omega) (he2.st hS) (by omega) (hG.st hS)) ?_
      intro w hS
      refine ala zr22 hS rfl rfl ?_
      intro b14 w hb14 hS
      refine sa 0 ag22 hS rfl rfl rfl (BV_one _) rfl (BV_size _) (BV_size _) ?_
      intro w hS
      refine wq_then ?_
      refine wc_seq ?_
      refine rd mo 6 (fun w => St w0 [] ([(b14, .cells (BV (tagV key (decC key nonce ((bs).take (n - 16))) (cryO key nonce (n - 16)) bs2)) 22), (b13, .cells (BV (cryO key nonce (n - 16))) 22), (b12, .cells (BV (decC key nonce ((bs).take (n - 16)))) 22), (b5, .cells (BV nonce) 173)] ++ (X27 ++ [])) w) ?_
      have hS := hS.drew
      refine dq 0 rfl (by kernel_rfl) (by kernel_rfl) (by kernel_rfl) rfl rfl (fun w hS => a_all Tryz.underlying22 ⟨_, sz5⟩ rfl rfl rfl ⟨rfl, rfl⟩) hS ?_
      refine dq 1 rfl (by kernel_rfl) (by kernel_rfl) (by kernel_rfl) rfl rfl (fun w hS => mv rfl rfl rfl ⟨rfl, rfl⟩) hS ?_
      refine dq 2 rfl (by kernel_rfl) (by kernel_rfl) (by kernel_rfl) rfl rfl (fun w hS => mv rfl rfl rfl ⟨rfl, rfl⟩) hS ?_
      refine dq 3 rfl (by kernel_rfl) (by kernel_rfl) (by kernel_rfl) rfl rfl (fun w hS => s_l ((n - 16)) Tryz.underlying30 sz5 rfl rfl rfl rfl (by omega) (by omega) ⟨rfl, rfl⟩) hS ?_
      refine dl 4 rfl (by kernel_rfl) ?_
      refine cv cf122 hS rfl rfl rfl rfl rfl (sp_bits_Equal ((some ⟨b14, 0, none⟩)) (16) (16) (((tagV key (decC key nonce ((bs).take (n - 16))) (cryO key nonce (n - 16)) bs2).toList)) ((sla a (n - 16) cap)) ((n - (n - 16))) ((cap - (n - 16))) (((bs).drop (n - 16))) _ Vector.length_toList (by omega) (Cel.bv (hS.get 0 rfl)) (by first | rfl | omega | (simp; omega) | (simp; done)) (by omega) ((hc.st hS).drop8 (lo := (n - 16)) (cap := cap) (by first | omega | (simp; omega) | simp))) ?_
      intro w hS
      refine ⟨fun _ => hS, ?_⟩
      refine dq 5 rfl (by kernel_rfl) (by kernel_rfl) (by kernel_rfl) rfl rfl (fun w hS => notb rfl rfl rfl ⟨rfl, rfl⟩) hS ?_
      refine de (by kernel_rfl) ?_
      refine wq_then ?_
      refine wc_if rfl (fun hc2 => ?_) (fun hc2 => ?_)
      · skip
        try simp only [SB] at hc2
        have he0 := hc2
        refine rg ?_
        refine mki cc33 rfl rfl rfl ?_
        refine asg rfl rfl rfl ?_
        refine asg rfl rfl rfl ?_
        refine wq_then ?_
        refine wc_ret ?_
        refine q_then_ret ?_
        refine fin2 (v := (.slice none 0 0)) (u := (.iface 33 (I (3)))) rfl rfl rfl ?_
        have he : opnE key nonce bs2 bs = 3 := opnE_f hn (by omega) he0
        exact ⟨_, [], rfl, ⟨none, 0, 0, opn_e (by decide) he, opn_o (by decide) he⟩, hS.drop⟩
      · skip
        try simp only [SB] at hc2
        have he0 := hc2
        refine wc_skip ?_
        refine wq_then ?_
        refine rg ?_
        refine mv rfl rfl rfl ?_
        refine asg rfl rfl rfl ?_
        refine asg rfl rfl rfl ?_
        refine wq_then ?_
        refine wc_ret ?_
        refine fin2 (v := .slice a27 (n - 16) c27) (u := .nilIface) rfl rfl rfl ?_
        have he : opnE key nonce bs2 bs = 0 := opnE_t hn (by omega) he0
        exact ⟨_, X27, rfl, ⟨_, _, _, opn_e0 he, opn_o0 hn he hO27⟩, hS.sublist (.cons _ (.cons _ (.cons _ (.cons _ (List.sublist_append_left X27 [])))))⟩
end Go.Proofs.XS

/- walks -/
namespace Go.Proofs.XS
open Go Go.X Go.Proofs
set_option maxRecDepth 100000 in
theorem sp_packet_Decode (t c : Nat) (key : V8 16) (a : Option Addr) (n cap : Nat) (bs : List UInt8) (w0 : World) (hT : TabAt w0 t c key) (hn : bs.length = n) (hN : n ≤ 1000000) (hc : Cel w0 a (c8 bs)) (hcap : n ≤ cap) (hG : Gl 1 w0) : Calls Tryz.prog 50 #[Ptr t 0, .slice a n cap] w0 (RetS w0 (fun v X => DecR key bs 33 v X)) := by
  refine enter (args := [Ptr t 0, .slice a n cap]) Tryz.func50 rfl rfl ?_
  refine startw fun w hS => ?_
  obtain ⟨⟨T, hT1⟩, E, hC⟩ := id hT
  refine rg ?_
  refine ala zr100 hS rfl rfl ?_
  intro b4 w hb4 hS
  refine asg rfl rfl rfl ?_
  refine wq_then ?_
  refine wc_seq ?_
  refine rg ?_
  refine mv rfl rfl rfl ?_
  refine lens Tryz.underlying30 rfl rfl rfl ?_
  refine cv cf89 hS rfl rfl rfl rfl rfl (sp_packet_length (n) _ _ (by omega)) ?_
  intro w hS
  refine asg rfl rfl rfl ?_
  refine wq_then ?_
  refine rg ?_
  refine mv rfl rfl rfl ?_
  refine neE (C := 33) (c := (lng n)) Tryz.underlying27 rfl rfl rfl ?_
  refine wq_then ?_
  refine wc_if rfl (fun hc1 => ?_) (fun hc1 => ?_)
  · skip
    try simp only [SB] at hc1
    have hk : lng n ≠ 0 := by simpa using hc1
    have hq := dcdE_1 (key := key) hn hk
    refine rg ?_
    refine bd (cs := #[I (0), U64 (0), U16 (0), U16 (0), (.slice none 0 0)]) rfl rfl rfl (by kernel_rfl) ?_
    refine mv rfl rfl rfl ?_
    refine sa 0 ag100 hS rfl rfl rfl (by kernel_rfl) rfl rfl rfl ?_
    intro w hS
    refine asg rfl rfl rfl ?_
    refine wq_then ?_
    refine wc_ret ?_
    refine q_then_ret ?_
    refine fin2 (v := .agg (#[I (0), U64 (0), U16 (0), U16 (0), (.slice none 0 0)])) (u := (errV 33 (lng n))) rfl ⟨_, rfl, lv_a ag100 (hS.get 0 rfl) rfl⟩ rfl ?_
    have hj : dcdE key bs ≠ 0 := by rw [hq]; exact hk
    rw [← hq]
    exact ⟨_, [], rfl, dec_bad hj, hS.drop⟩
  · skip
    try simp only [SB] at hc1
    have hk : lng n = 0 := by simpa using hc1
    have hq := dcdE_2 (key := key) hn hk
    have h28 := lng_0 hk
    refine wc_skip ?_
    refine wq_then ?_
    refine rd mo 12 (fun w => St w0 [] [(b4, .cells (#[I (0), U64 (0), U16 (0), U16 (0), (.slice none 0 0)]) 100)] w) ?_
    have hS := hS.drew
    refine dq 0 rfl (by kernel_rfl) (by kernel_rfl) (by kernel_rfl) rfl rfl (fun w hS => mv rfl rfl rfl ⟨rfl, rfl⟩) hS ?_
    refine dq 1 rfl (by kernel_rfl) (by kernel_rfl) (by kernel_rfl) rfl rfl (fun w hS => mv rfl rfl rfl ⟨rfl, rfl⟩) hS ?_
    refine dq 2 rfl (by kernel_rfl) (by kernel_rfl) (by kernel_rfl) rfl rfl (fun w hS => s2b Tryz.underlying166 rfl rfl rfl (by omega) ((hc.st hS).some8 (j := 0) (by first | omega | (simp; omega) | simp)) ⟨rfl, rfl⟩) hS ?_
    refine dq 3 rfl (by kernel_rfl) (by kernel_rfl) (by kernel_rfl) rfl rfl (fun w hS => ld rfl rfl rfl (lv_celj 0 ag166 (hc.st hS) (by first | omega | (simp; done) | (simp; omega)) (by omega)) ⟨rfl, rfl⟩) hS ?_
    refine dq 5 rfl (by kernel_rfl) (by kernel_rfl) (by kernel_rfl) rfl rfl (fun w hS => mv rfl rfl rfl ⟨rfl, rfl⟩) hS ?_
    refine dq 6 rfl (by kernel_rfl) (by kernel_rfl) (by kernel_rfl) rfl rfl (fun w hS => s_l (8) Tryz.underlying30 sz5 rfl rfl rfl rfl (by omega) (by omega) ⟨rfl, rfl⟩) hS ?_
    refine dl 4 rfl (by kernel_rfl) ?_
    refine cv cf86 hS rfl rfl rfl rfl rfl (sp_nonce_Whole ((ofl 8 bs)) _) ?_
    intro w hS
    refine ⟨fun _ => hS, ?_⟩
    refine dl 7 rfl (by kernel_rfl) ?_
    refine cs cf90 hS rfl rfl rfl rfl rfl (sp_open_Open (t) (c) (key) ((nonceV (ofl 8 bs))) ((sla a 8 cap)) ((n - 8)) ((cap - 8)) (((bs).drop 8)) (none) (0) (0) (([])) _ (hT.st hS) (by first | rfl | omega | (simp; omega) | (simp; done)) (by omega) ((hc.st hS).drop8 (lo := 8) (cap := cap) (by first | omega | (simp; omega) | simp)) (by omega) rfl (by omega) (Cel.nil _ _) (by omega) (hG.st hS)) ?_
    rintro _ X28 w ⟨a28, n28, c28, rfl, hO28⟩ hS
    have hS := St.tailin (X := X28) hS [(b4, .cells (#[I (0), U64 (0), U16 (0), U16 (0), (.slice none 0 0)]) 100)] [] rfl
    refine ⟨fun _ => (St.untail (A := [(b4, .cells (#[I (0), U64 (0), U16 (0), U16 (0), (.slice none 0 0)]) 100)]) (X := X28) (R := []) hS), ?_⟩
    refine dq 8 rfl (by kernel_rfl) (by kernel_rfl) (by kernel_rfl) rfl rfl (fun w hS => mv rfl rfl rfl ⟨rfl, rfl⟩) (St.untail (A := [(b4, .cells (#[I (0), U64 (0), U16 (0), U16 (0), (.slice none 0 0)]) 100)]) (X := X28) (R := []) hS) ?_
    refine dq 9 rfl (by kernel_rfl) (by kernel_rfl) (by kernel_rfl) rfl rfl (fun w hS => ext rfl rfl rfl rfl ⟨rfl, rfl⟩) (St.untail (A := [(b4, .cells (#[I (0), U64 (0), U16 (0), U16 (0), (.slice none 0 0)]) 100)]) (X := X28) (R := []) hS) ?_
    refine dq 10 rfl (by kernel_rfl) (by kernel_rfl) (by kernel_rfl) rfl rfl (fun w hS => ext rfl rfl rfl rfl ⟨rfl, rfl⟩) (St.untail (A := [(b4, .cells (#[I (0), U64 (0), U16 (0), U16 (0), (.slice none 0 0)]) 100)]) (X := X28) (R := []) hS) ?_
    refine dq 11 rfl (by kernel_rfl) (by kernel_rfl) (by kernel_rfl) rfl rfl (fun w hS => asg rfl rfl rfl ⟨rfl, rfl⟩) (St.untail (A := [(b4, .cells (#[I (0), U64 (0), U16 (0), U16 (0), (.slice none 0 0)]) 100)]) (X := X28) (R := []) hS) ?_
    refine dl 12 rfl (by kernel_rfl) ?_
    refine asg rfl rfl rfl ?_
    refine ⟨fun h => (by cases h), ?_⟩
    refine de (by kernel_rfl) ?_
    refine wq_then ?_
    refine wc_seq ?_
    refine rg ?_
    refine mv rfl rfl rfl ?_
    refine neE (C := 33) (c := (opnE key (nonceV (ofl 8 bs)) ([]) ((bs).drop 8))) Tryz.underlying27 rfl rfl rfl ?_
    refine wq_then ?_
    refine wc_if rfl (fun hc2 => ?_) (fun hc2 => ?_)
    · skip
      try simp only [SB] at hc2
      have hj : dcdE key bs ≠ 0 := by rw [hq]; simpa using hc2
      refine rg ?_
      refine bd (cs := #[I (0), U64 (0), U16 (0), U16 (0), (.slice none 0 0)]) rfl rfl rfl (by kernel_rfl) ?_
      refine mv rfl rfl rfl ?_
      refine sa 0 ag100 hS rfl rfl rfl (by kernel_rfl) rfl rfl rfl ?_
      intro w hS
      refine asg rfl rfl rfl ?_
      refine wq_then ?_
      refine wc_ret ?_
      refine q_then_ret ?_
      refine fin2 (v := .agg (#[I (0), U64 (0), U16 (0), U16 (0), (.slice none 0 0)])) (u := (errV 33 (opnE key (nonceV (ofl 8 bs)) ([]) ((bs).drop 8)))) rfl ⟨_, rfl, lv_a ag100 (hS.get 0 rfl) rfl⟩ rfl ?_
      rw [← hq]
      exact ⟨_, [], rfl, dec_bad hj, hS.drop⟩
    · skip
      try simp only [SB] at hc2
      have hj : dcdE key bs = 0 := by rw [hq]; simpa using hc2
      rw [← hq, if_pos hj] at hO28
      have hO28 : Own 1 a28 n28 c28 (c8 (dcdX key bs)) X28 := hO28
      have hl28 := hO28.len8
      have hl29 := dcdX_len key bs
      have hl30 := hO28.le
      refine wc_skip ?_
      refine wq_then ?_
      refine rg ?_
      refine mv rfl rfl rfl ?_
      refine cv cf91 hS rfl rfl rfl rfl rfl (sp_nonce_ParseHead (a) (n) (cap) (bs) _ (by first | rfl | omega | (simp; omega) | (simp; done)) (by omega) (hc.st hS) (by omega) (by omega)) ?_
      intro w hS
      refine mv rfl rfl rfl ?_
      refine ext rfl rfl rfl rfl ?_
      refine ext rfl rfl rfl rfl ?_
      refine ext rfl rfl rfl rfl ?_
      refine asg rfl rfl rfl ?_
      refine asg rfl rfl rfl ?_
      refine asg rfl rfl rfl ?_
      refine wq_then ?_
      refine rg ?_
      refine mv rfl rfl rfl ?_
      refine s_h (4) Tryz.underlying30 ⟨_, sz5⟩ rfl rfl rfl rfl (by omega) (by omega) ?_
      refine cv cf92 hS rfl rfl rfl rfl rfl (sp_bits_Number (a28) (4) (c28) (((dcdX key bs).take 4)) _ (by first | rfl | omega | (simp; omega) | (simp; done)) (by omega) ((hO28.cel hS (fun p hp => by simp [hp])).take8 4) (by omega)) ?_
      intro w hS
      refine asg rfl rfl rfl ?_
      refine wq_then ?_
      refine rg ?_
      refine mv rfl rfl rfl ?_
      refine mv rfl rfl rfl ?_
      refine mv rfl rfl rfl ?_
      refine shrn64 (16) (by omega) rfl rfl rfl rfl ?_
      refine cvu16 Tryz.underlying36 ⟨_, Tryz.underlying24⟩ rfl rfl rfl ?_
      refine mv rfl rfl rfl ?_
      refine cvu16 Tryz.underlying36 ⟨_, Tryz.underlying24⟩ rfl rfl rfl ?_
      refine mv rfl rfl rfl ?_
      refine s_l (4) Tryz.underlying30 sz5 rfl rfl rfl rfl (by omega) (by omega) ?_
      refine bd (cs := #[I ((headD bs : Nat) : Int), U64 (headS bs), U16 (toU16 (((shr64 (number ((dcdX key bs).take 4)) 16).toNat : Int))), U16 (toU16 (((number ((dcdX key bs).take 4)).toNat : Int))), .slice (sla a28 4 c28) (n28 - 4) (c28 - 4)]) rfl rfl rfl (by kernel_rfl) ?_
      refine sa 0 ag100 hS rfl rfl rfl (by kernel_rfl) rfl rfl rfl ?_
      intro w hS
      refine asg rfl rfl rfl ?_
      refine wq_then ?_
      refine wc_ret ?_
      refine fin2 (v := .agg (#[I ((headD bs : Nat) : Int), U64 (headS bs), U16 (toU16 (((shr64 (number ((dcdX key bs).take 4)) 16).toNat : Int))), U16 (toU16 (((number ((dcdX key bs).take 4)).toNat : Int))), .slice (sla a28 4 c28) (n28 - 4) (c28 - 4)])) (u := .nilIface) rfl ⟨_, rfl, lv_a ag100 (hS.get 0 rfl) rfl⟩ rfl ?_
      exact ⟨_, X28, rfl, dec_ok hj (by omega) hl28 (by omega) hO28, hS.sublist (.cons _ (List.sublist_append_left X28 []))⟩
end Go.Proofs.XS

/- walks -/
namespace Go.Proofs.XS
open Go Go.X Go.Proofs
set_option maxRecDepth 100000 in
theorem sp_stamp_Diff (a b : UInt16) (w0 : World) : Calls Tryz.prog 94 #[U16 a, U16 b] w0 (Ret w0 (U16 (a - b))) := by
  refine enter (args := [U16 a, U16 b]) Tryz.func94 rfl rfl ?_
  refine startw fun w hS => ?_
  refine rg ?_
  refine asg rfl rfl rfl ?_
  refine wq_then ?_
  refine rg ?_
  refine mv rfl rfl rfl ?_
  refine mv rfl rfl rfl ?_
  refine sub16 rfl rfl rfl rfl ?_
  refine asg rfl rfl rfl ?_
  refine wq_then ?_
  refine wc_ret ?_
  refine fin1 (v := U16 (a - b)) rfl rfl ?_
  exact ⟨rfl, hS.drop⟩
end Go.Proofs.XS

/- walks -/
namespace Go.Proofs.XS
open Go Go.X Go.Proofs
set_option maxRecDepth 100000 in
theorem sp_stamp_Sample_1 (e : UInt16) (w0 : World) : Calls Tryz.prog 93 #[U16 e] w0 (Ret w0 (.bool (decide (e ≠ 65535)))) := by
  refine enter (args := [U16 e]) Tryz.func93 rfl rfl ?_
  refine startw fun w hS => ?_
  refine rg ?_
  refine asg rfl rfl rfl ?_
  refine wq_then ?_
  refine rg ?_
  refine mv rfl rfl rfl ?_
  refine nei rfl rfl rfl rfl ?_
  refine asg rfl rfl rfl ?_
  refine wq_then ?_
  refine wc_ret ?_
  refine fin1 (v := .bool ((((e).toNat : Int) : Int) != (65535 : Int))) rfl rfl ?_
  refine ⟨?_, hS.drop⟩
  rw [ne_u16]
end Go.Proofs.XS

/- walks -/
namespace Go.Proofs.XS
open Go Go.X Go.Proofs
set_option maxRecDepth 100000 in
theorem sp_stamp_Sample (now e : UInt16) (w0 : World) : Calls Tryz.prog 56 #[U16 now, U16 e] w0 (Ret w0 (.tuple #[U16 (smpV now e), .bool (decide (e ≠ 65535))])) := by
  refine enter (args := [U16 now, U16 e]) Tryz.func56 rfl rfl ?_
  refine startw fun w hS => ?_
  refine rg ?_
  refine asg rfl rfl rfl ?_
  refine asg rfl rfl rfl ?_
  refine wq_then ?_
  refine rg ?_
  refine asg rfl rfl rfl ?_
  refine wq_then ?_
  refine wc_seq ?_
  refine rg ?_
  refine mv rfl rfl rfl ?_
  refine mv rfl rfl rfl ?_
  refine cv cf93 hS rfl rfl rfl rfl rfl (sp_stamp_Sample_1 (e) _) ?_
  intro w hS
  refine notb rfl rfl rfl ?_
  refine wq_then ?_
  refine wc_if rfl (fun hc1 => ?_) (fun hc1 => ?_)
  · skip
    try simp only [SB] at hc1
    have he : e = 65535 := by simpa using hc1
    refine rg ?_
    refine asg rfl rfl rfl ?_
    refine asg rfl rfl rfl ?_
    refine wq_then ?_
    refine wc_ret ?_
    refine q_then_ret ?_
    refine fin2 (v := U16 (0)) (u := .bool (false)) rfl rfl rfl ?_
    refine ⟨?_, hS.drop⟩
    simp only [smpV, he, if_true, if_false, ne_eq, not_true_eq_false, not_false_eq_true, decide_true, decide_false]
  · skip
    try simp only [SB] at hc1
    have he : ¬ e = 65535 := by simpa using hc1
    refine wc_skip ?_
    refine wq_then ?_
    refine rg ?_
    refine mv rfl rfl rfl ?_
    refine mv rfl rfl rfl ?_
    refine cv cf94 hS rfl rfl rfl rfl rfl (sp_stamp_Diff (now) (e) _) ?_
    intro w hS
    refine asg rfl rfl rfl ?_
    refine asg rfl rfl rfl ?_
    refine wq_then ?_
    refine wc_ret ?_
    refine fin2 (v := U16 (now - e)) (u := .bool (true)) rfl rfl rfl ?_
    refine ⟨?_, hS.drop⟩
    simp only [smpV, he, if_true, if_false, ne_eq, not_true_eq_false, not_false_eq_true, decide_true, decide_false]
end Go.Proofs.XS

/- walks -/
namespace Go.Proofs.XS
open Go Go.X Go.Proofs
set_option maxRecDepth 100000 in
theorem sp_echo_Rtt_Add (s E : Nat) (v0 v1 v2 v3 v4 v5 v9 v10 : Value) (rl : UInt16) (rc : Nat) (re : UInt32) (x : UInt16) (w0 : World) (hs : w0.heap[s]? = some (.cells (#[v0, v1, v2, v3, v4, v5, U16 (rl), I ((rc : Int)), U32 (re), v9, v10]) E)) (hrc : rc < 1000000000) : Calls Tryz.prog 57 #[Ptr s 6, U16 x] w0 (RetM w0 [s] (fun v L' => L' = [(s, .cells #[v0, v1, v2, v3, v4, v5, U16 x, I ((rc + 1 : Nat) : Int), U32 (estN rc re x), v9, v10] E)])) := by
  refine enter (args := [Ptr s 6, U16 x]) Tryz.func57 rfl rfl ?_
  refine startx (F := [s]) (L := [(s, .cells (#[v0, v1, v2, v3, v4, v5, U16 (rl), I ((rc : Int)), U32 (re), v9, v10]) E)]) (St.starts (X := [(s, .cells (#[v0, v1, v2, v3, v4, v5, U16 (rl), I ((rc : Int)), U32 (re), v9, v10]) E)]) (fun p hp => by simp only [List.mem_cons, List.not_mem_nil, or_false] at hp; subst hp; exact hs) (by simp)) fun w hS => ?_
  refine wc_seq ?_
  refine rg ?_
  refine mv rfl rfl rfl ?_
  refine eqpn Tryz.underlying175 rfl rfl rfl rfl ?_
  refine wq_then ?_
  refine wc_if_f rfl ?_
  refine wc_skip ?_
  refine wq_then ?_
  refine rg ?_
  refine mv rfl rfl rfl ?_
  refine cvu32 Tryz.underlying72 ⟨_, Tryz.underlying36⟩ rfl rfl rfl ?_
  refine asg rfl rfl rfl ?_
  refine wq_then ?_
  refine wc_seq ?_
  refine rg ?_
  refine mv rfl rfl rfl ?_
  refine nilp rfl rfl rfl ?_
  refine fan (1) (7) Tryz.underlying88 rfl sz3 (by decide) rfl rfl rfl rfl (by omega) ?_
  refine lo 0 sc3 hS rfl rfl rfl rfl rfl ?_
  refine eqi rfl rfl rfl rfl ?_
  refine wq_then ?_
  refine wc_if rfl (fun hc1 => ?_) (fun hc1 => ?_)
  · skip
    try simp only [SB] at hc1
    refine wc_region ?_
    refine mv rfl rfl rfl ?_
    refine mv rfl rfl rfl ?_
    refine shln32 (3) (by omega) rfl rfl rfl rfl ?_
    refine nilp rfl rfl rfl ?_
    refine fan (2) (8) Tryz.underlying88 rfl sz72 (by decide) rfl rfl rfl rfl (by omega) ?_
    refine st 0 sz72 hS rfl rfl rfl rfl rfl rfl (by show (8 : Nat) < 11; decide) rfl ?_
    intro w hS
    refine wq_then ?_
    refine rg ?_
    refine mv rfl rfl rfl ?_
    refine mv rfl rfl rfl ?_
    refine nilp rfl rfl rfl ?_
    refine fan (0) (6) Tryz.underlying88 rfl sz36 (by decide) rfl rfl rfl rfl (by omega) ?_
    refine st 0 sz36 hS rfl rfl rfl rfl rfl rfl (by show (6 : Nat) < 11; decide) rfl ?_
    intro w hS
    refine wq_then ?_
    refine wc_region ?_
    refine mv rfl rfl rfl ?_
    refine nilp rfl rfl rfl ?_
    refine fan (1) (7) Tryz.underlying88 rfl sz3 (by decide) rfl rfl rfl rfl (by omega) ?_
    refine lo 0 sc3 hS rfl rfl rfl rfl rfl ?_
    refine addi (by omega) (by omega) rfl rfl rfl rfl ?_
    refine nilp rfl rfl rfl ?_
    refine fan (1) (7) Tryz.underlying88 rfl sz3 (by decide) rfl rfl rfl rfl (by omega) ?_
    refine st 0 sz3 hS rfl rfl rfl rfl rfl rfl (by show (7 : Nat) < 11; decide) rfl ?_
    intro w hS
    refine q_norm_ret ?_
    refine fin0 rfl ?_
    refine ⟨_, _, rfl, rfl, ?_⟩
    first | (rw [estN, if_pos (by omega)]; exact hS) | (rw [estN, if_neg (by omega)]; exact hS)
  · skip
    try simp only [SB] at hc1
    refine wc_draw mo 13 (fun w => St w0 [s] [(s, .cells (#[v0, v1, v2, v3, v4, v5, U16 (rl), I ((rc : Int)), U32 (re), v9, v10]) E)] w) ?_
    have hS := hS.drew
    refine dq 0 rfl (by kernel_rfl) (by kernel_rfl) (by kernel_rfl) rfl rfl (fun w hS => mv rfl rfl rfl ⟨rfl, rfl⟩) hS ?_
    refine dq 1 rfl (by kernel_rfl) (by kernel_rfl) (by kernel_rfl) rfl rfl (fun w hS => nilp rfl rfl rfl ⟨rfl, rfl⟩) hS ?_
    refine dq 2 rfl (by kernel_rfl) (by kernel_rfl) (by kernel_rfl) rfl rfl (fun w hS => fan (2) (8) Tryz.underlying88 rfl sz72 (by decide) rfl rfl rfl rfl (by omega) ⟨rfl, rfl⟩) hS ?_
    refine dq 3 rfl (by kernel_rfl) (by kernel_rfl) (by kernel_rfl) rfl rfl (fun w hS => lo 0 sc72 hS rfl rfl rfl rfl rfl ⟨rfl, rfl⟩) hS ?_
    refine dq 4 rfl (by kernel_rfl) (by kernel_rfl) (by kernel_rfl) rfl rfl (fun w hS => mv rfl rfl rfl ⟨rfl, rfl⟩) hS ?_
    refine dq 5 rfl (by kernel_rfl) (by kernel_rfl) (by kernel_rfl) rfl rfl (fun w hS => mv rfl rfl rfl ⟨rfl, rfl⟩) hS ?_
    refine dq 6 rfl (by kernel_rfl) (by kernel_rfl) (by kernel_rfl) rfl rfl (fun w hS => nilp rfl rfl rfl ⟨rfl, rfl⟩) hS ?_
    refine dq 7 rfl (by kernel_rfl) (by kernel_rfl) (by kernel_rfl) rfl rfl (fun w hS => fan (2) (8) Tryz.underlying88 rfl sz72 (by decide) rfl rfl rfl rfl (by omega) ⟨rfl, rfl⟩) hS ?_
    refine dq 8 rfl (by kernel_rfl) (by kernel_rfl) (by kernel_rfl) rfl rfl (fun w hS => lo 0 sc72 hS rfl rfl rfl rfl rfl ⟨rfl, rfl⟩) hS ?_
    refine dq 9 rfl (by kernel_rfl) (by kernel_rfl) (by kernel_rfl) rfl rfl (fun w hS => add32 (q := (4 : UInt32)) rfl rfl rfl rfl ⟨rfl, rfl⟩) hS ?_
    refine dq 10 rfl (by kernel_rfl) (by kernel_rfl) (by kernel_rfl) rfl rfl (fun w hS => shrn32 (3) (by omega) rfl rfl rfl rfl ⟨rfl, rfl⟩) hS ?_
    refine dq 11 rfl (by kernel_rfl) (by kernel_rfl) (by kernel_rfl) rfl rfl (fun w hS => sub32 rfl rfl rfl rfl ⟨rfl, rfl⟩) hS ?_
    refine dq 12 rfl (by kernel_rfl) (by kernel_rfl) (by kernel_rfl) rfl rfl (fun w hS => add32 rfl rfl rfl rfl ⟨rfl, rfl⟩) hS ?_
    refine dl 13 rfl (by kernel_rfl) ?_
    refine nilp rfl rfl rfl ?_
    refine ⟨fun h => (by cases h), ?_⟩
    refine dl 14 rfl (by kernel_rfl) ?_
    refine fan (2) (8) Tryz.underlying88 rfl sz72 (by decide) rfl rfl rfl rfl (by omega) ?_
    refine ⟨fun h => (by cases h), ?_⟩
    refine dl 15 rfl (by kernel_rfl) ?_
    refine st 0 sz72 hS rfl rfl rfl rfl rfl rfl (by show (8 : Nat) < 11; decide) rfl ?_
    intro w hS
    refine ⟨fun h => (by cases h), ?_⟩
    refine de (by kernel_rfl) ?_
    refine wq_then ?_
    refine rg ?_
    refine mv rfl rfl rfl ?_
    refine mv rfl rfl rfl ?_
    refine nilp rfl rfl rfl ?_
    refine fan (0) (6) Tryz.underlying88 rfl sz36 (by decide) rfl rfl rfl rfl (by omega) ?_
    refine st 0 sz36 hS rfl rfl rfl rfl rfl rfl (by show (6 : Nat) < 11; decide) rfl ?_
    intro w hS
    refine wq_then ?_
    refine wc_region ?_
    refine mv rfl rfl rfl ?_
    refine nilp rfl rfl rfl ?_
    refine fan (1) (7) Tryz.underlying88 rfl sz3 (by decide) rfl rfl rfl rfl (by omega) ?_
    refine lo 0 sc3 hS rfl rfl rfl rfl rfl ?_
    refine addi (by omega) (by omega) rfl rfl rfl rfl ?_
    refine nilp rfl rfl rfl ?_
    refine fan (1) (7) Tryz.underlying88 rfl sz3 (by decide) rfl rfl rfl rfl (by omega) ?_
    refine st 0 sz3 hS rfl rfl rfl rfl rfl rfl (by show (7 : Nat) < 11; decide) rfl ?_
    intro w hS
    refine q_norm_ret ?_
    refine fin0 rfl ?_
    refine ⟨_, _, rfl, rfl, ?_⟩
    first | (rw [estN, if_pos (by omega)]; exact hS) | (rw [estN, if_neg (by omega)]; exact hS)
end Go.Proofs.XS

/- walks -/
namespace Go.Proofs.XS
open Go Go.X Go.Proofs
set_option maxRecDepth 100000 in
theorem sp_filter_Filter_Fresh (pf E ac rf : Nat) (ls : UInt64) (sq : UInt64) (w0 : World) (hpf : w0.heap[pf]? = some (.cells (#[I (ac : Int), I (rf : Int), U64 ls]) E)) : Calls Tryz.prog 52 #[Ptr pf 0, U64 sq] w0 (Ret w0 (.bool (frsh ls sq))) := by
  refine enter (args := [Ptr pf 0, U64 sq]) Tryz.func52 rfl rfl ?_
  refine startw fun w hS => ?_
  refine rg ?_
  refine asg rfl rfl rfl ?_
  refine wq_then ?_
  refine rg ?_
  refine mv rfl rfl rfl ?_
  refine nepn Tryz.underlying83 rfl rfl rfl rfl ?_
  refine mv rfl rfl rfl ?_
  refine mv rfl rfl rfl ?_
  refine mv rfl rfl rfl ?_
  refine nilp rfl rfl rfl ?_
  refine fan (2) (2) Tryz.underlying155 rfl sz24 (by decide) rfl rfl rfl rfl (by omega) ?_
  refine lod hpf List.not_mem_nil sc24 hS rfl rfl rfl rfl ?_
  refine geq rfl rfl rfl rfl ?_
  refine pk_t rfl rfl rfl rfl ?_
  refine mv rfl rfl rfl ?_
  refine spl 15 rfl (fun hb1 => ?_) (fun hb1 => ?_)
  · skip
    try simp only [SB] at hb1
    refine mv rfl rfl rfl ?_
    refine leq rfl rfl rfl rfl ?_
    refine pk_t rfl rfl rfl rfl ?_
    refine asg rfl rfl rfl ?_
    refine wq_then ?_
    refine wc_ret ?_
    refine fin1 (v := .bool (decide (((sq).toNat : Int) ≤ (9223372036854775807 : Int)))) rfl rfl ?_
    refine ⟨?_, hS.drop⟩
    congr 2
    simp only [frsh]
    first | (rw [decide_eq_false (by omega)]) | (congr 1; apply propext; omega)
  · skip
    try simp only [SB] at hb1
    refine no rfl rfl ?_
    refine no rfl rfl ?_
    refine pk_f rfl rfl rfl rfl ?_
    refine asg rfl rfl rfl ?_
    refine wq_then ?_
    refine wc_ret ?_
    refine fin1 (v := .bool (false)) rfl rfl ?_
    refine ⟨?_, hS.drop⟩
    congr 2
    simp only [frsh]
    first | (rw [decide_eq_false (by omega)]) | (congr 1; apply propext; omega)
end Go.Proofs.XS

/- walks -/
namespace Go.Proofs.XS
open Go Go.X Go.Proofs
set_option maxRecDepth 100000 in
theorem sp_filter_Filter_Refuse (pf E : Nat) (ac rf : Nat) (ls : UInt64) (w0 : World) (hpf : w0.heap[pf]? = some (.cells (#[I ((ac : Int)), I ((rf : Int)), U64 (ls)]) E)) (hrf : rf < 1000000000) : Calls Tryz.prog 53 #[Ptr pf 0] w0 (RetM w0 [pf] (fun v L' => L' = [(pf, .cells #[I (ac : Int), I ((rf + 1 : Nat) : Int), U64 ls] E)])) := by
  refine enter (args := [Ptr pf 0]) Tryz.func53 rfl rfl ?_
  refine startx (F := [pf]) (L := [(pf, .cells (#[I ((ac : Int)), I ((rf : Int)), U64 (ls)]) E)]) (St.starts (X := [(pf, .cells (#[I ((ac : Int)), I ((rf : Int)), U64 (ls)]) E)]) (fun p hp => by simp only [List.mem_cons, List.not_mem_nil, or_false] at hp; subst hp; exact hpf) (by simp)) fun w hS => ?_
  refine rg ?_
  refine mv rfl rfl rfl ?_
  refine nepn Tryz.underlying83 rfl rfl rfl rfl ?_
  refine wq_then ?_
  refine wc_if_t rfl ?_
  refine wc_region ?_
  refine mv rfl rfl rfl ?_
  refine nilp rfl rfl rfl ?_
  refine fan (0) (0) Tryz.underlying155 rfl sz153 (by decide) rfl rfl rfl rfl (by omega) ?_
  refine fan (1) (1) Tryz.underlying153 rfl sz3 (by decide) rfl rfl rfl rfl (by omega) ?_
  refine lo 0 sc3 hS rfl rfl rfl rfl rfl ?_
  refine addi (by omega) (by omega) rfl rfl rfl rfl ?_
  refine nilp rfl rfl rfl ?_
  refine fan (0) (0) Tryz.underlying155 rfl sz153 (by decide) rfl rfl rfl rfl (by omega) ?_
  refine fan (1) (1) Tryz.underlying153 rfl sz3 (by decide) rfl rfl rfl rfl (by omega) ?_
  refine st 0 sz3 hS rfl rfl rfl rfl rfl rfl (by show (1 : Nat) < 3; decide) rfl ?_
  intro w hS
  refine q_norm_ret ?_
  refine fin0 rfl ?_
  exact ⟨_, _, rfl, rfl, hS⟩
end Go.Proofs.XS

/- walks -/
namespace Go.Proofs.XS
open Go Go.X Go.Proofs
set_option maxRecDepth 100000 in
theorem sp_filter_Filter_Accept (pf E : Nat) (ac rf : Nat) (ls sq : UInt64) (w0 : World) (hpf : w0.heap[pf]? = some (.cells (#[I ((ac : Int)), I ((rf : Int)), U64 (ls)]) E)) (hac : ac < 1000000000) (hf : frsh ls sq = true) : Calls Tryz.prog 54 #[Ptr pf 0, U64 sq] w0 (RetM w0 [pf] (fun v L' => v = errV 33 0 ∧ L' = [(pf, .cells #[I ((ac + 1 : Nat) : Int), I (rf : Int), U64 (sq + 1)] E)])) := by
  refine enter (args := [Ptr pf 0, U64 sq]) Tryz.func54 rfl rfl ?_
  refine startx (F := [pf]) (L := [(pf, .cells (#[I ((ac : Int)), I ((rf : Int)), U64 (ls)]) E)]) (St.starts (X := [(pf, .cells (#[I ((ac : Int)), I ((rf : Int)), U64 (ls)]) E)]) (fun p hp => by simp only [List.mem_cons, List.not_mem_nil, or_false] at hp; subst hp; exact hpf) (by simp)) fun w hS => ?_
  refine rg ?_
  refine asg rfl rfl rfl ?_
  refine wq_then ?_
  refine wc_seq ?_
  refine wc_block ?_
  refine rg ?_
  refine mv rfl rfl rfl ?_
  refine eqpn Tryz.underlying83 rfl rfl rfl rfl ?_
  refine asg rfl rfl rfl ?_
  refine wq_then ?_
  refine wc_if_f rfl ?_
  refine rg ?_
  refine mv rfl rfl rfl ?_
  refine mv rfl rfl rfl ?_
  refine cv cf52 hS rfl rfl rfl rfl rfl (sp_filter_Filter_Fresh (pf) (_) (ac) (rf) (ls) (sq) _ (hS.get 0 rfl)) ?_
  intro w hS
  refine asg rfl rfl rfl ?_
  refine wq_then ?_
  refine wc_if rfl (fun hc1 => ?_) (fun hc1 => ?_)
  · skip
    try simp only [SB] at hc1
    refine rg ?_
    refine mv rfl rfl rfl ?_
    refine mv rfl rfl rfl ?_
    refine add64 (q := (1 : UInt64)) rfl rfl rfl rfl ?_
    refine nilp rfl rfl rfl ?_
    refine fan (2) (2) Tryz.underlying155 rfl sz24 (by decide) rfl rfl rfl rfl (by omega) ?_
    refine st 0 sz24 hS rfl rfl rfl rfl rfl rfl (by show (2 : Nat) < 3; decide) rfl ?_
    intro w hS
    refine wq_then ?_
    refine rg ?_
    refine mv rfl rfl rfl ?_
    refine nilp rfl rfl rfl ?_
    refine fan (0) (0) Tryz.underlying155 rfl sz153 (by decide) rfl rfl rfl rfl (by omega) ?_
    refine fan (0) (0) Tryz.underlying153 rfl sz3 (by decide) rfl rfl rfl rfl (by omega) ?_
    refine lo 0 sc3 hS rfl rfl rfl rfl rfl ?_
    refine addi (by omega) (by omega) rfl rfl rfl rfl ?_
    refine nilp rfl rfl rfl ?_
    refine fan (0) (0) Tryz.underlying155 rfl sz153 (by decide) rfl rfl rfl rfl (by omega) ?_
    refine fan (0) (0) Tryz.underlying153 rfl sz3 (by decide) rfl rfl rfl rfl (by omega) ?_
    refine st 0 sz3 hS rfl rfl rfl rfl rfl rfl (by show (0 : Nat) < 3; decide) rfl ?_
    intro w hS
    refine wq_then ?_
    refine rg ?_
    refine asg rfl rfl rfl ?_
    refine wq_then ?_
    refine wc_ret ?_
    refine q_block_ret ?_
    refine q_then_ret ?_
    refine fin1 (v := .nilIface) rfl rfl ?_
    exact ⟨_, _, rfl, ⟨rfl, rfl⟩, hS⟩
  · skip
    try simp only [SB] at hc1
    rw [hf] at hc1; cases hc1
end Go.Proofs.XS

/- walks -/
namespace Go.Proofs.XS
open Go Go.X Go.Proofs
set_option maxRecDepth 100000 in
theorem sp_peer_Peer_Move (pp E : Nat) (pm : Nat) (ad : List UInt8) (fx : Bool) (mvs : Nat) (m : List (List UInt8 × Int)) (s : List UInt8) (w0 : World) (hpp : w0.heap[pp]? = some (.cells (#[Str ad, .bool (fx), I (((mvs : Nat) : Int)), .map (some pm)]) E)) (hpm : w0.heap[pm]? = some (mOb encS vI m)) (hnd : ([pp, pm] : List Nat).Nodup) (hmv : mvs < 1000000000) : Calls Tryz.prog 58 #[Ptr pp 0, Str s] w0 (RetM w0 [pp, pm] (fun v L' => ∃ b m', v = .bool b ∧ L' = [(pp, .cells #[Str (mvA fx ad s), .bool fx, I ((mvN fx ad s mvs : Nat) : Int), .map (some pm)] E), (pm, mOb encS vI m')])) := by
  refine enter (args := [Ptr pp 0, Str s]) Tryz.func58 rfl rfl ?_
  refine startx (F := [pp, pm]) (L := [(pp, .cells (#[Str ad, .bool (fx), I (((mvs : Nat) : Int)), .map (some pm)]) E), (pm, mOb encS vI m)]) (St.starts (X := [(pp, .cells (#[Str ad, .bool (fx), I (((mvs : Nat) : Int)), .map (some pm)]) E), (pm, mOb encS vI m)]) (fun p hp => by simp only [List.mem_cons, List.not_mem_nil, or_false] at hp; rcases hp with rfl | rfl; exact hpp; exact hpm) hnd) fun w hS => ?_
  refine rg ?_
  refine asg rfl rfl rfl ?_
  refine wq_then ?_
  refine wc_seq ?_
  refine rg ?_
  refine mv rfl rfl rfl ?_
  refine eqpn Tryz.underlying76 rfl rfl rfl rfl ?_
  refine mv rfl rfl rfl ?_
  refine mv rfl rfl rfl ?_
  refine nilp rfl rfl rfl ?_
  refine fan (1) (1) Tryz.underlying135 rfl sz4 (by decide) rfl rfl rfl rfl (by omega) ?_
  refine lo 0 sc4 hS rfl rfl rfl rfl rfl ?_
  refine pk_f rfl rfl rfl rfl ?_
  refine mv rfl rfl rfl ?_
  refine spl 13 rfl (fun hb1 => ?_) (fun hb1 => ?_)
  · skip
    try simp only [SB] at hb1
    refine no rfl rfl ?_
    refine no rfl rfl ?_
    refine no rfl rfl ?_
    refine pk_t rfl rfl rfl rfl ?_
    refine wq_then ?_
    refine wc_if_t rfl ?_
    refine rg ?_
    refine asg rfl rfl rfl ?_
    refine wq_then ?_
    refine wc_ret ?_
    refine q_then_ret ?_
    refine fin1 (v := .bool (false)) rfl rfl ?_
    first | exact ⟨_, _, rfl, ⟨_, _, rfl, rfl⟩, hS⟩ | (obtain ⟨e1, e2⟩ := mv_no (mv := mvs) (ad := ad) (s := s) (fx := fx) (by simp_all); exact ⟨_, _, rfl, ⟨_, _, rfl, rfl⟩, by rw [e1, e2]; exact hS⟩) | (obtain ⟨e1, e2⟩ := mv_yes (mv := mvs) (ad := ad) (s := s) (fx := fx) (by simp_all) (by simp_all) (by simp_all); exact ⟨_, _, rfl, ⟨_, _, rfl, rfl⟩, by rw [e1, e2]; exact hS⟩)
  · skip
    try simp only [SB] at hb1
    refine mv rfl rfl rfl ?_
    refine cv cf70 hS rfl rfl rfl rfl rfl (sp_peer_Right (s) _) ?_
    intro w hS
    refine notb rfl rfl rfl ?_
    refine pk_f rfl rfl rfl rfl ?_
    refine wq_then ?_
    refine wc_if rfl (fun hc1 => ?_) (fun hc1 => ?_)
    · skip
      try simp only [SB] at hc1
      refine rg ?_
      refine asg rfl rfl rfl ?_
      refine wq_then ?_
      refine wc_ret ?_
      refine q_then_ret ?_
      refine fin1 (v := .bool (false)) rfl rfl ?_
      first | exact ⟨_, _, rfl, ⟨_, _, rfl, rfl⟩, hS⟩ | (obtain ⟨e1, e2⟩ := mv_no (mv := mvs) (ad := ad) (s := s) (fx := fx) (by simp_all); exact ⟨_, _, rfl, ⟨_, _, rfl, rfl⟩, by rw [e1, e2]; exact hS⟩) | (obtain ⟨e1, e2⟩ := mv_yes (mv := mvs) (ad := ad) (s := s) (fx := fx) (by simp_all) (by simp_all) (by simp_all); exact ⟨_, _, rfl, ⟨_, _, rfl, rfl⟩, by rw [e1, e2]; exact hS⟩)
    · skip
      try simp only [SB] at hc1
      refine wc_skip ?_
      refine wq_then ?_
      refine rd mo 10 (fun w => St w0 [pp, pm] [(pp, .cells (#[Str ad, .bool (fx), I (((mvs : Nat) : Int)), .map (some pm)]) E)] w) ?_
      have hS := hS.drew
      refine dq 0 rfl (by kernel_rfl) (by kernel_rfl) (by kernel_rfl) rfl rfl (fun w hS => mv rfl rfl rfl ⟨rfl, rfl⟩) (hS.sublist (.cons_cons _ (.cons _ (List.nil_sublist _)))) ?_
      refine dq 1 rfl (by kernel_rfl) (by kernel_rfl) (by kernel_rfl) rfl rfl (fun w hS => nilp rfl rfl rfl ⟨rfl, rfl⟩) (hS.sublist (.cons_cons _ (.cons _ (List.nil_sublist _)))) ?_
      refine dq 2 rfl (by kernel_rfl) (by kernel_rfl) (by kernel_rfl) rfl rfl (fun w hS => fan (3) (3) Tryz.underlying135 rfl sz133 (by decide) rfl rfl rfl rfl (by omega) ⟨rfl, rfl⟩) (hS.sublist (.cons_cons _ (.cons _ (List.nil_sublist _)))) ?_
      refine dq 3 rfl (by kernel_rfl) (by kernel_rfl) (by kernel_rfl) rfl rfl (fun w hS => lo 0 sc133 hS rfl rfl rfl rfl rfl ⟨rfl, rfl⟩) (hS.sublist (.cons_cons _ (.cons _ (List.nil_sublist _)))) ?_
      refine dq 4 rfl (by kernel_rfl) (by kernel_rfl) (by kernel_rfl) rfl rfl (fun w hS => mv rfl rfl rfl ⟨rfl, rfl⟩) (hS.sublist (.cons_cons _ (.cons _ (List.nil_sublist _)))) ?_
      refine dq 5 rfl (by kernel_rfl) (by kernel_rfl) (by kernel_rfl) rfl rfl (fun w hS => bd (cs := #[Str s]) rfl rfl rfl (by kernel_rfl) ⟨rfl, rfl⟩) (hS.sublist (.cons_cons _ (.cons _ (List.nil_sublist _)))) ?_
      refine dl2 6 8 rfl rfl (by kernel_rfl) ?_ ?_
      · skip
        refine lku (m := m) (a := s) Tryz.underlying133 mk133 zr3 rfl rfl rfl rfl (hS.get 1 rfl) ?_
        refine ⟨fun _ => (hS.sublist (.cons_cons _ (.cons _ (List.nil_sublist _)))), ?_⟩
        refine dq 7 rfl (by kernel_rfl) (by kernel_rfl) (by kernel_rfl) rfl rfl (fun w hS => addw rfl rfl rfl rfl ⟨rfl, rfl⟩) (hS.sublist (.cons_cons _ (.cons _ (List.nil_sublist _)))) ?_
        refine dl 8 rfl (by kernel_rfl) ?_
        refine mpe (m := m) (a := s) 1 Tryz.underlying133 mk133 zr3 hS rfl rfl rfl rfl rfl ?_
        intro w hS
        refine ⟨fun _ => (hS.sublist (.cons_cons _ (.cons _ (List.nil_sublist _)))), ?_⟩
        refine dq 9 rfl (by kernel_rfl) (by kernel_rfl) (by kernel_rfl) rfl rfl (fun w hS => ext rfl rfl rfl rfl ⟨rfl, rfl⟩) (hS.sublist (.cons_cons _ (.cons _ (List.nil_sublist _)))) ?_
        refine dl 10 rfl (by kernel_rfl) ?_
        refine ens (m := mPut m s 0) (a := s) 1 (mPos m s) hS rfl rfl rfl rfl rfl rfl (mPut_has _ _ _) ?_
        intro w hS
        refine ⟨fun h => (by cases h), ?_⟩
        refine de (by kernel_rfl) ?_
        refine wq_then ?_
        refine wc_seq ?_
        refine rg ?_
        refine mv rfl rfl rfl ?_
        refine nilp rfl rfl rfl ?_
        refine fan (0) (0) Tryz.underlying135 rfl sz9 (by decide) rfl rfl rfl rfl (by omega) ?_
        refine lo 0 sc9 hS rfl rfl rfl rfl rfl ?_
        refine mv rfl rfl rfl ?_
        refine eqs rfl rfl rfl rfl ?_
        refine wq_then ?_
        refine wc_if rfl (fun hc2 => ?_) (fun hc2 => ?_)
        · skip
          try simp only [SB] at hc2
          refine rg ?_
          refine asg rfl rfl rfl ?_
          refine wq_then ?_
          refine wc_ret ?_
          refine q_then_ret ?_
          refine fin1 (v := .bool (false)) rfl rfl ?_
          first | exact ⟨_, _, rfl, ⟨_, _, rfl, rfl⟩, hS⟩ | (obtain ⟨e1, e2⟩ := mv_no (mv := mvs) (ad := ad) (s := s) (fx := fx) (by simp_all); exact ⟨_, _, rfl, ⟨_, _, rfl, rfl⟩, by rw [e1, e2]; exact hS⟩) | (obtain ⟨e1, e2⟩ := mv_yes (mv := mvs) (ad := ad) (s := s) (fx := fx) (by simp_all) (by simp_all) (by simp_all); exact ⟨_, _, rfl, ⟨_, _, rfl, rfl⟩, by rw [e1, e2]; exact hS⟩)
        · skip
          try simp only [SB] at hc2
          refine wc_skip ?_
          refine wq_then ?_
          refine rg ?_
          refine mv rfl rfl rfl ?_
          refine mv rfl rfl rfl ?_
          refine nilp rfl rfl rfl ?_
          refine fan (0) (0) Tryz.underlying135 rfl sz9 (by decide) rfl rfl rfl rfl (by omega) ?_
          refine st 0 sz9 hS rfl rfl rfl rfl rfl rfl (by show (0 : Nat) < 4; decide) rfl ?_
          intro w hS
          refine wq_then ?_
          refine rg ?_
          refine mv rfl rfl rfl ?_
          refine nilp rfl rfl rfl ?_
          refine fan (2) (2) Tryz.underlying135 rfl sz3 (by decide) rfl rfl rfl rfl (by omega) ?_
          refine lo 0 sc3 hS rfl rfl rfl rfl rfl ?_
          refine addi (by omega) (by omega) rfl rfl rfl rfl ?_
          refine nilp rfl rfl rfl ?_
          refine fan (2) (2) Tryz.underlying135 rfl sz3 (by decide) rfl rfl rfl rfl (by omega) ?_
          refine st 0 sz3 hS rfl rfl rfl rfl rfl rfl (by show (2 : Nat) < 4; decide) rfl ?_
          intro w hS
          refine wq_then ?_
          refine rg ?_
          refine asg rfl rfl rfl ?_
          refine wq_then ?_
          refine wc_ret ?_
          refine fin1 (v := .bool (true)) rfl rfl ?_
          first | exact ⟨_, _, rfl, ⟨_, _, rfl, rfl⟩, hS⟩ | (obtain ⟨e1, e2⟩ := mv_no (mv := mvs) (ad := ad) (s := s) (fx := fx) (by simp_all); exact ⟨_, _, rfl, ⟨_, _, rfl, rfl⟩, by rw [e1, e2]; exact hS⟩) | (obtain ⟨e1, e2⟩ := mv_yes (mv := mvs) (ad := ad) (s := s) (fx := fx) (by simp_all) (by simp_all) (by simp_all); exact ⟨_, _, rfl, ⟨_, _, rfl, rfl⟩, by rw [e1, e2]; exact hS⟩)
      · skip
        refine mpe (m := m) (a := s) 1 Tryz.underlying133 mk133 zr3 hS rfl rfl rfl rfl rfl ?_
        intro w hS
        refine ⟨fun _ => (hS.sublist (.cons_cons _ (.cons _ (List.nil_sublist _)))), ?_⟩
        refine dq 9 rfl (by kernel_rfl) (by kernel_rfl) (by kernel_rfl) rfl rfl (fun w hS => ext rfl rfl rfl rfl ⟨rfl, rfl⟩) (hS.sublist (.cons_cons _ (.cons _ (List.nil_sublist _)))) ?_
        refine dl 6 rfl (by kernel_rfl) ?_
        refine lku (m := mPut m s 0) (a := s) Tryz.underlying133 mk133 zr3 rfl rfl rfl rfl (hS.get 1 rfl) ?_
        refine ⟨fun _ => (hS.sublist (.cons_cons _ (.cons _ (List.nil_sublist _)))), ?_⟩
        refine dq 7 rfl (by kernel_rfl) (by kernel_rfl) (by kernel_rfl) rfl rfl (fun w hS => addw rfl rfl rfl rfl ⟨rfl, rfl⟩) (hS.sublist (.cons_cons _ (.cons _ (List.nil_sublist _)))) ?_
        refine dl 10 rfl (by kernel_rfl) ?_
        refine ens (m := mPut m s 0) (a := s) 1 (mPos m s) hS rfl rfl rfl rfl rfl rfl (mPut_has _ _ _) ?_
        intro w hS
        refine ⟨fun h => (by cases h), ?_⟩
        refine de (by kernel_rfl) ?_
        refine wq_then ?_
        refine wc_seq ?_
        refine rg ?_
        refine mv rfl rfl rfl ?_
        refine nilp rfl rfl rfl ?_
        refine fan (0) (0) Tryz.underlying135 rfl sz9 (by decide) rfl rfl rfl rfl (by omega) ?_
        refine lo 0 sc9 hS rfl rfl rfl rfl rfl ?_
        refine mv rfl rfl rfl ?_
        refine eqs rfl rfl rfl rfl ?_
        refine wq_then ?_
        refine wc_if rfl (fun hc3 => ?_) (fun hc3 => ?_)
        · skip
          try simp only [SB] at hc3
          refine rg ?_
          refine asg rfl rfl rfl ?_
          refine wq_then ?_
          refine wc_ret ?_
          refine q_then_ret ?_
          refine fin1 (v := .bool (false)) rfl rfl ?_
          first | exact ⟨_, _, rfl, ⟨_, _, rfl, rfl⟩, hS⟩ | (obtain ⟨e1, e2⟩ := mv_no (mv := mvs) (ad := ad) (s := s) (fx := fx) (by simp_all); exact ⟨_, _, rfl, ⟨_, _, rfl, rfl⟩, by rw [e1, e2]; exact hS⟩) | (obtain ⟨e1, e2⟩ := mv_yes (mv := mvs) (ad := ad) (s := s) (fx := fx) (by simp_all) (by simp_all) (by simp_all); exact ⟨_, _, rfl, ⟨_, _, rfl, rfl⟩, by rw [e1, e2]; exact hS⟩)
        · skip
          try simp only [SB] at hc3
          refine wc_skip ?_
          refine wq_then ?_
          refine rg ?_
          refine mv rfl rfl rfl ?_
          refine mv rfl rfl rfl ?_
          refine nilp rfl rfl rfl ?_
          refine fan (0) (0) Tryz.underlying135 rfl sz9 (by decide) rfl rfl rfl rfl (by omega) ?_
          refine st 0 sz9 hS rfl rfl rfl rfl rfl rfl (by show (0 : Nat) < 4; decide) rfl ?_
          intro w hS
          refine wq_then ?_
          refine rg ?_
          refine mv rfl rfl rfl ?_
          refine nilp rfl rfl rfl ?_
          refine fan (2) (2) Tryz.underlying135 rfl sz3 (by decide) rfl rfl rfl rfl (by omega) ?_
          refine lo 0 sc3 hS rfl rfl rfl rfl rfl ?_
          refine addi (by omega) (by omega) rfl rfl rfl rfl ?_
          refine nilp rfl rfl rfl ?_
          refine fan (2) (2) Tryz.underlying135 rfl sz3 (by decide) rfl rfl rfl rfl (by omega) ?_
          refine st 0 sz3 hS rfl rfl rfl rfl rfl rfl (by show (2 : Nat) < 4; decide) rfl ?_
          intro w hS
          refine wq_then ?_
          refine rg ?_
          refine asg rfl rfl rfl ?_
          refine wq_then ?_
          refine wc_ret ?_
          refine fin1 (v := .bool (true)) rfl rfl ?_
          first | exact ⟨_, _, rfl, ⟨_, _, rfl, rfl⟩, hS⟩ | (obtain ⟨e1, e2⟩ := mv_no (mv := mvs) (ad := ad) (s := s) (fx := fx) (by simp_all); exact ⟨_, _, rfl, ⟨_, _, rfl, rfl⟩, by rw [e1, e2]; exact hS⟩) | (obtain ⟨e1, e2⟩ := mv_yes (mv := mvs) (ad := ad) (s := s) (fx := fx) (by simp_all) (by simp_all) (by simp_all); exact ⟨_, _, rfl, ⟨_, _, rfl, rfl⟩, by rw [e1, e2]; exact hS⟩)
end Go.Proofs.XS

/- walks -/
namespace Go.Proofs.XS
open Go Go.X Go.Proofs
set_option maxRecDepth 100000 in
theorem sp_session_Session_Receive_1 (b E c : Nat) (w0 : World) (hb : w0.heap[b]? = some (.cells (#[errV 33 c]) E)) : Calls Tryz.prog 51 #[Ptr b 0] w0 (Ret w0 (errV 33 c)) := by
  refine enter (args := [Ptr b 0]) Tryz.func51 rfl rfl ?_
  refine startw fun w hS => ?_
  refine rg ?_
  refine asg rfl rfl rfl ?_
  refine wq_then ?_
  refine rg ?_
  refine lod hb List.not_mem_nil sc27 hS rfl rfl rfl rfl ?_
  refine asg rfl rfl rfl ?_
  refine wq_then ?_
  refine wc_ret ?_
  refine fin1 (v := (errV 33 c)) rfl rfl ?_
  exact ⟨rfl, hS.drop⟩
end Go.Proofs.XS

/- walks -/
namespace Go.Proofs.XS
open Go Go.X Go.Proofs
set_option maxRecDepth 100000 in
theorem sp_echo_Echo_Take (pe E : Nat) (kv : Value) (s : UInt16) (x : UInt64) (w0 : World) (hpe : w0.heap[pe]? = some (.cells (#[kv]) E)) (hk : kv.oneCell' = true) : Calls Tryz.prog 55 #[Ptr pe 0, U16 s, U64 x] w0 (RetM w0 [pe] (fun v L' => ∃ pk, L' = [(pk, .cells #[U16 s, U64 x] 164), (pe, .cells #[Ptr pk 0] E)])) := by
  refine enter (args := [Ptr pe 0, U16 s, U64 x]) Tryz.func55 rfl rfl ?_
  refine startx (F := [pe]) (L := [(pe, .cells (#[kv]) E)]) (St.starts (X := [(pe, .cells (#[kv]) E)]) (fun p hp => by simp only [List.mem_cons, List.not_mem_nil, or_false] at hp; subst hp; exact hpe) (by simp)) fun w hS => ?_
  refine rg ?_
  refine mv rfl rfl rfl ?_
  refine nepn Tryz.underlying85 rfl rfl rfl rfl ?_
  refine wq_then ?_
  refine wc_if_t rfl ?_
  refine wc_region ?_
  refine mv rfl rfl rfl ?_
  refine mv rfl rfl rfl ?_
  refine mv rfl rfl rfl ?_
  refine bd (cs := #[U16 (s), U64 (x)]) rfl rfl rfl (by kernel_rfl) ?_
  refine bxa hS rfl rfl rfl ?_
  intro b12 w hb12 hS
  refine nilp rfl rfl rfl ?_
  refine fan (0) (0) Tryz.underlying158 rfl sz156 (by decide) rfl rfl rfl rfl (by omega) ?_
  refine st 1 sz156 hS rfl rfl rfl rfl rfl rfl Nat.zero_lt_one rfl ?_
  intro w hS
  refine q_norm_ret ?_
  refine fin0 rfl ?_
  exact ⟨_, _, rfl, ⟨_, rfl⟩, hS⟩
end Go.Proofs.XS

/- walks -/
namespace Go.Proofs.XS
open Go Go.X Go.Proofs
theorem sp_EchoTake (pe : Nat) (kp : Option (UInt16 × UInt64)) (st : UInt16) (x : UInt64) (Z : List (Nat × Obj)) (w0 : World) (hE : EchO pe kp Z) (hZ : ∀ p ∈ Z, w0.heap[p.1]? = some p.2) (hnd : (Z.map Prod.fst).Nodup) : Calls Tryz.prog 55 #[Ptr pe 0, U16 st, U64 x] w0 (RetM w0 (Z.map Prod.fst) fun _ Y => EchO pe (some (st, x)) Y) := by
  have key : ∃ kv E, w0.heap[pe]? = some (.cells #[kv] E) ∧ kv.oneCell' = true ∧ pe ∈ Z.map Prod.fst := by
    obtain ⟨E, ⟨rfl, rfl⟩ | ⟨pk, s, t, E2, rfl, rfl⟩⟩ := hE
    · exact ⟨.pointer none, E, hZ (pe, _) (by simp), rfl, by simp⟩
    · exact ⟨Ptr pk 0, E, hZ (pe, _) (by simp), rfl, by simp⟩
  obtain ⟨kv, E, hb, hk, hm⟩ := key
  refine (sp_echo_Echo_Take pe E kv st x w0 hb hk).mono fun e w' ⟨v, L, he, ⟨pk, hL⟩, hS⟩ => ⟨v, [(pe, .cells #[Ptr pk 0] E), (pk, .cells #[U16 st, U64 x] 164)], he, ⟨E, .inr ⟨pk, st, x, _, rfl, rfl⟩⟩, ?_⟩
  subst hL
  exact (hS.wkF (by simpa using hm)).perm (List.Perm.swap ..)
end Go.Proofs.XS
