/- Part 7 of the ground of this seat's proofs: rules of a calculus of walks, and what the functions of the lower layers compute; no conditions beyond those that each statement bears. -/
import Derived.Test.YtdcophmboncacaaGreatDoorBase6
set_option linter.unusedVariables false
set_option linter.unusedSimpArgs false
set_option linter.unnecessarySimpa false
/- walks -/
namespace Go.Proofs.XS
open Go Go.X Go.Proofs
set_option maxRecDepth 100000 in
theorem sp_session_Session_Receive (s : Nat) (m : SS) (X : List (Nat × Obj)) (a : Option Addr) (n cap : Nat) (bs : List UInt8) (fr : List UInt8) (x : UInt64) (w0 : World) (hO : SesO s m X) (hX : ∀ p ∈ X, w0.heap[p.1]? = some p.2) (hnd : (X.map Prod.fst).Nodup) (hn : bs.length = n) (hN : n ≤ 1000000) (hcap : n ≤ cap) (hc : CelX (X.map Prod.fst) w0 a (c8 bs)) (hG : GlX 1 (X.map Prod.fst) w0) (hB : m.ac < 1000000000 ∧ m.rf < 1000000000 ∧ m.rc < 1000000000 ∧ m.mv < 1000000000) : Calls Tryz.prog 14 #[Ptr s 0, .slice a n cap, Str fr, U64 x] w0 (RetM w0 (X.map Prod.fst) (fun v L' => ∃ a' n' c' X' Y, v = .tuple #[.slice a' n' c', errV 33 (rcvE m bs)] ∧ SesO s (rcvM m bs fr x) X' ∧ Gives a' n' c' (rcvP m bs) Y ∧ L' = X' ++ Y)) := by
  refine enter (args := [Ptr s 0, .slice a n cap, Str fr, U64 x]) Tryz.func14 rfl rfl ?_
  obtain ⟨G, hGe⟩ : ∃ G, G = X.map Prod.fst := ⟨_, rfl⟩
  rw [← hGe] at hc hG ⊢
  obtain ⟨pp, pm, pc, pf, pe, t, c, E1, E2, E3, E4, E5, E6, mm, Z, hd1, hE, hXe⟩ := hO
  subst hXe
  refine startx (F := G) (L := [(s, .cells (#[Ptr pp 0, I (((m.dir : Nat) : Int)), Ptr t 0, Ptr pc 0, Ptr pf 0, Ptr pe 0, U16 (m.rl), I (((m.rc : Nat) : Int)), U32 (m.re), U64 (m.fs), .bool (m.cz)]) E1), (pf, .cells (#[I (((m.ac : Nat) : Int)), I (((m.rf : Nat) : Int)), U64 (m.ls)]) E2), (pc, .cells (#[U64 (m.nx), U64 (m.gv), .bool (false)]) E3), (t, .cells (tableC c m.key) E4), (c, .cells (cipherC m.key) E5), (pp, .cells (#[Str m.ad, .bool (m.fx), I (((m.mv : Nat) : Int)), .map (some pm)]) E6), (pm, mOb encS vI mm)] ++ (Z ++ [])) (by rw [hGe, List.append_nil]; exact St.starts hX hnd) fun w hS => ?_
  refine rg ?_
  refine asg rfl rfl rfl ?_
  refine al1 zr27 hS rfl rfl rfl ?_
  intro b9 w hb9 hS
  refine wq_then ?_
  refine wc_seq ?_
  refine rg ?_
  refine mv rfl rfl rfl ?_
  refine eqpn Tryz.underlying25 rfl rfl rfl rfl ?_
  refine mv rfl rfl rfl ?_
  refine mv rfl rfl rfl ?_
  refine nilp rfl rfl rfl ?_
  refine fan (10) (10) Tryz.underlying90 rfl sz4 (by decide) rfl rfl rfl rfl (by omega) ?_
  refine lo 1 sc4 hS rfl rfl rfl rfl rfl ?_
  refine pk_f rfl rfl rfl rfl ?_
  refine wq_then ?_
  refine wc_if rfl (fun hc1 => ?_) (fun hc1 => ?_)
  · skip
    try simp only [SB] at hc1
    have hcz : m.cz = true := hc1
    refine rg ?_
    refine mki cc33 rfl rfl rfl ?_
    refine asg rfl rfl rfl ?_
    refine st 0 sz27 hS rfl rfl rfl rfl rfl rfl Nat.zero_lt_one rfl ?_
    intro w hS
    refine wq_then ?_
    refine wc_ret ?_
    refine q_then_ret ?_
    refine fin2 (v := (.slice none 0 0)) (u := (.iface 33 (I (7)))) rfl rfl ⟨_, rfl, lv_c sc27 (hS.get 0 rfl) rfl⟩ ?_
    have eE : rcvE m bs = 7 := if_pos hcz
    have eM : rcvM m bs fr x = m := if_pos hcz
    have eP : rcvP m bs = [] := if_neg (by rw [eE]; decide)
    exact ⟨_, _, rfl, ⟨none, 0, 0, [(s, .cells (#[Ptr pp 0, I (((m.dir : Nat) : Int)), Ptr t 0, Ptr pc 0, Ptr pf 0, Ptr pe 0, U16 (m.rl), I (((m.rc : Nat) : Int)), U32 (m.re), U64 (m.fs), .bool (m.cz)]) E1), (pf, .cells (#[I (((m.ac : Nat) : Int)), I (((m.rf : Nat) : Int)), U64 (m.ls)]) E2), (pc, .cells (#[U64 (m.nx), U64 (m.gv), .bool (false)]) E3), (t, .cells (tableC c m.key) E4), (c, .cells (cipherC m.key) E5), (pp, .cells (#[Str m.ad, .bool (m.fx), I (((m.mv : Nat) : Int)), .map (some pm)]) E6), (pm, mOb encS vI mm)] ++ Z, [], by rw [eE]; rfl, by rw [eM]; exact ⟨pp, pm, pc, pf, pe, t, c, _, _, _, _, _, _, _, _, hd1, hE, rfl⟩, by rw [eP]; exact Gives.nil, rfl⟩, St.pk0 (U := [(b9, .cells (#[(.iface 33 (I (7)))]) 27)]) (B := [(s, .cells (#[Ptr pp 0, I (((m.dir : Nat) : Int)), Ptr t 0, Ptr pc 0, Ptr pf 0, Ptr pe 0, U16 (m.rl), I (((m.rc : Nat) : Int)), U32 (m.re), U64 (m.fs), .bool (m.cz)]) E1), (pf, .cells (#[I (((m.ac : Nat) : Int)), I (((m.rf : Nat) : Int)), U64 (m.ls)]) E2), (pc, .cells (#[U64 (m.nx), U64 (m.gv), .bool (false)]) E3), (t, .cells (tableC c m.key) E4), (c, .cells (cipherC m.key) E5), (pp, .cells (#[Str m.ad, .bool (m.fx), I (((m.mv : Nat) : Int)), .map (some pm)]) E6), (pm, mOb encS vI mm)]) (Z := Z) (R := []) hS⟩
  · skip
    try simp only [SB] at hc1
    have hcz : ¬ m.cz = true := by simp [hc1]
    refine wc_skip ?_
    refine wq_then ?_
    refine rg ?_
    refine mv rfl rfl rfl ?_
    refine nilp rfl rfl rfl ?_
    refine fan (2) (2) Tryz.underlying90 rfl sz77 (by decide) rfl rfl rfl rfl (by omega) ?_
    refine lo 1 sc77 hS rfl rfl rfl rfl rfl ?_
    refine mv rfl rfl rfl ?_
    refine cs cf50 hS rfl rfl rfl rfl rfl (sp_packet_Decode (t) (c) (m.key) (a) (n) (cap) (bs) _ (⟨⟨_, hS.get 4 rfl⟩, _, hS.get 5 rfl⟩) (by first | rfl | omega | (simp; omega) | (simp; done)) (by omega) (hc _ _ hS) (by omega) (hG _ _ hS)) ?_
    rintro _ X31 w ⟨a31, n31, c31, rfl, hl31, hm31, hc31, hR31⟩ hS
    have hS := St.tailin (X := X31) hS [(b9, .cells (#[.nilIface]) 27), (s, .cells (#[Ptr pp 0, I (((m.dir : Nat) : Int)), Ptr t 0, Ptr pc 0, Ptr pf 0, Ptr pe 0, U16 (m.rl), I (((m.rc : Nat) : Int)), U32 (m.re), U64 (m.fs), .bool (m.cz)]) E1), (pf, .cells (#[I (((m.ac : Nat) : Int)), I (((m.rf : Nat) : Int)), U64 (m.ls)]) E2), (pc, .cells (#[U64 (m.nx), U64 (m.gv), .bool (false)]) E3), (t, .cells (tableC c m.key) E4), (c, .cells (cipherC m.key) E5), (pp, .cells (#[Str m.ad, .bool (m.fx), I (((m.mv : Nat) : Int)), .map (some pm)]) E6), (pm, mOb encS vI mm)] (Z ++ []) rfl
    have hS : St w0 G ([(b9, .cells (#[.nilIface]) 27), (s, .cells (#[Ptr pp 0, I (((m.dir : Nat) : Int)), Ptr t 0, Ptr pc 0, Ptr pf 0, Ptr pe 0, U16 (m.rl), I (((m.rc : Nat) : Int)), U32 (m.re), U64 (m.fs), .bool (m.cz)]) E1), (pf, .cells (#[I (((m.ac : Nat) : Int)), I (((m.rf : Nat) : Int)), U64 (m.ls)]) E2), (pc, .cells (#[U64 (m.nx), U64 (m.gv), .bool (false)]) E3), (t, .cells (tableC c m.key) E4), (c, .cells (cipherC m.key) E5), (pp, .cells (#[Str m.ad, .bool (m.fx), I (((m.mv : Nat) : Int)), .map (some pm)]) E6), (pm, mOb encS vI mm)] ++ (Z ++ (X31 ++ []))) w := St.swapT (A := [(b9, .cells (#[.nilIface]) 27), (s, .cells (#[Ptr pp 0, I (((m.dir : Nat) : Int)), Ptr t 0, Ptr pc 0, Ptr pf 0, Ptr pe 0, U16 (m.rl), I (((m.rc : Nat) : Int)), U32 (m.re), U64 (m.fs), .bool (m.cz)]) E1), (pf, .cells (#[I (((m.ac : Nat) : Int)), I (((m.rf : Nat) : Int)), U64 (m.ls)]) E2), (pc, .cells (#[U64 (m.nx), U64 (m.gv), .bool (false)]) E3), (t, .cells (tableC c m.key) E4), (c, .cells (cipherC m.key) E5), (pp, .cells (#[Str m.ad, .bool (m.fx), I (((m.mv : Nat) : Int)), .map (some pm)]) E6), (pm, mOb encS vI mm)]) (X := X31) (Z := Z) (R := []) hS
    refine mv rfl rfl rfl ?_
    refine ext rfl rfl rfl rfl ?_
    refine ext rfl rfl rfl rfl ?_
    refine ala zr100 hS rfl rfl ?_
    intro b10 w hb10 hS
    refine sa 0 ag100 hS rfl rfl rfl (by kernel_rfl) rfl rfl rfl ?_
    intro w hS
    refine st 1 sz27 hS rfl rfl rfl (errV_one _ _) (errV_cells _ _) rfl Nat.zero_lt_one rfl ?_
    intro w hS
    refine wq_then ?_
    refine rg ?_
    refine mkf rfl rfl rfl ?_
    refine asg rfl rfl rfl ?_
    refine wq_then ?_
    refine wc_seq ?_
    refine rd mo 20 (fun w => St w0 G [(b10, .cells (#[I (((dcdD m.key bs : Nat) : Int)), U64 (dcdS m.key bs), U16 (dcdT m.key bs), U16 (dcdM m.key bs), .slice a31 n31 c31]) 100), (s, .cells (#[Ptr pp 0, I (((m.dir : Nat) : Int)), Ptr t 0, Ptr pc 0, Ptr pf 0, Ptr pe 0, U16 (m.rl), I (((m.rc : Nat) : Int)), U32 (m.re), U64 (m.fs), .bool (m.cz)]) E1)] w) ?_
    have hS := hS.drew
    refine dq 0 rfl (by kernel_rfl) (by kernel_rfl) (by kernel_rfl) rfl rfl (fun w hS => mv rfl rfl rfl ⟨rfl, rfl⟩) (hS.sublist (.cons_cons _ (.cons _ (.cons_cons _ (.cons _ (.cons _ (.cons _ (.cons _ (.cons _ (.cons _ (List.nil_sublist _))))))))))) ?_
    refine dq 1 rfl (by kernel_rfl) (by kernel_rfl) (by kernel_rfl) rfl rfl (fun w hS => fan (0) (0) Tryz.underlying100 rfl sz3 (by decide) rfl rfl rfl rfl (by omega) ⟨rfl, rfl⟩) (hS.sublist (.cons_cons _ (.cons _ (.cons_cons _ (.cons _ (.cons _ (.cons _ (.cons _ (.cons _ (.cons _ (List.nil_sublist _))))))))))) ?_
    refine dq 2 rfl (by kernel_rfl) (by kernel_rfl) (by kernel_rfl) rfl rfl (fun w hS => lo 0 sc3 hS rfl rfl rfl rfl rfl ⟨rfl, rfl⟩) (hS.sublist (.cons_cons _ (.cons _ (.cons_cons _ (.cons _ (.cons _ (.cons _ (.cons _ (.cons _ (.cons _ (List.nil_sublist _))))))))))) ?_
    refine dq 3 rfl (by kernel_rfl) (by kernel_rfl) (by kernel_rfl) rfl rfl (fun w hS => mv rfl rfl rfl ⟨rfl, rfl⟩) (hS.sublist (.cons_cons _ (.cons _ (.cons_cons _ (.cons _ (.cons _ (.cons _ (.cons _ (.cons _ (.cons _ (List.nil_sublist _))))))))))) ?_
    refine dq 4 rfl (by kernel_rfl) (by kernel_rfl) (by kernel_rfl) rfl rfl (fun w hS => nilp rfl rfl rfl ⟨rfl, rfl⟩) (hS.sublist (.cons_cons _ (.cons _ (.cons_cons _ (.cons _ (.cons _ (.cons _ (.cons _ (.cons _ (.cons _ (List.nil_sublist _))))))))))) ?_
    refine dq 5 rfl (by kernel_rfl) (by kernel_rfl) (by kernel_rfl) rfl rfl (fun w hS => fan (1) (1) Tryz.underlying90 rfl sz3 (by decide) rfl rfl rfl rfl (by omega) ⟨rfl, rfl⟩) (hS.sublist (.cons_cons _ (.cons _ (.cons_cons _ (.cons _ (.cons _ (.cons _ (.cons _ (.cons _ (.cons _ (List.nil_sublist _))))))))))) ?_
    refine dq 6 rfl (by kernel_rfl) (by kernel_rfl) (by kernel_rfl) rfl rfl (fun w hS => lo 1 sc3 hS rfl rfl rfl rfl rfl ⟨rfl, rfl⟩) (hS.sublist (.cons_cons _ (.cons _ (.cons_cons _ (.cons _ (.cons _ (.cons _ (.cons _ (.cons _ (.cons _ (List.nil_sublist _))))))))))) ?_
    refine dq 7 rfl (by kernel_rfl) (by kernel_rfl) (by kernel_rfl) rfl rfl (fun w hS => eqi rfl rfl rfl rfl ⟨rfl, rfl⟩) (hS.sublist (.cons_cons _ (.cons _ (.cons_cons _ (.cons _ (.cons _ (.cons _ (.cons _ (.cons _ (.cons _ (List.nil_sublist _))))))))))) ?_
    refine dq 9 rfl (by kernel_rfl) (by kernel_rfl) (by kernel_rfl) rfl rfl (fun w hS => mv rfl rfl rfl ⟨rfl, rfl⟩) (hS.sublist (.cons_cons _ (.cons _ (.cons_cons _ (.cons _ (.cons _ (.cons _ (.cons _ (.cons _ (.cons _ (List.nil_sublist _))))))))))) ?_
    refine dq 10 rfl (by kernel_rfl) (by kernel_rfl) (by kernel_rfl) rfl rfl (fun w hS => nilp rfl rfl rfl ⟨rfl, rfl⟩) (hS.sublist (.cons_cons _ (.cons _ (.cons_cons _ (.cons _ (.cons _ (.cons _ (.cons _ (.cons _ (.cons _ (List.nil_sublist _))))))))))) ?_
    refine dq 11 rfl (by kernel_rfl) (by kernel_rfl) (by kernel_rfl) rfl rfl (fun w hS => fan (4) (4) Tryz.underlying90 rfl sz83 (by decide) rfl rfl rfl rfl (by omega) ⟨rfl, rfl⟩) (hS.sublist (.cons_cons _ (.cons _ (.cons_cons _ (.cons _ (.cons _ (.cons _ (.cons _ (.cons _ (.cons _ (List.nil_sublist _))))))))))) ?_
    refine dq 12 rfl (by kernel_rfl) (by kernel_rfl) (by kernel_rfl) rfl rfl (fun w hS => lo 1 sc83 hS rfl rfl rfl rfl rfl ⟨rfl, rfl⟩) (hS.sublist (.cons_cons _ (.cons _ (.cons_cons _ (.cons _ (.cons _ (.cons _ (.cons _ (.cons _ (.cons _ (List.nil_sublist _))))))))))) ?_
    refine dq 13 rfl (by kernel_rfl) (by kernel_rfl) (by kernel_rfl) rfl rfl (fun w hS => fan (1) (1) Tryz.underlying100 rfl sz24 (by decide) rfl rfl rfl rfl (by omega) ⟨rfl, rfl⟩) (hS.sublist (.cons_cons _ (.cons _ (.cons_cons _ (.cons _ (.cons _ (.cons _ (.cons _ (.cons _ (.cons _ (List.nil_sublist _))))))))))) ?_
    refine dq 14 rfl (by kernel_rfl) (by kernel_rfl) (by kernel_rfl) rfl rfl (fun w hS => lo 0 sc24 hS rfl rfl rfl rfl rfl ⟨rfl, rfl⟩) (hS.sublist (.cons_cons _ (.cons _ (.cons_cons _ (.cons _ (.cons _ (.cons _ (.cons _ (.cons _ (.cons _ (List.nil_sublist _))))))))))) ?_
    refine dl 8 rfl (by kernel_rfl) ?_
    refine cs cf35 hS rfl rfl rfl rfl rfl (sp_session_when (((((dcdD m.key bs : Nat) : Int) : Int) == ((m.dir : Nat) : Int))) (8) _) ?_
    rintro _ _ w ⟨p43, q43, rfl, rfl⟩ hS
    refine ⟨fun _ => (hS.sublist (.cons _ (.cons _ (.cons_cons _ (.cons _ (.cons_cons _ (.cons _ (.cons _ (.cons _ (.cons _ (.cons _ (.cons _ (List.nil_sublist _))))))))))))), ?_⟩
    refine dl 15 rfl (by kernel_rfl) ?_
    refine cv cf52 hS rfl rfl rfl rfl rfl (sp_filter_Filter_Fresh (pf) (_) (m.ac) (m.rf) (m.ls) ((dcdS m.key bs)) _ (hS.get 5 rfl)) ?_
    intro w hS
    refine ⟨fun _ => (hS.sublist (.cons _ (.cons _ (.cons_cons _ (.cons _ (.cons_cons _ (.cons _ (.cons _ (.cons _ (.cons _ (.cons _ (.cons _ (List.nil_sublist _))))))))))))), ?_⟩
    refine dq 16 rfl (by kernel_rfl) (by kernel_rfl) (by kernel_rfl) rfl rfl (fun w hS => notb rfl rfl rfl ⟨rfl, rfl⟩) (hS.sublist (.cons _ (.cons _ (.cons_cons _ (.cons _ (.cons_cons _ (.cons _ (.cons _ (.cons _ (.cons _ (.cons _ (.cons _ (List.nil_sublist _))))))))))))) ?_
    refine dl 17 rfl (by kernel_rfl) ?_
    refine cs cf35 hS rfl rfl rfl rfl rfl (sp_session_when ((!(frsh m.ls (dcdS m.key bs)))) (9) _) ?_
    rintro _ _ w ⟨p52, q52, rfl, rfl⟩ hS
    refine ⟨fun _ => (hS.sublist (.cons _ (.cons _ (.cons _ (.cons _ (.cons_cons _ (.cons _ (.cons_cons _ (.cons _ (.cons _ (.cons _ (.cons _ (.cons _ (.cons _ (List.nil_sublist _))))))))))))))), ?_⟩
    refine dl 18 rfl (by kernel_rfl) ?_
    refine bsl (cs := #[.func (.func 51) #[] #[Ptr b9 0], .func (.func 78) #[] #[Ptr p43 0, Ptr q43 0], .func (.func 78) #[] #[Ptr p52 0, Ptr q52 0]]) sl160 hS rfl rfl rfl rfl (by kernel_rfl) ?_
    intro b53 w hb53 hS
    refine ⟨fun _ => (hS.sublist (.cons _ (.cons _ (.cons _ (.cons _ (.cons _ (.cons_cons _ (.cons _ (.cons_cons _ (.cons _ (.cons _ (.cons _ (.cons _ (.cons _ (.cons _ (List.nil_sublist _)))))))))))))))), ?_⟩
    refine dl 19 rfl (by kernel_rfl) ?_
    refine cv cf34 hS rfl rfl rfl rfl rfl (sp_session_first b53 95 3 _ (nth4 51 78 78 78) (nth4 ([Ptr b9 0]) ([Ptr p43 0, Ptr q43 0]) ([Ptr p52 0, Ptr q52 0]) ([Ptr p52 0, Ptr q52 0])) (nth4 (dcdE m.key bs) (if ((((dcdD m.key bs : Nat) : Int) : Int) == ((m.dir : Nat) : Int)) = true then 8 else 0) (if (!(frsh m.ls (dcdS m.key bs))) = true then 9 else 0) 0) _ (by omega) (hS.get 0 rfl) (fun k hk => by rcases (show k = 0 ∨ k = 1 ∨ k = 2 by omega) with rfl | rfl | rfl <;> rfl) (fun k hk => by rcases (show k = 0 ∨ k = 1 ∨ k = 2 by omega) with rfl | rfl | rfl <;> first | exact cf51 | exact cf78) (fun k hk W hW => by
        rcases (show k = 0 ∨ k = 1 ∨ k = 2 by omega) with rfl | rfl | rfl
        · exact sp_session_Session_Receive_1 b9 _ (dcdE m.key bs) W (hW.old (hS.get 6 rfl) List.not_mem_nil)
        · exact sp_session_when_1 p43 _ q43 _ ((((dcdD m.key bs : Nat) : Int) : Int) == ((m.dir : Nat) : Int)) 8 W (hW.old (hS.get 4 rfl) List.not_mem_nil) (hW.old (hS.get 3 rfl) List.not_mem_nil) (by decide)
        · exact sp_session_when_1 p52 _ q52 _ (!(frsh m.ls (dcdS m.key bs))) 9 W (hW.old (hS.get 2 rfl) List.not_mem_nil) (hW.old (hS.get 1 rfl) List.not_mem_nil) (by decide))) ?_
    intro w hS
    refine ⟨fun _ => (hS.sublist (.cons _ (.cons _ (.cons _ (.cons _ (.cons _ (.cons_cons _ (.cons _ (.cons_cons _ (.cons _ (.cons _ (.cons _ (.cons _ (.cons _ (.cons _ (List.nil_sublist _)))))))))))))))), ?_⟩
    refine dl 20 rfl (by kernel_rfl) ?_
    refine asg rfl rfl rfl ?_
    refine ⟨fun h => (by cases h), ?_⟩
    refine de (by kernel_rfl) ?_
    refine wq_then ?_
    refine rg ?_
    refine mv rfl rfl rfl ?_
    refine neE (C := 33) (c := (fstE (nth4 (dcdE m.key bs) (if ((((dcdD m.key bs : Nat) : Int) : Int) == ((m.dir : Nat) : Int)) = true then 8 else 0) (if (!(frsh m.ls (dcdS m.key bs))) = true then 9 else 0) 0) 3)) Tryz.underlying27 rfl rfl rfl ?_
    refine wq_then ?_
    refine wc_if rfl (fun hc2 => ?_) (fun hc2 => ?_)
    · skip
      try simp only [SB] at hc2
      have hE2 : ¬ rcvE m bs = 0 := by simpa [rcvE, hcz] using hc2
      refine rg ?_
      refine mv rfl rfl rfl ?_
      refine nilp rfl rfl rfl ?_
      refine fan (4) (4) Tryz.underlying90 rfl sz83 (by decide) rfl rfl rfl rfl (by omega) ?_
      refine lo 7 sc83 hS rfl rfl rfl rfl rfl ?_
      refine cm cf53 rfl rfl rfl rfl rfl (sp_filter_Filter_Refuse (pf) (_) (m.ac) (m.rf) (m.ls) _ (hS.get 8 rfl) (by omega)) ?_
      rintro _ _ w rfl hS1
      have hS : St w0 G ([(b53, .cells (#[.func (.func 51) #[] #[Ptr b9 0], .func (.func 78) #[] #[Ptr p43 0, Ptr q43 0], .func (.func 78) #[] #[Ptr p52 0, Ptr q52 0]]) 95), (q52, .cells (#[I (9)]) 33), (p52, .cells (#[.bool ((!(frsh m.ls (dcdS m.key bs))))]) 4), (q43, .cells (#[I (8)]) 33), (p43, .cells (#[.bool (((((dcdD m.key bs : Nat) : Int) : Int) == ((m.dir : Nat) : Int)))]) 4), (b10, .cells (#[I (((dcdD m.key bs : Nat) : Int)), U64 (dcdS m.key bs), U16 (dcdT m.key bs), U16 (dcdM m.key bs), .slice a31 n31 c31]) 100), (b9, .cells (#[(errV 33 (dcdE m.key bs))]) 27), (s, .cells (#[Ptr pp 0, I (((m.dir : Nat) : Int)), Ptr t 0, Ptr pc 0, Ptr pf 0, Ptr pe 0, U16 (m.rl), I (((m.rc : Nat) : Int)), U32 (m.re), U64 (m.fs), .bool (m.cz)]) E1), (pf, .cells (#[I ((m.ac : Int)), I (((m.rf + 1 : Nat) : Int)), U64 (m.ls)]) E2), (pc, .cells (#[U64 (m.nx), U64 (m.gv), .bool (false)]) E3), (t, .cells (tableC c m.key) E4), (c, .cells (cipherC m.key) E5), (pp, .cells (#[Str m.ad, .bool (m.fx), I (((m.mv : Nat) : Int)), .map (some pm)]) E6), (pm, mOb encS vI mm)] ++ (Z ++ (X31 ++ []))) w := St.calls (L1 := [(pf, .cells (#[I (((m.ac : Nat) : Int)), I (((m.rf : Nat) : Int)), U64 (m.ls)]) E2)]) (N := [(pf, .cells (#[I ((m.ac : Int)), I (((m.rf + 1 : Nat) : Int)), U64 (m.ls)]) E2)]) (L2 := []) hS [8] rfl rfl hS1
      refine wq_then ?_
      refine rg ?_
      refine mv rfl rfl rfl ?_
      refine asg rfl rfl rfl ?_
      refine st 6 sz27 hS rfl rfl rfl (errV_one _ _) (errV_cells _ _) rfl Nat.zero_lt_one rfl ?_
      intro w hS
      refine wq_then ?_
      refine wc_ret ?_
      refine q_then_ret ?_
      refine fin2 (v := (.slice none 0 0)) (u := (errV 33 (fstE (nth4 (dcdE m.key bs) (if ((((dcdD m.key bs : Nat) : Int) : Int) == ((m.dir : Nat) : Int)) = true then 8 else 0) (if (!(frsh m.ls (dcdS m.key bs))) = true then 9 else 0) 0) 3))) rfl rfl ⟨_, rfl, lv_c sc27 (hS.get 6 rfl) rfl⟩ ?_
      have eM : rcvM m bs fr x = { m with rf := m.rf + 1 } := by rw [rcvM, if_neg hcz, if_neg hE2]
      have eP : rcvP m bs = [] := if_neg hE2
      skip
      exact ⟨_, _, rfl, ⟨none, 0, 0, [(s, .cells (#[Ptr pp 0, I (((m.dir : Nat) : Int)), Ptr t 0, Ptr pc 0, Ptr pf 0, Ptr pe 0, U16 (m.rl), I (((m.rc : Nat) : Int)), U32 (m.re), U64 (m.fs), .bool (m.cz)]) E1), (pf, .cells (#[I ((m.ac : Int)), I (((m.rf + 1 : Nat) : Int)), U64 (m.ls)]) E2), (pc, .cells (#[U64 (m.nx), U64 (m.gv), .bool (false)]) E3), (t, .cells (tableC c m.key) E4), (c, .cells (cipherC m.key) E5), (pp, .cells (#[Str m.ad, .bool (m.fx), I (((m.mv : Nat) : Int)), .map (some pm)]) E6), (pm, mOb encS vI mm)] ++ Z, [], by rw [rcvE_o hcz], by rw [eM]; exact ⟨pp, pm, pc, pf, pe, t, c, _, _, _, _, _, _, _, _, hd1, hE, rfl⟩, by rw [eP]; exact Gives.nil, rfl⟩, St.pk0 (U := [(b53, .cells (#[.func (.func 51) #[] #[Ptr b9 0], .func (.func 78) #[] #[Ptr p43 0, Ptr q43 0], .func (.func 78) #[] #[Ptr p52 0, Ptr q52 0]]) 95), (q52, .cells (#[I (9)]) 33), (p52, .cells (#[.bool ((!(frsh m.ls (dcdS m.key bs))))]) 4), (q43, .cells (#[I (8)]) 33), (p43, .cells (#[.bool (((((dcdD m.key bs : Nat) : Int) : Int) == ((m.dir : Nat) : Int)))]) 4), (b10, .cells (#[I (((dcdD m.key bs : Nat) : Int)), U64 (dcdS m.key bs), U16 (dcdT m.key bs), U16 (dcdM m.key bs), .slice a31 n31 c31]) 100), (b9, .cells (#[(errV 33 (fstE (nth4 (dcdE m.key bs) (if ((((dcdD m.key bs : Nat) : Int) : Int) == ((m.dir : Nat) : Int)) = true then 8 else 0) (if (!(frsh m.ls (dcdS m.key bs))) = true then 9 else 0) 0) 3))]) 27)]) (B := [(s, .cells (#[Ptr pp 0, I (((m.dir : Nat) : Int)), Ptr t 0, Ptr pc 0, Ptr pf 0, Ptr pe 0, U16 (m.rl), I (((m.rc : Nat) : Int)), U32 (m.re), U64 (m.fs), .bool (m.cz)]) E1), (pf, .cells (#[I ((m.ac : Int)), I (((m.rf + 1 : Nat) : Int)), U64 (m.ls)]) E2), (pc, .cells (#[U64 (m.nx), U64 (m.gv), .bool (false)]) E3), (t, .cells (tableC c m.key) E4), (c, .cells (cipherC m.key) E5), (pp, .cells (#[Str m.ad, .bool (m.fx), I (((m.mv : Nat) : Int)), .map (some pm)]) E6), (pm, mOb encS vI mm)]) (Z := Z) (R := (X31 ++ [])) hS⟩
    · skip
      try simp only [SB] at hc2
      have hE2 : rcvE m bs = 0 := by simpa [rcvE, hcz] using hc2
      obtain ⟨h1, h2, h3⟩ := fst3_0.1 ((rcvE_o hcz).symm.trans hE2)
      have hfr : frsh m.ls (dcdS m.key bs) = true := by simpa using h3
      refine wc_skip ?_
      refine wq_then ?_
      refine wc_seq ?_
      refine rd mo 7 (fun w => St w0 G [(b10, .cells (#[I (((dcdD m.key bs : Nat) : Int)), U64 (dcdS m.key bs), U16 (dcdT m.key bs), U16 (dcdM m.key bs), .slice a31 n31 c31]) 100), (s, .cells (#[Ptr pp 0, I (((m.dir : Nat) : Int)), Ptr t 0, Ptr pc 0, Ptr pf 0, Ptr pe 0, U16 (m.rl), I (((m.rc : Nat) : Int)), U32 (m.re), U64 (m.fs), .bool (m.cz)]) E1)] w) ?_
      have hS := hS.drew
      refine dq 0 rfl (by kernel_rfl) (by kernel_rfl) (by kernel_rfl) rfl rfl (fun w hS => mv rfl rfl rfl ⟨rfl, rfl⟩) (hS.sublist (.cons _ (.cons _ (.cons _ (.cons _ (.cons _ (.cons_cons _ (.cons _ (.cons_cons _ (.cons _ (.cons _ (.cons _ (.cons _ (.cons _ (.cons _ (List.nil_sublist _)))))))))))))))) ?_
      refine dq 1 rfl (by kernel_rfl) (by kernel_rfl) (by kernel_rfl) rfl rfl (fun w hS => nilp rfl rfl rfl ⟨rfl, rfl⟩) (hS.sublist (.cons _ (.cons _ (.cons _ (.cons _ (.cons _ (.cons_cons _ (.cons _ (.cons_cons _ (.cons _ (.cons _ (.cons _ (.cons _ (.cons _ (.cons _ (List.nil_sublist _)))))))))))))))) ?_
      refine dq 2 rfl (by kernel_rfl) (by kernel_rfl) (by kernel_rfl) rfl rfl (fun w hS => fan (4) (4) Tryz.underlying90 rfl sz83 (by decide) rfl rfl rfl rfl (by omega) ⟨rfl, rfl⟩) (hS.sublist (.cons _ (.cons _ (.cons _ (.cons _ (.cons _ (.cons_cons _ (.cons _ (.cons_cons _ (.cons _ (.cons _ (.cons _ (.cons _ (.cons _ (.cons _ (List.nil_sublist _)))))))))))))))) ?_
      refine dq 3 rfl (by kernel_rfl) (by kernel_rfl) (by kernel_rfl) rfl rfl (fun w hS => lo 1 sc83 hS rfl rfl rfl rfl rfl ⟨rfl, rfl⟩) (hS.sublist (.cons _ (.cons _ (.cons _ (.cons _ (.cons _ (.cons_cons _ (.cons _ (.cons_cons _ (.cons _ (.cons _ (.cons _ (.cons _ (.cons _ (.cons _ (List.nil_sublist _)))))))))))))))) ?_
      refine dq 4 rfl (by kernel_rfl) (by kernel_rfl) (by kernel_rfl) rfl rfl (fun w hS => fan (1) (1) Tryz.underlying100 rfl sz24 (by decide) rfl rfl rfl rfl (by omega) ⟨rfl, rfl⟩) (hS.sublist (.cons _ (.cons _ (.cons _ (.cons _ (.cons _ (.cons_cons _ (.cons _ (.cons_cons _ (.cons _ (.cons _ (.cons _ (.cons _ (.cons _ (.cons _ (List.nil_sublist _)))))))))))))))) ?_
      refine dq 5 rfl (by kernel_rfl) (by kernel_rfl) (by kernel_rfl) rfl rfl (fun w hS => lo 0 sc24 hS rfl rfl rfl rfl rfl ⟨rfl, rfl⟩) (hS.sublist (.cons _ (.cons _ (.cons _ (.cons _ (.cons _ (.cons_cons _ (.cons _ (.cons_cons _ (.cons _ (.cons _ (.cons _ (.cons _ (.cons _ (.cons _ (List.nil_sublist _)))))))))))))))) ?_
      refine dl 6 rfl (by kernel_rfl) ?_
      refine cm cf54 rfl rfl rfl rfl rfl (sp_filter_Filter_Accept (pf) (_) (m.ac) (m.rf) (m.ls) ((dcdS m.key bs)) _ (hS.get 8 rfl) (by omega) (by assumption)) ?_
      rintro _ _ w ⟨rfl, rfl⟩ hS1
      have hS : St w0 G ([(b53, .cells (#[.func (.func 51) #[] #[Ptr b9 0], .func (.func 78) #[] #[Ptr p43 0, Ptr q43 0], .func (.func 78) #[] #[Ptr p52 0, Ptr q52 0]]) 95), (q52, .cells (#[I (9)]) 33), (p52, .cells (#[.bool ((!(frsh m.ls (dcdS m.key bs))))]) 4), (q43, .cells (#[I (8)]) 33), (p43, .cells (#[.bool (((((dcdD m.key bs : Nat) : Int) : Int) == ((m.dir : Nat) : Int)))]) 4), (b10, .cells (#[I (((dcdD m.key bs : Nat) : Int)), U64 (dcdS m.key bs), U16 (dcdT m.key bs), U16 (dcdM m.key bs), .slice a31 n31 c31]) 100), (b9, .cells (#[(errV 33 (dcdE m.key bs))]) 27), (s, .cells (#[Ptr pp 0, I (((m.dir : Nat) : Int)), Ptr t 0, Ptr pc 0, Ptr pf 0, Ptr pe 0, U16 (m.rl), I (((m.rc : Nat) : Int)), U32 (m.re), U64 (m.fs), .bool (m.cz)]) E1), (pf, .cells (#[I (((m.ac + 1 : Nat) : Int)), I ((m.rf : Int)), U64 ((dcdS m.key bs) + 1)]) E2), (pc, .cells (#[U64 (m.nx), U64 (m.gv), .bool (false)]) E3), (t, .cells (tableC c m.key) E4), (c, .cells (cipherC m.key) E5), (pp, .cells (#[Str m.ad, .bool (m.fx), I (((m.mv : Nat) : Int)), .map (some pm)]) E6), (pm, mOb encS vI mm)] ++ (Z ++ (X31 ++ []))) w := St.calls (L1 := [(pf, .cells (#[I (((m.ac : Nat) : Int)), I (((m.rf : Nat) : Int)), U64 (m.ls)]) E2)]) (N := [(pf, .cells (#[I (((m.ac + 1 : Nat) : Int)), I ((m.rf : Int)), U64 ((dcdS m.key bs) + 1)]) E2)]) (L2 := []) hS [8] rfl rfl hS1
      refine ⟨fun _ => (hS.sublist (.cons _ (.cons _ (.cons _ (.cons _ (.cons _ (.cons_cons _ (.cons _ (.cons_cons _ (.cons _ (.cons _ (.cons _ (.cons _ (.cons _ (.cons _ (List.nil_sublist _)))))))))))))))), ?_⟩
      refine dl 7 rfl (by kernel_rfl) ?_
      refine asg rfl rfl rfl ?_
      refine ⟨fun h => (by cases h), ?_⟩
      refine de (by kernel_rfl) ?_
      refine wq_then ?_
      refine rg ?_
      refine mv rfl rfl rfl ?_
      refine neE (C := 33) (c := 0) Tryz.underlying27 rfl rfl rfl ?_
      refine wq_then ?_
      refine wc_if rfl (fun hc3 => ?_) (fun hc3 => ?_)
      · skip
        try simp only [SB] at hc3
        exact absurd rfl hc3
      · skip
        try simp only [SB] at hc3
        refine wc_skip ?_
        refine wq_then ?_
        refine rd mo 8 (fun w => St w0 G [(b10, .cells (#[I (((dcdD m.key bs : Nat) : Int)), U64 (dcdS m.key bs), U16 (dcdT m.key bs), U16 (dcdM m.key bs), .slice a31 n31 c31]) 100), (s, .cells (#[Ptr pp 0, I (((m.dir : Nat) : Int)), Ptr t 0, Ptr pc 0, Ptr pf 0, Ptr pe 0, U16 (m.rl), I (((m.rc : Nat) : Int)), U32 (m.re), U64 (m.fs), .bool (m.cz)]) E1)] w) ?_
        have hS := hS.drew
        refine dq 0 rfl (by kernel_rfl) (by kernel_rfl) (by kernel_rfl) rfl rfl (fun w hS => mv rfl rfl rfl ⟨rfl, rfl⟩) (hS.sublist (.cons _ (.cons _ (.cons _ (.cons _ (.cons _ (.cons_cons _ (.cons _ (.cons_cons _ (.cons _ (.cons _ (.cons _ (.cons _ (.cons _ (.cons _ (List.nil_sublist _)))))))))))))))) ?_
        refine dq 1 rfl (by kernel_rfl) (by kernel_rfl) (by kernel_rfl) rfl rfl (fun w hS => nilp rfl rfl rfl ⟨rfl, rfl⟩) (hS.sublist (.cons _ (.cons _ (.cons _ (.cons _ (.cons _ (.cons_cons _ (.cons _ (.cons_cons _ (.cons _ (.cons _ (.cons _ (.cons _ (.cons _ (.cons _ (List.nil_sublist _)))))))))))))))) ?_
        refine dq 2 rfl (by kernel_rfl) (by kernel_rfl) (by kernel_rfl) rfl rfl (fun w hS => fan (5) (5) Tryz.underlying90 rfl sz85 (by decide) rfl rfl rfl rfl (by omega) ⟨rfl, rfl⟩) (hS.sublist (.cons _ (.cons _ (.cons _ (.cons _ (.cons _ (.cons_cons _ (.cons _ (.cons_cons _ (.cons _ (.cons _ (.cons _ (.cons _ (.cons _ (.cons _ (List.nil_sublist _)))))))))))))))) ?_
        refine dq 3 rfl (by kernel_rfl) (by kernel_rfl) (by kernel_rfl) rfl rfl (fun w hS => lo 1 sc85 hS rfl rfl rfl rfl rfl ⟨rfl, rfl⟩) (hS.sublist (.cons _ (.cons _ (.cons _ (.cons _ (.cons _ (.cons_cons _ (.cons _ (.cons_cons _ (.cons _ (.cons _ (.cons _ (.cons _ (.cons _ (.cons _ (List.nil_sublist _)))))))))))))))) ?_
        refine dq 4 rfl (by kernel_rfl) (by kernel_rfl) (by kernel_rfl) rfl rfl (fun w hS => fan (2) (2) Tryz.underlying100 rfl sz36 (by decide) rfl rfl rfl rfl (by omega) ⟨rfl, rfl⟩) (hS.sublist (.cons _ (.cons _ (.cons _ (.cons _ (.cons _ (.cons_cons _ (.cons _ (.cons_cons _ (.cons _ (.cons _ (.cons _ (.cons _ (.cons _ (.cons _ (List.nil_sublist _)))))))))))))))) ?_
        refine dq 5 rfl (by kernel_rfl) (by kernel_rfl) (by kernel_rfl) rfl rfl (fun w hS => lo 0 sc36 hS rfl rfl rfl rfl rfl ⟨rfl, rfl⟩) (hS.sublist (.cons _ (.cons _ (.cons _ (.cons _ (.cons _ (.cons_cons _ (.cons _ (.cons_cons _ (.cons _ (.cons _ (.cons _ (.cons _ (.cons _ (.cons _ (List.nil_sublist _)))))))))))))))) ?_
        refine dq 6 rfl (by kernel_rfl) (by kernel_rfl) (by kernel_rfl) rfl rfl (fun w hS => mv rfl rfl rfl ⟨rfl, rfl⟩) (hS.sublist (.cons _ (.cons _ (.cons _ (.cons _ (.cons _ (.cons_cons _ (.cons _ (.cons_cons _ (.cons _ (.cons _ (.cons _ (.cons _ (.cons _ (.cons _ (List.nil_sublist _)))))))))))))))) ?_
        refine dl 7 rfl (by kernel_rfl) ?_
        refine cm cf55 rfl rfl rfl rfl rfl (sp_EchoTake pe m.kp (dcdT m.key bs) x Z _ hE (St.memT (A := [(b53, .cells (#[.func (.func 51) #[] #[Ptr b9 0], .func (.func 78) #[] #[Ptr p43 0, Ptr q43 0], .func (.func 78) #[] #[Ptr p52 0, Ptr q52 0]]) 95), (q52, .cells (#[I (9)]) 33), (p52, .cells (#[.bool ((!(frsh m.ls (dcdS m.key bs))))]) 4), (q43, .cells (#[I (8)]) 33), (p43, .cells (#[.bool (((((dcdD m.key bs : Nat) : Int) : Int) == ((m.dir : Nat) : Int)))]) 4), (b10, .cells (#[I (((dcdD m.key bs : Nat) : Int)), U64 (dcdS m.key bs), U16 (dcdT m.key bs), U16 (dcdM m.key bs), .slice a31 n31 c31]) 100), (b9, .cells (#[(errV 33 (dcdE m.key bs))]) 27), (s, .cells (#[Ptr pp 0, I (((m.dir : Nat) : Int)), Ptr t 0, Ptr pc 0, Ptr pf 0, Ptr pe 0, U16 (m.rl), I (((m.rc : Nat) : Int)), U32 (m.re), U64 (m.fs), .bool (m.cz)]) E1), (pf, .cells (#[I (((m.ac + 1 : Nat) : Int)), I ((m.rf : Int)), U64 ((dcdS m.key bs) + 1)]) E2), (pc, .cells (#[U64 (m.nx), U64 (m.gv), .bool (false)]) E3), (t, .cells (tableC c m.key) E4), (c, .cells (cipherC m.key) E5), (pp, .cells (#[Str m.ad, .bool (m.fx), I (((m.mv : Nat) : Int)), .map (some pm)]) E6), (pm, mOb encS vI mm)]) (X := Z) (R := (X31 ++ [])) hS) (St.nodupT (A := [(b53, .cells (#[.func (.func 51) #[] #[Ptr b9 0], .func (.func 78) #[] #[Ptr p43 0, Ptr q43 0], .func (.func 78) #[] #[Ptr p52 0, Ptr q52 0]]) 95), (q52, .cells (#[I (9)]) 33), (p52, .cells (#[.bool ((!(frsh m.ls (dcdS m.key bs))))]) 4), (q43, .cells (#[I (8)]) 33), (p43, .cells (#[.bool (((((dcdD m.key bs : Nat) : Int) : Int) == ((m.dir : Nat) : Int)))]) 4), (b10, .cells (#[I (((dcdD m.key bs : Nat) : Int)), U64 (dcdS m.key bs), U16 (dcdT m.key bs), U16 (dcdM m.key bs), .slice a31 n31 c31]) 100), (b9, .cells (#[(errV 33 (dcdE m.key bs))]) 27), (s, .cells (#[Ptr pp 0, I (((m.dir : Nat) : Int)), Ptr t 0, Ptr pc 0, Ptr pf 0, Ptr pe 0, U16 (m.rl), I (((m.rc : Nat) : Int)), U32 (m.re), U64 (m.fs), .bool (m.cz)]) E1), (pf, .cells (#[I (((m.ac + 1 : Nat) : Int)), I ((m.rf : Int)), U64 ((dcdS m.key bs) + 1)]) E2), (pc, .cells (#[U64 (m.nx), U64 (m.gv), .bool (false)]) E3), (t, .cells (tableC c m.key) E4), (c, .cells (cipherC m.key) E5), (pp, .cells (#[Str m.ad, .bool (m.fx), I (((m.mv : Nat) : Int)), .map (some pm)]) E6), (pm, mOb encS vI mm)]) (X := Z) (R := (X31 ++ [])) hS)) ?_
        rintro _ Y80 w hE1 hS1
        have hS : St w0 G ([(b53, .cells (#[.func (.func 51) #[] #[Ptr b9 0], .func (.func 78) #[] #[Ptr p43 0, Ptr q43 0], .func (.func 78) #[] #[Ptr p52 0, Ptr q52 0]]) 95), (q52, .cells (#[I (9)]) 33), (p52, .cells (#[.bool ((!(frsh m.ls (dcdS m.key bs))))]) 4), (q43, .cells (#[I (8)]) 33), (p43, .cells (#[.bool (((((dcdD m.key bs : Nat) : Int) : Int) == ((m.dir : Nat) : Int)))]) 4), (b10, .cells (#[I (((dcdD m.key bs : Nat) : Int)), U64 (dcdS m.key bs), U16 (dcdT m.key bs), U16 (dcdM m.key bs), .slice a31 n31 c31]) 100), (b9, .cells (#[(errV 33 (dcdE m.key bs))]) 27), (s, .cells (#[Ptr pp 0, I (((m.dir : Nat) : Int)), Ptr t 0, Ptr pc 0, Ptr pf 0, Ptr pe 0, U16 (m.rl), I (((m.rc : Nat) : Int)), U32 (m.re), U64 (m.fs), .bool (m.cz)]) E1), (pf, .cells (#[I (((m.ac + 1 : Nat) : Int)), I ((m.rf : Int)), U64 ((dcdS m.key bs) + 1)]) E2), (pc, .cells (#[U64 (m.nx), U64 (m.gv), .bool (false)]) E3), (t, .cells (tableC c m.key) E4), (c, .cells (cipherC m.key) E5), (pp, .cells (#[Str m.ad, .bool (m.fx), I (((m.mv : Nat) : Int)), .map (some pm)]) E6), (pm, mOb encS vI mm)] ++ (Y80 ++ (X31 ++ []))) w := St.callX (A := [(b53, .cells (#[.func (.func 51) #[] #[Ptr b9 0], .func (.func 78) #[] #[Ptr p43 0, Ptr q43 0], .func (.func 78) #[] #[Ptr p52 0, Ptr q52 0]]) 95), (q52, .cells (#[I (9)]) 33), (p52, .cells (#[.bool ((!(frsh m.ls (dcdS m.key bs))))]) 4), (q43, .cells (#[I (8)]) 33), (p43, .cells (#[.bool (((((dcdD m.key bs : Nat) : Int) : Int) == ((m.dir : Nat) : Int)))]) 4), (b10, .cells (#[I (((dcdD m.key bs : Nat) : Int)), U64 (dcdS m.key bs), U16 (dcdT m.key bs), U16 (dcdM m.key bs), .slice a31 n31 c31]) 100), (b9, .cells (#[(errV 33 (dcdE m.key bs))]) 27), (s, .cells (#[Ptr pp 0, I (((m.dir : Nat) : Int)), Ptr t 0, Ptr pc 0, Ptr pf 0, Ptr pe 0, U16 (m.rl), I (((m.rc : Nat) : Int)), U32 (m.re), U64 (m.fs), .bool (m.cz)]) E1), (pf, .cells (#[I (((m.ac + 1 : Nat) : Int)), I ((m.rf : Int)), U64 ((dcdS m.key bs) + 1)]) E2), (pc, .cells (#[U64 (m.nx), U64 (m.gv), .bool (false)]) E3), (t, .cells (tableC c m.key) E4), (c, .cells (cipherC m.key) E5), (pp, .cells (#[Str m.ad, .bool (m.fx), I (((m.mv : Nat) : Int)), .map (some pm)]) E6), (pm, mOb encS vI mm)]) (X := Z) (R := (X31 ++ [])) hS hS1
        refine ⟨fun _ => (hS.sublist (.cons _ (.cons _ (.cons _ (.cons _ (.cons _ (.cons_cons _ (.cons _ (.cons_cons _ (.cons _ (.cons _ (.cons _ (.cons _ (.cons _ (.cons _ (List.nil_sublist _)))))))))))))))), ?_⟩
        refine de (by kernel_rfl) ?_
        refine wq_then ?_
        refine wc_seq ?_
        refine rd mo 9 (fun w => St w0 G [(b10, .cells (#[I (((dcdD m.key bs : Nat) : Int)), U64 (dcdS m.key bs), U16 (dcdT m.key bs), U16 (dcdM m.key bs), .slice a31 n31 c31]) 100)] w) ?_
        have hS := hS.drew
        refine dq 0 rfl (by kernel_rfl) (by kernel_rfl) (by kernel_rfl) rfl rfl (fun w hS => mv rfl rfl rfl ⟨rfl, rfl⟩) (hS.sublist (.cons _ (.cons _ (.cons _ (.cons _ (.cons _ (.cons_cons _ (.cons _ (.cons _ (.cons _ (.cons _ (.cons _ (.cons _ (.cons _ (.cons _ (List.nil_sublist _)))))))))))))))) ?_
        refine dq 2 rfl (by kernel_rfl) (by kernel_rfl) (by kernel_rfl) rfl rfl (fun w hS => fan (3) (3) Tryz.underlying100 rfl sz36 (by decide) rfl rfl rfl rfl (by omega) ⟨rfl, rfl⟩) (hS.sublist (.cons _ (.cons _ (.cons _ (.cons _ (.cons _ (.cons_cons _ (.cons _ (.cons _ (.cons _ (.cons _ (.cons _ (.cons _ (.cons _ (.cons _ (List.nil_sublist _)))))))))))))))) ?_
        refine dq 3 rfl (by kernel_rfl) (by kernel_rfl) (by kernel_rfl) rfl rfl (fun w hS => lo 0 sc36 hS rfl rfl rfl rfl rfl ⟨rfl, rfl⟩) (hS.sublist (.cons _ (.cons _ (.cons _ (.cons _ (.cons _ (.cons_cons _ (.cons _ (.cons _ (.cons _ (.cons _ (.cons _ (.cons _ (.cons _ (.cons _ (List.nil_sublist _)))))))))))))))) ?_
        refine dl 1 rfl (by kernel_rfl) ?_
        refine cv cf37 hS rfl rfl rfl rfl rfl (sp_stamp_Of (x) _) ?_
        intro w hS
        refine ⟨fun _ => (hS.sublist (.cons _ (.cons _ (.cons _ (.cons _ (.cons _ (.cons_cons _ (.cons _ (.cons _ (.cons _ (.cons _ (.cons _ (.cons _ (.cons _ (.cons _ (List.nil_sublist _)))))))))))))))), ?_⟩
        refine dl 4 rfl (by kernel_rfl) ?_
        refine cv cf56 hS rfl rfl rfl rfl rfl (sp_stamp_Sample ((ofT x)) ((dcdM m.key bs)) _) ?_
        intro w hS
        refine ⟨fun _ => (hS.sublist (.cons _ (.cons _ (.cons _ (.cons _ (.cons _ (.cons_cons _ (.cons _ (.cons _ (.cons _ (.cons _ (.cons _ (.cons _ (.cons _ (.cons _ (List.nil_sublist _)))))))))))))))), ?_⟩
        refine dq 5 rfl (by kernel_rfl) (by kernel_rfl) (by kernel_rfl) rfl rfl (fun w hS => mv rfl rfl rfl ⟨rfl, rfl⟩) (hS.sublist (.cons _ (.cons _ (.cons _ (.cons _ (.cons _ (.cons_cons _ (.cons _ (.cons _ (.cons _ (.cons _ (.cons _ (.cons _ (.cons _ (.cons _ (List.nil_sublist _)))))))))))))))) ?_
        refine dq 6 rfl (by kernel_rfl) (by kernel_rfl) (by kernel_rfl) rfl rfl (fun w hS => ext rfl rfl rfl rfl ⟨rfl, rfl⟩) (hS.sublist (.cons _ (.cons _ (.cons _ (.cons _ (.cons _ (.cons_cons _ (.cons _ (.cons _ (.cons _ (.cons _ (.cons _ (.cons _ (.cons _ (.cons _ (List.nil_sublist _)))))))))))))))) ?_
        refine dq 7 rfl (by kernel_rfl) (by kernel_rfl) (by kernel_rfl) rfl rfl (fun w hS => ext rfl rfl rfl rfl ⟨rfl, rfl⟩) (hS.sublist (.cons _ (.cons _ (.cons _ (.cons _ (.cons _ (.cons_cons _ (.cons _ (.cons _ (.cons _ (.cons _ (.cons _ (.cons _ (.cons _ (.cons _ (List.nil_sublist _)))))))))))))))) ?_
        refine dq 8 rfl (by kernel_rfl) (by kernel_rfl) (by kernel_rfl) rfl rfl (fun w hS => asg rfl rfl rfl ⟨rfl, rfl⟩) (hS.sublist (.cons _ (.cons _ (.cons _ (.cons _ (.cons _ (.cons_cons _ (.cons _ (.cons _ (.cons _ (.cons _ (.cons _ (.cons _ (.cons _ (.cons _ (List.nil_sublist _)))))))))))))))) ?_
        refine dl 9 rfl (by kernel_rfl) ?_
        refine asg rfl rfl rfl ?_
        refine ⟨fun h => (by cases h), ?_⟩
        refine de (by kernel_rfl) ?_
        refine wq_then ?_
        refine rg ?_
        refine mv rfl rfl rfl ?_
        refine wq_then ?_
        refine wc_if rfl (fun hc4 => ?_) (fun hc4 => ?_)
        · skip
          try simp only [SB] at hc4
          have hM : ¬ dcdM m.key bs = 65535 := by simpa using hc4
          refine wc_region ?_
          refine mv rfl rfl rfl ?_
          refine nilp rfl rfl rfl ?_
          refine fan (6) (6) Tryz.underlying90 rfl sz88 (by decide) rfl rfl rfl rfl (by omega) ?_
          refine mv rfl rfl rfl ?_
          refine cm cf57 rfl rfl rfl rfl rfl (sp_echo_Rtt_Add (s) (_) (_) (_) (_) (_) (_) (_) (_) (_) (_) (_) (_) ((smpV (ofT x) (dcdM m.key bs))) _ (hS.get 7 rfl) (by omega)) ?_
          rintro _ _ w rfl hS1
          have hS : St w0 G ([(b53, .cells (#[.func (.func 51) #[] #[Ptr b9 0], .func (.func 78) #[] #[Ptr p43 0, Ptr q43 0], .func (.func 78) #[] #[Ptr p52 0, Ptr q52 0]]) 95), (q52, .cells (#[I (9)]) 33), (p52, .cells (#[.bool ((!(frsh m.ls (dcdS m.key bs))))]) 4), (q43, .cells (#[I (8)]) 33), (p43, .cells (#[.bool (((((dcdD m.key bs : Nat) : Int) : Int) == ((m.dir : Nat) : Int)))]) 4), (b10, .cells (#[I (((dcdD m.key bs : Nat) : Int)), U64 (dcdS m.key bs), U16 (dcdT m.key bs), U16 (dcdM m.key bs), .slice a31 n31 c31]) 100), (b9, .cells (#[(errV 33 (dcdE m.key bs))]) 27), (s, .cells (#[Ptr pp 0, I (((m.dir : Nat) : Int)), Ptr t 0, Ptr pc 0, Ptr pf 0, Ptr pe 0, U16 ((smpV (ofT x) (dcdM m.key bs))), I (((m.rc + 1 : Nat) : Int)), U32 (estN m.rc m.re (smpV (ofT x) (dcdM m.key bs))), U64 (m.fs), .bool (m.cz)]) E1), (pf, .cells (#[I (((m.ac + 1 : Nat) : Int)), I ((m.rf : Int)), U64 ((dcdS m.key bs) + 1)]) E2), (pc, .cells (#[U64 (m.nx), U64 (m.gv), .bool (false)]) E3), (t, .cells (tableC c m.key) E4), (c, .cells (cipherC m.key) E5), (pp, .cells (#[Str m.ad, .bool (m.fx), I (((m.mv : Nat) : Int)), .map (some pm)]) E6), (pm, mOb encS vI mm)] ++ (Y80 ++ (X31 ++ []))) w := St.calls (L1 := [(s, .cells (#[Ptr pp 0, I (((m.dir : Nat) : Int)), Ptr t 0, Ptr pc 0, Ptr pf 0, Ptr pe 0, U16 (m.rl), I (((m.rc : Nat) : Int)), U32 (m.re), U64 (m.fs), .bool (m.cz)]) E1)]) (N := [(s, .cells (#[Ptr pp 0, I (((m.dir : Nat) : Int)), Ptr t 0, Ptr pc 0, Ptr pf 0, Ptr pe 0, U16 ((smpV (ofT x) (dcdM m.key bs))), I (((m.rc + 1 : Nat) : Int)), U32 (estN m.rc m.re (smpV (ofT x) (dcdM m.key bs))), U64 (m.fs), .bool (m.cz)]) E1)]) (L2 := []) hS [7] rfl rfl hS1
          refine wq_then ?_
          refine rg ?_
          refine mv rfl rfl rfl ?_
          refine nilp rfl rfl rfl ?_
          refine fan (0) (0) Tryz.underlying90 rfl sz76 (by decide) rfl rfl rfl rfl (by omega) ?_
          refine lo 7 sc76 hS rfl rfl rfl rfl rfl ?_
          refine mv rfl rfl rfl ?_
          refine cm cf58 rfl rfl rfl rfl rfl (sp_peer_Peer_Move (pp) (_) (pm) (m.ad) (m.fx) (m.mv) (_) (fr) _ (hS.get 12 rfl) (hS.get 13 rfl) (nd_of hS [12, 13] rfl (by decide)) (by omega)) ?_
          rintro _ _ w ⟨b100, m100, rfl, rfl⟩ hS1
          have hS : St w0 G ([(b53, .cells (#[.func (.func 51) #[] #[Ptr b9 0], .func (.func 78) #[] #[Ptr p43 0, Ptr q43 0], .func (.func 78) #[] #[Ptr p52 0, Ptr q52 0]]) 95), (q52, .cells (#[I (9)]) 33), (p52, .cells (#[.bool ((!(frsh m.ls (dcdS m.key bs))))]) 4), (q43, .cells (#[I (8)]) 33), (p43, .cells (#[.bool (((((dcdD m.key bs : Nat) : Int) : Int) == ((m.dir : Nat) : Int)))]) 4), (b10, .cells (#[I (((dcdD m.key bs : Nat) : Int)), U64 (dcdS m.key bs), U16 (dcdT m.key bs), U16 (dcdM m.key bs), .slice a31 n31 c31]) 100), (b9, .cells (#[(errV 33 (dcdE m.key bs))]) 27), (s, .cells (#[Ptr pp 0, I (((m.dir : Nat) : Int)), Ptr t 0, Ptr pc 0, Ptr pf 0, Ptr pe 0, U16 ((smpV (ofT x) (dcdM m.key bs))), I (((m.rc + 1 : Nat) : Int)), U32 (estN m.rc m.re (smpV (ofT x) (dcdM m.key bs))), U64 (m.fs), .bool (m.cz)]) E1), (pf, .cells (#[I (((m.ac + 1 : Nat) : Int)), I ((m.rf : Int)), U64 ((dcdS m.key bs) + 1)]) E2), (pc, .cells (#[U64 (m.nx), U64 (m.gv), .bool (false)]) E3), (t, .cells (tableC c m.key) E4), (c, .cells (cipherC m.key) E5), (pp, .cells (#[Str (mvA m.fx m.ad fr), .bool (m.fx), I (((mvN m.fx m.ad fr m.mv : Nat) : Int)), .map (some pm)]) E6), (pm, mOb encS vI m100)] ++ (Y80 ++ (X31 ++ []))) w := St.calls (L1 := [(pp, .cells (#[Str m.ad, .bool (m.fx), I (((m.mv : Nat) : Int)), .map (some pm)]) E6), (pm, mOb encS vI mm)]) (N := [(pp, .cells (#[Str (mvA m.fx m.ad fr), .bool (m.fx), I (((mvN m.fx m.ad fr m.mv : Nat) : Int)), .map (some pm)]) E6), (pm, mOb encS vI m100)]) (L2 := []) hS [12, 13] rfl rfl hS1
          refine wq_then ?_
          refine rg ?_
          refine fan (4) (4) Tryz.underlying100 rfl sz30 (by decide) rfl rfl rfl rfl (by omega) ?_
          refine lo 5 sc30 hS rfl rfl rfl rfl rfl ?_
          refine asg rfl rfl rfl ?_
          refine st 6 sz27 hS rfl rfl rfl rfl rfl rfl Nat.zero_lt_one rfl ?_
          intro w hS
          refine wq_then ?_
          refine wc_ret ?_
          refine fin2 (v := .slice a31 n31 c31) (u := .nilIface) rfl rfl ⟨_, rfl, lv_c sc27 (hS.get 6 rfl) rfl⟩ ?_
          have eM : rcvM m bs fr x = { m with ac := m.ac + 1, ls := dcdS m.key bs + 1, kp := some (dcdT m.key bs, x), rl := (smpV (ofT x) (dcdM m.key bs)), rc := (m.rc + 1), re := (estN m.rc m.re (smpV (ofT x) (dcdM m.key bs))), ad := mvA m.fx m.ad fr, mv := mvN m.fx m.ad fr m.mv } := by simp [rcvM, hcz, hE2, smpM, hM]
          have eP : rcvP m bs = dcdP m.key bs := if_pos hE2
          exact ⟨_, _, rfl, ⟨_, _, _, [(s, .cells (#[Ptr pp 0, I (((m.dir : Nat) : Int)), Ptr t 0, Ptr pc 0, Ptr pf 0, Ptr pe 0, U16 ((smpV (ofT x) (dcdM m.key bs))), I (((m.rc + 1 : Nat) : Int)), U32 (estN m.rc m.re (smpV (ofT x) (dcdM m.key bs))), U64 (m.fs), .bool (m.cz)]) E1), (pf, .cells (#[I (((m.ac + 1 : Nat) : Int)), I ((m.rf : Int)), U64 ((dcdS m.key bs) + 1)]) E2), (pc, .cells (#[U64 (m.nx), U64 (m.gv), .bool (false)]) E3), (t, .cells (tableC c m.key) E4), (c, .cells (cipherC m.key) E5), (pp, .cells (#[Str (mvA m.fx m.ad fr), .bool (m.fx), I (((mvN m.fx m.ad fr m.mv : Nat) : Int)), .map (some pm)]) E6), (pm, mOb encS vI m100)] ++ Y80, X31, by rw [hE2]; rfl, by rw [eM]; exact ⟨pp, pm, pc, pf, pe, t, c, _, _, _, _, _, _, _, _, hd1, hE1, rfl⟩, by rw [eP]; exact ⟨hl31, hm31, hc31, hR31⟩, rfl⟩, St.pk (U := [(b53, .cells (#[.func (.func 51) #[] #[Ptr b9 0], .func (.func 78) #[] #[Ptr p43 0, Ptr q43 0], .func (.func 78) #[] #[Ptr p52 0, Ptr q52 0]]) 95), (q52, .cells (#[I (9)]) 33), (p52, .cells (#[.bool ((!(frsh m.ls (dcdS m.key bs))))]) 4), (q43, .cells (#[I (8)]) 33), (p43, .cells (#[.bool (((((dcdD m.key bs : Nat) : Int) : Int) == ((m.dir : Nat) : Int)))]) 4), (b10, .cells (#[I (((dcdD m.key bs : Nat) : Int)), U64 (dcdS m.key bs), U16 (dcdT m.key bs), U16 (dcdM m.key bs), .slice a31 n31 c31]) 100), (b9, .cells (#[.nilIface]) 27)]) (B := [(s, .cells (#[Ptr pp 0, I (((m.dir : Nat) : Int)), Ptr t 0, Ptr pc 0, Ptr pf 0, Ptr pe 0, U16 ((smpV (ofT x) (dcdM m.key bs))), I (((m.rc + 1 : Nat) : Int)), U32 (estN m.rc m.re (smpV (ofT x) (dcdM m.key bs))), U64 (m.fs), .bool (m.cz)]) E1), (pf, .cells (#[I (((m.ac + 1 : Nat) : Int)), I ((m.rf : Int)), U64 ((dcdS m.key bs) + 1)]) E2), (pc, .cells (#[U64 (m.nx), U64 (m.gv), .bool (false)]) E3), (t, .cells (tableC c m.key) E4), (c, .cells (cipherC m.key) E5), (pp, .cells (#[Str (mvA m.fx m.ad fr), .bool (m.fx), I (((mvN m.fx m.ad fr m.mv : Nat) : Int)), .map (some pm)]) E6), (pm, mOb encS vI m100)]) (Y := X31) (Z := Y80) (R := []) (St.swapT (A := [(b53, .cells (#[.func (.func 51) #[] #[Ptr b9 0], .func (.func 78) #[] #[Ptr p43 0, Ptr q43 0], .func (.func 78) #[] #[Ptr p52 0, Ptr q52 0]]) 95), (q52, .cells (#[I (9)]) 33), (p52, .cells (#[.bool ((!(frsh m.ls (dcdS m.key bs))))]) 4), (q43, .cells (#[I (8)]) 33), (p43, .cells (#[.bool (((((dcdD m.key bs : Nat) : Int) : Int) == ((m.dir : Nat) : Int)))]) 4), (b10, .cells (#[I (((dcdD m.key bs : Nat) : Int)), U64 (dcdS m.key bs), U16 (dcdT m.key bs), U16 (dcdM m.key bs), .slice a31 n31 c31]) 100), (b9, .cells (#[.nilIface]) 27), (s, .cells (#[Ptr pp 0, I (((m.dir : Nat) : Int)), Ptr t 0, Ptr pc 0, Ptr pf 0, Ptr pe 0, U16 ((smpV (ofT x) (dcdM m.key bs))), I (((m.rc + 1 : Nat) : Int)), U32 (estN m.rc m.re (smpV (ofT x) (dcdM m.key bs))), U64 (m.fs), .bool (m.cz)]) E1), (pf, .cells (#[I (((m.ac + 1 : Nat) : Int)), I ((m.rf : Int)), U64 ((dcdS m.key bs) + 1)]) E2), (pc, .cells (#[U64 (m.nx), U64 (m.gv), .bool (false)]) E3), (t, .cells (tableC c m.key) E4), (c, .cells (cipherC m.key) E5), (pp, .cells (#[Str (mvA m.fx m.ad fr), .bool (m.fx), I (((mvN m.fx m.ad fr m.mv : Nat) : Int)), .map (some pm)]) E6), (pm, mOb encS vI m100)]) (X := Y80) (Z := X31) (R := []) hS)⟩
        · skip
          try simp only [SB] at hc4
          have hM : dcdM m.key bs = 65535 := by simpa using hc4
          refine wc_skip ?_
          refine wq_then ?_
          refine rg ?_
          refine mv rfl rfl rfl ?_
          refine nilp rfl rfl rfl ?_
          refine fan (0) (0) Tryz.underlying90 rfl sz76 (by decide) rfl rfl rfl rfl (by omega) ?_
          refine lo 7 sc76 hS rfl rfl rfl rfl rfl ?_
          refine mv rfl rfl rfl ?_
          refine cm cf58 rfl rfl rfl rfl rfl (sp_peer_Peer_Move (pp) (_) (pm) (m.ad) (m.fx) (m.mv) (_) (fr) _ (hS.get 12 rfl) (hS.get 13 rfl) (nd_of hS [12, 13] rfl (by decide)) (by omega)) ?_
          rintro _ _ w ⟨b100, m100, rfl, rfl⟩ hS1
          have hS : St w0 G ([(b53, .cells (#[.func (.func 51) #[] #[Ptr b9 0], .func (.func 78) #[] #[Ptr p43 0, Ptr q43 0], .func (.func 78) #[] #[Ptr p52 0, Ptr q52 0]]) 95), (q52, .cells (#[I (9)]) 33), (p52, .cells (#[.bool ((!(frsh m.ls (dcdS m.key bs))))]) 4), (q43, .cells (#[I (8)]) 33), (p43, .cells (#[.bool (((((dcdD m.key bs : Nat) : Int) : Int) == ((m.dir : Nat) : Int)))]) 4), (b10, .cells (#[I (((dcdD m.key bs : Nat) : Int)), U64 (dcdS m.key bs), U16 (dcdT m.key bs), U16 (dcdM m.key bs), .slice a31 n31 c31]) 100), (b9, .cells (#[(errV 33 (dcdE m.key bs))]) 27), (s, .cells (#[Ptr pp 0, I (((m.dir : Nat) : Int)), Ptr t 0, Ptr pc 0, Ptr pf 0, Ptr pe 0, U16 (m.rl), I (((m.rc : Nat) : Int)), U32 (m.re), U64 (m.fs), .bool (m.cz)]) E1), (pf, .cells (#[I (((m.ac + 1 : Nat) : Int)), I ((m.rf : Int)), U64 ((dcdS m.key bs) + 1)]) E2), (pc, .cells (#[U64 (m.nx), U64 (m.gv), .bool (false)]) E3), (t, .cells (tableC c m.key) E4), (c, .cells (cipherC m.key) E5), (pp, .cells (#[Str (mvA m.fx m.ad fr), .bool (m.fx), I (((mvN m.fx m.ad fr m.mv : Nat) : Int)), .map (some pm)]) E6), (pm, mOb encS vI m100)] ++ (Y80 ++ (X31 ++ []))) w := St.calls (L1 := [(pp, .cells (#[Str m.ad, .bool (m.fx), I (((m.mv : Nat) : Int)), .map (some pm)]) E6), (pm, mOb encS vI mm)]) (N := [(pp, .cells (#[Str (mvA m.fx m.ad fr), .bool (m.fx), I (((mvN m.fx m.ad fr m.mv : Nat) : Int)), .map (some pm)]) E6), (pm, mOb encS vI m100)]) (L2 := []) hS [12, 13] rfl rfl hS1
          refine wq_then ?_
          refine rg ?_
          refine fan (4) (4) Tryz.underlying100 rfl sz30 (by decide) rfl rfl rfl rfl (by omega) ?_
          refine lo 5 sc30 hS rfl rfl rfl rfl rfl ?_
          refine asg rfl rfl rfl ?_
          refine st 6 sz27 hS rfl rfl rfl rfl rfl rfl Nat.zero_lt_one rfl ?_
          intro w hS
          refine wq_then ?_
          refine wc_ret ?_
          refine fin2 (v := .slice a31 n31 c31) (u := .nilIface) rfl rfl ⟨_, rfl, lv_c sc27 (hS.get 6 rfl) rfl⟩ ?_
          have eM : rcvM m bs fr x = { m with ac := m.ac + 1, ls := dcdS m.key bs + 1, kp := some (dcdT m.key bs, x), rl := m.rl, rc := m.rc, re := m.re, ad := mvA m.fx m.ad fr, mv := mvN m.fx m.ad fr m.mv } := by simp [rcvM, hcz, hE2, smpM, hM]
          have eP : rcvP m bs = dcdP m.key bs := if_pos hE2
          exact ⟨_, _, rfl, ⟨_, _, _, [(s, .cells (#[Ptr pp 0, I (((m.dir : Nat) : Int)), Ptr t 0, Ptr pc 0, Ptr pf 0, Ptr pe 0, U16 (m.rl), I (((m.rc : Nat) : Int)), U32 (m.re), U64 (m.fs), .bool (m.cz)]) E1), (pf, .cells (#[I (((m.ac + 1 : Nat) : Int)), I ((m.rf : Int)), U64 ((dcdS m.key bs) + 1)]) E2), (pc, .cells (#[U64 (m.nx), U64 (m.gv), .bool (false)]) E3), (t, .cells (tableC c m.key) E4), (c, .cells (cipherC m.key) E5), (pp, .cells (#[Str (mvA m.fx m.ad fr), .bool (m.fx), I (((mvN m.fx m.ad fr m.mv : Nat) : Int)), .map (some pm)]) E6), (pm, mOb encS vI m100)] ++ Y80, X31, by rw [hE2]; rfl, by rw [eM]; exact ⟨pp, pm, pc, pf, pe, t, c, _, _, _, _, _, _, _, _, hd1, hE1, rfl⟩, by rw [eP]; exact ⟨hl31, hm31, hc31, hR31⟩, rfl⟩, St.pk (U := [(b53, .cells (#[.func (.func 51) #[] #[Ptr b9 0], .func (.func 78) #[] #[Ptr p43 0, Ptr q43 0], .func (.func 78) #[] #[Ptr p52 0, Ptr q52 0]]) 95), (q52, .cells (#[I (9)]) 33), (p52, .cells (#[.bool ((!(frsh m.ls (dcdS m.key bs))))]) 4), (q43, .cells (#[I (8)]) 33), (p43, .cells (#[.bool (((((dcdD m.key bs : Nat) : Int) : Int) == ((m.dir : Nat) : Int)))]) 4), (b10, .cells (#[I (((dcdD m.key bs : Nat) : Int)), U64 (dcdS m.key bs), U16 (dcdT m.key bs), U16 (dcdM m.key bs), .slice a31 n31 c31]) 100), (b9, .cells (#[.nilIface]) 27)]) (B := [(s, .cells (#[Ptr pp 0, I (((m.dir : Nat) : Int)), Ptr t 0, Ptr pc 0, Ptr pf 0, Ptr pe 0, U16 (m.rl), I (((m.rc : Nat) : Int)), U32 (m.re), U64 (m.fs), .bool (m.cz)]) E1), (pf, .cells (#[I (((m.ac + 1 : Nat) : Int)), I ((m.rf : Int)), U64 ((dcdS m.key bs) + 1)]) E2), (pc, .cells (#[U64 (m.nx), U64 (m.gv), .bool (false)]) E3), (t, .cells (tableC c m.key) E4), (c, .cells (cipherC m.key) E5), (pp, .cells (#[Str (mvA m.fx m.ad fr), .bool (m.fx), I (((mvN m.fx m.ad fr m.mv : Nat) : Int)), .map (some pm)]) E6), (pm, mOb encS vI m100)]) (Y := X31) (Z := Y80) (R := []) (St.swapT (A := [(b53, .cells (#[.func (.func 51) #[] #[Ptr b9 0], .func (.func 78) #[] #[Ptr p43 0, Ptr q43 0], .func (.func 78) #[] #[Ptr p52 0, Ptr q52 0]]) 95), (q52, .cells (#[I (9)]) 33), (p52, .cells (#[.bool ((!(frsh m.ls (dcdS m.key bs))))]) 4), (q43, .cells (#[I (8)]) 33), (p43, .cells (#[.bool (((((dcdD m.key bs : Nat) : Int) : Int) == ((m.dir : Nat) : Int)))]) 4), (b10, .cells (#[I (((dcdD m.key bs : Nat) : Int)), U64 (dcdS m.key bs), U16 (dcdT m.key bs), U16 (dcdM m.key bs), .slice a31 n31 c31]) 100), (b9, .cells (#[.nilIface]) 27), (s, .cells (#[Ptr pp 0, I (((m.dir : Nat) : Int)), Ptr t 0, Ptr pc 0, Ptr pf 0, Ptr pe 0, U16 (m.rl), I (((m.rc : Nat) : Int)), U32 (m.re), U64 (m.fs), .bool (m.cz)]) E1), (pf, .cells (#[I (((m.ac + 1 : Nat) : Int)), I ((m.rf : Int)), U64 ((dcdS m.key bs) + 1)]) E2), (pc, .cells (#[U64 (m.nx), U64 (m.gv), .bool (false)]) E3), (t, .cells (tableC c m.key) E4), (c, .cells (cipherC m.key) E5), (pp, .cells (#[Str (mvA m.fx m.ad fr), .bool (m.fx), I (((mvN m.fx m.ad fr m.mv : Nat) : Int)), .map (some pm)]) E6), (pm, mOb encS vI m100)]) (X := Y80) (Z := X31) (R := []) hS)⟩
end Go.Proofs.XS

/- walks -/
namespace Go.Proofs.XS
open Go Go.X Go.Proofs
theorem sp_RcvG (s : Nat) (m : SS) (X : List (Nat × Obj)) (a : Option Addr) (n cap : Nat) (bs : List UInt8) (fr : List UInt8) (x : UInt64) (w0 : World) (hO : SesO s m X) (hX : ∀ p ∈ X, w0.heap[p.1]? = some p.2) (hnd : (X.map Prod.fst).Nodup) (hn : bs.length = n) (hN : n ≤ 1000000) (hcap : n ≤ cap) (hc : CelX (X.map Prod.fst) w0 a (c8 bs)) (hG : GlX 1 (X.map Prod.fst) w0) {k : Nat} (hB : Bd m k) (hk : k < 1000000000) : Calls Tryz.prog 14 #[Ptr s 0, .slice a n cap, Str fr, U64 x] w0 (RetM w0 (X.map Prod.fst) (fun v L' => ∃ a' n' c' X' Y m' e' b', v = .tuple #[.slice a' n' c', errV 33 e'] ∧ SesO s m' X' ∧ m' = rcvM m bs fr x ∧ e' = rcvE m bs ∧ b' = rcvP m bs ∧ b'.length = n' ∧ n' ≤ 1000000 ∧ n' ≤ c' ∧ Rd a' b' Y ∧ L' = X' ++ Y)) :=
  (sp_session_Session_Receive s m X a n cap bs fr x w0 hO hX hnd hn hN hcap hc hG (hB.lt hk)).mono fun e w' ⟨v, L, he, ⟨a', n', c', X', Y, hv, hO2, hg, hL⟩, hS⟩ => ⟨v, L, he, ⟨a', n', c', X', Y, _, _, _, hv, hO2, rfl, rfl, rfl, hg.1, hg.2.1, hg.2.2.1, hg.2.2.2, hL⟩, hS⟩
end Go.Proofs.XS

/- walks -/
namespace Go.Proofs.XS
open Go Go.X Go.Proofs
set_option maxRecDepth 100000 in
theorem sp_awake22 (w0 : World) (hG : Gl 1 w0) : Calls Tryz.prog 8 #[] w0 (Ret w0 (.bool true)) := by
  refine enter (args := []) Tryz.func8 rfl rfl ?_
  refine startw fun w hS => ?_
  refine rg ?_
  refine asg rfl rfl rfl ?_
  refine wq_then ?_
  refine rg ?_
  refine bd (cs := BV (Vector.replicate 16 0)) rfl rfl rfl (by kernel_rfl) ?_
  refine cs cf9 hS rfl rfl rfl rfl rfl (sp_session_New ((Vector.replicate 16 0)) (0) (([115, 58, 49])) (5) _ _ (by omega) (by omega)) ?_
  rintro _ X20 w ⟨s20, rfl, hO20⟩ hS
  have hS := St.tailin (X := X20) hS [] [] rfl
  obtain ⟨m20, hm20⟩ : ∃ m, m = sesN (Vector.replicate 16 0) 0 ([115, 58, 49]) 5 := ⟨_, rfl⟩
  rw [← hm20] at hO20
  have hbd20 : Bd m20 0 := by rw [hm20]; exact Bd_new _ _ _ _
  refine mv rfl rfl rfl ?_
  refine ext rfl rfl rfl rfl ?_
  refine ext rfl rfl rfl rfl ?_
  refine asg rfl rfl rfl ?_
  refine asg rfl rfl rfl ?_
  refine wq_then ?_
  refine rg ?_
  refine bd (cs := BV (Vector.replicate 16 0)) rfl rfl rfl (by kernel_rfl) ?_
  refine cs cf9 hS rfl rfl rfl rfl rfl (sp_session_New ((Vector.replicate 16 0)) (1) (([])) (0) _ _ (by omega) (by omega)) ?_
  rintro _ X25 w ⟨s25, rfl, hO25⟩ hS
  have hS := St.tailin (X := X25) hS [] (X20 ++ []) rfl
  obtain ⟨m25, hm25⟩ : ∃ m, m = sesN (Vector.replicate 16 0) 1 ([]) 0 := ⟨_, rfl⟩
  rw [← hm25] at hO25
  have hbd25 : Bd m25 0 := by rw [hm25]; exact Bd_new _ _ _ _
  refine mv rfl rfl rfl ?_
  refine ext rfl rfl rfl rfl ?_
  refine ext rfl rfl rfl rfl ?_
  refine asg rfl rfl rfl ?_
  refine asg rfl rfl rfl ?_
  refine wq_then ?_
  refine rg ?_
  refine bd (cs := BV (Vector.replicate 16 0)) rfl rfl rfl (by kernel_rfl) ?_
  refine cv cf9 hS rfl rfl rfl rfl rfl (sp_NewBad ((Vector.replicate 16 0)) (2) (([])) (0) _ (by first | assumption | decide) (by first | assumption | decide)) ?_
  intro w hS
  refine mv rfl rfl rfl ?_
  refine ext rfl rfl rfl rfl ?_
  refine ext rfl rfl rfl rfl ?_
  refine asg rfl rfl rfl ?_
  refine asg rfl rfl rfl ?_
  refine wq_then ?_
  refine wc_seq ?_
  refine rg ?_
  refine mv rfl rfl rfl ?_
  refine eqpn Tryz.underlying25 rfl rfl rfl rfl ?_
  refine mv rfl rfl rfl ?_
  refine mv rfl rfl rfl ?_
  refine eqpn Tryz.underlying25 rfl rfl rfl rfl ?_
  refine pk_f rfl rfl rfl rfl ?_
  refine wq_then ?_
  refine wc_if_f rfl ?_
  refine wc_skip ?_
  refine wq_then ?_
  refine rg ?_
  refine mv rfl rfl rfl ?_
  refine cm cf10 rfl rfl rfl rfl rfl (sp_SndG s25 m25 X25 none 0 0 [] 0 _ hO25 (St.memT hS) (St.nodupT hS) (rfl) (by omega) (by omega) (fun _ w _ => Cel.nil w none) (fun _ _ k => by have hS := St.callX hS k; exact hG.st hS)) ?_
  rintro _ _ w ⟨a41, n41, c41, X41, Y41, m41, e41, ad41, q41, rfl, hO41, hm41, he41, ha41, hq41, hl41, hN41, hcp41, hR41, rfl⟩ hS1
  have hbd41 : Bd m41 0 := by rw [hm41]; exact Bd_snd hbd25 _
  have hS : St w0 [] ([] ++ (X41 ++ (Y41 ++ (X20 ++ [])))) w := St.callXY hS hS1
  refine mv rfl rfl rfl ?_
  refine ext rfl rfl rfl rfl ?_
  refine ext rfl rfl rfl rfl ?_
  refine ext rfl rfl rfl rfl ?_
  refine asg rfl rfl rfl ?_
  refine asg rfl rfl rfl ?_
  refine asg rfl rfl rfl ?_
  refine wq_then ?_
  refine rg ?_
  refine mv rfl rfl rfl ?_
  refine bsl (cs := #[U8 (104), U8 (105)]) sl30 hS rfl rfl rfl rfl (by kernel_rfl) ?_
  intro b47 w hb47 hS
  refine cvb 0 Tryz.underlying30 Tryz.underlying5 hS rfl rfl rfl rfl ?_
  intro w hS
  have hS : St w0 [] ([(b47, .cells (#[U8 (104), U8 (105)]) 5 (2, 2 + 1))] ++ (X41 ++ (Y41 ++ (X20 ++ [])))) w := hS
  refine cm cf10 rfl rfl rfl rfl rfl (sp_SndG s20 m20 X20 (some ⟨b47, 0, none⟩) 2 2 ([104, 105]) 70000 _ hO20 (St.memT (St.br2 hS)) (St.nodupT (St.br2 hS)) (by first | rfl | omega | (simp; omega) | (simp; done)) (by omega) (by omega) (fun _ _ k => by have hS := St.callX (St.br2 hS) k; exact Cel.lb (l := [104, 105]) (hS.get 0 rfl)) (fun _ _ k => by have hS := St.callX (St.br2 hS) k; exact hG.st hS)) ?_
  rintro _ _ w ⟨a49, n49, c49, X49, Y49, m49, e49, ad49, q49, rfl, hO49, hm49, he49, ha49, hq49, hl49, hN49, hcp49, hR49, rfl⟩ hS1
  have hbd49 : Bd m49 0 := by rw [hm49]; exact Bd_snd hbd20 _
  have hS : St w0 [] ([(b47, .cells (#[U8 (104), U8 (105)]) 5 (2, 2 + 1))] ++ (X49 ++ (Y49 ++ (X41 ++ (Y41 ++ []))))) w := St.callXY (St.br2 hS) hS1
  refine mv rfl rfl rfl ?_
  refine ext rfl rfl rfl rfl ?_
  refine ext rfl rfl rfl rfl ?_
  refine ext rfl rfl rfl rfl ?_
  refine asg rfl rfl rfl ?_
  refine asg rfl rfl rfl ?_
  refine asg rfl rfl rfl ?_
  refine wq_then ?_
  refine rg ?_
  refine mv rfl rfl rfl ?_
  refine mv rfl rfl rfl ?_
  have hS : St w0 [] ([(b47, .cells (#[U8 (104), U8 (105)]) 5 (2, 2 + 1))] ++ (X49 ++ (Y49 ++ (X41 ++ (Y41 ++ []))))) w := hS
  refine cm cf14 rfl rfl rfl rfl rfl (sp_RcvG s25 m41 X41 a49 n49 c49 q49 ([99, 58, 50]) 70010 _ hO41 (St.memT (St.br2 hS)) (St.nodupT (St.br2 hS)) hl49 (by omega) (by omega) (fun _ _ k => by have hS := St.callX (St.br2 hS) k; exact hR49 _ _ _ _ hS (fun p hp => by simp [hp])) (fun _ _ k => by have hS := St.callX (St.br2 hS) k; exact hG.st hS) hbd41 (by omega)) ?_
  rintro _ _ w ⟨a56, n56, c56, X56, Y56, m56, e56, q56, rfl, hO56, hm56, he56, hq56, hl56, hN56, hcp56, hR56, rfl⟩ hS1
  have hbd56 : Bd m56 (0 + 1) := by rw [hm56]; exact Bd_rcv hbd41 _ _ _
  have hS : St w0 [] ([(b47, .cells (#[U8 (104), U8 (105)]) 5 (2, 2 + 1))] ++ (X56 ++ (Y56 ++ (X49 ++ (Y49 ++ (Y41 ++ [])))))) w := St.callXY (St.br2 hS) hS1
  refine mv rfl rfl rfl ?_
  refine ext rfl rfl rfl rfl ?_
  refine ext rfl rfl rfl rfl ?_
  refine asg rfl rfl rfl ?_
  refine asg rfl rfl rfl ?_
  refine wq_then ?_
  refine rg ?_
  refine mv rfl rfl rfl ?_
  refine mv rfl rfl rfl ?_
  have hS : St w0 [] ([(b47, .cells (#[U8 (104), U8 (105)]) 5 (2, 2 + 1))] ++ (X56 ++ (Y56 ++ (X49 ++ (Y49 ++ (Y41 ++ [])))))) w := hS
  refine cm cf14 rfl rfl rfl rfl rfl (sp_RcvG s25 m56 X56 a49 n49 c49 q49 ([99, 58, 51]) 70011 _ hO56 (St.memT hS) (St.nodupT hS) hl49 (by omega) (by omega) (fun _ _ k => by have hS := St.callX hS k; exact hR49 _ _ _ _ hS (fun p hp => by simp [hp])) (fun _ _ k => by have hS := St.callX hS k; exact hG.st hS) hbd56 (by omega)) ?_
  rintro _ _ w ⟨a62, n62, c62, X62, Y62, m62, e62, q62, rfl, hO62, hm62, he62, hq62, hl62, hN62, hcp62, hR62, rfl⟩ hS1
  have hbd62 : Bd m62 ((0 + 1) + 1) := by rw [hm62]; exact Bd_rcv hbd56 _ _ _
  have hS : St w0 [] ([(b47, .cells (#[U8 (104), U8 (105)]) 5 (2, 2 + 1))] ++ (X62 ++ (Y62 ++ (Y56 ++ (X49 ++ (Y49 ++ (Y41 ++ []))))))) w := St.callXY hS hS1
  obtain ⟨hw1, hw2, hw3, hw4, hw5, hw6, hw7, hw8, hw9, hw10, hw11⟩ := awk hm20 hm25 he41 hm41 he49 hm49 ha49 hq49 he56 hq56 hm56 he62 hm62
  refine mv rfl rfl rfl ?_
  refine ext rfl rfl rfl rfl ?_
  refine ext rfl rfl rfl rfl ?_
  refine asg rfl rfl rfl ?_
  refine asg rfl rfl rfl ?_
  refine wq_then ?_
  refine rg ?_
  refine mv rfl rfl rfl ?_
  have hS : St w0 [] ([(b47, .cells (#[U8 (104), U8 (105)]) 5 (2, 2 + 1))] ++ (X62 ++ (Y62 ++ (Y56 ++ (X49 ++ (Y49 ++ (Y41 ++ []))))))) w := hS
  refine cv (v := .agg (#[U64 (m62.fs + m62.gv), U64 (lstV m62.ls), .bool (decide (m62.ls ≠ 0)), I (((m62.ac : Nat) : Int)), I (((m62.rf : Nat) : Int)), Str m62.ad, I (((m62.mv : Nat) : Int)), I (((m62.rc : Nat) : Int)), U16 (m62.rl), .bool (m62.cz)])) cf12 hS rfl rfl rfl rfl rfl (sp_session_Session_Status s25 m62 X62 _ hO62 (St.memT hS)) ?_
  intro w hS
  refine ala zr38 hS rfl rfl ?_
  intro b17 w hb17 hS
  refine sa 0 ag38 hS rfl rfl rfl (by kernel_rfl) rfl rfl rfl ?_
  intro w hS
  refine wq_then ?_
  refine rg ?_
  refine mv rfl rfl rfl ?_
  refine eqnn (s := 0) Tryz.underlying27 rfl rfl rfl rfl ?_
  refine mv rfl rfl rfl ?_
  refine mv rfl rfl rfl ?_
  refine eqnn (s := 0) Tryz.underlying27 rfl rfl rfl rfl ?_
  refine pk_t rfl rfl rfl rfl ?_
  refine mv rfl rfl rfl ?_
  refine mv rfl rfl rfl ?_
  refine mki cc33 rfl rfl rfl ?_
  refine eqEE (c := 8) Tryz.underlying27 ec33 rfl rfl rfl rfl ?_
  refine pk_t rfl rfl rfl rfl ?_
  refine mv rfl rfl rfl ?_
  refine spl 78 rfl (fun hb1 => ?_) (fun hb1 => ?_)
  · skip
    try simp only [SB] at hb1
    refine mv rfl rfl rfl ?_
    refine mki cc33 rfl rfl rfl ?_
    refine eqEE (c := e41) Tryz.underlying27 ec33 rfl rfl rfl rfl ?_
    refine pk_t rfl rfl rfl rfl ?_
    refine mv rfl rfl rfl ?_
    refine spl 83 rfl (fun hb2 => ?_) (fun hb2 => ?_)
    · skip
      try simp only [SB] at hb2
      refine mv rfl rfl rfl ?_
      refine eqs rfl rfl rfl rfl ?_
      refine pk_t rfl rfl rfl rfl ?_
      refine mv rfl rfl rfl ?_
      refine spl 87 rfl (fun hb3 => ?_) (fun hb3 => ?_)
      · skip
        try simp only [SB] at hb3
        refine mv rfl rfl rfl ?_
        refine eqE (C := 33) (c := e49) Tryz.underlying27 rfl rfl rfl ?_
        refine pk_t rfl rfl rfl rfl ?_
        refine mv rfl rfl rfl ?_
        refine spl 91 rfl (fun hb4 => ?_) (fun hb4 => ?_)
        · skip
          try simp only [SB] at hb4
          refine mv rfl rfl rfl ?_
          refine cvbs Tryz.underlying30 Tryz.underlying5 Tryz.underlying9 rfl rfl rfl (hR56 _ _ _ _ hS (fun p hp => by simp [hp])) hl56 ?_
          refine eqs rfl rfl rfl rfl ?_
          refine pk_t rfl rfl rfl rfl ?_
          refine mv rfl rfl rfl ?_
          refine spl 96 rfl (fun hb5 => ?_) (fun hb5 => ?_)
          · skip
            try simp only [SB] at hb5
            refine mv rfl rfl rfl ?_
            refine eqE (C := 33) (c := e56) Tryz.underlying27 rfl rfl rfl ?_
            refine pk_t rfl rfl rfl rfl ?_
            refine mv rfl rfl rfl ?_
            refine spl 100 rfl (fun hb6 => ?_) (fun hb6 => ?_)
            · skip
              try simp only [SB] at hb6
              refine mv rfl rfl rfl ?_
              refine mki cc33 rfl rfl rfl ?_
              refine eqEE (c := e62) Tryz.underlying27 ec33 rfl rfl rfl rfl ?_
              refine pk_t rfl rfl rfl rfl ?_
              refine mv rfl rfl rfl ?_
              refine spl 105 rfl (fun hb7 => ?_) (fun hb7 => ?_)
              · skip
                try simp only [SB] at hb7
                refine fan (5) (5) Tryz.underlying38 rfl sz9 (by decide) rfl rfl rfl rfl (by omega) ?_
                refine lo 0 sc9 hS rfl rfl rfl rfl rfl ?_
                refine eqs rfl rfl rfl rfl ?_
                refine pk_t rfl rfl rfl rfl ?_
                refine mv rfl rfl rfl ?_
                refine spl 110 rfl (fun hb8 => ?_) (fun hb8 => ?_)
                · skip
                  try simp only [SB] at hb8
                  refine fan (1) (1) Tryz.underlying38 rfl sz24 (by decide) rfl rfl rfl rfl (by omega) ?_
                  refine lo 0 sc24 hS rfl rfl rfl rfl rfl ?_
                  refine eqi rfl rfl rfl rfl ?_
                  refine pk_t rfl rfl rfl rfl ?_
                  refine mv rfl rfl rfl ?_
                  refine spl 115 rfl (fun hb9 => ?_) (fun hb9 => ?_)
                  · skip
                    try simp only [SB] at hb9
                    refine fan (2) (2) Tryz.underlying38 rfl sz4 (by decide) rfl rfl rfl rfl (by omega) ?_
                    refine lo 0 sc4 hS rfl rfl rfl rfl rfl ?_
                    refine pk_t rfl rfl rfl rfl ?_
                    refine mv rfl rfl rfl ?_
                    refine spl 119 rfl (fun hb10 => ?_) (fun hb10 => ?_)
                    · skip
                      try simp only [SB] at hb10
                      refine fan (4) (4) Tryz.underlying38 rfl sz3 (by decide) rfl rfl rfl rfl (by omega) ?_
                      refine lo 0 sc3 hS rfl rfl rfl rfl rfl ?_
                      refine eqi rfl rfl rfl rfl ?_
                      refine pk_t rfl rfl rfl rfl ?_
                      refine mv rfl rfl rfl ?_
                      refine spl 124 rfl (fun hb11 => ?_) (fun hb11 => ?_)
                      · skip
                        try simp only [SB] at hb11
                        refine mv rfl rfl rfl ?_
                        have hS : St w0 [] ([(b17, .cells (#[U64 (m62.fs + m62.gv), U64 (lstV m62.ls), .bool (decide (m62.ls ≠ 0)), I (((m62.ac : Nat) : Int)), I (((m62.rf : Nat) : Int)), Str m62.ad, I (((m62.mv : Nat) : Int)), I (((m62.rc : Nat) : Int)), U16 (m62.rl), .bool (m62.cz)]) 38), (b47, .cells (#[U8 (104), U8 (105)]) 5 (2, 2 + 1))] ++ (X62 ++ (Y62 ++ (Y56 ++ (X49 ++ (Y49 ++ (Y41 ++ []))))))) w := hS
                        refine cv (v := .agg (#[U64 (m49.fs + m49.gv), U64 (lstV m49.ls), .bool (decide (m49.ls ≠ 0)), I (((m49.ac : Nat) : Int)), I (((m49.rf : Nat) : Int)), Str m49.ad, I (((m49.mv : Nat) : Int)), I (((m49.rc : Nat) : Int)), U16 (m49.rl), .bool (m49.cz)])) cf12 hS rfl rfl rfl rfl rfl (sp_session_Session_Status s20 m49 X49 _ hO49 (St.memT (St.br3 hS))) ?_
                        intro w hS
                        refine fld Tryz.underlying38 rfl sc24 rfl rfl rfl rfl ?_
                        refine eqi rfl rfl rfl rfl ?_
                        refine pk_t rfl rfl rfl rfl ?_
                        refine asg rfl rfl rfl ?_
                        refine wq_then ?_
                        refine wc_ret ?_
                        refine fin1 (v := .bool ((((m49.fs + m49.gv).toNat : Int) : Int) == (6 : Int))) rfl rfl ?_
                        refine ⟨?_, hS.drop⟩
                        rw [hw11]; rfl
                      · skip
                        try simp only [SB] at hb11
                        exact absurd (by first | omega | (simp only [*]; done) | exact hw8 | (rw [hw2]; done) | (rw [hw8]; rfl)) hb11
                    · skip
                      try simp only [SB] at hb10
                      exact absurd (by first | omega | (simp only [*]; done) | exact hw8 | (rw [hw2]; done) | (rw [hw8]; rfl)) hb10
                  · skip
                    try simp only [SB] at hb9
                    exact absurd (by first | omega | (simp only [*]; done) | exact hw8 | (rw [hw2]; done) | (rw [hw8]; rfl)) hb9
                · skip
                  try simp only [SB] at hb8
                  exact absurd (by first | omega | (simp only [*]; done) | exact hw8 | (rw [hw2]; done) | (rw [hw8]; rfl)) hb8
              · skip
                try simp only [SB] at hb7
                exact absurd (by first | omega | (simp only [*]; done) | exact hw8 | (rw [hw2]; done) | (rw [hw8]; rfl)) hb7
            · skip
              try simp only [SB] at hb6
              exact absurd (by first | omega | (simp only [*]; done) | exact hw8 | (rw [hw2]; done) | (rw [hw8]; rfl)) hb6
          · skip
            try simp only [SB] at hb5
            exact absurd (by first | omega | (simp only [*]; done) | exact hw8 | (rw [hw2]; done) | (rw [hw8]; rfl)) hb5
        · skip
          try simp only [SB] at hb4
          exact absurd (by first | omega | (simp only [*]; done) | exact hw8 | (rw [hw2]; done) | (rw [hw8]; rfl)) hb4
      · skip
        try simp only [SB] at hb3
        exact absurd (by first | omega | (simp only [*]; done) | exact hw8 | (rw [hw2]; done) | (rw [hw8]; rfl)) hb3
    · skip
      try simp only [SB] at hb2
      exact absurd (by first | omega | (simp only [*]; done) | exact hw8 | (rw [hw2]; done) | (rw [hw8]; rfl)) hb2
  · skip
    try simp only [SB] at hb1
    exact absurd (by first | omega | (simp only [*]; done) | exact hw8 | (rw [hw2]; done) | (rw [hw8]; rfl)) hb1
end Go.Proofs.XS
