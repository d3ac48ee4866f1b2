/- ModelForks: for every input the call answers true, and each argument reads behind it as it did.
  Parts: The law: what a snapshot shows stays as it was.; The law: what answers an error changes no file; what only tells changes nothing.; The law: what becomes of a Fork changes nothing; models are the same as the document says; a nil one answers so.; From a row's reading to the logic: what is there at the call is frozen; what the call leaves reads as before.; A step of a script, opened; what the three statements' rows share.; ModelForks: for every input the call answers true, and each argument reads behind it as it did.
-/
import Derived.Test.YtbffngeameenoaaGreatUE
import Derived.ProofKit
import Derived.ChangeArms
import Derived.OpenShut
import Derived.JoinedOf
import Derived.SizedLaws
import Derived.Test.YtbffngeameenoaaGreatRows

section
set_option maxRecDepth 100000
set_option linter.unusedVariables false
set_option linter.unusedSimpArgs false
namespace Go.Proofs.YtbffngeameenoaaGreat
open Go Go.Au
attribute [local irreducible] T TO

abbrev snapP (shot : ByteArray) : Op1 := ⟨11, 0, ⟨#[]⟩, shot, 0, 0, 0, [], 0, 0, 0, 0⟩
theorem snap_done {K : Int} {y : RM} (r : RInv K y) (shot : ByteArray) : (aget (doR y (snapP shot) false).2.S shot).isSome = true ∨ nameOk shot = false ∨ 16 ≤ (doR y (snapP shot) false).2.S.length := by
  have hd : (doR y (snapP shot) false).2 = (shotsR y (snapP shot) false).2.2 := by simp [doR, plR]
  rw [hd]
  unfold shotsR
  by_cases hn : nameOk shot = false
  · exact .inr (.inl hn)
  rw [if_neg (show ¬ nameOk (snapP shot).shot = false from hn), if_neg (show ¬ (snapP shot).do_ = 12 from (show ¬ (11 : Int) = 12 by omega))]
  have hB := (heldOf_eq shot r.ss).1
  by_cases hb : shotB y.S shot = true
  · rw [if_pos (show shotB y.S (snapP shot).shot = true from hb)]
    exact .inl (by rw [← hB]; exact hb)
  rw [if_neg (show ¬ shotB y.S (snapP shot).shot = true from hb)]
  by_cases h16 : 16 ≤ y.S.length
  · rw [if_pos h16]; exact .inr (.inr h16)
  rw [if_neg h16, if_neg (by simp)]
  obtain ⟨i1, i2⟩ := shot_split r.ss (shot, rnames y.V) (by simpa using hb)
  refine .inl ?_
  show (aget (insS y.S (shotI y.S shot) (shot, rnames y.V)) shot).isSome = true
  rw [aget_of_mem (nd_of_lt i1) ((i2 _).2 (.inl rfl))]; rfl
set_option maxHeartbeats 4000000 in
theorem shows_sp (q : Int) (q0 : -9223372036854775808 ≤ q) (q1 : q ≤ 9223372036854775807) (lv mv : Value) (l m : List (Op1 × Bool)) (shot name : ByteArray) (h1 : shot.size ≤ 9223372036854775807) (h2 : name.size ≤ 9223372036854775807)
    (F : Frz) (hl : (slR stepR 16).r F l lv) (hm : (slR stepR 16).r F m mv) :
    Sp Tryz.prog 3 [.int .i64 q, lv, .string shot, .string name, mv] [] F (fun v B F' => v = .bool true ∧ B = []) := by
  obtain ⟨ma, mc, rfl⟩ := slR_len hm
  refine sp_of Tryz.func3 rfl (by kernel_rfl) rfl fun R => ?_
  repeat (first | refine t_seq ?_ | refine t_region ?_ | refine to_nil ?_ | refine to_q rfl rfl rfl ?_)
  refine to_call rfl rfl (play_sp q q0 q1 lv l _ hl) fun v B F1 le1 h => ?_
  obtain ⟨b, f, s, o, x, b', u, y, rfl, hB, hY, rfl⟩ := h
  have hxa := hB.xall (by omega) q0 q1
  repeat (first | refine t_seq ?_ | refine t_region ?_ | refine to_nil ?_ | refine t_skip ?_ | refine to_q rfl rfl rfl ?_ | refine to_bs rfl rfl rfl rfl ?_
                | refine t_cond (t := false) rfl (fun h => nomatch h) (fun _ => ?_))
  refine to_by 5 none 0 ?_
  refine to_call rfl rfl (do_sp b f s o x (snapP shot) false true nilS nilS (.int .i64 0) (.int .i64 0) _ hxa ⟨by show ByteArray.size ⟨#[]⟩ ≤ _; exact Nat.zero_le _, h1, by show (0 : Int) ≤ _; omega⟩) fun v B F2 le2 h => ?_
  obtain ⟨r, x1, hd, bv1, nv1, rfl, hn1, rfl⟩ := h
  obtain ⟨hu, hB1⟩ := hB.step hxa hd
  have hdone := snap_done hB.r shot
  generalize (doR y (snapP shot) false).2 = y1 at hB1 hdone
  have hxa1 := hB1.xall (by omega) q0 q1
  repeat (first | refine t_seq ?_ | refine t_region ?_ | refine to_nil ?_ | refine to_q rfl rfl rfl ?_)
  refine to_call rfl rfl (shot_sp b f s o x1 shot name _ hxa1 h1 h2) fun v B F3 le3 h => ?_
  obtain ⟨bv2, rfl, rfl⟩ := h
  rw [shown_sim hB1.s hB1.r (shownP shot name) rfl]
  generalize hR : toldR y1 (shownP shot name) = R0
  repeat (first | refine t_seq ?_ | refine t_block ?_ | refine t_region ?_ | refine to_nil ?_ | refine to_q rfl rfl rfl ?_)
  refine t_loopJ (R := R) (fun z : Nat × XM × RM => m.length - z.1) (fun z => OSl u8R 1 5 bv2 R0.2.2.1 :: XP b f s o z.2.1)
    (fun z => [(2, .string shot), (3, .string name), (4, .slice ma m.length mc), (11, ptr b), (14, bv2), (15, .int .i64 R0.1), (16, .int .i64 z.1)])
    (fun z _ => z.1 ≤ m.length ∧ z.1 ≤ 60 ∧ Both (121 + z.1) q z.2.1 z.2.2 ∧ Keeps y1 z.2.2) (0, x1, y1) (by repeat (first | exact trivial | refine ⟨rfl, ?_⟩)) ⟨Nat.zero_le _, Nat.zero_le _, hB1.mono (by dsimp only; omega), Keeps.refl y1⟩ ?_
  rintro ⟨i, x, y⟩ F4 le4 hg ih
  dsimp only at hg ih ⊢
  obtain ⟨hi, hi2, hB, hk⟩ := hg
  have hxa := hB.xall (by omega) q0 q1
  repeat (first | refine t_seq ?_ | refine t_region ?_ | refine to_q rfl rfl rfl ?_ | refine to_lenS rfl rfl rfl ?_)
  refine to_gd rfl rfl (fun g1 => ?_) (fun g1 => ?_)
  · simp only [decide_eq_true_eq] at g1
    repeat (first | refine to_nil ?_ | refine to_q rfl rfl rfl ?_)
    refine t_condT rfl (fun g2 => ?_) (fun g2 => ?_)
    · simp only [decide_eq_true_eq] at g2
      have hlt : i < m.length := by omega
      have hc := List.getElem?_eq_getElem hlt
      generalize m[i] = e at hc
      obtain ⟨p, sp⟩ := e
      obtain ⟨b_e, o_e, cap_e, u_e, e_e, hl_e, ⟨hok, bv, cva, cvn, cvc, ct, ca, hv_e, hby⟩, ro_e⟩ := slR_elem (P := Tryz.prog) (t := 44) (by_ := 176) hm hc
      cases e_e
      subst hv_e
      obtain ⟨ba, bc, rfl⟩ := slR_len hby
      repeat (first | refine t_seq ?_ | refine t_block ?_ | refine t_region ?_ | refine t_skip ?_ | refine to_q rfl rfl rfl ?_)
      refine to_ia rfl rfl rfl rfl hl_e ?_
      repeat (refine to_fa rfl rfl ?_)
      refine to_ldR (F0 := F) rfl rfl (ro_e.one (j := 0) (v := .int .i64 p.do_) rfl) ?_
      repeat (refine to_q rfl rfl rfl ?_)
      refine to_gd rfl rfl (fun g3 => ?_) (fun g3 => ?_)
      · simp only [bne_iff_ne, ne_eq] at g3
        repeat (refine to_q rfl rfl rfl ?_)
        refine to_ia rfl rfl rfl rfl hl_e ?_
        repeat (refine to_fa rfl rfl ?_)
        refine to_ldR (F0 := F) rfl rfl (ro_e.one (j := 7) (v := .slice ba p.bytes.length bc) rfl) ?_
        repeat (first | refine to_nil ?_ | refine to_q rfl rfl rfl ?_ | refine to_lenS rfl rfl rfl ?_)
        refine t_condT rfl (fun g4 => ?_) (fun g4 => ?_)
        · skip
          refine t_drawn1 (by kernel_rfl) (by kernel_rfl) ?_
          repeat (refine to_q rfl rfl rfl ?_)
          refine to_ia rfl rfl rfl rfl hl_e ?_
          repeat (refine to_fa rfl rfl ?_)
          refine to_ldRA (F0 := F) (vs := opC p (.slice ba p.bytes.length bc) (.slice cva cvn cvc) (.int .i64 ct) (.int .i64 ca)) rfl rfl (ro_e.take 15) rfl ?_
          repeat (refine to_q rfl rfl rfl ?_)
          refine to_ia rfl rfl rfl rfl hl_e ?_
          repeat (refine to_fa rfl rfl ?_)
          refine to_ldR (F0 := F) rfl rfl (ro_e.one (j := 15) (v := .bool sp) rfl) ?_
          refine to_byR 5 hby ?_
          refine to_call rfl rfl (do_sp b f s o x p sp true (.slice ba p.bytes.length bc) (.slice cva cvn cvc) (.int .i64 ct) (.int .i64 ca) _ hxa hok.ok) fun v B F5 le5 h5 => ?_
          obtain ⟨r, x', hd, bv3, nv3, rfl, hn3, rfl⟩ := h5
          obtain ⟨_, hB'⟩ := hB.step hxa hd
          repeat (first | refine t_region ?_ | refine to_nil ?_ | refine t_inBlock ?_ | refine to_q rfl rfl rfl ?_ | refine to_add rfl rfl rfl (by omega) (by omega) ?_)
          refine t_re (A := OSl u8R 1 5 bv2 R0.2.2.1 :: XP b f s o x') (R := R)
            (ih (i + 1, x', (doR y p sp).2) F5 le5 (by dsimp only; omega) ⟨by dsimp only; omega, by dsimp only; omega, hB'.mono (by dsimp only; omega), hk.trans (step_keeps hB.r p sp (by omega))⟩) (by repeat (first | exact trivial | refine ⟨rfl, ?_⟩))
        · repeat (first | refine t_region ?_ | refine to_nil ?_ | refine t_skip ?_ | refine t_inBlock ?_ | refine to_q rfl rfl rfl ?_ | refine to_add rfl rfl rfl (by omega) (by omega) ?_)
          refine t_re (A := OSl u8R 1 5 bv2 R0.2.2.1 :: XP b f s o x) (R := R)
            (ih (i + 1, x, y) F4 ⟨.refl _⟩ (by dsimp only; omega) ⟨by dsimp only; omega, by dsimp only; omega, hB.mono (by dsimp only; omega), hk⟩) (by repeat (first | exact trivial | refine ⟨rfl, ?_⟩))
      · repeat (first | refine t_region ?_ | refine to_nil ?_ | refine t_skip ?_ | refine t_inBlock ?_ | refine to_no rfl ?_ | refine to_q rfl rfl rfl ?_ | refine to_add rfl rfl rfl (by omega) (by omega) ?_
                      | refine t_cond (t := false) rfl (fun h => nomatch h) (fun _ => ?_))
        refine t_re (A := OSl u8R 1 5 bv2 R0.2.2.1 :: XP b f s o x) (R := R)
          (ih (i + 1, x, y) F4 ⟨.refl _⟩ (by dsimp only; omega) ⟨by dsimp only; omega, by dsimp only; omega, hB.mono (by dsimp only; omega), hk⟩) (by repeat (first | exact trivial | refine ⟨rfl, ?_⟩))
    · simp only [decide_eq_false_iff_not] at g2
      repeat (first | refine t_seq ?_ | refine t_region ?_ | refine to_q rfl rfl rfl ?_ | refine t_exit rfl ?_)
      refine to_call rfl rfl (fall_sp b f s o x _) fun v B F5 le5 h5 => ?_
      subst h5
      have hBf : Both (121 + i) q { x with sess := [] } { y with O := [] } := ⟨fall_sim hB.s, fall_inv hB.r, hB.q⟩
      have hkf : Keeps y1 { y with O := [] } := hk.trans (keeps_V fun z hz => hz)
      have hxf := hBf.xall (by omega) q0 q1
      repeat (first | refine t_seq ?_ | refine t_region ?_ | refine to_nil ?_ | refine to_q rfl rfl rfl ?_)
      refine to_call rfl rfl (shot_sp b f s o { x with sess := [] } shot name _ hxf h1 h2) fun v B F6 le6 h => ?_
      obtain ⟨bv4, rfl, rfl⟩ := h
      rw [shown_sim hBf.s hBf.r (shownP shot name) rfl, shown_keeps hB1.r hBf.r hkf hdone, hR]
      repeat (first | refine t_seq ?_ | refine t_region ?_ | refine to_nil ?_ | refine to_q rfl rfl rfl ?_)
      refine to_call rfl rfl (live_sp _) fun v B F7 le7 h => ?_
      obtain ⟨rfl, rfl⟩ := h
      repeat (refine to_q rfl rfl rfl ?_)
      rw [show (R0.1 == R0.1) = true from by simp]
      repeat (refine to_q rfl rfl rfl ?_)
      refine to_cvBSO rfl rfl ?_
      repeat (refine to_q rfl rfl rfl ?_)
      refine to_cvBSO rfl rfl ?_
      repeat (refine to_q rfl rfl rfl ?_)
      rw [show ((⟨R0.2.2.1.toArray⟩ : ByteArray).toList == (⟨R0.2.2.1.toArray⟩ : ByteArray).toList) = true from by simp]
      repeat (refine to_q rfl rfl rfl ?_)
      refine to_call rfl rfl (sessions_sp b f s o { x with sess := [] } _ (by show 0 ≤ _; omega)) fun w B F8 le8 h8 => ?_
      obtain ⟨js, hjs, hwv, rfl⟩ := h8
      rw [sess_sim hBf.s hBf.r hjs] at hwv
      refine to_lenR (ρ := intR) (n := 1) hwv rfl rfl rfl ?_
      repeat (first | refine to_nil ?_ | refine to_q rfl rfl rfl ?_)
      exact t_ret [] Tryz.func3 (.tmp rfl .nil) ⟨rfl, rfl⟩
  · simp only [decide_eq_false_iff_not] at g1
    repeat (first | refine t_seq ?_ | refine t_region ?_ | refine to_nil ?_ | refine to_no rfl ?_ | refine to_q rfl rfl rfl ?_ | refine t_cond (t := false) rfl (fun h => nomatch h) (fun _ => ?_) | refine t_exit rfl ?_)
    refine to_call rfl rfl (fall_sp b f s o x _) fun v B F5 le5 h5 => ?_
    subst h5
    have hBf : Both (121 + i) q { x with sess := [] } { y with O := [] } := ⟨fall_sim hB.s, fall_inv hB.r, hB.q⟩
    have hkf : Keeps y1 { y with O := [] } := hk.trans (keeps_V fun z hz => hz)
    have hxf := hBf.xall (by omega) q0 q1
    repeat (first | refine t_seq ?_ | refine t_region ?_ | refine to_nil ?_ | refine to_q rfl rfl rfl ?_)
    refine to_call rfl rfl (shot_sp b f s o { x with sess := [] } shot name _ hxf h1 h2) fun v B F6 le6 h => ?_
    obtain ⟨bv4, rfl, rfl⟩ := h
    rw [shown_sim hBf.s hBf.r (shownP shot name) rfl, shown_keeps hB1.r hBf.r hkf hdone, hR]
    repeat (first | refine t_seq ?_ | refine t_region ?_ | refine to_nil ?_ | refine to_q rfl rfl rfl ?_)
    refine to_call rfl rfl (live_sp _) fun v B F7 le7 h => ?_
    obtain ⟨rfl, rfl⟩ := h
    repeat (refine to_q rfl rfl rfl ?_)
    rw [show (R0.1 == R0.1) = true from by simp]
    repeat (refine to_q rfl rfl rfl ?_)
    refine to_cvBSO rfl rfl ?_
    repeat (refine to_q rfl rfl rfl ?_)
    refine to_cvBSO rfl rfl ?_
    repeat (refine to_q rfl rfl rfl ?_)
    rw [show ((⟨R0.2.2.1.toArray⟩ : ByteArray).toList == (⟨R0.2.2.1.toArray⟩ : ByteArray).toList) = true from by simp]
    repeat (refine to_q rfl rfl rfl ?_)
    refine to_call rfl rfl (sessions_sp b f s o { x with sess := [] } _ (by show 0 ≤ _; omega)) fun w B F8 le8 h8 => ?_
    obtain ⟨js, hjs, hwv, rfl⟩ := h8
    rw [sess_sim hBf.s hBf.r hjs] at hwv
    refine to_lenR (ρ := intR) (n := 1) hwv rfl rfl rfl ?_
    repeat (first | refine to_nil ?_ | refine to_q rfl rfl rfl ?_)
    exact t_ret [] Tryz.func3 (.tmp rfl .nil) ⟨rfl, rfl⟩
end Go.Proofs.YtbffngeameenoaaGreat
end

section
set_option maxRecDepth 100000
set_option linter.unusedVariables false
set_option linter.unusedSimpArgs false
namespace Go.Proofs.YtbffngeameenoaaGreat
open Go Go.Au
attribute [local irreducible] T TO

set_option maxHeartbeats 4000000 in
theorem fails_sp (q : Int) (q0 : -9223372036854775808 ≤ q) (q1 : q ≤ 9223372036854775807) (lv : Value) (l : List (Op1 × Bool)) (p : Op1) (sp : Bool) (bv : Value) (cva : Option Addr) (cvn cvc : Nat) (n1 n2 : Int)
    (F : Frz) (hl : (slR stepR 16).r F l lv) (hok : StepOk p) (hby : (slR u8R 1).r F p.bytes bv) :
    Sp Tryz.prog 4 [.int .i64 q, lv, .agg (stepV p sp bv (.slice cva cvn cvc) (.int .i64 n1) (.int .i64 n2)).toArray] [] F (fun v B F' => v = .bool true ∧ B = []) := by
  obtain ⟨ba, bc, rfl⟩ := slR_len hby
  refine sp_of Tryz.func4 rfl (by kernel_rfl) rfl fun R => ?_
  repeat (first | refine t_seq ?_ | refine t_region ?_ | refine to_nil ?_ | refine to_q rfl rfl rfl ?_ | refine to_boxA rfl rfl fun _ => ?_)
  refine to_call rfl rfl (play_sp q q0 q1 lv l _ hl) fun v B F1 le1 h => ?_
  obtain ⟨b, f, s, o, x, b', u, y, rfl, hB, hY, rfl⟩ := h
  have hxa := hB.xall (by omega) q0 q1
  have hra := hB.rall (by omega) q0 q1
  repeat (first | refine t_seq ?_ | refine t_region ?_ | refine to_nil ?_ | refine t_skip ?_ | refine to_q rfl rfl rfl ?_ | refine t_cond (t := false) rfl (fun h => nomatch h) (fun _ => ?_))
  refine to_call rfl rfl (fork_sp b f s o x _) fun v B F2 le2 h => ?_
  obtain ⟨bk, fk, sk, ok, rfl, rfl⟩ := h
  repeat (first | refine t_seq ?_ | refine t_region ?_ | refine to_nil ?_ | refine to_q rfl rfl rfl ?_ | refine to_fa rfl rfl ?_ | refine to_ld rfl rfl rfl ?_ | refine to_ldA rfl rfl rfl ?_)
  refine to_byR 5 hby ?_
  refine to_call rfl rfl (do_sp b f s o x p sp true (.slice ba p.bytes.length bc) (.slice cva cvn cvc) (.int .i64 n1) (.int .i64 n2) _ hxa hok.ok) fun v B F3 le3 h => ?_
  obtain ⟨r, x1, hd, bv1, nv1, rfl, hn1, rfl⟩ := h
  obtain ⟨hu, hB1⟩ := hB.step hxa hd
  have hxa1 := hB1.xall (by omega) q0 q1
  repeat (refine to_alloc rfl fun _ => ?_)
  obtain ⟨na1, nc1, rfl⟩ := slR_len hn1
  refine to_sform bv1 fun a1 c1 e1 => ?_
  subst e1
  have hra1 := hB1.rall (by omega) q0 q1
  have hlen1 : XLen x1 := fun z hz => Nat.le_trans (hxa1.ok.fv z hz) (by omega)
  have hsame : sameX x1 x = rsame (doR y p sp).2 y := same_sim hB1.s hB.s hB1.r hB.r
  repeat (first | refine t_seq ?_ | refine t_region ?_ | refine to_nil ?_ | refine to_q rfl rfl rfl ?_ | refine to_fa rfl rfl ?_ | refine to_ld rfl rfl rfl ?_ | refine to_stA rfl rfl rfl rfl rfl rfl ?_)
  by_cases ht : 5 ≤ p.do_ ∧ p.do_ ≤ 9
  · have ht1 : decide (5 ≤ p.do_) = true := by simp [ht.1]
    have ht2 : decide (p.do_ ≤ 9) = true := by simp [ht.2]
    have hs1 : rsame (doR y p sp).2 y = true := err_same y p sp (.inr ht)
    have hss : (doR y p sp).2 = y := tells_same y p sp ht
    refine to_gd rfl rfl (fun g1 => ?_) (fun g1 => ?_)
    case refine_2 => simp only [decide_eq_false_iff_not] at g1; omega
    repeat (first | refine t_seq ?_ | refine t_region ?_ | refine to_nil ?_ | refine to_q rfl rfl rfl ?_ | refine to_fa rfl rfl ?_ | refine to_ld rfl rfl rfl ?_)
    rw [ht2]
    skip
    refine to_gd rfl rfl (fun g2 => ?_) (fun g2 => ?_)
    · repeat (first | refine to_no rfl ?_ | refine to_q rfl rfl rfl ?_)
      refine to_call rfl rfl (same_sp b f s o bk fk sk ok x1 x _ hlen1) fun v B F4 le4 h => ?_
      obtain ⟨rfl, rfl⟩ := h
      rw [hsame, hs1]
      repeat (first | refine t_seq ?_ | refine t_region ?_ | refine to_nil ?_ | refine t_skip ?_ | refine to_q rfl rfl rfl ?_ | refine t_cond (t := false) rfl (fun h => nomatch h) (fun _ => ?_))
      refine to_call rfl rfl (sessions_sp b f s o x1 _ (by have := hxa1.ok.sl; omega)) fun w B F5 le5 h => ?_
      obtain ⟨js, hjs, hwv, rfl⟩ := h
      rw [sess_sim hB1.s hB1.r hjs, hss] at hwv
      repeat (refine to_q rfl rfl rfl ?_)
      refine to_call rfl rfl (sessions_sp bk fk sk ok x _ (by have := hxa.ok.sl; omega)) fun w2 B F5b le5b h => ?_
      obtain ⟨js2, hjs2, hwv2, rfl⟩ := h
      rw [sess_sim hB.s hB.r hjs2] at hwv2
      skip
      refine to_call rfl rfl (ints_sp w w2 _ _ _ ((slR intR 1).mono le5b.h hwv) hwv2 (by rw [List.length_map]; have := hra.z.o; omega)) fun v B F5c le5c h => ?_
      obtain ⟨rfl, rfl⟩ := h
      rw [show (decide (y.O.map (·.n) = y.O.map (·.n))) = true from by simp]
      repeat (first | refine t_seq ?_ | refine t_region ?_ | refine to_nil ?_ | refine t_skip ?_ | refine to_q rfl rfl rfl ?_ | refine t_cond (t := false) rfl (fun h => nomatch h) (fun _ => ?_))
      refine to_call rfl rfl (rfork_sp b' y u _ (hY.mono (le2.h.trans (le3.h.trans (le4.h.trans (le5.h.trans (le5b.h.trans le5c.h))))))) fun v B F6 le6 h => ?_
      obtain ⟨b2, rfl, rfl⟩ := h
      repeat (first | refine t_seq ?_ | refine t_region ?_ | refine to_nil ?_ | refine to_q rfl rfl rfl ?_ | refine to_fa rfl rfl ?_ | refine to_ld rfl rfl rfl ?_ | refine to_ldA rfl rfl rfl ?_)
      refine to_call rfl rfl (rdo_sp b' y u p sp true (.slice ba p.bytes.length bc) (.slice cva cvn cvc) (.int .i64 n1) (.int .i64 n2) _ (hY.mono ((le2.h.trans (le3.h.trans (le4.h.trans (le5.h.trans (le5b.h.trans le5c.h))))).trans le6.h)) hra hok.ok hok.by_) fun v B F7 le7 h => ?_
      obtain ⟨u1, hY1, ha⟩ := h
      obtain ⟨bv5, nv5, rfl, hn5, rfl⟩ := ha
      repeat (first | refine t_seq ?_ | refine t_region ?_ | refine to_nil ?_)
      refine to_call rfl rfl (live_sp _) fun v B F8 le8 h => ?_
      obtain ⟨rfl, rfl⟩ := h
      repeat (refine to_q rfl rfl rfl ?_)
      refine to_call rfl rfl (same_sp b f s o bk fk sk ok x1 x _ hlen1) fun v B F9 le9 h => ?_
      obtain ⟨rfl, rfl⟩ := h
      rw [hsame]
      repeat (refine to_q rfl rfl rfl ?_)
      refine to_call rfl rfl (rsame_sp b' b2 (doR y p sp).2 y u1 u _ (hY1.mono (le8.h.trans le9.h)) (hY.mono ((le2.h.trans (le3.h.trans (le4.h.trans (le5.h.trans (le5b.h.trans le5c.h))))).trans (le6.h.trans (le7.h.trans (le8.h.trans le9.h))))) hra1.z hra1.hS) fun v B F10 le10 h => ?_
      obtain ⟨rfl, rfl⟩ := h
      refine to_eqB rfl rfl rfl ?_
      rw [show (rsame (doR y p sp).2 y == rsame (doR y p sp).2 y) = true from by simp]
      repeat (first | refine to_nil ?_ | refine to_q rfl rfl rfl ?_)
      exact t_ret [] Tryz.func4 (.tmp rfl .nil) ⟨rfl, rfl⟩
    · repeat (refine to_q rfl rfl rfl ?_)
      refine to_call rfl rfl (same_sp b f s o bk fk sk ok x1 x _ hlen1) fun v B F4 le4 h => ?_
      obtain ⟨rfl, rfl⟩ := h
      rw [hsame, hs1]
      repeat (first | refine t_seq ?_ | refine t_region ?_ | refine to_nil ?_ | refine t_skip ?_ | refine to_q rfl rfl rfl ?_ | refine t_cond (t := false) rfl (fun h => nomatch h) (fun _ => ?_))
      refine to_call rfl rfl (sessions_sp b f s o x1 _ (by have := hxa1.ok.sl; omega)) fun w B F5 le5 h => ?_
      obtain ⟨js, hjs, hwv, rfl⟩ := h
      rw [sess_sim hB1.s hB1.r hjs, hss] at hwv
      repeat (refine to_q rfl rfl rfl ?_)
      refine to_call rfl rfl (sessions_sp bk fk sk ok x _ (by have := hxa.ok.sl; omega)) fun w2 B F5b le5b h => ?_
      obtain ⟨js2, hjs2, hwv2, rfl⟩ := h
      rw [sess_sim hB.s hB.r hjs2] at hwv2
      skip
      refine to_call rfl rfl (ints_sp w w2 _ _ _ ((slR intR 1).mono le5b.h hwv) hwv2 (by rw [List.length_map]; have := hra.z.o; omega)) fun v B F5c le5c h => ?_
      obtain ⟨rfl, rfl⟩ := h
      rw [show (decide (y.O.map (·.n) = y.O.map (·.n))) = true from by simp]
      repeat (first | refine t_seq ?_ | refine t_region ?_ | refine to_nil ?_ | refine t_skip ?_ | refine to_q rfl rfl rfl ?_ | refine t_cond (t := false) rfl (fun h => nomatch h) (fun _ => ?_))
      refine to_call rfl rfl (rfork_sp b' y u _ (hY.mono (le2.h.trans (le3.h.trans (le4.h.trans (le5.h.trans (le5b.h.trans le5c.h))))))) fun v B F6 le6 h => ?_
      obtain ⟨b2, rfl, rfl⟩ := h
      repeat (first | refine t_seq ?_ | refine t_region ?_ | refine to_nil ?_ | refine to_q rfl rfl rfl ?_ | refine to_fa rfl rfl ?_ | refine to_ld rfl rfl rfl ?_ | refine to_ldA rfl rfl rfl ?_)
      refine to_call rfl rfl (rdo_sp b' y u p sp true (.slice ba p.bytes.length bc) (.slice cva cvn cvc) (.int .i64 n1) (.int .i64 n2) _ (hY.mono ((le2.h.trans (le3.h.trans (le4.h.trans (le5.h.trans (le5b.h.trans le5c.h))))).trans le6.h)) hra hok.ok hok.by_) fun v B F7 le7 h => ?_
      obtain ⟨u1, hY1, ha⟩ := h
      obtain ⟨bv5, nv5, rfl, hn5, rfl⟩ := ha
      repeat (first | refine t_seq ?_ | refine t_region ?_ | refine to_nil ?_)
      refine to_call rfl rfl (live_sp _) fun v B F8 le8 h => ?_
      obtain ⟨rfl, rfl⟩ := h
      repeat (refine to_q rfl rfl rfl ?_)
      refine to_call rfl rfl (same_sp b f s o bk fk sk ok x1 x _ hlen1) fun v B F9 le9 h => ?_
      obtain ⟨rfl, rfl⟩ := h
      rw [hsame]
      repeat (refine to_q rfl rfl rfl ?_)
      refine to_call rfl rfl (rsame_sp b' b2 (doR y p sp).2 y u1 u _ (hY1.mono (le8.h.trans le9.h)) (hY.mono ((le2.h.trans (le3.h.trans (le4.h.trans (le5.h.trans (le5b.h.trans le5c.h))))).trans (le6.h.trans (le7.h.trans (le8.h.trans le9.h))))) hra1.z hra1.hS) fun v B F10 le10 h => ?_
      obtain ⟨rfl, rfl⟩ := h
      refine to_eqB rfl rfl rfl ?_
      rw [show (rsame (doR y p sp).2 y == rsame (doR y p sp).2 y) = true from by simp]
      repeat (first | refine to_nil ?_ | refine to_q rfl rfl rfl ?_)
      exact t_ret [] Tryz.func4 (.tmp rfl .nil) ⟨rfl, rfl⟩
  · refine to_gd rfl rfl (fun g1 => ?_) (fun g1 => ?_)
    · have ht2 : decide (p.do_ ≤ 9) = false := by simp only [decide_eq_true_eq, decide_eq_false_iff_not] at g1 ⊢; omega
      repeat (first | refine t_seq ?_ | refine t_region ?_ | refine to_nil ?_ | refine to_q rfl rfl rfl ?_ | refine to_fa rfl rfl ?_ | refine to_ld rfl rfl rfl ?_)
      rw [ht2]
      skip
      refine to_gd rfl rfl (fun g2 => ?_) (fun g2 => ?_)
      · simp only [bne_iff_ne, ne_eq] at g2
        have hs1 : rsame (doR y p sp).2 y = true := err_same y p sp (.inl (by rw [← hu]; exact g2))
        repeat (first | refine to_no rfl ?_ | refine to_q rfl rfl rfl ?_)
        refine to_call rfl rfl (same_sp b f s o bk fk sk ok x1 x _ hlen1) fun v B F4 le4 h => ?_
        obtain ⟨rfl, rfl⟩ := h
        rw [hsame, hs1]
        repeat (first | refine t_seq ?_ | refine t_region ?_ | refine to_nil ?_ | refine t_skip ?_ | refine to_no rfl ?_ | refine to_q rfl rfl rfl ?_ | refine t_cond (t := false) rfl (fun h => nomatch h) (fun _ => ?_))
        skip
        refine to_call rfl rfl (rfork_sp b' y u _ (hY.mono (le2.h.trans (le3.h.trans le4.h)))) fun v B F6 le6 h => ?_
        obtain ⟨b2, rfl, rfl⟩ := h
        repeat (first | refine t_seq ?_ | refine t_region ?_ | refine to_nil ?_ | refine to_q rfl rfl rfl ?_ | refine to_fa rfl rfl ?_ | refine to_ld rfl rfl rfl ?_ | refine to_ldA rfl rfl rfl ?_)
        refine to_call rfl rfl (rdo_sp b' y u p sp true (.slice ba p.bytes.length bc) (.slice cva cvn cvc) (.int .i64 n1) (.int .i64 n2) _ (hY.mono ((le2.h.trans (le3.h.trans le4.h)).trans le6.h)) hra hok.ok hok.by_) fun v B F7 le7 h => ?_
        obtain ⟨u1, hY1, ha⟩ := h
        obtain ⟨bv5, nv5, rfl, hn5, rfl⟩ := ha
        repeat (first | refine t_seq ?_ | refine t_region ?_ | refine to_nil ?_)
        refine to_call rfl rfl (live_sp _) fun v B F8 le8 h => ?_
        obtain ⟨rfl, rfl⟩ := h
        repeat (refine to_q rfl rfl rfl ?_)
        refine to_call rfl rfl (same_sp b f s o bk fk sk ok x1 x _ hlen1) fun v B F9 le9 h => ?_
        obtain ⟨rfl, rfl⟩ := h
        rw [hsame]
        repeat (refine to_q rfl rfl rfl ?_)
        refine to_call rfl rfl (rsame_sp b' b2 (doR y p sp).2 y u1 u _ (hY1.mono (le8.h.trans le9.h)) (hY.mono ((le2.h.trans (le3.h.trans le4.h)).trans (le6.h.trans (le7.h.trans (le8.h.trans le9.h))))) hra1.z hra1.hS) fun v B F10 le10 h => ?_
        obtain ⟨rfl, rfl⟩ := h
        refine to_eqB rfl rfl rfl ?_
        rw [show (rsame (doR y p sp).2 y == rsame (doR y p sp).2 y) = true from by simp]
        repeat (first | refine to_nil ?_ | refine to_q rfl rfl rfl ?_)
        exact t_ret [] Tryz.func4 (.tmp rfl .nil) ⟨rfl, rfl⟩
      · repeat (first | refine t_seq ?_ | refine t_region ?_ | refine to_nil ?_ | refine t_skip ?_ | refine to_no rfl ?_ | refine to_q rfl rfl rfl ?_ | refine t_cond (t := false) rfl (fun h => nomatch h) (fun _ => ?_))
        skip
        refine to_call rfl rfl (rfork_sp b' y u _ (hY.mono (le2.h.trans le3.h))) fun v B F6 le6 h => ?_
        obtain ⟨b2, rfl, rfl⟩ := h
        repeat (first | refine t_seq ?_ | refine t_region ?_ | refine to_nil ?_ | refine to_q rfl rfl rfl ?_ | refine to_fa rfl rfl ?_ | refine to_ld rfl rfl rfl ?_ | refine to_ldA rfl rfl rfl ?_)
        refine to_call rfl rfl (rdo_sp b' y u p sp true (.slice ba p.bytes.length bc) (.slice cva cvn cvc) (.int .i64 n1) (.int .i64 n2) _ (hY.mono ((le2.h.trans le3.h).trans le6.h)) hra hok.ok hok.by_) fun v B F7 le7 h => ?_
        obtain ⟨u1, hY1, ha⟩ := h
        obtain ⟨bv5, nv5, rfl, hn5, rfl⟩ := ha
        repeat (first | refine t_seq ?_ | refine t_region ?_ | refine to_nil ?_)
        refine to_call rfl rfl (live_sp _) fun v B F8 le8 h => ?_
        obtain ⟨rfl, rfl⟩ := h
        repeat (refine to_q rfl rfl rfl ?_)
        refine to_call rfl rfl (same_sp b f s o bk fk sk ok x1 x _ hlen1) fun v B F9 le9 h => ?_
        obtain ⟨rfl, rfl⟩ := h
        rw [hsame]
        repeat (refine to_q rfl rfl rfl ?_)
        refine to_call rfl rfl (rsame_sp b' b2 (doR y p sp).2 y u1 u _ (hY1.mono (le8.h.trans le9.h)) (hY.mono ((le2.h.trans le3.h).trans (le6.h.trans (le7.h.trans (le8.h.trans le9.h))))) hra1.z hra1.hS) fun v B F10 le10 h => ?_
        obtain ⟨rfl, rfl⟩ := h
        refine to_eqB rfl rfl rfl ?_
        rw [show (rsame (doR y p sp).2 y == rsame (doR y p sp).2 y) = true from by simp]
        repeat (first | refine to_nil ?_ | refine to_q rfl rfl rfl ?_)
        exact t_ret [] Tryz.func4 (.tmp rfl .nil) ⟨rfl, rfl⟩
    · repeat (first | refine t_seq ?_ | refine t_region ?_ | refine to_nil ?_ | refine to_no rfl ?_ | refine to_q rfl rfl rfl ?_ | refine to_fa rfl rfl ?_ | refine to_ld rfl rfl rfl ?_)
      refine to_gd rfl rfl (fun g2 => ?_) (fun g2 => ?_)
      · simp only [bne_iff_ne, ne_eq] at g2
        have hs1 : rsame (doR y p sp).2 y = true := err_same y p sp (.inl (by rw [← hu]; exact g2))
        repeat (first | refine to_no rfl ?_ | refine to_q rfl rfl rfl ?_)
        refine to_call rfl rfl (same_sp b f s o bk fk sk ok x1 x _ hlen1) fun v B F4 le4 h => ?_
        obtain ⟨rfl, rfl⟩ := h
        rw [hsame, hs1]
        repeat (first | refine t_seq ?_ | refine t_region ?_ | refine to_nil ?_ | refine t_skip ?_ | refine to_no rfl ?_ | refine to_q rfl rfl rfl ?_ | refine t_cond (t := false) rfl (fun h => nomatch h) (fun _ => ?_))
        skip
        refine to_call rfl rfl (rfork_sp b' y u _ (hY.mono (le2.h.trans (le3.h.trans le4.h)))) fun v B F6 le6 h => ?_
        obtain ⟨b2, rfl, rfl⟩ := h
        repeat (first | refine t_seq ?_ | refine t_region ?_ | refine to_nil ?_ | refine to_q rfl rfl rfl ?_ | refine to_fa rfl rfl ?_ | refine to_ld rfl rfl rfl ?_ | refine to_ldA rfl rfl rfl ?_)
        refine to_call rfl rfl (rdo_sp b' y u p sp true (.slice ba p.bytes.length bc) (.slice cva cvn cvc) (.int .i64 n1) (.int .i64 n2) _ (hY.mono ((le2.h.trans (le3.h.trans le4.h)).trans le6.h)) hra hok.ok hok.by_) fun v B F7 le7 h => ?_
        obtain ⟨u1, hY1, ha⟩ := h
        obtain ⟨bv5, nv5, rfl, hn5, rfl⟩ := ha
        repeat (first | refine t_seq ?_ | refine t_region ?_ | refine to_nil ?_)
        refine to_call rfl rfl (live_sp _) fun v B F8 le8 h => ?_
        obtain ⟨rfl, rfl⟩ := h
        repeat (refine to_q rfl rfl rfl ?_)
        refine to_call rfl rfl (same_sp b f s o bk fk sk ok x1 x _ hlen1) fun v B F9 le9 h => ?_
        obtain ⟨rfl, rfl⟩ := h
        rw [hsame]
        repeat (refine to_q rfl rfl rfl ?_)
        refine to_call rfl rfl (rsame_sp b' b2 (doR y p sp).2 y u1 u _ (hY1.mono (le8.h.trans le9.h)) (hY.mono ((le2.h.trans (le3.h.trans le4.h)).trans (le6.h.trans (le7.h.trans (le8.h.trans le9.h))))) hra1.z hra1.hS) fun v B F10 le10 h => ?_
        obtain ⟨rfl, rfl⟩ := h
        refine to_eqB rfl rfl rfl ?_
        rw [show (rsame (doR y p sp).2 y == rsame (doR y p sp).2 y) = true from by simp]
        repeat (first | refine to_nil ?_ | refine to_q rfl rfl rfl ?_)
        exact t_ret [] Tryz.func4 (.tmp rfl .nil) ⟨rfl, rfl⟩
      · repeat (first | refine t_seq ?_ | refine t_region ?_ | refine to_nil ?_ | refine t_skip ?_ | refine to_no rfl ?_ | refine to_q rfl rfl rfl ?_ | refine t_cond (t := false) rfl (fun h => nomatch h) (fun _ => ?_))
        skip
        refine to_call rfl rfl (rfork_sp b' y u _ (hY.mono (le2.h.trans le3.h))) fun v B F6 le6 h => ?_
        obtain ⟨b2, rfl, rfl⟩ := h
        repeat (first | refine t_seq ?_ | refine t_region ?_ | refine to_nil ?_ | refine to_q rfl rfl rfl ?_ | refine to_fa rfl rfl ?_ | refine to_ld rfl rfl rfl ?_ | refine to_ldA rfl rfl rfl ?_)
        refine to_call rfl rfl (rdo_sp b' y u p sp true (.slice ba p.bytes.length bc) (.slice cva cvn cvc) (.int .i64 n1) (.int .i64 n2) _ (hY.mono ((le2.h.trans le3.h).trans le6.h)) hra hok.ok hok.by_) fun v B F7 le7 h => ?_
        obtain ⟨u1, hY1, ha⟩ := h
        obtain ⟨bv5, nv5, rfl, hn5, rfl⟩ := ha
        repeat (first | refine t_seq ?_ | refine t_region ?_ | refine to_nil ?_)
        refine to_call rfl rfl (live_sp _) fun v B F8 le8 h => ?_
        obtain ⟨rfl, rfl⟩ := h
        repeat (refine to_q rfl rfl rfl ?_)
        refine to_call rfl rfl (same_sp b f s o bk fk sk ok x1 x _ hlen1) fun v B F9 le9 h => ?_
        obtain ⟨rfl, rfl⟩ := h
        rw [hsame]
        repeat (refine to_q rfl rfl rfl ?_)
        refine to_call rfl rfl (rsame_sp b' b2 (doR y p sp).2 y u1 u _ (hY1.mono (le8.h.trans le9.h)) (hY.mono ((le2.h.trans le3.h).trans (le6.h.trans (le7.h.trans (le8.h.trans le9.h))))) hra1.z hra1.hS) fun v B F10 le10 h => ?_
        obtain ⟨rfl, rfl⟩ := h
        refine to_eqB rfl rfl rfl ?_
        rw [show (rsame (doR y p sp).2 y == rsame (doR y p sp).2 y) = true from by simp]
        repeat (first | refine to_nil ?_ | refine to_q rfl rfl rfl ?_)
        exact t_ret [] Tryz.func4 (.tmp rfl .nil) ⟨rfl, rfl⟩
end Go.Proofs.YtbffngeameenoaaGreat
end

section
set_option maxRecDepth 100000
set_option linter.unusedVariables false
set_option linter.unusedSimpArgs false
namespace Go.Proofs.YtbffngeameenoaaGreat
open Go Go.Au
attribute [local irreducible] T TO

instance fld_ans : Fld Tryz.prog 31 0 0 := Fld.mk' Tryz.underlying31 rfl rfl rfl (inferInstance : ScaT Tryz.prog 27)
set_option maxHeartbeats 8000000 in
theorem forks_sp (q : Int) (q0 : -9223372036854775808 ≤ q) (q1 : q ≤ 9223372036854775807) (lv mv : Value) (l m : List (Op1 × Bool))
    (F : Frz) (hl : (slR stepR 16).r F l lv) (hm : (slR stepR 16).r F m mv) :
    Sp Tryz.prog 5 [.int .i64 q, lv, mv] [] F (fun v B F' => v = .bool true ∧ B = []) := by
  obtain ⟨ma, mc, rfl⟩ := slR_len hm
  refine sp_of Tryz.func5 rfl (by kernel_rfl) rfl fun R => ?_
  repeat (first | refine t_seq ?_ | refine t_region ?_ | refine to_nil ?_ | refine to_q rfl rfl rfl ?_)
  refine to_call rfl rfl (play_sp q q0 q1 lv l _ hl) fun v B F1 le1 h => ?_
  obtain ⟨b, f, s, o, x, b', u, y, rfl, hB, hY, rfl⟩ := h
  have hxa := hB.xall (by omega) q0 q1
  have hra := hB.rall (by omega) q0 q1
  repeat (first | refine t_seq ?_ | refine t_region ?_ | refine to_nil ?_ | refine t_skip ?_ | refine to_q rfl rfl rfl ?_ | refine t_cond (t := false) rfl (fun h => nomatch h) (fun _ => ?_))
  refine to_call rfl rfl (fork_sp b f s o x _) fun v B F2 le2 h => ?_
  obtain ⟨bk, fk, sk, ok, rfl, rfl⟩ := h
  repeat (refine to_q rfl rfl rfl ?_)
  refine to_call rfl rfl (rfork_sp b' y u _ (hY.mono le2.h)) fun v B F3 le3 h => ?_
  obtain ⟨b2, rfl, rfl⟩ := h
  repeat (first | refine t_seq ?_ | refine t_block ?_ | refine t_region ?_ | refine to_nil ?_ | refine to_q rfl rfl rfl ?_)
  refine t_loopJ (R := R) (fun z : Nat × XM × RM × RU => m.length - z.1) (fun z => XP b f s o x ++ (RP b' u y ++ (XP bk fk sk ok z.2.1 ++ RP b2 z.2.2.2 z.2.2.1)))
    (fun z => [(2, .slice ma m.length mc), (7, ptr b), (8, ptr b'), (10, ptr bk), (11, ptr b2), (12, .int .i64 z.1)])
    (fun z G => z.1 ≤ m.length ∧ z.1 ≤ 60 ∧ Both (120 + z.1) q z.2.1 z.2.2.1 ∧ RY G z.2.2.1 z.2.2.2) (0, x, y, u) (by repeat (first | exact trivial | refine ⟨rfl, ?_⟩)) ⟨Nat.zero_le _, Nat.zero_le _, hB.mono (by dsimp only; omega), hY.mono (le2.h.trans le3.h)⟩ ?_
  rintro ⟨i, xk, yk, uk⟩ F4 le4 hg ih
  dsimp only at hg ih ⊢
  obtain ⟨hi, hi2, hBk, hYk⟩ := hg
  have hxk := hBk.xall (by omega) q0 q1
  have hrk := hBk.rall (by omega) q0 q1
  have hlx : XLen x := fun z hz => Nat.le_trans (hxa.ok.fv z hz) (by omega)
  have hlk : XLen xk := fun z hz => Nat.le_trans (hxk.ok.fv z hz) (by omega)
  have hs1 : sameX x xk = rsame y yk := same_sim hB.s hBk.s hB.r hBk.r
  have hs2 : sameX xk x = rsame y yk := (same_sim hBk.s hB.s hBk.r hB.r).trans (rsame_comm yk y)
  have hY4 := hY.mono (le2.h.trans (le3.h.trans le4.h))
  repeat (first | refine t_seq ?_ | refine t_region ?_ | refine to_q rfl rfl rfl ?_ | refine to_lenS rfl rfl rfl ?_)
  refine to_gd rfl rfl (fun g1 => ?_) (fun g1 => ?_)
  · simp only [decide_eq_true_eq] at g1
    repeat (first | refine to_nil ?_ | refine to_q rfl rfl rfl ?_)
    refine t_condT rfl (fun g2 => ?_) (fun g2 => ?_)
    · simp only [decide_eq_true_eq] at g2
      have hlt : i < m.length := by omega
      have hc := List.getElem?_eq_getElem hlt
      generalize m[i] = e at hc
      obtain ⟨p, sp⟩ := e
      obtain ⟨b_e, o_e, cap_e, u_e, e_e, hl_e, ⟨hok, bv, cva, cvn, cvc, ct, ca, hv_e, hby⟩, ro_e⟩ := slR_elem (P := Tryz.prog) (t := 44) (by_ := 176) hm hc
      cases e_e
      subst hv_e
      obtain ⟨ba, bc, rfl⟩ := slR_len hby
      repeat (first | refine t_seq ?_ | refine t_block ?_ | refine t_skip ?_)
      refine t_drawn (by kernel_rfl) fun s0 hs0 => ?_
      refine to_frees (by assumption) [0,1,2,3,4,5,6,7,8] (by kernel_rfl) fun _ _ => ?_
      simp only [List.map_cons, List.map_nil, List.cons_append, List.nil_append, opAt, List.getElem?_cons_zero, List.getElem?_cons_succ, Option.getD_some]
      repeat (refine to_q rfl rfl rfl ?_)
      refine to_ia rfl rfl rfl rfl hl_e ?_
      repeat (refine to_fa rfl rfl ?_)
      refine to_ldR (F0 := F) rfl rfl (ro_e.one (j := 7) (v := .slice ba p.bytes.length bc) rfl) ?_
      repeat (first | refine to_q rfl rfl rfl ?_ | refine to_lenS rfl rfl rfl ?_)
      generalize g3 : decide ((p.bytes.length : Int) ≤ 9000) = d3
      cases d3
      rotate_left
      · refine to_frees (by assumption) [9,10,11,12,13,14,15,16,17,18,19,21,22,23,24,25,27,28,29,30] (by kernel_rfl) fun _ _ => ?_
        simp only [List.map_cons, List.map_nil, List.cons_append, List.nil_append, opAt, List.getElem?_cons_zero, List.getElem?_cons_succ, Option.getD_some]
        repeat (refine to_q rfl rfl rfl ?_)
        refine to_ia rfl rfl rfl rfl hl_e ?_
        repeat (refine to_fa rfl rfl ?_)
        refine to_ldRA (F0 := F) (vs := opC p (.slice ba p.bytes.length bc) (.slice cva cvn cvc) (.int .i64 ct) (.int .i64 ca)) rfl rfl (ro_e.take 15) rfl ?_
        repeat (refine to_q rfl rfl rfl ?_)
        refine to_ia rfl rfl rfl rfl hl_e ?_
        repeat (refine to_fa rfl rfl ?_)
        refine to_ldR (F0 := F) rfl rfl (ro_e.one (j := 15) (v := .bool sp) rfl) ?_
        repeat (refine to_q rfl rfl rfl ?_)
        refine to_ia rfl rfl rfl rfl hl_e ?_
        repeat (first | refine to_q rfl rfl rfl ?_ | refine to_fa rfl rfl ?_)
        skip
        refine to_ia rfl rfl rfl rfl hl_e ?_
        repeat (refine to_fa rfl rfl ?_)
        refine to_byR 5 hby ?_
        refine to_next3 (by assumption) 20 26 31 rfl rfl rfl (by kernel_rfl) (fun _ _ => ?_) (fun _ _ => ?_) (fun _ _ => ?_)
        focus
          refine to_call rfl rfl (do_sp bk fk sk ok xk p sp true (.slice ba p.bytes.length bc) (.slice cva cvn cvc) (.int .i64 ct) (.int .i64 ca) _ hxk hok.ok) fun v B F5 le5 h5 => ?_
          obtain ⟨r, x1, hd, bv1, nv1, rfl, hn1, rfl⟩ := h5
          refine to_next2 (by assumption) 26 31 rfl rfl (by kernel_rfl) (fun _ _ => ?_) (fun _ _ => ?_)
          focus
            refine to_ldRA (F0 := F) (vs := opC p (.slice ba p.bytes.length bc) (.slice cva cvn cvc) (.int .i64 ct) (.int .i64 ca)) rfl rfl (ro_e.take 15) rfl ?_
            refine to_free (by assumption) 31 rfl (by kernel_rfl) (by kernel_rfl) fun _ _ => ?_
            refine to_ldR (F0 := F) rfl rfl (ro_e.one (j := 15) (v := .bool sp) rfl) ?_
          rotate_left 1
          focus
            refine to_ldR (F0 := F) rfl rfl (ro_e.one (j := 15) (v := .bool sp) rfl) ?_
            refine to_free (by assumption) 26 rfl (by kernel_rfl) (by kernel_rfl) fun _ _ => ?_
            refine to_ldRA (F0 := F) (vs := opC p (.slice ba p.bytes.length bc) (.slice cva cvn cvc) (.int .i64 ct) (.int .i64 ca)) rfl rfl (ro_e.take 15) rfl ?_
          rotate_left 1
        rotate_left 2
        focus
          refine to_ldRA (F0 := F) (vs := opC p (.slice ba p.bytes.length bc) (.slice cva cvn cvc) (.int .i64 ct) (.int .i64 ca)) rfl rfl (ro_e.take 15) rfl ?_
          refine to_next2 (by assumption) 20 31 rfl rfl (by kernel_rfl) (fun _ _ => ?_) (fun _ _ => ?_)
          focus
            refine to_call rfl rfl (do_sp bk fk sk ok xk p sp true (.slice ba p.bytes.length bc) (.slice cva cvn cvc) (.int .i64 ct) (.int .i64 ca) _ hxk hok.ok) fun v B F5 le5 h5 => ?_
            obtain ⟨r, x1, hd, bv1, nv1, rfl, hn1, rfl⟩ := h5
            refine to_free (by assumption) 31 rfl (by kernel_rfl) (by kernel_rfl) fun _ _ => ?_
            refine to_ldR (F0 := F) rfl rfl (ro_e.one (j := 15) (v := .bool sp) rfl) ?_
          rotate_left 1
          focus
            refine to_ldR (F0 := F) rfl rfl (ro_e.one (j := 15) (v := .bool sp) rfl) ?_
            refine to_free (by assumption) 20 rfl (by kernel_rfl) (by kernel_rfl) fun _ _ => ?_
            refine to_call rfl rfl (do_sp bk fk sk ok xk p sp true (.slice ba p.bytes.length bc) (.slice cva cvn cvc) (.int .i64 ct) (.int .i64 ca) _ hxk hok.ok) fun v B F5 le5 h5 => ?_
            obtain ⟨r, x1, hd, bv1, nv1, rfl, hn1, rfl⟩ := h5
          rotate_left 1
        rotate_left 2
        focus
          refine to_ldR (F0 := F) rfl rfl (ro_e.one (j := 15) (v := .bool sp) rfl) ?_
          refine to_next2 (by assumption) 20 26 rfl rfl (by kernel_rfl) (fun _ _ => ?_) (fun _ _ => ?_)
          focus
            refine to_call rfl rfl (do_sp bk fk sk ok xk p sp true (.slice ba p.bytes.length bc) (.slice cva cvn cvc) (.int .i64 ct) (.int .i64 ca) _ hxk hok.ok) fun v B F5 le5 h5 => ?_
            obtain ⟨r, x1, hd, bv1, nv1, rfl, hn1, rfl⟩ := h5
            refine to_free (by assumption) 26 rfl (by kernel_rfl) (by kernel_rfl) fun _ _ => ?_
            refine to_ldRA (F0 := F) (vs := opC p (.slice ba p.bytes.length bc) (.slice cva cvn cvc) (.int .i64 ct) (.int .i64 ca)) rfl rfl (ro_e.take 15) rfl ?_
          rotate_left 1
          focus
            refine to_ldRA (F0 := F) (vs := opC p (.slice ba p.bytes.length bc) (.slice cva cvn cvc) (.int .i64 ct) (.int .i64 ca)) rfl rfl (ro_e.take 15) rfl ?_
            refine to_free (by assumption) 20 rfl (by kernel_rfl) (by kernel_rfl) fun _ _ => ?_
            refine to_call rfl rfl (do_sp bk fk sk ok xk p sp true (.slice ba p.bytes.length bc) (.slice cva cvn cvc) (.int .i64 ct) (.int .i64 ca) _ hxk hok.ok) fun v B F5 le5 h5 => ?_
            obtain ⟨r, x1, hd, bv1, nv1, rfl, hn1, rfl⟩ := h5
          rotate_left 1
        rotate_left 2
        all_goals
          obtain ⟨hu, hB1⟩ := hBk.step hxk hd
          refine to_free (by assumption) 32 rfl (by kernel_rfl) (by kernel_rfl) fun _ _ => ?_
          refine to_call rfl rfl (rdo_sp b2 yk uk p sp true (.slice ba p.bytes.length bc) (.slice cva cvn cvc) (.int .i64 ct) (.int .i64 ca) _ (hYk.mono le5.h) hrk hok.ok hok.by_) fun v B F6 le6 h6 => ?_
          obtain ⟨u2, hY2, bv3, nv3, rfl, hn3, rfl⟩ := h6
          have hal := ans_len hrk.z.t hrk.z.v p sp
          refine to_free (by assumption) 33 rfl (by kernel_rfl) (by kernel_rfl) fun _ _ => ?_
          refine to_call rfl rfl (sameAnswer_sp r (doR yk p sp).1 _ _ _ _ _ ((slR heldR 2).mono le6.h hn1) hn3 (by rw [hu]; omega)) fun v B F7 le7 h7 => ?_
          obtain ⟨rfl, rfl⟩ := h7
          have hsa : sameA r (doR yk p sp).1 = true := by rw [hu]; unfold sameA; simp
          rw [hsa]
          refine to_free (by assumption) 34 rfl (by kernel_rfl) (by kernel_rfl) fun _ _ => ?_
          repeat (refine to_q rfl rfl rfl ?_)
          refine to_free (by assumption) 35 rfl (by kernel_rfl) (by kernel_rfl) fun _ _ => ?_
          repeat (refine to_q rfl rfl rfl ?_)
          refine to_lin_nil (by assumption) ?_
          repeat (first | refine t_region ?_ | refine to_nil ?_ | refine t_skip ?_ | refine t_inBlock ?_ | refine to_q rfl rfl rfl ?_ | refine to_add rfl rfl rfl (by omega) (by omega) ?_
                        | refine t_cond (t := false) rfl (fun h => nomatch h) (fun _ => ?_))
          refine t_re (A := XP b f s o x ++ (RP b' u y ++ (XP bk fk sk ok x1 ++ RP b2 u2 (doR yk p sp).2))) (R := R)
            (ih (i + 1, x1, (doR yk p sp).2, u2) F7 ⟨le5.h.trans (le6.h.trans le7.h)⟩ (by dsimp only; omega) ⟨by dsimp only; omega, by dsimp only; omega, hB1.mono (by dsimp only; omega), hY2.mono le7.h⟩) (by repeat (first | exact trivial | refine ⟨rfl, ?_⟩))
      · refine to_frees (by assumption) [9,10,11,12,13,14,15,16,17,18,19,21,22,23,24,25,27,28,29,30] (by kernel_rfl) fun _ _ => ?_
        simp only [List.map_cons, List.map_nil, List.cons_append, List.nil_append, opAt, List.getElem?_cons_zero, List.getElem?_cons_succ, Option.getD_some]
        repeat (refine to_no rfl ?_)
        refine to_next3 (by assumption) 20 26 31 rfl rfl rfl (by kernel_rfl) (fun _ _ => ?_) (fun _ _ => ?_) (fun _ _ => ?_)
        focus
          repeat (refine to_no rfl ?_)
          refine to_next2 (by assumption) 26 31 rfl rfl (by kernel_rfl) (fun _ _ => ?_) (fun _ _ => ?_)
          focus
            repeat (refine to_no rfl ?_)
            refine to_free (by assumption) 31 rfl (by kernel_rfl) (by kernel_rfl) fun _ _ => ?_
            repeat (refine to_no rfl ?_)
          rotate_left 1
          focus
            repeat (refine to_no rfl ?_)
            refine to_free (by assumption) 26 rfl (by kernel_rfl) (by kernel_rfl) fun _ _ => ?_
            repeat (refine to_no rfl ?_)
          rotate_left 1
        rotate_left 2
        focus
          repeat (refine to_no rfl ?_)
          refine to_next2 (by assumption) 20 31 rfl rfl (by kernel_rfl) (fun _ _ => ?_) (fun _ _ => ?_)
          focus
            repeat (refine to_no rfl ?_)
            refine to_free (by assumption) 31 rfl (by kernel_rfl) (by kernel_rfl) fun _ _ => ?_
            repeat (refine to_no rfl ?_)
          rotate_left 1
          focus
            repeat (refine to_no rfl ?_)
            refine to_free (by assumption) 20 rfl (by kernel_rfl) (by kernel_rfl) fun _ _ => ?_
            repeat (refine to_no rfl ?_)
          rotate_left 1
        rotate_left 2
        focus
          repeat (refine to_no rfl ?_)
          refine to_next2 (by assumption) 20 26 rfl rfl (by kernel_rfl) (fun _ _ => ?_) (fun _ _ => ?_)
          focus
            repeat (refine to_no rfl ?_)
            refine to_free (by assumption) 26 rfl (by kernel_rfl) (by kernel_rfl) fun _ _ => ?_
            repeat (refine to_no rfl ?_)
          rotate_left 1
          focus
            repeat (refine to_no rfl ?_)
            refine to_free (by assumption) 20 rfl (by kernel_rfl) (by kernel_rfl) fun _ _ => ?_
            repeat (refine to_no rfl ?_)
          rotate_left 1
        rotate_left 2
        all_goals
          refine to_free (by assumption) 32 rfl (by kernel_rfl) (by kernel_rfl) fun _ _ => ?_
          repeat (refine to_no rfl ?_)
          refine to_free (by assumption) 33 rfl (by kernel_rfl) (by kernel_rfl) fun _ _ => ?_
          repeat (refine to_no rfl ?_)
          refine to_free (by assumption) 34 rfl (by kernel_rfl) (by kernel_rfl) fun _ _ => ?_
          repeat (refine to_no rfl ?_)
          refine to_free (by assumption) 35 rfl (by kernel_rfl) (by kernel_rfl) fun _ _ => ?_
          repeat (refine to_q rfl rfl rfl ?_)
          refine to_lin_nil (by assumption) ?_
          repeat (first | refine t_region ?_ | refine to_nil ?_ | refine t_skip ?_ | refine t_inBlock ?_ | refine to_q rfl rfl rfl ?_ | refine to_add rfl rfl rfl (by omega) (by omega) ?_
                        | refine t_cond (t := false) rfl (fun h => nomatch h) (fun _ => ?_))
          refine t_re (A := XP b f s o x ++ (RP b' u y ++ (XP bk fk sk ok xk ++ RP b2 uk yk))) (R := R)
            (ih (i + 1, xk, yk, uk) F4 ⟨.refl _⟩ (by dsimp only; omega) ⟨by dsimp only; omega, by dsimp only; omega, hBk.mono (by dsimp only; omega), hYk⟩) (by repeat (first | exact trivial | refine ⟨rfl, ?_⟩))
    · simp only [decide_eq_false_iff_not] at g2
      repeat (first | refine t_seq ?_ | refine t_region ?_ | refine to_nil ?_ | refine to_q rfl rfl rfl ?_ | refine t_exit rfl ?_)
      refine to_call rfl rfl (bytes_nil _ 0 _) fun v B F5 le5 h => ?_
      obtain ⟨rfl, rfl⟩ := h
      repeat (first | refine t_seq ?_ | refine t_region ?_ | refine to_nil ?_ | refine to_q rfl rfl rfl ?_)
      refine to_call rfl rfl (shot_nil _ _ _) fun v B F6 le6 h => ?_
      obtain ⟨rfl, rfl⟩ := h
      repeat (first | refine t_seq ?_ | refine t_region ?_ | refine to_nil ?_ | refine to_q rfl rfl rfl ?_)
      refine to_call rfl rfl (fall_nil _) fun v B F7 le7 h => ?_
      subst h
      repeat (first | refine t_seq ?_ | refine t_region ?_ | refine to_nil ?_)
      refine to_call rfl rfl (live_sp _) fun v B F8 le8 h => ?_
      obtain ⟨rfl, rfl⟩ := h
      repeat (refine to_q rfl rfl rfl ?_)
      refine to_call rfl rfl (same_sp b f s o bk fk sk ok x xk _ hlx) fun v B F9 le9 h => ?_
      obtain ⟨rfl, rfl⟩ := h
      repeat (refine to_q rfl rfl rfl ?_)
      refine to_call rfl rfl (rsame_sp b' b2 y yk u uk _ (hY4.mono (le5.h.trans (le6.h.trans (le7.h.trans (le8.h.trans le9.h))))) (hYk.mono (le5.h.trans (le6.h.trans (le7.h.trans (le8.h.trans le9.h))))) hra.z hra.hS) fun v B F10 le10 h => ?_
      obtain ⟨rfl, rfl⟩ := h
      rw [hs1]
      refine to_eqB rfl rfl rfl ?_
      rw [show (rsame y yk == rsame y yk) = true from by simp]
      repeat (refine to_q rfl rfl rfl ?_)
      refine to_call rfl rfl (same_sp bk fk sk ok b f s o xk x _ hlk) fun v B F11 le11 h => ?_
      obtain ⟨rfl, rfl⟩ := h
      repeat (refine to_q rfl rfl rfl ?_)
      refine to_call rfl rfl (same_sp b f s o bk fk sk ok x xk _ hlx) fun v B F12 le12 h => ?_
      obtain ⟨rfl, rfl⟩ := h
      rw [hs2, hs1]
      refine to_eqB rfl rfl rfl ?_
      rw [show (rsame y yk == rsame y yk) = true from by simp]
      repeat (refine to_q rfl rfl rfl ?_)
      refine to_call rfl rfl (names_sp b f s o x _ hxa.ok) fun v B F13 le13 h => ?_
      obtain ⟨ks, hks, hnv, rfl⟩ := h
      rw [names_sim hB.s hB.r hks] at hnv
      repeat (refine to_q rfl rfl rfl ?_)
      refine to_call rfl rfl (rnames_sp b' y u _ (hY4.mono (le5.h.trans (le6.h.trans (le7.h.trans (le8.h.trans (le9.h.trans (le10.h.trans (le11.h.trans (le12.h.trans le13.h))))))))) hra.z) fun v2 B F14 le14 h => ?_
      obtain ⟨hnv2, rfl⟩ := h
      skip
      refine to_call rfl rfl (sameHeld_sp v v2 _ _ _ ((slR heldR 2).mono le14.h hnv) hnv2 (by have := rnamesI_le y.V y.V.length; have := hra.z.v; unfold rnames; omega)) fun v3 B F15 le15 h => ?_
      obtain ⟨rfl, rfl⟩ := h
      rw [show decide (rnames y.V = rnames y.V) = true from by simp]
      repeat (first | refine to_q rfl rfl rfl ?_ | refine to_bs rfl rfl rfl rfl ?_)
      refine to_call rfl rfl (do_nil ⟨9, 0, ⟨#[]⟩, ⟨#[]⟩, 0, 0, 0, [], 0, 0, 0, 0⟩ false nilS nilS (.int .i64 0) (.int .i64 0) _) fun v B F16 le16 h => ?_
      obtain ⟨rfl, rfl⟩ := h
      repeat (first | refine to_q rfl rfl rfl ?_ | refine to_fld rfl rfl rfl ?_)
      rw [show ((1 : Int) == 1) = true from rfl]
      skip
      refine to_call rfl rfl (same_nil (.pointer none) _ (.inl rfl)) fun v B F17 le17 h => ?_
      obtain ⟨rfl, rfl⟩ := h
      repeat (refine to_q rfl rfl rfl ?_)
      refine to_call rfl rfl (same_nil (ptr b) _ (.inr ⟨b, rfl⟩)) fun v B F18 le18 h => ?_
      obtain ⟨rfl, rfl⟩ := h
      repeat (refine to_q rfl rfl rfl ?_)
      refine to_call rfl rfl (names_nil _) fun v B F19 le19 h => ?_
      obtain ⟨rfl, rfl⟩ := h
      repeat (first | refine to_q rfl rfl rfl ?_ | refine to_lenS rfl rfl rfl ?_)
      refine to_call rfl rfl (sessions_nil _) fun v B F20 le20 h => ?_
      obtain ⟨rfl, rfl⟩ := h
      repeat (first | refine to_q rfl rfl rfl ?_ | refine to_add rfl rfl rfl (by omega) (by omega) ?_ | refine to_lenS rfl rfl rfl ?_)
      refine to_call rfl rfl (fork_nil _) fun v B F21 le21 h => ?_
      obtain ⟨rfl, rfl⟩ := h
      repeat (first | refine to_nil ?_ | refine to_q rfl rfl rfl ?_ | refine to_nilP rfl rfl rfl ?_)
      exact t_ret [] Tryz.func5 (.tmp rfl .nil) ⟨rfl, rfl⟩
  · simp only [decide_eq_false_iff_not] at g1
    repeat (first | refine t_seq ?_ | refine t_region ?_ | refine to_nil ?_ | refine to_no rfl ?_ | refine to_q rfl rfl rfl ?_ | refine t_cond (t := false) rfl (fun h => nomatch h) (fun _ => ?_) | refine t_exit rfl ?_)
    refine to_call rfl rfl (bytes_nil _ 0 _) fun v B F5 le5 h => ?_
    obtain ⟨rfl, rfl⟩ := h
    repeat (first | refine t_seq ?_ | refine t_region ?_ | refine to_nil ?_ | refine to_q rfl rfl rfl ?_)
    refine to_call rfl rfl (shot_nil _ _ _) fun v B F6 le6 h => ?_
    obtain ⟨rfl, rfl⟩ := h
    repeat (first | refine t_seq ?_ | refine t_region ?_ | refine to_nil ?_ | refine to_q rfl rfl rfl ?_)
    refine to_call rfl rfl (fall_nil _) fun v B F7 le7 h => ?_
    subst h
    repeat (first | refine t_seq ?_ | refine t_region ?_ | refine to_nil ?_)
    refine to_call rfl rfl (live_sp _) fun v B F8 le8 h => ?_
    obtain ⟨rfl, rfl⟩ := h
    repeat (refine to_q rfl rfl rfl ?_)
    refine to_call rfl rfl (same_sp b f s o bk fk sk ok x xk _ hlx) fun v B F9 le9 h => ?_
    obtain ⟨rfl, rfl⟩ := h
    repeat (refine to_q rfl rfl rfl ?_)
    refine to_call rfl rfl (rsame_sp b' b2 y yk u uk _ (hY4.mono (le5.h.trans (le6.h.trans (le7.h.trans (le8.h.trans le9.h))))) (hYk.mono (le5.h.trans (le6.h.trans (le7.h.trans (le8.h.trans le9.h))))) hra.z hra.hS) fun v B F10 le10 h => ?_
    obtain ⟨rfl, rfl⟩ := h
    rw [hs1]
    refine to_eqB rfl rfl rfl ?_
    rw [show (rsame y yk == rsame y yk) = true from by simp]
    repeat (refine to_q rfl rfl rfl ?_)
    refine to_call rfl rfl (same_sp bk fk sk ok b f s o xk x _ hlk) fun v B F11 le11 h => ?_
    obtain ⟨rfl, rfl⟩ := h
    repeat (refine to_q rfl rfl rfl ?_)
    refine to_call rfl rfl (same_sp b f s o bk fk sk ok x xk _ hlx) fun v B F12 le12 h => ?_
    obtain ⟨rfl, rfl⟩ := h
    rw [hs2, hs1]
    refine to_eqB rfl rfl rfl ?_
    rw [show (rsame y yk == rsame y yk) = true from by simp]
    repeat (refine to_q rfl rfl rfl ?_)
    refine to_call rfl rfl (names_sp b f s o x _ hxa.ok) fun v B F13 le13 h => ?_
    obtain ⟨ks, hks, hnv, rfl⟩ := h
    rw [names_sim hB.s hB.r hks] at hnv
    repeat (refine to_q rfl rfl rfl ?_)
    refine to_call rfl rfl (rnames_sp b' y u _ (hY4.mono (le5.h.trans (le6.h.trans (le7.h.trans (le8.h.trans (le9.h.trans (le10.h.trans (le11.h.trans (le12.h.trans le13.h))))))))) hra.z) fun v2 B F14 le14 h => ?_
    obtain ⟨hnv2, rfl⟩ := h
    skip
    refine to_call rfl rfl (sameHeld_sp v v2 _ _ _ ((slR heldR 2).mono le14.h hnv) hnv2 (by have := rnamesI_le y.V y.V.length; have := hra.z.v; unfold rnames; omega)) fun v3 B F15 le15 h => ?_
    obtain ⟨rfl, rfl⟩ := h
    rw [show decide (rnames y.V = rnames y.V) = true from by simp]
    repeat (first | refine to_q rfl rfl rfl ?_ | refine to_bs rfl rfl rfl rfl ?_)
    refine to_call rfl rfl (do_nil ⟨9, 0, ⟨#[]⟩, ⟨#[]⟩, 0, 0, 0, [], 0, 0, 0, 0⟩ false nilS nilS (.int .i64 0) (.int .i64 0) _) fun v B F16 le16 h => ?_
    obtain ⟨rfl, rfl⟩ := h
    repeat (first | refine to_q rfl rfl rfl ?_ | refine to_fld rfl rfl rfl ?_)
    rw [show ((1 : Int) == 1) = true from rfl]
    skip
    refine to_call rfl rfl (same_nil (.pointer none) _ (.inl rfl)) fun v B F17 le17 h => ?_
    obtain ⟨rfl, rfl⟩ := h
    repeat (refine to_q rfl rfl rfl ?_)
    refine to_call rfl rfl (same_nil (ptr b) _ (.inr ⟨b, rfl⟩)) fun v B F18 le18 h => ?_
    obtain ⟨rfl, rfl⟩ := h
    repeat (refine to_q rfl rfl rfl ?_)
    refine to_call rfl rfl (names_nil _) fun v B F19 le19 h => ?_
    obtain ⟨rfl, rfl⟩ := h
    repeat (first | refine to_q rfl rfl rfl ?_ | refine to_lenS rfl rfl rfl ?_)
    refine to_call rfl rfl (sessions_nil _) fun v B F20 le20 h => ?_
    obtain ⟨rfl, rfl⟩ := h
    repeat (first | refine to_q rfl rfl rfl ?_ | refine to_add rfl rfl rfl (by omega) (by omega) ?_ | refine to_lenS rfl rfl rfl ?_)
    refine to_call rfl rfl (fork_nil _) fun v B F21 le21 h => ?_
    obtain ⟨rfl, rfl⟩ := h
    repeat (first | refine to_nil ?_ | refine to_q rfl rfl rfl ?_ | refine to_nilP rfl rfl rfl ?_)
    exact t_ret [] Tryz.func5 (.tmp rfl .nil) ⟨rfl, rfl⟩
end Go.Proofs.YtbffngeameenoaaGreat
end

section
set_option linter.unusedVariables false
set_option linter.unusedSimpArgs false
namespace Go.Au
open Go Go.ChangeShapes Go.WideShapes Go.RowKit

def initF (W : World) : Frz := ⟨W.os, W.tape, W.output, fun b => W.heap[b]?⟩
theorem St.init (W : World) : St W [] (initF W) := ⟨[], rfl, ⟨rfl, rfl, rfl, List.nodup_nil, fun b o m => (nomatch m), fun b o e => ⟨e, fun o' m => nomatch m⟩⟩⟩
theorem below_of_st {W W' : World} {L : List HP} {F' : Frz} (le : FLe (initF W) F') (s : St W' L F') : Below W.heap.size W W' := by
  obtain ⟨h, _, ow⟩ := s
  have hb : ∀ k, k < W.heap.size → W'.heap[k]? = W.heap[k]? := fun k hk => by
    have e : W.heap[k]? = some W.heap[k] := Array.getElem?_eq_getElem hk
    rw [e]; exact (ow.ro k _ (le.ro k _ e)).1
  refine ⟨ow.os.trans le.os, ow.tape.trans le.tape, ow.output.trans le.output, ?_, hb⟩
  rcases Nat.lt_or_ge W'.heap.size W.heap.size with hl | hl
  · have := hb _ hl
    rw [Array.getElem?_eq_none (Nat.le_refl _), Array.getElem?_eq_getElem hl] at this
    cases this
  · exact hl

section
variable {H : Type} {enc : TypeId × Value → H} {P : Program}

theorem trodAll_below {W W' : World} (hl : laidOutB P = true) (hb : Below W.heap.size W W') : ∀ {ts : List TypeId} {vs : List Value} {ds : List (DataW H)} {ps : List MemPlace}, (∀ t ∈ ts, P.readableRec t = true ∧ t < P.types.size) →
    DataW.TrodAll enc P W 0 (fun _ => true) true ts vs ds ps → (∀ p ∈ ps, p.block < W.heap.size) → ∀ sp : Nat → Bool, (∀ p ∈ ps, sp p.block = true) → DataW.TrodAll enc P W' 0 sp true ts vs ds ps
  | [], [], [], _, _, h, _, _, _ => h
  | t :: ts, v :: vs, d :: ds, ps, hr, ⟨p, q, h1, h2, e⟩, hlt, sp, hs => by
    subst e
    refine ⟨p, q, WideElems.Trod_stays hl (hr t (.head _)).1 (hr t (.head _)).2 h1 (fun x hx => hb.same (hlt x (List.mem_append_left _ hx))) (fun x hx => hs x (List.mem_append_left _ hx)), ?_, rfl⟩
    exact trodAll_below hl hb (fun t ht => hr t (.tail _ ht)) h2 (fun x hx => hlt x (List.mem_append_right _ hx)) sp (fun x hx => hs x (List.mem_append_right _ hx))
  | [], _ :: _, _, _, _, h, _, _, _ => h.elim
  | [], [], _ :: _, _, _, h, _, _, _ => h.elim
  | _ :: _, [], _, _, _, h, _, _, _ => h.elim
  | _ :: _, _ :: _, [], _, _, h, _, _, _ => h.elim

/-- A law's end: it answered true; nothing that was there has turned. -/
theorem post_of_below {f : Func} {s : ChangeSpec} {apart fresh handsOn again : Bool} {W W' : World} {args : Array Value} {ds gs : List (DataW H)} {before : List MemPlace} {tb : TypeId}
    (hl : laidOutB P = true) (hr : ∀ t ∈ f.params.toList, P.readableRec t = true ∧ t < P.types.size) (ht : f.resultTypes = #[tb]) (hu : P.underlying tb = some .bool) (hvs : s.vars = [])
    (hfn : s.fn H (ds ++ gs) = { results := [.lit (.bool true)], args := ds }) (hW : DataW.Whole enc P f.params.toList s.vars apart W args.toList ds gs before)
    (hb : Below W.heap.size W W') : s.post enc P f apart fresh handsOn again W args (.bool true) W' := by
  have hW' := hW
  obtain ⟨p, q, hA, hV, he, hz, hn⟩ := hW
  have hq : q = [] := by rw [hvs] at hV; exact (trodVars_none hV).2
  subst hq
  rw [List.append_nil] at he; subst he
  have hres : ∀ (b : Nat) (sp : Nat → Bool) (hd : Bool), DataW.TrodAll enc P W' b sp hd f.resultTypes.toList ((Value.bool true).resultList f.resultTypes.size) (s.fn H (ds ++ gs)).results [] := fun b sp hd => by
    rw [ht, hfn]; exact trodAll_mk1 (shut_bool hu true)
  have hargs : ∀ sp : Nat → Bool, (∀ x ∈ before, sp x.block = true) → DataW.TrodAll enc P W' 0 sp true f.params.toList args.toList (s.fn H (ds ++ gs)).args before := fun sp hs => by
    rw [hfn]; exact trodAll_below hl hb hr hA (fun x hx => hW'.lt x hx) sp hs
  have hvars : ∀ sp : Nat → Bool, DataW.TrodVars enc P W' sp s.vars (s.fn H (ds ++ gs)).vars [] := fun sp => by rw [hvs, hfn]; exact rfl
  refine ⟨ds, gs, before, [], before, [], hW', hres _ _ _, hargs _ (fun x hx => by simpa using hW'.lt x hx), hvars _, hb.frame _, fun _ => ⟨?_, ?_⟩⟩
  · exact ok_one ht rfl (okWide_bool_mk hu true)
  · refine ⟨_, _, ([] ++ before) ++ [], ⟨[] ++ before, [], trodAll_append (hargs _ (fun _ _ => rfl)) (hres _ _ _), hvars _, rfl, ?_, ?_⟩, ?_⟩
    · intro b off hp
      have hp' : MemPlace.cell b off ∈ before := by simpa using hp
      rw [hb.frozen (p := ⟨b, off, none⟩) (hW'.lt _ hp')]; exact hz b off hp'
    · intro ha; have := hn ha; simpa using this
    · intro x hx _; simpa using hx

/-- Of a contract: the call asz the row's form wants it. -/
theorem calls_of_sp {f : FuncId} {fn : Func} {s : ChangeSpec} {apart fresh handsOn again : Bool} {W : World} {args : Array Value} {vs : List Value} {ds gs : List (DataW H)} {before : List MemPlace} {tb : TypeId}
    (hl : laidOutB P = true) (hr : ∀ t ∈ fn.params.toList, P.readableRec t = true ∧ t < P.types.size) (ht : fn.resultTypes = #[tb]) (hu : P.underlying tb = some .bool) (hvs : s.vars = [])
    (hfn : s.fn H (ds ++ gs) = { results := [.lit (.bool true)], args := ds }) (hW : DataW.Whole enc P fn.params.toList s.vars apart W args.toList ds gs before) (hv : args = vs.toArray)
    (sp : Sp P f vs [] (initF W) (fun v B F' => v = .bool true ∧ B = [])) :
    Calls P f args W fun e W' => ∃ v, e = .returned v ∧ s.post enc P fn apart fresh handsOn again W args v W' := by
  subst hv
  have := sp [] W (St.init W)
  refine this.mono fun e W' he => ?_
  cases e with
  | returned v =>
    obtain ⟨B, F', le, ⟨rfl, rfl⟩, st⟩ := he
    exact ⟨_, rfl, post_of_below hl hr ht hu hvs hfn hW (below_of_st le st)⟩
  | _ => exact he.elim

/-! ### Opening an argument -/
theorem mapM_range_get {α : Type} {f : Nat → Option α} {n : Nat} {cs : List α} (h : (List.range n).mapM f = some cs) : cs.length = n ∧ ∀ i, i < n → f i = cs[i]? := by
  refine ⟨by simpa using mapM_some_length h, fun i hi => mapM_some_get h i i (by simp [hi])⟩
theorem cells?_get {W : World} {a : Addr} {n : Nat} {cs : List Value} (h : W.cells? 0 a n = some cs) : cs.length = n ∧ ∀ i, i < n → W.cell? (a.add i) = cs[i]? := by
  unfold World.cells? at h
  rw [if_pos (Nat.zero_le _)] at h
  exact mapM_range_get h
theorem addr_add (a : Addr) (i j : Nat) : (a.add i).add j = a.add (i + j) := by
  unfold Addr.add
  by_cases hi : i = 0
  · subst hi; simp
  by_cases hj : j = 0
  · subst hj; simp
  rw [if_neg hj, if_neg hi, if_neg (by omega)]; simp [Nat.add_assoc]

/-- What the form's own reach says of a reading: each text, each slice is no longer than that. -/
def Wt (P : Program) (t : TypeId) (d : DataW H) : Prop := ∀ n ∈ d.weights P t, n ≤ reachBytes
theorem wt_all {e : TypeId} : ∀ {ds : List (DataW H)}, (∀ n ∈ DataW.weightsAll P e ds, n ≤ reachBytes) → ∀ d ∈ ds, Wt P e d
  | [], _, d, hd => by cases hd
  | d0 :: ds, h, d, hd => by
    simp only [DataW.weightsAll, List.mem_append] at h
    rcases List.mem_cons.1 hd with rfl | hd
    · exact fun n hn => h n (.inl hn)
    · exact wt_all (fun n hn => h n (.inr hn)) d hd
theorem wt_slice {t e : TypeId} {elems rest : List (DataW H)} (ht : P.underlying t = some (.slice e)) (h : Wt P t (.slice elems rest)) : (elems.length + rest.length) * P.bytesOf e ≤ reachBytes ∧ ∀ d ∈ elems, Wt P e d := by
  unfold Wt at h
  simp only [DataW.weights, ht, List.mem_cons, List.mem_append] at h
  exact ⟨h _ (.inl rfl), wt_all fun n hn => h n (.inr (.inl hn))⟩
theorem wt_field {t : TypeId} {fs : Array Field} {parts : List (DataW H)} {i : Nat} {f : Field} {d : DataW H} (ht : P.underlying t = some (.struct fs)) (h : Wt P t (.agg parts)) (hf : fs[i]? = some f) (hd : parts[i]? = some d) : Wt P f.type d := by
  unfold Wt at h
  simp only [DataW.weights, ht] at h
  exact fun n hn => h n (DataW.weights_mem_each (j := i) (by simp [hf]) hd n hn)
theorem wt_of {ts : List TypeId} {ds : List (DataW H)} (h : (DataW.weightsEach P ts ds).all (· ≤ reachBytes) = true) {j : Nat} {t : TypeId} {d : DataW H} (ht : ts[j]? = some t) (hd : ds[j]? = some d) : Wt P t d := fun n hn => by
  have := List.all_eq_true.1 h _ (DataW.weights_mem_each ht hd n hn)
  simpa using this

theorem open_elems {β : Type} {ρ : Rel β} {W : World} {sp : Nat → Bool} {held : Bool} {m n : Nat} {e : TypeId} {a : Addr} {elems : List (DataW H × List MemPlace)}
    (hE : ∀ cs x, DataW.trod enc P W 0 sp held m e cs = some x → Wt P e x.1 → ∃ q u, ρ.r (initF W) q u ∧ cellsL u = cs) (hw : ∀ y ∈ elems, Wt P e y.1) : ∀ k, k ≤ elems.length →
    (∀ i, i < elems.length → (W.cells? 0 (a.add (i * n)) n).bind (DataW.trod enc P W 0 sp held m e) = elems[i]?) →
    ∃ (l : List β) (vs : List Value), l.length = k ∧ F2 (ρ.r (initF W)) l vs ∧ (flat vs).length = k * n ∧ ∀ j u, (flat vs)[j]? = some u → W.cell? (a.add j) = some u
  | 0, _, _ => ⟨[], [], rfl, .nil, by simp [flat], by simp [flat]⟩
  | k + 1, hk, hel => by
    obtain ⟨l, vs, h1, h2, h3, h4⟩ := open_elems hE hw k (by omega) hel
    have h5 := hel k (by omega)
    rw [List.getElem?_eq_getElem (show k < elems.length by omega), Option.bind_eq_some_iff] at h5
    obtain ⟨cs, hc, hx⟩ := h5
    obtain ⟨q, u, hq, hu⟩ := hE cs _ hx (hw _ (List.getElem_mem _))
    obtain ⟨hcl, hcg⟩ := cells?_get hc
    refine ⟨l ++ [q], vs ++ [u], by simp [h1], h2.append (.cons hq .nil), ?_, ?_⟩
    · rw [flat_append, List.length_append, h3, flat_cons, flat_nil, List.append_nil, hu, hcl, Nat.add_mul, Nat.one_mul]
    · intro j y hy
      rw [flat_append, flat_cons, flat_nil, List.append_nil, hu] at hy
      rcases Nat.lt_or_ge j (flat vs).length with hj | hj
      · rw [List.getElem?_append_left hj] at hy; exact h4 j y hy
      · rw [List.getElem?_append_right hj] at hy
        have hlt : j - (flat vs).length < n := by rw [← hcl]; exact (List.getElem?_eq_some_iff.1 hy).1
        have := hcg _ hlt
        rw [addr_add, hy, h3] at this
        rw [h3] at hj
        rw [show k * n + (j - k * n) = j by omega] at this
        exact this

theorem open_slR {β : Type} {ρ : Rel β} {W : World} {sp : Nat → Bool} {held : Bool} {n fuel : Nat} {t e : TypeId} {cs : List Value} {x : DataW H × List MemPlace} (ht : P.underlying t = some (.slice e)) (hn : P.cellsOf e = n) (hp : 0 < n)
    (hE : ∀ m cs x, DataW.trod enc P W 0 sp held m e cs = some x → Wt P e x.1 → ∃ q u, ρ.r (initF W) q u ∧ cellsL u = cs) (h : DataW.trod enc P W 0 sp held fuel t cs = some x) (hw : Wt P t x.1) :
    ∃ l v, cs = [v] ∧ (slR ρ n).r (initF W) l v ∧ l.length * P.bytesOf e ≤ reachBytes := by
  subst hn
  rcases DataW.trod_slice ht h with ⟨rfl, _⟩ | ⟨a, len, cap, elems, rest, m, rfl, rfl, rfl, _, hlc, hcm, hlen, hel, _⟩
  · exact ⟨[], _, rfl, .inl ⟨rfl, none, 0, rfl⟩, by simp [reachBytes]⟩
  subst hlen
  obtain ⟨hw1, hw2⟩ := wt_slice ht hw
  obtain ⟨l, vs, h1, h2, h3, h4⟩ := open_elems (ρ := ρ) (n := P.cellsOf e) (a := a) (hE m) (fun y hy => hw2 _ (List.mem_map_of_mem hy)) elems.length (Nat.le_refl _) hel
  have hlw : l.length * P.bytesOf e ≤ reachBytes := by
    refine Nat.le_trans (Nat.mul_le_mul_right _ ?_) hw1
    rw [h1, List.length_map]; omega
  refine ⟨l, _, rfl, ?_, hlw⟩
  by_cases h0 : l = []
  · subst h0; rw [← h1]; exact .inl ⟨rfl, some a, cap, rfl⟩
  have hpos : 0 < elems.length := by rw [← h1]; exact List.length_pos_iff.2 h0
  have hfp : 0 < (flat vs).length := by rw [h3]; exact Nat.mul_pos hpos hp
  have hc0 := h4 0 _ (List.getElem?_eq_getElem hfp)
  have e0 : a.add 0 = a := by simp [Addr.add]
  rw [e0] at hc0
  obtain ⟨b, o, spot⟩ := a
  have hspot : spot = none ∧ ∃ arr t fr, W.heap[b]? = some (.cells arr t fr) := by
    unfold World.cell? at hc0
    dsimp only at hc0
    split at hc0
    · rename_i arr t fr he
      split at hc0
      · cases hc0
      · rename_i hs
        cases spot with
        | none => exact ⟨rfl, _, _, _, he⟩
        | some _ => simp at hs
    · cases hc0
  obtain ⟨rfl, arr, t', fr, he⟩ := hspot
  rw [← h1]
  refine .inr ⟨b, o, cap, vs, rfl, h0, by omega, h2, arr, t', fr, he, fun j v hv => ?_⟩
  have := h4 j v hv
  have ea : (Addr.mk b o none).add j = ⟨b, o + j, none⟩ := by
    unfold Addr.add; split
    · rename_i hj; subst hj; rfl
    · rfl
  rw [ea] at this
  unfold World.cell? at this
  simp only [he] at this
  simpa using this

theorem open_u8 {W : World} {sp : Nat → Bool} {held : Bool} {e : TypeId} (he : P.underlying e = some (.int .u8)) (m : Nat) (cs : List Value) (x : DataW H × List MemPlace) (h : DataW.trod enc P W 0 sp held m e cs = some x) (_ : Wt P e x.1) :
    ∃ q u, u8R.r (initF W) q u ∧ cellsL u = cs := by
  obtain ⟨n, rfl, _, hw⟩ := DataW.trod_int he h
  have hb := bounds_u8 hw
  refine ⟨UInt8.ofNat n.toNat, .int .u8 n, ?_, rfl⟩
  show Value.int .u8 n = .int .u8 _
  congr 1
  have : (UInt8.ofNat n.toNat).toNat = n.toNat := by
    rw [UInt8.toNat_ofNat']; omega
  rw [this]; omega
theorem open_bytes {W : World} {sp : Nat → Bool} {held : Bool} {fuel : Nat} {t e : TypeId} {c : Value} {x : DataW H × List MemPlace} (ht : P.underlying t = some (.slice e)) (he : P.underlying e = some (.int .u8)) (hn : P.cellsOf e = 1) (hb : P.bytesOf e = 1)
    (h : DataW.trod enc P W 0 sp held fuel t [c] = some x) (hw : Wt P t x.1) : ∃ l, (slR u8R 1).r (initF W) l c ∧ l.length ≤ reachBytes := by
  obtain ⟨l, v, e1, h1, h2⟩ := open_slR ht hn (by omega) (open_u8 he) h hw
  cases e1
  rw [hb, Nat.mul_one] at h2
  exact ⟨l, h1, h2⟩
/-- A slice of which nobody asks what it holds. -/
theorem open_sl {W : World} {sp : Nat → Bool} {held : Bool} {fuel : Nat} {t e : TypeId} {c : Value} {x : DataW H × List MemPlace} (ht : P.underlying t = some (.slice e)) (h : DataW.trod enc P W 0 sp held fuel t [c] = some x) :
    ∃ a len cap, c = .slice a len cap := by
  rcases DataW.trod_slice ht h with ⟨e, _⟩ | ⟨a, len, cap, elems, rest, m, _, e, _⟩
  · cases e; exact ⟨none, 0, 0, rfl⟩
  · cases e; exact ⟨some a, len, cap, rfl⟩
/-- A field of a struct, by its place. -/
theorem open_fld {W : World} {sp : Nat → Bool} {held : Bool} {fuel : Nat} {t : TypeId} {fs : Array Field} {cs : List Value} {x : DataW H × List MemPlace} (ht : P.underlying t = some (.struct fs)) (h : DataW.trod enc P W 0 sp held fuel t cs = some x) (hw : Wt P t x.1)
    (i : Nat) (t' : TypeId) (off k : Nat) {f : Field} (hi : fs[i]? = some f) (h1 : f.type = t') (h2 : f.offset = off) (hk : P.cellsOf t' = k) : ∃ n y, DataW.trod enc P W 0 sp held n t' ((cs.drop off).take k) = some y ∧ Wt P t' y.1 := by
  subst h1 h2 hk
  obtain ⟨xs, n, _, rfl, hl, hlen, hf⟩ := DataW.trod_struct ht h
  have hlt : i < xs.length := by rw [hlen]; exact (Array.getElem?_eq_some_iff.1 hi).1
  exact ⟨n, xs[i], (hf i f hi).trans (List.getElem?_eq_getElem hlt), wt_field ht hw hi (by simp [hlt])⟩
theorem open_len {W : World} {sp : Nat → Bool} {held : Bool} {fuel : Nat} {t : TypeId} {fs : Array Field} {cs : List Value} {x : DataW H × List MemPlace} (ht : P.underlying t = some (.struct fs)) (h : DataW.trod enc P W 0 sp held fuel t cs = some x) :
    cs.length = P.cellsOf t := by
  obtain ⟨xs, n, _, rfl, hl, hlen, hf⟩ := DataW.trod_struct ht h
  exact hl
/-- A number, a text. -/
theorem open_num {W : World} {sp : Nat → Bool} {held : Bool} {fuel : Nat} {t : TypeId} {k : IntKind} {c : Value} {x : DataW H × List MemPlace} (ht : P.underlying t = some (.int k)) (h : DataW.trod enc P W 0 sp held fuel t [c] = some x) :
    ∃ n, c = .int k n ∧ (Lit.int k n).wf = true := by
  obtain ⟨n, e, _, hw⟩ := DataW.trod_int ht h
  cases e; exact ⟨n, rfl, hw⟩
theorem open_str {W : World} {sp : Nat → Bool} {held : Bool} {fuel : Nat} {t : TypeId} {c : Value} {x : DataW H × List MemPlace} (ht : P.underlying t = some .string) (h : DataW.trod enc P W 0 sp held fuel t [c] = some x) (hw : Wt P t x.1) :
    ∃ s, c = .string s ∧ s.size ≤ reachBytes := by
  obtain ⟨n, e, rfl, _⟩ := DataW.trod_string ht h
  cases e
  exact ⟨n, rfl, by have := hw n.data.toList.length (by simp [DataW.weights]); rwa [Array.length_toList] at this⟩
theorem open_bl {W : World} {sp : Nat → Bool} {held : Bool} {fuel : Nat} {t : TypeId} {c : Value} {x : DataW H × List MemPlace} (ht : P.underlying t = some .bool) (h : DataW.trod enc P W 0 sp held fuel t [c] = some x) :
    ∃ b, c = .bool b := by
  obtain ⟨n, e, _⟩ := DataW.trod_bool ht h
  cases e; exact ⟨n, rfl⟩
theorem arg_int {W : World} {sp : Nat → Bool} {held : Bool} {fuel : Nat} {t : TypeId} {k : IntKind} {v : Value} {x : DataW H × List MemPlace} {r : Reach} {b : Nat} (ht : P.underlying t = some (.int k)) (ok : Value.okWide P W r b t v)
    (h : DataW.trod enc P W 0 sp held fuel t v.cells.toList = some x) : ∃ n, v = .int k n ∧ (Lit.int k n).wf = true := by
  obtain ⟨n, e, _, hw⟩ := DataW.trod_int ht h
  cases v <;> simp [Value.okWide, Cell.okWide, Cell.ok, ht, Value.cells] at ok e
  obtain ⟨rfl, rfl⟩ := e; exact ⟨_, rfl, hw⟩
theorem arg_str {W : World} {sp : Nat → Bool} {held : Bool} {fuel : Nat} {t : TypeId} {v : Value} {x : DataW H × List MemPlace} {r : Reach} {b : Nat} (ht : P.underlying t = some .string) (ok : Value.okWide P W r b t v)
    (h : DataW.trod enc P W 0 sp held fuel t v.cells.toList = some x) (hw : Wt P t x.1) : ∃ s, v = .string s ∧ s.size ≤ reachBytes := by
  have e : ∃ c, v.cells.toList = [c] := by
    obtain ⟨n, e, _⟩ := DataW.trod_string ht h
    exact ⟨_, e⟩
  obtain ⟨c, e⟩ := e
  rw [e] at h
  obtain ⟨s, rfl, hs⟩ := open_str ht h hw
  cases v <;> simp [Value.okWide, Cell.okWide, Cell.ok, ht, Value.cells] at ok e
  exact ⟨s, by rw [e], hs⟩
theorem arg_slR {β : Type} {ρ : Rel β} {W : World} {sp : Nat → Bool} {held : Bool} {n fuel : Nat} {t e : TypeId} {v : Value} {x : DataW H × List MemPlace} {r : Reach} {b : Nat} (ht : P.underlying t = some (.slice e)) (ok : Value.okWide P W r b t v) (hn : P.cellsOf e = n) (hp : 0 < n)
    (hE : ∀ m cs x, DataW.trod enc P W 0 sp held m e cs = some x → Wt P e x.1 → ∃ q u, ρ.r (initF W) q u ∧ cellsL u = cs) (h : DataW.trod enc P W 0 sp held fuel t v.cells.toList = some x) (hw : Wt P t x.1) :
    ∃ l, (slR ρ n).r (initF W) l v ∧ l.length * P.bytesOf e ≤ reachBytes := by
  obtain ⟨l, u, e1, h1, h2⟩ := open_slR ht hn hp hE h hw
  have : v = u := by
    cases v <;> simp [Value.okWide, Cell.okWide, Cell.ok, ht, Value.cells] at ok e1
    exact e1
  subst this
  exact ⟨l, h1, h2⟩
theorem arg_agg {W : World} {t : TypeId} {fs : Array Field} {v : Value} {r : Reach} {b : Nat} (ht : P.underlying t = some (.struct fs)) (ok : Value.okWide P W r b t v) : ∃ cs : List Value, v = .agg cs.toArray ∧ v.cells.toList = cs := by
  unfold Value.okWide at ok
  rw [ht] at ok
  obtain ⟨cs, rfl, _⟩ := ok
  exact ⟨cs.toList, by simp, rfl⟩
end
end Go.Au
end

section
set_option maxRecDepth 100000
set_option linter.unusedVariables false
set_option linter.unusedSimpArgs false
namespace Go.Proofs.YtbffngeameenoaaGreat
open Go Go.Au Go.ChangeShapes Go.WideShapes Go.RowKit

theorem own_knob : ownKnob Tryz.prog.godebug = none := by kernel_rfl
theorem laid_out : laidOutB Tryz.prog = true := by kernel_rfl
theorem ce_i : Tryz.prog.cellsOf 3 = 1 := by kernel_rfl
theorem ce_d : Tryz.prog.cellsOf 33 = 1 := by kernel_rfl
theorem ce_s : Tryz.prog.cellsOf 9 = 1 := by kernel_rfl
theorem ce_b : Tryz.prog.cellsOf 28 = 1 := by kernel_rfl
theorem ce_u : Tryz.prog.cellsOf 5 = 1 := by kernel_rfl
theorem ce_t : Tryz.prog.cellsOf 4 = 1 := by kernel_rfl
theorem ce_v : Tryz.prog.cellsOf 36 = 1 := by kernel_rfl
theorem ce_k : Tryz.prog.cellsOf 35 = 4 := by kernel_rfl
theorem ce_c : Tryz.prog.cellsOf 38 = 3 := by kernel_rfl
theorem ce_o : Tryz.prog.cellsOf 40 = 15 := by kernel_rfl
theorem ce_p : Tryz.prog.cellsOf 44 = 16 := by kernel_rfl
theorem by_u : Tryz.prog.bytesOf 5 = 1 := by kernel_rfl

section
variable {H : Type} {enc : TypeId × Value → H} {W : World} {sp : Nat → Bool} {held : Bool}
theorem list16 {cs : List Value} (h : cs.length = 16) : ∃ a b c d e f g i j k l m n o p q, cs = [a, b, c, d, e, f, g, i, j, k, l, m, n, o, p, q] := by
  match cs, h with
  | [a, b, c, d, e, f, g, i, j, k, l, m, n, o, p, q], _ => exact ⟨a, b, c, d, e, f, g, i, j, k, l, m, n, o, p, q, rfl⟩

theorem open_step (m : Nat) (cs : List Value) (x : DataW H × List MemPlace) (h : DataW.trod enc Tryz.prog W 0 sp held m 44 cs = some x) (w : Wt Tryz.prog 44 x.1) :
    ∃ q u, stepR.r (initF W) q u ∧ cellsL u = cs := by
  obtain ⟨c0, c1, c2, c3, c4, c5, c6, c7, c8, c9, c10, c11, c12, c13, c14, c15, rfl⟩ := list16 ((open_len Tryz.underlying44 h).trans ce_p)
  obtain ⟨_, _, (ho : DataW.trod enc Tryz.prog W 0 sp held _ 40 [c0, c1, c2, c3, c4, c5, c6, c7, c8, c9, c10, c11, c12, c13, c14] = some _), wo⟩ := open_fld Tryz.underlying44 h w 0 40 0 15 rfl rfl rfl ce_o
  obtain ⟨_, _, (h15 : DataW.trod enc Tryz.prog W 0 sp held _ 4 [c15] = some _), w15⟩ := open_fld Tryz.underlying44 h w 1 4 15 1 rfl rfl rfl ce_t
  obtain ⟨_, _, (h0 : DataW.trod enc Tryz.prog W 0 sp held _ 33 [c0] = some _), w0⟩ := open_fld Tryz.underlying40 ho wo 0 33 0 1 rfl rfl rfl ce_d
  obtain ⟨_, _, (h1 : DataW.trod enc Tryz.prog W 0 sp held _ 3 [c1] = some _), w1⟩ := open_fld Tryz.underlying40 ho wo 1 3 1 1 rfl rfl rfl ce_i
  obtain ⟨_, _, (h2 : DataW.trod enc Tryz.prog W 0 sp held _ 9 [c2] = some _), w2⟩ := open_fld Tryz.underlying40 ho wo 2 9 2 1 rfl rfl rfl ce_s
  obtain ⟨_, _, (h3 : DataW.trod enc Tryz.prog W 0 sp held _ 9 [c3] = some _), w3⟩ := open_fld Tryz.underlying40 ho wo 3 9 3 1 rfl rfl rfl ce_s
  obtain ⟨_, _, (h4 : DataW.trod enc Tryz.prog W 0 sp held _ 3 [c4] = some _), w4⟩ := open_fld Tryz.underlying40 ho wo 4 3 4 1 rfl rfl rfl ce_i
  obtain ⟨_, _, (h5 : DataW.trod enc Tryz.prog W 0 sp held _ 3 [c5] = some _), w5⟩ := open_fld Tryz.underlying40 ho wo 5 3 5 1 rfl rfl rfl ce_i
  obtain ⟨_, _, (h6 : DataW.trod enc Tryz.prog W 0 sp held _ 3 [c6] = some _), w6⟩ := open_fld Tryz.underlying40 ho wo 6 3 6 1 rfl rfl rfl ce_i
  obtain ⟨_, _, (h7 : DataW.trod enc Tryz.prog W 0 sp held _ 28 [c7] = some _), w7⟩ := open_fld Tryz.underlying40 ho wo 7 28 7 1 rfl rfl rfl ce_b
  obtain ⟨_, _, (hk : DataW.trod enc Tryz.prog W 0 sp held _ 35 [c8, c9, c10, c11] = some _), wk⟩ := open_fld Tryz.underlying40 ho wo 8 35 8 4 rfl rfl rfl ce_k
  obtain ⟨_, _, (hc : DataW.trod enc Tryz.prog W 0 sp held _ 38 [c12, c13, c14] = some _), wc⟩ := open_fld Tryz.underlying40 ho wo 9 38 12 3 rfl rfl rfl ce_c
  obtain ⟨_, _, (h8 : DataW.trod enc Tryz.prog W 0 sp held _ 3 [c8] = some _), w8⟩ := open_fld Tryz.underlying35 hk wk 0 3 0 1 rfl rfl rfl ce_i
  obtain ⟨_, _, (h9 : DataW.trod enc Tryz.prog W 0 sp held _ 3 [c9] = some _), w9⟩ := open_fld Tryz.underlying35 hk wk 1 3 1 1 rfl rfl rfl ce_i
  obtain ⟨_, _, (h10 : DataW.trod enc Tryz.prog W 0 sp held _ 3 [c10] = some _), w10⟩ := open_fld Tryz.underlying35 hk wk 2 3 2 1 rfl rfl rfl ce_i
  obtain ⟨_, _, (h11 : DataW.trod enc Tryz.prog W 0 sp held _ 3 [c11] = some _), w11⟩ := open_fld Tryz.underlying35 hk wk 3 3 3 1 rfl rfl rfl ce_i
  obtain ⟨_, _, (h12 : DataW.trod enc Tryz.prog W 0 sp held _ 36 [c12] = some _), w12⟩ := open_fld Tryz.underlying38 hc wc 0 36 0 1 rfl rfl rfl ce_v
  obtain ⟨_, _, (h13 : DataW.trod enc Tryz.prog W 0 sp held _ 3 [c13] = some _), w13⟩ := open_fld Tryz.underlying38 hc wc 1 3 1 1 rfl rfl rfl ce_i
  obtain ⟨_, _, (h14 : DataW.trod enc Tryz.prog W 0 sp held _ 3 [c14] = some _), w14⟩ := open_fld Tryz.underlying38 hc wc 2 3 2 1 rfl rfl rfl ce_i
  obtain ⟨n0, rfl, v0⟩ := open_num Tryz.underlying33 h0
  obtain ⟨n1, rfl, v1⟩ := open_num Tryz.underlying3 h1
  obtain ⟨n4, rfl, v4⟩ := open_num Tryz.underlying3 h4
  obtain ⟨n5, rfl, v5⟩ := open_num Tryz.underlying3 h5
  obtain ⟨n6, rfl, v6⟩ := open_num Tryz.underlying3 h6
  obtain ⟨n8, rfl, v8⟩ := open_num Tryz.underlying3 h8
  obtain ⟨n9, rfl, v9⟩ := open_num Tryz.underlying3 h9
  obtain ⟨n10, rfl, v10⟩ := open_num Tryz.underlying3 h10
  obtain ⟨n11, rfl, v11⟩ := open_num Tryz.underlying3 h11
  obtain ⟨n13, rfl, v13⟩ := open_num Tryz.underlying3 h13
  obtain ⟨n14, rfl, v14⟩ := open_num Tryz.underlying3 h14
  obtain ⟨s2, rfl, v2⟩ := open_str Tryz.underlying9 h2 w2
  obtain ⟨s3, rfl, v3⟩ := open_str Tryz.underlying9 h3 w3
  obtain ⟨l7, r7, v7⟩ := open_bytes Tryz.underlying28 Tryz.underlying5 ce_u by_u h7 w7
  obtain ⟨a12, b12, d12, rfl⟩ := open_sl Tryz.underlying36 h12
  obtain ⟨b15, rfl⟩ := open_bl Tryz.underlying4 h15
  refine ⟨(⟨n0, n1, s2, s3, n4, n5, n6, l7, n8, n9, n10, n11⟩, b15), _, ⟨⟨⟨?_, ?_, ?_⟩, ?_⟩, c7, a12, b12, d12, n13, n14, rfl, r7⟩, rfl⟩
  · exact Nat.le_trans v2 (by decide)
  · exact Nat.le_trans v3 (by decide)
  · exact (bounds_i64 v1).2
  · exact Nat.le_trans v7 (by decide)
end

theorem params_ok : ∀ t ∈ [3, 22, 9, 9, 22, 44], Tryz.prog.readableRec t = true ∧ t < Tryz.prog.types.size := by
  have h3 : Tryz.prog.readableRec 3 = true := by kernel_rfl
  have h22 : Tryz.prog.readableRec 22 = true := by kernel_rfl
  have h44 : Tryz.prog.readableRec 44 = true := by kernel_rfl
  have h9 : Tryz.prog.readableRec 9 = true := by kernel_rfl
  have hs : ∀ t, decide (t < 60) = true → t < Tryz.prog.types.size := fun t ht => Nat.lt_of_lt_of_le (of_decide_eq_true ht) (of_decide_eq_true (by kernel_rfl))
  intro t ht
  simp only [List.mem_cons, List.not_mem_nil, or_false] at ht
  rcases ht with rfl | rfl | rfl | rfl | rfl | rfl
  · exact ⟨h3, hs _ rfl⟩
  · exact ⟨h22, hs _ rfl⟩
  · exact ⟨h9, hs _ rfl⟩
  · exact ⟨h9, hs _ rfl⟩
  · exact ⟨h22, hs _ rfl⟩
  · exact ⟨h44, hs _ rfl⟩
end Go.Proofs.YtbffngeameenoaaGreat
end

section
set_option maxRecDepth 100000
set_option linter.unusedVariables false
set_option linter.unusedSimpArgs false
namespace Go.Proofs.YtbffngeameenoaaGreat
open Go Go.Au Go.ChangeShapes Go.WideShapes Go.RowKit

theorem forks_lifted (os : Os) (started : os.Started) (H : Type) (enc : TypeId × Value → H) :
    ReturnsInHanded {} Tryz.checked os 5 .any (Rows.modelForksSpec.pre6 enc Tryz.prog Tryz.f5 Rows.modelForksRow.domain false) (Rows.modelForksSpec.post enc Tryz.prog Tryz.f5 false true false false) := by
  refine returnsInHanded_of_change_sized (C := Tryz.checked) own_knob started (by kernel_rfl) Tryz.func5
    (ChangeSpec.witness6 (enc := enc) (C := Tryz.checked) false ⟨#[], #[.int .i64 0, .slice none 0 0, .slice none 0 0], []⟩ 8 (by kernel_rfl) (by kernel_rfl) (by kernel_rfl) (by kernel_rfl)) ?_
  intro W base args ds gs before hval0 hW hcnd hsz _
  have hW' := hW
  obtain ⟨p, q, hA0, hV, rfl, hfz, hnd⟩ := hW
  have hA : DataW.TrodAll enc Tryz.prog W 0 (fun _ => true) true Tryz.f5.params.toList args.toList ds p := hA0
  rw [Tryz.params5] at hA
  obtain ⟨v0, vs0, d0, ds0, p0, q0, hargs, rfl, rfl, ⟨_, h0⟩, r0⟩ := trodAll_cons hA
  obtain ⟨v1, vs1, d1, ds1, p1, q1, rfl, rfl, rfl, ⟨_, h1⟩, r1⟩ := trodAll_cons r0
  obtain ⟨v2, vs2, d2, ds2, p2, q2, rfl, rfl, rfl, ⟨_, h2⟩, r2⟩ := trodAll_cons r1
  obtain ⟨rfl, rfl, rfl⟩ := trodAll_nil r2
  obtain ⟨rfl, rfl⟩ := trodVars_none hV
  obtain rfl : args = #[v0, v1, v2] := by cases args; simp_all
  have hw : ∀ (j : Nat) t d, ([3, 22, 22] : List TypeId)[j]? = some t → [d0, d1, d2][j]? = some d → Wt Tryz.prog t d := fun j t d ht hd => wt_of hsz (j := j) (by
    show (Tryz.f5.params.toList ++ _)[j]? = _
    rw [Tryz.params5]; exact ht) (by simpa using hd)
  have hv : ∀ (j : Nat) t v, ([3, 22, 22] : List TypeId)[j]? = some t → [v0, v1, v2][j]? = some v → Value.okWide Tryz.prog W .any base t v := fun j t v ht hv => hval0 j t v (by
    rw [Tryz.params5]; simpa using ht) (by simpa using hv)
  obtain ⟨n0, rfl, k0⟩ := arg_int Tryz.underlying3 (hv 0 _ _ rfl rfl) h0
  obtain ⟨l1, k1, _⟩ := arg_slR (ρ := stepR) Tryz.underlying22 (hv 1 _ _ rfl rfl) ce_p (by omega) open_step h1 (hw 1 _ _ rfl rfl)
  obtain ⟨l2, k2, _⟩ := arg_slR (ρ := stepR) Tryz.underlying22 (hv 2 _ _ rfl rfl) ce_p (by omega) open_step h2 (hw 2 _ _ rfl rfl)
  exact calls_of_sp (tb := 4) laid_out (by rw [Tryz.params5]; exact fun t ht => params_ok t (by revert t; decide)) (by kernel_rfl) Tryz.underlying4 rfl rfl hW' rfl
    (forks_sp n0 (bounds_i64 k0).1 (bounds_i64 k0).2 v1 v2 l1 l2 (initF W) k1 k2)

theorem forks_holds : Rows.ModelForksSaid :=
  OpenClaim.holds_of_wide 5 Tryz.f5 rfl rfl rfl rfl rfl rfl rfl ⟨rfl, rfl, rfl, rfl, rfl⟩ rfl rfl rfl rfl rfl (by kernel_rfl) Tryz.func5 (by kernel_rfl)
    (of_decide_eq_true (by kernel_rfl)) (by unfold Func.isWrapper; first | (rw [if_pos (by decide +kernel)]; kernel_rfl) | (rw [if_neg (by decide +kernel)]; exact ⟨rfl, rfl⟩))
    (fun os started H enc _ => forks_lifted os started H enc)
end Go.Proofs.YtbffngeameenoaaGreat
end
