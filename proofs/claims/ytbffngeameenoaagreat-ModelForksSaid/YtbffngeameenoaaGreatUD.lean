/- Part 4 of the proof.
  Parts: The same maps, models.; The same models.; New, Fall, Sessions, Fork, Shot; and all of these at nil.; The reference: sessions, snapshots, sizes, what is found.; The reference: how many bytes, where a generation stands, how many there are.; The reference: how many files and generations; what is gone is taken out.; The reference: names; writing.; The reference: committing.; The reference: what only tells.; The reference: snapshots.; The reference: does a live generation stay?; The reference: expire.
-/
import Derived.Test.YtbffngeameenoaaGreatUC

section
set_option maxRecDepth 100000
set_option linter.unusedVariables false
set_option linter.unusedSimpArgs false
namespace Go.Proofs.YtbffngeameenoaaGreat
open Go Go.Au
attribute [local irreducible] T TO

/-- lists by keys that say the same -/
def eqA {κ β : Type} [DecidableEq κ] [DecidableEq β] (m m' : List (κ × β)) : Bool := decide (m.length = m'.length) && m.all fun p => decide (aget m' p.1 = some p.2)
theorem eqA_false {κ β : Type} [DecidableEq κ] [DecidableEq β] {m m' : List (κ × β)} {p : κ × β} (h : p ∈ m) (hn : aget m' p.1 ≠ some p.2) : eqA m m' = false := by
  unfold eqA
  have : (m.all fun p => decide (aget m' p.1 = some p.2)) = false := by rw [List.all_eq_false]; exact ⟨p, h, by simpa using hn⟩
  rw [this, Bool.and_false]
theorem equalS_sp (f1 f2 : Nat) (m1 m2 : List (ByteArray × Int)) (F : Frz) (h1 : RoM Value.string intR F f1 m1) (h2 : RoM Value.string intR F f2 m2) :
    Sp Tryz.prog 48 [.map (some f1), .map (some f2)] [] F (fun v B F' => v = .bool (eqA m1 m2) ∧ B = []) := by
  classical
  obtain ⟨es, clock, φ, hb, hm⟩ := h1.open
  refine sp_of Tryz.func48 rfl (by kernel_rfl) rfl fun R => ?_
  repeat (first | refine t_seq ?_ | refine t_region ?_ | refine to_nil ?_ | refine to_q rfl rfl rfl ?_)
  refine to_lenRM h1 rfl rfl rfl ?_
  repeat (refine to_q rfl rfl rfl ?_)
  refine to_lenRM h2 rfl rfl rfl ?_
  repeat (first | refine to_nil ?_ | refine to_q rfl rfl rfl ?_)
  refine t_condT rfl (fun h => ?_) (fun h => ?_)
  · simp only [bne_iff_ne, ne_eq] at h
    have e : eqA m1 m2 = false := by unfold eqA; rw [decide_eq_false (by omega), Bool.false_and]
    repeat (first | refine t_seq ?_ | refine t_region ?_ | refine to_nil ?_ | refine to_q rfl rfl rfl ?_)
    exact t_ret [] Tryz.func48 (.tmp rfl .nil) (by rw [e]; exact ⟨rfl, rfl⟩)
  have hle : m1.length = m2.length := by simp only [bne_eq_false_iff_eq] at h; omega
  repeat (first | refine t_seq ?_ | refine t_region ?_ | refine t_skip ?_ | refine to_q rfl rfl rfl ?_)
  refine to_range (mapAt_ro (F0 := F) hb) rfl rfl fun r => ?_
  repeat (first | refine t_block ?_ | refine to_nil ?_)
  refine t_loopJ (R := R) (fun d : List MapEntry => es.size - d.length) (fun d => [iterP r f1 clock d])
    (fun d => [(0, .map (some f1)), (1, .map (some f2)), (15, ptr r)]) (fun d _ => d.Nodup ∧ (∀ z ∈ d, z ∈ es.toList) ∧ ∀ z ∈ d, aget m2 (φ z).1 = some (φ z).2) [] (by repeat (first | exact trivial | refine ⟨rfl, ?_⟩)) ⟨.nil, by simp, by simp⟩ ?_
  intro d F1 le1 hg ih
  obtain ⟨hd1, hd2, hd3⟩ := hg
  repeat (first | refine t_seq ?_ | refine t_region ?_)
  refine to_next_ (mapAt_ro (F0 := F) hb) hm.bl hm.nb hd2 rfl rfl (fun hall => ?_) (fun z hz hnz => ?_)
  · repeat (first | refine t_seq ?_ | refine t_region ?_ | refine to_nil ?_ | refine to_q rfl rfl rfl ?_ | refine t_cond (t := false) rfl (fun h => nomatch h) (fun _ => ?_) | refine t_exit rfl ?_)
    have e : eqA m1 m2 = true := by
      unfold eqA
      rw [decide_eq_true hle, Bool.true_and, List.all_eq_true]
      intro q hq
      obtain ⟨z, hz, rfl⟩ := List.mem_map.1 (hm.perm.mem_iff.2 hq)
      simpa using hd3 z (hall z hz)
    exact t_ret [] Tryz.func48 (.tmp rfl .nil) (by rw [e]; exact ⟨rfl, rfl⟩)
  · repeat (first | refine t_seq ?_ | refine t_block ?_ | refine t_region ?_ | refine to_nil ?_ | refine t_skip ?_ | refine to_q rfl rfl rfl ?_ | refine t_cond (t := true) rfl (fun _ => ?_) (fun h => nomatch h))
    refine to_entry (mapAt_ro (F0 := F) hb) hm.nb hz rfl rfl ?_
    obtain ⟨hk, hv⟩ := hm.rel z hz
    have hmem : φ z ∈ m1 := hm.perm.mem_iff.1 (List.mem_map_of_mem hz)
    generalize hzz : φ z = q at hk hv hmem
    obtain ⟨kk, vv⟩ := q
    replace hv : z.val = .int .i64 vv := hv
    rw [hk, hv]
    repeat (first | refine t_seq ?_ | refine t_region ?_ | refine to_nil ?_ | refine to_q rfl rfl rfl ?_)
    refine to_lkRg (F0 := F) (key := kk) h2 rfl rfl rfl (fun u uv hu hru => ?_) (fun hu => ?_)
    · cases hru
      repeat (first | refine t_seq ?_ | refine t_region ?_ | refine to_nil ?_ | refine to_q rfl rfl rfl ?_)
      refine t_condT rfl (fun hne => ?_) (fun hne => ?_)
      · simp only [bne_iff_ne, ne_eq] at hne
        have e : eqA m1 m2 = false := eqA_false hmem (by dsimp only; rw [hu]; intro e; exact hne (Option.some.inj e).symm)
        repeat (first | refine t_seq ?_ | refine t_region ?_ | refine to_nil ?_ | refine to_q rfl rfl rfl ?_)
        exact t_ret [] Tryz.func48 (.tmp rfl .nil) (by rw [e]; exact ⟨rfl, rfl⟩)
      · simp only [bne_eq_false_iff_eq] at hne
        have hlen : (d ++ [z]).length ≤ es.size := nodup_len (snoc_nd hd1 hnz) (snoc_sub hd2 hz)
        rw [List.length_append, List.length_singleton] at hlen
        repeat (first | refine t_skip ?_ | refine t_inBlock ?_)
        refine t_re (A := [iterP r f1 clock (d ++ [z])]) (R := R)
          (ih (d ++ [z]) F1 ⟨.refl _⟩ (by rw [List.length_append, List.length_singleton]; omega) ⟨snoc_nd hd1 hnz, snoc_sub hd2 hz, fun y hy => ?_⟩) (by repeat (first | exact trivial | refine ⟨rfl, ?_⟩))
        rcases List.mem_append.1 hy with hy | hy
        · exact hd3 y hy
        · cases List.mem_singleton.1 hy; rw [hzz]; dsimp only; rw [hu, hne]
    · have e : eqA m1 m2 = false := eqA_false hmem (by dsimp only; rw [hu]; simp)
      repeat (first | refine t_seq ?_ | refine t_region ?_ | refine to_nil ?_ | refine to_no rfl ?_ | refine to_q rfl rfl rfl ?_ | refine t_cond (t := true) rfl (fun _ => ?_) (fun h => nomatch h))
      exact t_ret [] Tryz.func48 (.tmp rfl .nil) (by rw [e]; exact ⟨rfl, rfl⟩)
theorem sameS_sp (f1 f2 : Nat) (m1 m2 : List (ByteArray × Int)) (F : Frz) (h1 : RoM Value.string intR F f1 m1) (h2 : RoM Value.string intR F f2 m2) :
    Sp Tryz.prog 47 [.map (some f1), .map (some f2)] [] F (fun v B F' => v = .bool (eqA m1 m2) ∧ B = []) := by
  refine sp_of Tryz.func47 rfl (by kernel_rfl) rfl fun R => ?_
  repeat (first | refine t_seq ?_ | refine t_region ?_ | refine to_nil ?_ | refine to_q rfl rfl rfl ?_)
  refine to_call rfl rfl (equalS_sp f1 f2 m1 m2 _ h1 h2) fun v B F1 le h => ?_
  obtain ⟨rfl, rfl⟩ := h
  repeat (first | refine to_nil ?_ | refine to_q rfl rfl rfl ?_)
  exact t_ret [] Tryz.func47 (.tmp rfl .nil) ⟨rfl, rfl⟩
end Go.Proofs.YtbffngeameenoaaGreat
end

section
set_option maxRecDepth 100000
set_option linter.unusedVariables false
set_option linter.unusedSimpArgs false
namespace Go.Proofs.YtbffngeameenoaaGreat
open Go Go.Au
attribute [local irreducible] T TO

def eqE {κ β : Type} [DecidableEq κ] (q : β → β → Bool) (m' : List (κ × β)) (p : κ × β) : Bool := match aget m' p.1 with
  | some v => q p.2 v
  | none => false
def eqM {κ β : Type} [DecidableEq κ] (q : β → β → Bool) (m m' : List (κ × β)) : Bool := decide (m.length = m'.length) && m.all (eqE q m')
theorem eqM_false {κ β : Type} [DecidableEq κ] {q : β → β → Bool} {m m' : List (κ × β)} {p : κ × β} (h : p ∈ m) (hn : eqE q m' p = false) : eqM q m m' = false := by
  unfold eqM
  have : m.all (eqE q m') = false := by rw [List.all_eq_false]; exact ⟨p, h, by simpa using hn⟩
  rw [this, Bool.and_false]
theorem eqFuncF_sp (f1 f2 : Nat) (m1 m2 : List (ByteArray × List Ver)) (F : Frz) (hl : ∀ q ∈ m1, q.2.length ≤ 1048576) :
    Sp Tryz.prog 43 [.map (some f1), .map (some f2), .func (.func 44) #[] #[]] [mapP Value.string vsR f1 m1, mapP Value.string vsR f2 m2] F
      (fun v B F' => v = .bool (eqM (fun a c : List Ver => decide (a = c)) m1 m2) ∧ B = [mapP Value.string vsR f1 m1, mapP Value.string vsR f2 m2]) := by
  classical
  refine sp_of Tryz.func43 rfl (by kernel_rfl) rfl fun R => ?_
  repeat (first | refine t_seq ?_ | refine t_region ?_ | refine to_nil ?_ | refine to_q rfl rfl rfl ?_ | refine to_lenM rfl rfl rfl ?_)
  refine t_condT rfl (fun h => ?_) (fun h => ?_)
  · simp only [bne_iff_ne, ne_eq] at h
    have e : eqM (fun a c : List Ver => decide (a = c)) m1 m2 = false := by unfold eqM; rw [decide_eq_false (by omega), Bool.false_and]
    repeat (first | refine t_seq ?_ | refine t_region ?_ | refine to_nil ?_ | refine to_q rfl rfl rfl ?_)
    exact t_ret [mapP Value.string vsR f1 m1, mapP Value.string vsR f2 m2] Tryz.func43 (.tmp rfl .nil) (by rw [e]; exact ⟨rfl, rfl⟩)
  have hle : m1.length = m2.length := by simp only [bne_eq_false_iff_eq] at h; omega
  repeat (first | refine t_seq ?_ | refine t_region ?_ | refine t_skip ?_ | refine to_q rfl rfl rfl ?_)
  refine to_openM f1 fun es clock φ hm => ?_
  refine to_range (mapAt_own (b := f1) (es := es) (clock := clock)) rfl rfl fun r => ?_
  repeat (first | refine t_block ?_ | refine to_nil ?_)
  refine t_loopJ (R := R) (fun d : List MapEntry => es.size - d.length) (fun d => [iterP r f1 clock d, at1 f1 (.map es clock), mapP Value.string vsR f2 m2])
    (fun d => [(0, .map (some f1)), (1, .map (some f2)), (2, .func (.func 44) #[] #[]), (17, ptr r)]) (fun d _ => d.Nodup ∧ (∀ z ∈ d, z ∈ es.toList) ∧ ∀ z ∈ d, eqE (fun a c : List Ver => decide (a = c)) m2 (φ z) = true) [] (by repeat (first | exact trivial | refine ⟨rfl, ?_⟩)) ⟨.nil, by simp, by simp⟩ ?_
  intro d F1 le1 hg ih
  obtain ⟨hd1, hd2, hd3⟩ := hg
  repeat (first | refine t_seq ?_ | refine t_region ?_)
  refine to_next_ (mapAt_own (b := f1) (es := es) (clock := clock)) hm.bl hm.nb hd2 rfl rfl (fun hall => ?_) (fun z hz hnz => ?_)
  · repeat (first | refine t_seq ?_ | refine t_region ?_ | refine to_nil ?_ | refine to_q rfl rfl rfl ?_ | refine t_cond (t := false) rfl (fun h => nomatch h) (fun _ => ?_) | refine t_exit rfl ?_)
    have e : eqM (fun a c : List Ver => decide (a = c)) m1 m2 = true := by
      unfold eqM
      rw [decide_eq_true hle, Bool.true_and, List.all_eq_true]
      intro q hq
      obtain ⟨z, hz, rfl⟩ := List.mem_map.1 (hm.perm.mem_iff.2 hq)
      exact hd3 z (hall z hz)
    refine t_shutM f1 (hm.ok.mono le1.h) ?_
    exact t_ret [mapP Value.string vsR f1 m1, mapP Value.string vsR f2 m2] Tryz.func43 (.tmp rfl .nil) (by rw [e]; exact ⟨rfl, rfl⟩)
  · repeat (first | refine t_seq ?_ | refine t_block ?_ | refine t_region ?_ | refine to_nil ?_ | refine t_skip ?_ | refine to_q rfl rfl rfl ?_ | refine t_cond (t := true) rfl (fun _ => ?_) (fun h => nomatch h))
    refine to_entry (mapAt_own (b := f1) (es := es) (clock := clock)) hm.nb hz rfl rfl ?_
    obtain ⟨hk, hv⟩ := hm.rel z hz
    have hmem : φ z ∈ m1 := hm.perm.mem_iff.1 (List.mem_map_of_mem hz)
    generalize hzz : φ z = q at hk hv hmem
    obtain ⟨kk, vv⟩ := q
    rw [hk]
    dsimp only at hv
    generalize z.val = zv at hv
    repeat (first | refine t_seq ?_ | refine t_region ?_ | refine to_nil ?_ | refine to_q rfl rfl rfl ?_)
    refine to_lkg (key := kk) rfl rfl rfl (fun u uv hu hru => ?_) (fun hu => ?_)
    · repeat (first | refine t_seq ?_ | refine t_region ?_ | refine to_nil ?_ | refine to_q rfl rfl rfl ?_)
      refine to_callv rfl rfl rfl (cv_of_sp0 (sameV_sp _ _ vv u F1 (vsR.mono le1.h hv) hru (hl _ hmem))) fun v B F5 le5 h5 => ?_
      obtain ⟨rfl, rfl⟩ := h5
      repeat (first | refine to_nil ?_ | refine to_q rfl rfl rfl ?_)
      refine t_condT rfl (fun hne => ?_) (fun hne => ?_)
      · simp only [Bool.not_eq_true'] at hne
        have e : eqM (fun a c : List Ver => decide (a = c)) m1 m2 = false := eqM_false hmem (by unfold eqE; dsimp only; rw [hu]; exact hne)
        repeat (first | refine t_seq ?_ | refine t_region ?_ | refine to_nil ?_ | refine to_q rfl rfl rfl ?_)
        refine t_shutM f1 (hm.ok.mono (le1.h.trans le5.h)) ?_
        exact t_ret [mapP Value.string vsR f1 m1, mapP Value.string vsR f2 m2] Tryz.func43 (.tmp rfl .nil) (by rw [e]; exact ⟨rfl, rfl⟩)
      · simp only [Bool.not_eq_false'] at hne
        have hlen : (d ++ [z]).length ≤ es.size := nodup_len (snoc_nd hd1 hnz) (snoc_sub hd2 hz)
        rw [List.length_append, List.length_singleton] at hlen
        repeat (first | refine t_skip ?_ | refine t_inBlock ?_)
        refine t_re (A := [iterP r f1 clock (d ++ [z]), at1 f1 (.map es clock), mapP Value.string vsR f2 m2]) (R := R)
          (ih (d ++ [z]) F5 le5 (by rw [List.length_append, List.length_singleton]; omega) ⟨snoc_nd hd1 hnz, snoc_sub hd2 hz, fun y hy => ?_⟩) (by repeat (first | exact trivial | refine ⟨rfl, ?_⟩))
        rcases List.mem_append.1 hy with hy | hy
        · exact hd3 y hy
        · cases List.mem_singleton.1 hy; rw [hzz]; unfold eqE; dsimp only; rw [hu]; exact hne
    · have e : eqM (fun a c : List Ver => decide (a = c)) m1 m2 = false := eqM_false hmem (by unfold eqE; dsimp only; rw [hu])
      repeat (first | refine t_seq ?_ | refine t_region ?_ | refine to_nil ?_ | refine to_no rfl ?_ | refine to_q rfl rfl rfl ?_ | refine t_cond (t := true) rfl (fun _ => ?_) (fun h => nomatch h))
      refine t_shutM f1 (hm.ok.mono le1.h) ?_
      exact t_ret [mapP Value.string vsR f1 m1, mapP Value.string vsR f2 m2] Tryz.func43 (.tmp rfl .nil) (by rw [e]; exact ⟨rfl, rfl⟩)
theorem eqFuncS_sp (f1 f2 : Nat) (m1 m2 : List (ByteArray × List (ByteArray × Int))) (F : Frz) :
    Sp Tryz.prog 46 [.map (some f1), .map (some f2), .func (.func 47) #[] #[]] [mapP Value.string shotR f1 m1, mapP Value.string shotR f2 m2] F
      (fun v B F' => v = .bool (eqM (fun a c : List (ByteArray × Int) => eqA a c) m1 m2) ∧ B = [mapP Value.string shotR f1 m1, mapP Value.string shotR f2 m2]) := by
  classical
  refine sp_of Tryz.func46 rfl (by kernel_rfl) rfl fun R => ?_
  repeat (first | refine t_seq ?_ | refine t_region ?_ | refine to_nil ?_ | refine to_q rfl rfl rfl ?_ | refine to_lenM rfl rfl rfl ?_)
  refine t_condT rfl (fun h => ?_) (fun h => ?_)
  · simp only [bne_iff_ne, ne_eq] at h
    have e : eqM (fun a c : List (ByteArray × Int) => eqA a c) m1 m2 = false := by unfold eqM; rw [decide_eq_false (by omega), Bool.false_and]
    repeat (first | refine t_seq ?_ | refine t_region ?_ | refine to_nil ?_ | refine to_q rfl rfl rfl ?_)
    exact t_ret [mapP Value.string shotR f1 m1, mapP Value.string shotR f2 m2] Tryz.func46 (.tmp rfl .nil) (by rw [e]; exact ⟨rfl, rfl⟩)
  have hle : m1.length = m2.length := by simp only [bne_eq_false_iff_eq] at h; omega
  repeat (first | refine t_seq ?_ | refine t_region ?_ | refine t_skip ?_ | refine to_q rfl rfl rfl ?_)
  refine to_openM f1 fun es clock φ hm => ?_
  refine to_range (mapAt_own (b := f1) (es := es) (clock := clock)) rfl rfl fun r => ?_
  repeat (first | refine t_block ?_ | refine to_nil ?_)
  refine t_loopJ (R := R) (fun d : List MapEntry => es.size - d.length) (fun d => [iterP r f1 clock d, at1 f1 (.map es clock), mapP Value.string shotR f2 m2])
    (fun d => [(0, .map (some f1)), (1, .map (some f2)), (2, .func (.func 47) #[] #[]), (17, ptr r)]) (fun d _ => d.Nodup ∧ (∀ z ∈ d, z ∈ es.toList) ∧ ∀ z ∈ d, eqE (fun a c : List (ByteArray × Int) => eqA a c) m2 (φ z) = true) [] (by repeat (first | exact trivial | refine ⟨rfl, ?_⟩)) ⟨.nil, by simp, by simp⟩ ?_
  intro d F1 le1 hg ih
  obtain ⟨hd1, hd2, hd3⟩ := hg
  repeat (first | refine t_seq ?_ | refine t_region ?_)
  refine to_next_ (mapAt_own (b := f1) (es := es) (clock := clock)) hm.bl hm.nb hd2 rfl rfl (fun hall => ?_) (fun z hz hnz => ?_)
  · repeat (first | refine t_seq ?_ | refine t_region ?_ | refine to_nil ?_ | refine to_q rfl rfl rfl ?_ | refine t_cond (t := false) rfl (fun h => nomatch h) (fun _ => ?_) | refine t_exit rfl ?_)
    have e : eqM (fun a c : List (ByteArray × Int) => eqA a c) m1 m2 = true := by
      unfold eqM
      rw [decide_eq_true hle, Bool.true_and, List.all_eq_true]
      intro q hq
      obtain ⟨z, hz, rfl⟩ := List.mem_map.1 (hm.perm.mem_iff.2 hq)
      exact hd3 z (hall z hz)
    refine t_shutM f1 (hm.ok.mono le1.h) ?_
    exact t_ret [mapP Value.string shotR f1 m1, mapP Value.string shotR f2 m2] Tryz.func46 (.tmp rfl .nil) (by rw [e]; exact ⟨rfl, rfl⟩)
  · repeat (first | refine t_seq ?_ | refine t_block ?_ | refine t_region ?_ | refine to_nil ?_ | refine t_skip ?_ | refine to_q rfl rfl rfl ?_ | refine t_cond (t := true) rfl (fun _ => ?_) (fun h => nomatch h))
    refine to_entry (mapAt_own (b := f1) (es := es) (clock := clock)) hm.nb hz rfl rfl ?_
    obtain ⟨hk, hv⟩ := hm.rel z hz
    have hmem : φ z ∈ m1 := hm.perm.mem_iff.1 (List.mem_map_of_mem hz)
    generalize hzz : φ z = q at hk hv hmem
    obtain ⟨kk, vv⟩ := q
    rw [hk]
    dsimp only at hv
    generalize z.val = zv at hv
    repeat (first | refine t_seq ?_ | refine t_region ?_ | refine to_nil ?_ | refine to_q rfl rfl rfl ?_)
    refine to_lkg (key := kk) rfl rfl rfl (fun u uv hu hru => ?_) (fun hu => ?_)
    · repeat (first | refine t_seq ?_ | refine t_region ?_ | refine to_nil ?_ | refine to_q rfl rfl rfl ?_)
      obtain ⟨sb1, rfl, hro1⟩ := hv
      obtain ⟨sb2, rfl, hro2⟩ := hru
      refine to_callv rfl rfl rfl (cv_of_sp0 (sameS_sp sb1 sb2 vv u F1 (hro1.mono le1.h) hro2)) fun v B F5 le5 h5 => ?_
      obtain ⟨rfl, rfl⟩ := h5
      repeat (first | refine to_nil ?_ | refine to_q rfl rfl rfl ?_)
      refine t_condT rfl (fun hne => ?_) (fun hne => ?_)
      · simp only [Bool.not_eq_true'] at hne
        have e : eqM (fun a c : List (ByteArray × Int) => eqA a c) m1 m2 = false := eqM_false hmem (by unfold eqE; dsimp only; rw [hu]; exact hne)
        repeat (first | refine t_seq ?_ | refine t_region ?_ | refine to_nil ?_ | refine to_q rfl rfl rfl ?_)
        refine t_shutM f1 (hm.ok.mono (le1.h.trans le5.h)) ?_
        exact t_ret [mapP Value.string shotR f1 m1, mapP Value.string shotR f2 m2] Tryz.func46 (.tmp rfl .nil) (by rw [e]; exact ⟨rfl, rfl⟩)
      · simp only [Bool.not_eq_false'] at hne
        have hlen : (d ++ [z]).length ≤ es.size := nodup_len (snoc_nd hd1 hnz) (snoc_sub hd2 hz)
        rw [List.length_append, List.length_singleton] at hlen
        repeat (first | refine t_skip ?_ | refine t_inBlock ?_)
        refine t_re (A := [iterP r f1 clock (d ++ [z]), at1 f1 (.map es clock), mapP Value.string shotR f2 m2]) (R := R)
          (ih (d ++ [z]) F5 le5 (by rw [List.length_append, List.length_singleton]; omega) ⟨snoc_nd hd1 hnz, snoc_sub hd2 hz, fun y hy => ?_⟩) (by repeat (first | exact trivial | refine ⟨rfl, ?_⟩))
        rcases List.mem_append.1 hy with hy | hy
        · exact hd3 y hy
        · cases List.mem_singleton.1 hy; rw [hzz]; unfold eqE; dsimp only; rw [hu]; exact hne
    · have e : eqM (fun a c : List (ByteArray × Int) => eqA a c) m1 m2 = false := eqM_false hmem (by unfold eqE; dsimp only; rw [hu])
      repeat (first | refine t_seq ?_ | refine t_region ?_ | refine to_nil ?_ | refine to_no rfl ?_ | refine to_q rfl rfl rfl ?_ | refine t_cond (t := true) rfl (fun _ => ?_) (fun h => nomatch h))
      refine t_shutM f1 (hm.ok.mono le1.h) ?_
      exact t_ret [mapP Value.string shotR f1 m1, mapP Value.string shotR f2 m2] Tryz.func46 (.tmp rfl .nil) (by rw [e]; exact ⟨rfl, rfl⟩)
def sameX (x y : XM) : Bool := decide (x.now = y.now) && (eqM (fun a c : List Ver => decide (a = c)) x.files y.files && eqM (fun a c : List (ByteArray × Int) => eqA a c) x.shots y.shots)
theorem same_nil (p : Value) (F : Frz) (hp : p = .pointer none ∨ ∃ b, p = ptr b) : Sp Tryz.prog 13 [p, .pointer none] [] F (fun v B F' => v = .bool false ∧ B = []) := by
  refine sp_of Tryz.func13 rfl (by kernel_rfl) rfl fun R => ?_
  refine t_seq ?_
  refine t_region ?_
  rcases hp with rfl | ⟨b, rfl⟩
  all_goals
    repeat (first | refine t_seq ?_ | refine to_nil ?_ | refine to_q rfl rfl rfl ?_)
    refine t_drawn1 (by kernel_rfl) (by kernel_rfl) ?_
    repeat (first | refine to_nil ?_ | refine to_no rfl ?_ | refine to_q rfl rfl rfl ?_ | refine to_nnilP rfl rfl rfl ?_)
    exact t_ret [] Tryz.func13 (.tmp rfl .nil) ⟨rfl, rfl⟩
theorem same_sp (b f s o b' f' s' o' : Nat) (x y : XM) (F : Frz) (hl : XLen x) :
    Sp Tryz.prog 13 [ptr b, ptr b'] (XP b f s o x ++ XP b' f' s' o' y) F (fun v B F' => v = .bool (sameX x y) ∧ B = XP b f s o x ++ XP b' f' s' o' y) := by
  refine sp_of Tryz.func13 rfl (by kernel_rfl) rfl fun R => ?_
  repeat (first | refine t_seq ?_ | refine t_region ?_ | refine to_nil ?_ | refine to_q rfl rfl rfl ?_)
  refine t_drawnT [b, b'] (by kernel_rfl) (by kernel_rfl) ?_
  repeat (first | refine to_q rfl rfl rfl ?_ | refine to_fa rfl rfl ?_ | refine to_ldK rfl rfl rfl ?_ | refine to_nnilP rfl rfl rfl ?_)
  refine to_bool 7 rfl (fun _ => ?_) (fun h => nomatch h)
  skip
  refine to_bool 11 rfl (fun _ => ?_) (fun h => nomatch h)
  skip
  refine to_gd rfl rfl (fun h1 => ?_) (fun h1 => ?_)
  · simp only [beq_iff_eq] at h1
    repeat (first | refine to_q rfl rfl rfl ?_ | refine to_fa rfl rfl ?_ | refine to_ldK rfl rfl rfl ?_)
    refine to_callK rfl rfl (eqFuncF_sp f f' x.files y.files _ hl) fun v B F2 le_F2 h_F2 => ?_
    obtain ⟨rfl, rfl⟩ := h_F2
    refine ⟨inferInstance, ?_⟩
    repeat (refine to_q rfl rfl rfl ?_)
    refine to_gd rfl rfl (fun h2 => ?_) (fun h2 => ?_)
    · repeat (first | refine to_q rfl rfl rfl ?_ | refine to_fa rfl rfl ?_ | refine to_ldK rfl rfl rfl ?_)
      refine to_callK rfl rfl (eqFuncS_sp s s' x.shots y.shots _) fun v B F3 le_F3 h_F3 => ?_
      obtain ⟨rfl, rfl⟩ := h_F3
      refine ⟨inferInstance, ?_⟩
      have e : sameX x y = eqM (fun a c : List (ByteArray × Int) => eqA a c) x.shots y.shots := by unfold sameX; rw [decide_eq_true h1, h2, Bool.true_and, Bool.true_and]
      repeat (first | refine to_nil ?_ | refine t_out ?_ | refine to_q rfl rfl rfl ?_)
      exact t_ret (XP b f s o x ++ XP b' f' s' o' y) Tryz.func13 (.tmp rfl .nil) (by rw [e]; exact ⟨rfl, rfl⟩)
    · have e : sameX x y = false := by unfold sameX; rw [h2, Bool.false_and, Bool.and_false]
      repeat (first | refine to_nil ?_ | refine t_out ?_ | refine to_no rfl ?_ | refine to_q rfl rfl rfl ?_)
      exact t_ret (XP b f s o x ++ XP b' f' s' o' y) Tryz.func13 (.tmp rfl .nil) (by rw [e]; exact ⟨rfl, rfl⟩)
  · simp only [beq_eq_false_iff_ne] at h1
    have e : sameX x y = false := by unfold sameX; rw [decide_eq_false h1, Bool.false_and]
    repeat (first | refine to_nil ?_ | refine t_out ?_ | refine to_no rfl ?_ | refine to_q rfl rfl rfl ?_)
    exact t_ret (XP b f s o x ++ XP b' f' s' o' y) Tryz.func13 (.tmp rfl .nil) (by rw [e]; exact ⟨rfl, rfl⟩)
end Go.Proofs.YtbffngeameenoaaGreat
end

section
set_option maxRecDepth 100000
set_option linter.unusedVariables false
set_option linter.unusedSimpArgs false
namespace Go.Proofs.YtbffngeameenoaaGreat
open Go Go.Au
attribute [local irreducible] T TO

theorem new_sp (q : Int) (F : Frz) : Sp Tryz.prog 23 [.int .i64 q] [] F (fun v B F' => ∃ b f s o, v = ptr b ∧ B = XP b f s o ⟨[], [], [], 0, 0, q⟩) := by
  refine sp_of Tryz.func23 rfl (by kernel_rfl) rfl fun R => ?_
  repeat (first | refine t_seq ?_ | refine t_region ?_ | refine to_nil ?_ | refine to_q rfl rfl rfl ?_)
  refine to_mkM Value.string vsR rfl fun f => ?_
  refine to_mkM Value.string shotR rfl fun s => ?_
  refine to_mkM (Value.int .i64) sesR rfl fun o => ?_
  repeat (first | refine to_nil ?_ | refine to_q rfl rfl rfl ?_ | refine to_boxA rfl rfl fun _ => ?_ | refine to_bs rfl rfl rfl rfl ?_)
  rename_i b
  exact t_ret (XP b f s o ⟨[], [], [], 0, 0, q⟩) Tryz.func23 (.tmp rfl .nil) ⟨b, f, s, o, rfl, rfl⟩
theorem fall_sp (b f s o : Nat) (x : XM) (F : Frz) : Sp Tryz.prog 9 [ptr b] (XP b f s o x) F (fun v B F' => B = XP b f s o { x with sess := [] }) := by
  refine sp_of Tryz.func9 rfl (by kernel_rfl) rfl fun R => ?_
  repeat (first | refine t_seq ?_ | refine t_region ?_ | refine to_nil ?_ | refine to_q rfl rfl rfl ?_ | refine to_fa rfl rfl ?_ | refine to_ld rfl rfl rfl ?_ | refine to_nnilP rfl rfl rfl ?_
                | refine t_cond (t := true) rfl (fun _ => ?_) (fun h => nomatch h))
  skip
  refine to_clearM rfl rfl rfl ?_
  repeat (refine to_nil ?_)
  exact t_end (XP b f s o { x with sess := [] }) Tryz.func9 .nil rfl
theorem fall_nil (F : Frz) : Sp Tryz.prog 9 [.pointer none] [] F (fun v B F' => B = []) := by
  refine sp_of Tryz.func9 rfl (by kernel_rfl) rfl fun R => ?_
  repeat (first | refine t_seq ?_ | refine t_region ?_ | refine to_nil ?_ | refine t_skip ?_ | refine to_q rfl rfl rfl ?_ | refine to_nnilP rfl rfl rfl ?_ | refine t_cond (t := false) rfl (fun h => nomatch h) (fun _ => ?_))
  skip
  exact t_end [] Tryz.func9 .nil rfl
theorem sessions_sp (b f s o : Nat) (x : XM) (F : Frz) (hl : x.sess.length ≤ 1048576) :
    Sp Tryz.prog 11 [ptr b] (XP b f s o x) F (fun v B F' => ∃ ks, ks.Perm (x.sess.map (·.1)) ∧ (slR intR 1).r F' (sortI ks) v ∧ B = XP b f s o x) := by
  refine sp_of Tryz.func11 rfl (by kernel_rfl) rfl fun R => ?_
  repeat (first | refine t_seq ?_ | refine t_region ?_ | refine to_nil ?_ | refine t_skip ?_ | refine to_q rfl rfl rfl ?_ | refine to_fa rfl rfl ?_ | refine to_ld rfl rfl rfl ?_ | refine to_nilP rfl rfl rfl ?_
                | refine t_cond (t := false) rfl (fun h => nomatch h) (fun _ => ?_))
  skip
  refine to_call rfl rfl (mapsKeysS_sp o _) fun v B F1 le1 h => ?_
  obtain ⟨pb, rfl, rfl⟩ := h
  refine to_call rfl rfl (sortedS_sp pb o x.sess _ hl) fun v B F2 le2 h => ?_
  obtain ⟨ks, hks, rfl⟩ := h
  refine to_freeze v fun F3 le3 hv => ?_
  repeat (first | refine to_nil ?_ | refine to_q rfl rfl rfl ?_)
  exact t_ret (XP b f s o x) Tryz.func11 (.tmp rfl .nil) ⟨ks, hks, hv, rfl⟩
theorem sessions_nil (F : Frz) : Sp Tryz.prog 11 [.pointer none] [] F (fun v B F' => v = nilS ∧ B = []) := by
  refine sp_of Tryz.func11 rfl (by kernel_rfl) rfl fun R => ?_
  repeat (first | refine t_seq ?_ | refine t_region ?_ | refine to_nil ?_ | refine to_q rfl rfl rfl ?_ | refine to_nilP rfl rfl rfl ?_ | refine t_cond (t := true) rfl (fun _ => ?_) (fun h => nomatch h))
  exact t_ret [] Tryz.func11 (.tmp rfl .nil) ⟨rfl, rfl⟩
theorem names_nil (F : Frz) : Sp Tryz.prog 21 [.pointer none] [] F (fun v B F' => v = nilS ∧ B = []) := by
  refine sp_of Tryz.func21 rfl (by kernel_rfl) rfl fun R => ?_
  repeat (first | refine t_seq ?_ | refine t_region ?_ | refine to_nil ?_ | refine to_q rfl rfl rfl ?_ | refine to_nilP rfl rfl rfl ?_ | refine t_cond (t := true) rfl (fun _ => ?_) (fun h => nomatch h))
  exact t_ret [] Tryz.func21 (.tmp rfl .nil) ⟨rfl, rfl⟩
theorem fork_nil (F : Frz) : Sp Tryz.prog 12 [.pointer none] [] F (fun v B F' => v = .pointer none ∧ B = []) := by
  refine sp_of Tryz.func12 rfl (by kernel_rfl) rfl fun R => ?_
  repeat (first | refine t_seq ?_ | refine t_region ?_ | refine to_nil ?_ | refine to_q rfl rfl rfl ?_ | refine to_nilP rfl rfl rfl ?_ | refine t_cond (t := true) rfl (fun _ => ?_) (fun h => nomatch h))
  exact t_ret [] Tryz.func12 (.tmp rfl .nil) ⟨rfl, rfl⟩
theorem clone1_sp (f : Nat) (m : List (ByteArray × List Ver)) (F : Frz) : Sp Tryz.prog 40 [.map (some f)] [mapP Value.string vsR f m] F
    (fun v B F' => ∃ f', v = .map (some f') ∧ B = [mapP Value.string vsR f' m, mapP Value.string vsR f m]) := by
  refine sp_of Tryz.func40 rfl (by kernel_rfl) rfl fun R => ?_
  repeat (first | refine t_seq ?_ | refine t_region ?_ | refine to_nil ?_ | refine t_skip ?_ | refine to_q rfl rfl rfl ?_ | refine to_eqM rfl rfl rfl ?_ | refine t_cond (t := false) rfl (fun h => nomatch h) (fun _ => ?_))
  refine to_mkI rfl rfl ?_
  refine to_cloneM rfl rfl fun f' => ?_
  refine to_asM rfl rfl ?_
  repeat (first | refine to_nil ?_ | refine to_q rfl rfl rfl ?_)
  exact t_ret [mapP Value.string vsR f' m, mapP Value.string vsR f m] Tryz.func40 (.tmp rfl .nil) ⟨f', rfl, rfl⟩
theorem clone2_sp (f : Nat) (m : List (ByteArray × List (ByteArray × Int))) (F : Frz) : Sp Tryz.prog 41 [.map (some f)] [mapP Value.string shotR f m] F
    (fun v B F' => ∃ f', v = .map (some f') ∧ B = [mapP Value.string shotR f' m, mapP Value.string shotR f m]) := by
  refine sp_of Tryz.func41 rfl (by kernel_rfl) rfl fun R => ?_
  repeat (first | refine t_seq ?_ | refine t_region ?_ | refine to_nil ?_ | refine t_skip ?_ | refine to_q rfl rfl rfl ?_ | refine to_eqM rfl rfl rfl ?_ | refine t_cond (t := false) rfl (fun h => nomatch h) (fun _ => ?_))
  refine to_mkI rfl rfl ?_
  refine to_cloneM rfl rfl fun f' => ?_
  refine to_asM rfl rfl ?_
  repeat (first | refine to_nil ?_ | refine to_q rfl rfl rfl ?_)
  exact t_ret [mapP Value.string shotR f' m, mapP Value.string shotR f m] Tryz.func41 (.tmp rfl .nil) ⟨f', rfl, rfl⟩
theorem clone3_sp (f : Nat) (m : List (Int × (ByteArray × ByteArray))) (F : Frz) : Sp Tryz.prog 42 [.map (some f)] [mapP (Value.int .i64) sesR f m] F
    (fun v B F' => ∃ f', v = .map (some f') ∧ B = [mapP (Value.int .i64) sesR f' m, mapP (Value.int .i64) sesR f m]) := by
  refine sp_of Tryz.func42 rfl (by kernel_rfl) rfl fun R => ?_
  repeat (first | refine t_seq ?_ | refine t_region ?_ | refine to_nil ?_ | refine t_skip ?_ | refine to_q rfl rfl rfl ?_ | refine to_eqM rfl rfl rfl ?_ | refine t_cond (t := false) rfl (fun h => nomatch h) (fun _ => ?_))
  refine to_mkI rfl rfl ?_
  refine to_cloneM rfl rfl fun f' => ?_
  refine to_asM rfl rfl ?_
  repeat (first | refine to_nil ?_ | refine to_q rfl rfl rfl ?_)
  exact t_ret [mapP (Value.int .i64) sesR f' m, mapP (Value.int .i64) sesR f m] Tryz.func42 (.tmp rfl .nil) ⟨f', rfl, rfl⟩
theorem fork_sp (b f s o : Nat) (x : XM) (F : Frz) : Sp Tryz.prog 12 [ptr b] (XP b f s o x) F (fun v B F' => ∃ b' f' s' o', v = ptr b' ∧ B = XP b f s o x ++ XP b' f' s' o' x) := by
  refine sp_of Tryz.func12 rfl (by kernel_rfl) rfl fun R => ?_
  repeat (first | refine t_seq ?_ | refine t_region ?_ | refine to_nil ?_ | refine t_skip ?_ | refine to_q rfl rfl rfl ?_ | refine to_ldA rfl rfl rfl ?_ | refine to_stA rfl rfl rfl rfl rfl rfl ?_
                | refine to_alloc rfl fun _ => ?_ | refine to_nilP rfl rfl rfl ?_ | refine t_cond (t := false) rfl (fun h => nomatch h) (fun _ => ?_))
  rename_i b'
  refine t_drawnX [b, b'] (by kernel_rfl) fun s0 hs0 => ?_
  refine to_frees (by assumption) [0,1,2,3,5,6,7,8,10,11,12,13,4,9,14,15,16,17,18,19,20] (by kernel_rfl) fun _ _ => ?_
  simp only [List.map_cons, List.map_nil, List.cons_append, List.nil_append, opAt, List.getElem?_cons_zero, List.getElem?_cons_succ, Option.getD_some]
  repeat (first | refine to_q rfl rfl rfl ?_ | refine to_fa rfl rfl ?_ | refine to_ldK rfl rfl rfl ?_)
  refine to_callK rfl rfl (clone1_sp f x.files _) fun v B F2 le_F2 h_F2 => ?_
  obtain ⟨f', rfl, rfl⟩ := h_F2
  refine ⟨inferInstance, ?_⟩
  skip
  refine to_callK rfl rfl (clone2_sp s x.shots _) fun v B F3 le_F3 h_F3 => ?_
  obtain ⟨s', rfl, rfl⟩ := h_F3
  refine ⟨inferInstance, ?_⟩
  skip
  refine to_callK rfl rfl (clone3_sp o x.sess _) fun v B F4 le_F4 h_F4 => ?_
  obtain ⟨o', rfl, rfl⟩ := h_F4
  refine ⟨inferInstance, ?_⟩
  repeat (first | refine to_fa rfl rfl ?_ | refine to_st rfl rfl rfl rfl rfl ?_)
  refine to_lin_nil (by assumption) (t_out ?_)
  repeat (first | refine t_seq ?_ | refine t_region ?_ | refine to_nil ?_ | refine to_q rfl rfl rfl ?_)
  exact t_ret (XP b f s o x ++ XP b' f' s' o' x) Tryz.func12 (.tmp rfl .nil) ⟨b', f', s', o', rfl, rfl⟩
theorem to_by {P : Program} {E : Ex} {D : List Deferred} {L : List HP} {F : Frz} {k : List Item} {σ : Sg} {Φ : Fin} {ops : Array Oper} {os : List Oper} (et : TypeId) (a : Option Addr) (cap : Nat)
    (K : TO P E D (byH true et (.slice a 0 cap) [] :: L) F ops os k σ Φ) : TO P E D L F ops os k σ Φ :=
  to_conv fun w st => ⟨_, F, .refl _, by_of_true (slR_nil u8R 1 F a cap) st, K⟩
abbrev shownP (shot name : ByteArray) : Op1 := ⟨7, 0, name, shot, 0, 0, 0, [], 0, 0, 0, 0⟩
theorem shot_sp (b f s o : Nat) (x : XM) (shot name : ByteArray) (F : Frz) (a : XAll x) (h1 : shot.size ≤ 9223372036854775807) (h2 : name.size ≤ 9223372036854775807) :
    Sp Tryz.prog 8 [ptr b, .string shot, .string name] (XP b f s o x) F (fun v B F' => ∃ bv, v = .tuple #[bv, .int .i64 (shownX x (shownP shot name)).1] ∧ B = OSl u8R 1 5 bv (shownX x (shownP shot name)).2.2.1 :: XP b f s o x) := by
  refine sp_of Tryz.func8 rfl (by kernel_rfl) rfl fun R => ?_
  repeat (first | refine t_seq ?_ | refine t_region ?_ | refine to_nil ?_ | refine to_q rfl rfl rfl ?_ | refine to_bs rfl rfl rfl rfl ?_)
  refine to_by 5 none 0 ?_
  refine to_call rfl rfl (do_sp b f s o x (shownP shot name) false true nilS nilS (.int .i64 0) (.int .i64 0) _ a ⟨h2, h1, by show (0 : Int) ≤ _; omega⟩) fun v B F1 le h => ?_
  obtain ⟨r, y, hd, bv, nv, rfl, hn, rfl⟩ := h
  obtain ⟨hr, rfl⟩ : r = shownX x (shownP shot name) ∧ y = x := by
    simp [DoX, ToldX] at hd; exact hd
  subst hr
  obtain ⟨na, ncap, rfl⟩ := slR_len hn
  refine to_sform bv fun a2 c2 e2 => ?_
  subst e2
  repeat (first | refine t_seq ?_ | refine to_nil ?_ | refine to_stA rfl rfl rfl rfl rfl rfl ?_ | refine to_alloc rfl fun _ => ?_)
  refine t_drawn1 (by kernel_rfl) (by kernel_rfl) ?_
  repeat (first | refine to_nil ?_ | refine to_q rfl rfl rfl ?_ | refine to_fa rfl rfl ?_ | refine to_ld rfl rfl rfl ?_)
  exact t_ret (OSl u8R 1 5 _ (shownX _ (shownP shot name)).2.2.1 :: XP b f s o _) Tryz.func8 (.tmp rfl (.tmp rfl .nil)) ⟨_, rfl, rfl⟩
theorem shot_nil (shot name : ByteArray) (F : Frz) : Sp Tryz.prog 8 [.pointer none, .string shot, .string name] [] F (fun v B F' => v = .tuple #[nilS, .int .i64 1] ∧ B = []) := by
  refine sp_of Tryz.func8 rfl (by kernel_rfl) rfl fun R => ?_
  repeat (first | refine t_seq ?_ | refine t_region ?_ | refine to_nil ?_ | refine to_q rfl rfl rfl ?_ | refine to_bs rfl rfl rfl rfl ?_)
  refine to_call rfl rfl (do_nil (shownP shot name) false nilS nilS (.int .i64 0) (.int .i64 0) _) fun v B F1 le h => ?_
  obtain ⟨rfl, rfl⟩ := h
  repeat (first | refine t_seq ?_ | refine to_nil ?_ | refine to_stA rfl rfl rfl rfl rfl rfl ?_ | refine to_alloc rfl fun _ => ?_)
  refine t_drawn1 (by kernel_rfl) (by kernel_rfl) ?_
  repeat (first | refine to_nil ?_ | refine to_q rfl rfl rfl ?_ | refine to_fa rfl rfl ?_ | refine to_ld rfl rfl rfl ?_)
  exact t_ret [] Tryz.func8 (.tmp rfl (.tmp rfl .nil)) ⟨rfl, rfl⟩
theorem bytes_nil (name : ByteArray) (gen : Int) (F : Frz) : Sp Tryz.prog 19 [.pointer none, .string name, .int .i64 gen] [] F (fun v B F' => v = .tuple #[nilS, .int .i64 1] ∧ B = []) := by
  refine sp_of Tryz.func19 rfl (by kernel_rfl) rfl fun R => ?_
  repeat (first | refine t_seq ?_ | refine t_region ?_ | refine to_nil ?_ | refine to_q rfl rfl rfl ?_ | refine to_bs rfl rfl rfl rfl ?_)
  refine to_call rfl rfl (do_nil ⟨5, 0, name, ⟨#[]⟩, gen, 0, 0, [], 0, 0, 0, 0⟩ false nilS nilS (.int .i64 0) (.int .i64 0) _) fun v B F1 le h => ?_
  obtain ⟨rfl, rfl⟩ := h
  repeat (first | refine t_seq ?_ | refine to_nil ?_ | refine to_stA rfl rfl rfl rfl rfl rfl ?_ | refine to_alloc rfl fun _ => ?_)
  refine t_drawn1 (by kernel_rfl) (by kernel_rfl) ?_
  repeat (first | refine to_nil ?_ | refine to_q rfl rfl rfl ?_ | refine to_fa rfl rfl ?_ | refine to_ld rfl rfl rfl ?_)
  exact t_ret [] Tryz.func19 (.tmp rfl (.tmp rfl .nil)) ⟨rfl, rfl⟩
end Go.Proofs.YtbffngeameenoaaGreat
end

section
set_option maxRecDepth 100000
set_option linter.unusedVariables false
set_option linter.unusedSimpArgs false
namespace Go.Proofs.YtbffngeameenoaaGreat
open Go Go.Au
attribute [local irreducible] T TO

/-- A reference's model, and its slices' values. -/
structure RM where
  V : List RVer
  S : List (ByteArray × List (ByteArray × Int))
  O : List RSes
  began : Int
  now : Int
  quota : Int
structure RU where
  v : Value
  s : Value
  o : Value
structure RY (F : Frz) (y : RM) (u : RU) : Prop where
  v : (slR rverR 5).r F y.V u.v
  s : (slR rshotR 2).r F y.S u.s
  o : (slR rsesR 3).r F y.O u.o
theorem RY.mono {F G : Frz} {y : RM} {u : RU} (h : RY F y u) (le : FLe F G) : RY G y u := ⟨(slR rverR 5).mono le h.v, (slR rshotR 2).mono le h.s, (slR rsesR 3).mono le h.o⟩
abbrev RP (b : Nat) (u : RU) (y : RM) : List HP := [own b [u.v, u.s, u.o, .int .i64 y.began, .int .i64 y.now, .int .i64 y.quota] 92]
/-- what a reference is held within -/
structure RSz (y : RM) : Prop where
  v : y.V.length ≤ 4096
  s : y.S.length ≤ 4096
  o : y.O.length ≤ 4096
  t : ∀ q ∈ y.V, q.text.size ≤ 8192
  u : ∀ q ∈ y.O, q.text.size ≤ 8192
  g : ∀ q ∈ y.V, 1 ≤ q.gen ∧ q.gen ≤ 1152921504606846976
theorem rnew_sp (q : Int) (F : Frz) : Sp Tryz.prog 24 [.int .i64 q] [] F (fun v B F' => ∃ b u, v = ptr b ∧ RY F' ⟨[], [], [], 0, 0, q⟩ u ∧ B = RP b u ⟨[], [], [], 0, 0, q⟩) := by
  refine sp_of Tryz.func24 rfl (by kernel_rfl) rfl fun R => ?_
  repeat (first | refine t_seq ?_ | refine t_region ?_ | refine to_nil ?_ | refine to_q rfl rfl rfl ?_ | refine to_boxA rfl rfl fun _ => ?_ | refine to_bs rfl rfl rfl rfl ?_)
  rename_i b
  exact t_ret (RP b ⟨nilS, nilS, nilS⟩ ⟨[], [], [], 0, 0, q⟩) Tryz.func24 (.tmp rfl .nil) ⟨b, ⟨nilS, nilS, nilS⟩, rfl, ⟨slR_nil _ _ _ _ _, slR_nil _ _ _ _ _, slR_nil _ _ _ _ _⟩, rfl⟩
theorem rsession_sp (b : Nat) (y : RM) (u : RU) (n : Int) (F : Frz) (h : RY F y u) (z : RSz y) :
    Sp Tryz.prog 53 [ptr b, .int .i64 n] (RP b u y) F (fun v B F' => v = .int .i64 (idxG (fun q : RSes => q.n == n) y.O) ∧ B = RP b u y) := by
  obtain ⟨uv, us, uo⟩ := u
  obtain ⟨hv, hs, ho⟩ := h
  obtain ⟨oa, oc, rfl⟩ := slR_len ho
  have hz := z.o
  refine sp_of Tryz.func53 rfl (by kernel_rfl) rfl fun R => ?_
  repeat (first | refine t_seq ?_ | refine t_block ?_ | refine t_region ?_ | refine to_nil ?_ | refine to_q rfl rfl rfl ?_)
  refine t_loopJ (R := R) (fun i : Nat => y.O.length - i) (fun _ => RP b ⟨uv, us, .slice oa y.O.length oc⟩ y) (fun i => [(0, ptr b), (1, .int .i64 n), (5, .int .i64 i)])
    (fun i _ => i ≤ y.O.length ∧ ∀ j (q' : RSes), j < i → y.O[j]? = some q' → (q'.n == n) = false) 0 (by repeat (first | exact trivial | refine ⟨rfl, ?_⟩)) ⟨Nat.zero_le _, by omega⟩ ?_
  intro i F1 le1 hg ih
  obtain ⟨hi, hno⟩ := hg
  repeat (first | refine t_seq ?_ | refine t_region ?_ | refine to_nil ?_ | refine to_q rfl rfl rfl ?_ | refine to_fa rfl rfl ?_ | refine to_ld rfl rfl rfl ?_ | refine to_lenS rfl rfl rfl ?_)
  refine t_condT rfl (fun hlt => ?_) (fun hlt => ?_)
  · simp only [decide_eq_true_eq] at hlt
    have hlt : i < y.O.length := by omega
    have hc := List.getElem?_eq_getElem hlt
    generalize y.O[i] = q at hc
    obtain ⟨b_e, o_e, cap_e, u_e, e_e, hl_e, r_e, ro_e⟩ := slR_elem (P := Tryz.prog) (t := 95) (by_ := 40) ho hc
    cases e_e
    cases r_e
    repeat (first | refine t_seq ?_ | refine t_block ?_ | refine t_region ?_ | refine t_skip ?_ | refine to_q rfl rfl rfl ?_ | refine to_fa rfl rfl ?_ | refine to_ld rfl rfl rfl ?_)
    refine to_ia rfl rfl rfl rfl hl_e ?_
    repeat (refine to_fa rfl rfl ?_)
    refine to_ldR (F0 := F) rfl rfl (ro_e.one (j := 0) (v := (.int .i64 q.n)) rfl) ?_
    repeat (first | refine to_nil ?_ | refine to_q rfl rfl rfl ?_)
    refine t_condT rfl (fun hq => ?_) (fun hq => ?_)
    · repeat (first | refine t_seq ?_ | refine t_region ?_ | refine to_nil ?_ | refine to_q rfl rfl rfl ?_)
      have e := idxG_some (p := fun q : RSes => q.n == n) hc hq hno
      exact t_ret (RP b ⟨uv, us, _⟩ y) Tryz.func53 (.tmp rfl .nil) (by rw [e]; exact ⟨rfl, rfl⟩)
    · repeat (first | refine t_region ?_ | refine to_nil ?_ | refine t_skip ?_ | refine t_inBlock ?_ | refine to_q rfl rfl rfl ?_ | refine to_add rfl rfl rfl (by omega) (by omega) ?_)
      refine t_re (A := RP b ⟨uv, us, _⟩ y) (R := R) (ih (i + 1) F1 ⟨.refl _⟩ (by omega) ⟨by omega, all_snoc hc hno hq⟩) (by repeat (first | exact trivial | refine ⟨rfl, ?_⟩))
  · simp only [decide_eq_false_iff_not] at hlt
    repeat (first | refine t_seq ?_ | refine t_region ?_ | refine to_nil ?_ | refine to_q rfl rfl rfl ?_ | refine t_exit rfl ?_)
    have e := idxG_none (p := fun q : RSes => q.n == n) (xs := y.O) (i := i) (by omega) hno
    exact t_ret (RP b ⟨uv, us, _⟩ y) Tryz.func53 (.tmp rfl .nil) (by rw [e]; exact ⟨rfl, rfl⟩)
theorem rlost_sp (b : Nat) (y : RM) (u : RU) (i : Nat) (F : Frz) (h : RY F y u) (z : RSz y) (hi : i < y.O.length) :
    Sp Tryz.prog 54 [ptr b, .int .i64 i] (RP b u y) F (fun v B F' => ∃ u', RY F' { y with O := y.O.take i ++ y.O.drop (i + 1) } u' ∧ B = RP b u' { y with O := y.O.take i ++ y.O.drop (i + 1) }) := by
  obtain ⟨uv, us, uo⟩ := u
  obtain ⟨hv, hs, ho⟩ := h
  obtain ⟨oa, oc, rfl⟩ := slR_len ho
  have hz := z.o
  have ht1 : (y.O.take i).length = i := by rw [List.length_take]; omega
  refine sp_of Tryz.func54 rfl (by kernel_rfl) rfl fun R => ?_
  refine t_drawnX [b] (by kernel_rfl) fun s0 hs0 => ?_
  refine to_frees (by assumption) [0,2,3,4,5,6,7,9,10,11,12,13,14,15,1,8,16,17,18,19] (by kernel_rfl) fun _ _ => ?_
  simp only [List.map_cons, List.map_nil, List.cons_append, List.nil_append, opAt, List.getElem?_cons_zero, List.getElem?_cons_succ, Option.getD_some]
  repeat (first | refine to_q rfl rfl rfl ?_ | refine to_fa rfl rfl ?_ | refine to_ldK rfl rfl rfl ?_)
  refine to_slR ho rfl rfl rfl rfl (by omega) (by omega) (by omega) fun s1 hs1 => ?_
  repeat (first | refine to_q rfl rfl rfl ?_ | refine to_fa rfl rfl ?_ | refine to_ldK rfl rfl rfl ?_ | refine to_add rfl rfl rfl (by omega) (by omega) ?_)
  refine to_slR ho rfl rfl rfl rfl (by omega) (by omega) (by omega) fun s2 hs2 => ?_
  replace hs1 : (slR rsesR 3).r F (y.O.take i) s1 := by simpa using hs1
  replace hs2 : (slR rsesR 3).r F (y.O.drop (i + 1)) s2 := by
    have e : ((i : Int) + 1).toNat = i + 1 := by omega
    rw [e] at hs2
    simpa using hs2
  refine to_bsl (len := 0) rfl rfl rfl rfl fun b1 => ?_
  refine to_osl (n := 3) (b := b1) rsesR [] .nil rfl ?_
  refine to_appR hs1 rfl rfl rfl rfl (by simp; omega) fun v1 => ?_
  refine to_appR hs2 rfl rfl rfl rfl (by rw [List.nil_append, List.length_drop, ht1]; omega) fun v2 => ?_
  refine to_freeze v2 fun F2 le2 hv2 => ?_
  rw [List.nil_append] at hv2
  obtain ⟨na, nc, rfl⟩ := slR_len hv2
  repeat (first | refine to_q rfl rfl rfl ?_ | refine to_fa rfl rfl ?_ | refine to_st rfl rfl rfl rfl rfl ?_)
  refine to_lin_nil (by assumption) (t_out ?_)
  skip
  exact t_end (RP b ⟨uv, us, .slice na (y.O.take i ++ y.O.drop (i + 1)).length nc⟩ { y with O := y.O.take i ++ y.O.drop (i + 1) }) Tryz.func54 .nil ⟨⟨uv, us, .slice na (y.O.take i ++ y.O.drop (i + 1)).length nc⟩, ⟨(slR rverR 5).mono le2.h hv, (slR rshotR 2).mono le2.h hs, hv2⟩, rfl⟩
def bltB (a c : ByteArray) : Bool := Op.bytesLess a.toList c.toList
/-- where a snapshot stands, or would -/
def shotI (S : List (ByteArray × List (ByteArray × Int))) (name : ByteArray) : Nat := (S.takeWhile fun q => bltB q.1 name).length
def shotB (S : List (ByteArray × List (ByteArray × Int))) (name : ByteArray) : Bool := match S[shotI S name]? with
  | some q => decide (q.1 = name)
  | none => false
theorem takeWhile_at {α : Type} {p : α → Bool} : ∀ {xs : List α} {i : Nat}, (∀ j q, j < i → xs[j]? = some q → p q = true) → i ≤ xs.length → (∀ q, xs[i]? = some q → p q = false) → (xs.takeWhile p).length = i
  | [], i, _, h, _ => by simp at h; simp [h]
  | a :: xs, 0, _, _, h => by
    have := h a rfl
    simp [List.takeWhile_cons, this]
  | a :: xs, i + 1, h1, h2, h3 => by
    have h0 := h1 0 a (by omega) rfl
    have := takeWhile_at (p := p) (xs := xs) (i := i) (fun j q hj e => h1 (j + 1) q (by omega) (by simpa using e)) (by simp at h2; exact h2) (fun q e => h3 q (by simpa using e))
    simp [List.takeWhile_cons, h0, this]
theorem rshot_sp (b : Nat) (y : RM) (u : RU) (name : ByteArray) (F : Frz) (h : RY F y u) (z : RSz y) :
    Sp Tryz.prog 84 [ptr b, .string name] (RP b u y) F (fun v B F' => v = .tuple #[.int .i64 (shotI y.S name), .bool (shotB y.S name)] ∧ B = RP b u y) := by
  obtain ⟨uv, us, uo⟩ := u
  obtain ⟨hv, hs, ho⟩ := h
  obtain ⟨sa, sc, rfl⟩ := slR_len hs
  have hz := z.s
  refine sp_of Tryz.func84 rfl (by kernel_rfl) rfl fun R => ?_
  repeat (first | refine t_seq ?_ | refine t_block ?_ | refine t_region ?_ | refine to_nil ?_ | refine to_q rfl rfl rfl ?_)
  refine t_loopJ (R := R) (fun i : Nat => y.S.length - i) (fun _ => RP b ⟨uv, .slice sa y.S.length sc, uo⟩ y) (fun i => [(0, ptr b), (1, .string name), (6, .int .i64 i)])
    (fun i _ => i ≤ y.S.length ∧ ∀ j (q' : ByteArray × List (ByteArray × Int)), j < i → y.S[j]? = some q' → bltB q'.1 name = true) 0 (by repeat (first | exact trivial | refine ⟨rfl, ?_⟩)) ⟨Nat.zero_le _, by omega⟩ ?_
  intro i F1 le1 hg ih
  obtain ⟨hi, hyes⟩ := hg
  repeat (first | refine t_seq ?_ | refine t_region ?_ | refine to_q rfl rfl rfl ?_ | refine to_fa rfl rfl ?_ | refine to_ld rfl rfl rfl ?_ | refine to_lenS rfl rfl rfl ?_)
  refine to_gd rfl rfl (fun hlt => ?_) (fun hlt => ?_)
  · simp only [decide_eq_true_eq] at hlt
    have hlt : i < y.S.length := by omega
    have hc := List.getElem?_eq_getElem hlt
    generalize y.S[i] = q at hc
    obtain ⟨b_e, o_e, cap_e, u_e, e_e, hl_e, ⟨hv_e, ve_e, vr_e⟩, ro_e⟩ := slR_elem (P := Tryz.prog) (t := 103) (by_ := 40) hs hc
    cases e_e
    cases ve_e
    repeat (first | refine to_q rfl rfl rfl ?_ | refine to_fa rfl rfl ?_ | refine to_ld rfl rfl rfl ?_)
    refine to_ia rfl rfl rfl rfl hl_e ?_
    repeat (refine to_fa rfl rfl ?_)
    refine to_ldR (F0 := F) rfl rfl (ro_e.one (j := 0) (v := (.string q.1)) rfl) ?_
    repeat (first | refine to_nil ?_ | refine to_q rfl rfl rfl ?_)
    refine t_condT rfl (fun hq => ?_) (fun hq => ?_)
    · repeat (first | refine t_block ?_ | refine t_region ?_ | refine to_nil ?_ | refine t_skip ?_ | refine t_inBlock ?_ | refine to_q rfl rfl rfl ?_ | refine to_add rfl rfl rfl (by omega) (by omega) ?_)
      refine t_re (A := RP b ⟨uv, _, uo⟩ y) (R := R) (ih (i + 1) F1 ⟨.refl _⟩ (by omega) ⟨by omega, all_snoc hc hyes hq⟩) (by repeat (first | exact trivial | refine ⟨rfl, ?_⟩))
    · repeat (first | refine t_seq ?_ | refine t_exit rfl ?_)
      have hI : shotI y.S name = i := takeWhile_at hyes hi fun q' e => by rw [hc] at e; cases e; exact hq
      have hB : shotB y.S name = decide (q.1 = name) := by unfold shotB; rw [hI, hc]
      rw [hI, hB]
      refine t_drawn1 (by kernel_rfl) (by kernel_rfl) ?_
      repeat (first | refine to_q rfl rfl rfl ?_ | refine to_fa rfl rfl ?_ | refine to_ld rfl rfl rfl ?_ | refine to_lenS rfl rfl rfl ?_)
      refine to_gd rfl rfl (fun h2 => ?_) (fun h2 => ?_)
      · repeat (first | refine to_q rfl rfl rfl ?_ | refine to_fa rfl rfl ?_ | refine to_ld rfl rfl rfl ?_)
        refine to_ia rfl rfl rfl rfl hl_e ?_
        repeat (refine to_fa rfl rfl ?_)
        refine to_ldR (F0 := F) rfl rfl (ro_e.one (j := 0) (v := (.string q.1)) rfl) ?_
        repeat (first | refine to_nil ?_ | refine to_q rfl rfl rfl ?_)
        exact t_ret (RP b ⟨uv, _, uo⟩ y) Tryz.func84 (.tmp rfl (.tmp rfl .nil)) ⟨by rw [ba_beq]; rfl, rfl⟩
      · simp only [decide_eq_false_iff_not] at h2; omega
  · simp only [decide_eq_false_iff_not] at hlt
    repeat (first | refine t_seq ?_ | refine to_nil ?_ | refine to_no rfl ?_ | refine to_q rfl rfl rfl ?_ | refine t_cond (t := false) rfl (fun h => nomatch h) (fun _ => ?_) | refine t_exit rfl ?_)
    have hie : i = y.S.length := by omega
    have hI : shotI y.S name = i := takeWhile_at hyes hi fun q' e => by rw [List.getElem?_eq_none (by omega)] at e; cases e
    have hB : shotB y.S name = false := by unfold shotB; rw [hI, List.getElem?_eq_none (by omega)]
    rw [hI, hB]
    refine t_drawn1 (by kernel_rfl) (by kernel_rfl) ?_
    repeat (first | refine to_q rfl rfl rfl ?_ | refine to_fa rfl rfl ?_ | refine to_ld rfl rfl rfl ?_ | refine to_lenS rfl rfl rfl ?_)
    refine to_gd rfl rfl (fun h2 => ?_) (fun h2 => ?_)
    · simp only [decide_eq_true_eq] at h2; omega
    · repeat (first | refine to_nil ?_ | refine to_no rfl ?_ | refine to_q rfl rfl rfl ?_)
      exact t_ret (RP b ⟨uv, _, uo⟩ y) Tryz.func84 (.tmp rfl (.tmp rfl .nil)) ⟨rfl, rfl⟩
end Go.Proofs.YtbffngeameenoaaGreat
end

section
set_option maxRecDepth 100000
set_option linter.unusedVariables false
set_option linter.unusedSimpArgs false
namespace Go.Proofs.YtbffngeameenoaaGreat
open Go Go.Au
attribute [local irreducible] T TO

def sumV (l : List RVer) : Nat := (l.map fun q => q.text.size).sum
def sumO (l : List RSes) : Nat := (l.map fun q => q.text.size).sum
theorem sumV_snoc (l : List RVer) (q : RVer) : sumV (l ++ [q]) = sumV l + q.text.size := by simp [sumV]
theorem sumO_snoc (l : List RSes) (q : RSes) : sumO (l ++ [q]) = sumO l + q.text.size := by simp [sumO]
theorem sumV_le {y : RM} (z : RSz y) (i : Nat) : sumV (y.V.take i) ≤ 33554432 := by
  have := sum_le (fun q : RVer => q.text.size) 8192 (l := y.V.take i) fun q hq => z.t q (List.mem_of_mem_take hq)
  have := z.v
  have h : (y.V.take i).length ≤ y.V.length := by rw [List.length_take]; omega
  unfold sumV; omega
theorem sumO_le {y : RM} (z : RSz y) (i : Nat) : sumO (y.O.take i) ≤ 33554432 := by
  have := sum_le (fun q : RSes => q.text.size) 8192 (l := y.O.take i) fun q hq => z.u q (List.mem_of_mem_take hq)
  have := z.o
  have h : (y.O.take i).length ≤ y.O.length := by rw [List.length_take]; omega
  unfold sumO; omega
theorem rsize_sp (b : Nat) (y : RM) (u : RU) (F : Frz) (h : RY F y u) (z : RSz y) :
    Sp Tryz.prog 82 [ptr b] (RP b u y) F (fun v B F' => v = .int .i64 ((sumV y.V + sumO y.O : Nat) : Int) ∧ B = RP b u y) := by
  obtain ⟨uv, us, uo⟩ := u
  obtain ⟨hv, hs, ho⟩ := h
  obtain ⟨oa, oc, rfl⟩ := slR_len ho
  obtain ⟨va, vc, rfl⟩ := slR_len hv
  have hz := z.v
  have hzo := z.o
  refine sp_of Tryz.func82 rfl (by kernel_rfl) rfl fun R => ?_
  repeat (first | refine t_seq ?_ | refine t_block ?_ | refine t_region ?_ | refine to_nil ?_ | refine to_q rfl rfl rfl ?_)
  refine t_loopJ (R := R) (fun i : Nat => y.V.length - i) (fun _ => RP b ⟨.slice va y.V.length vc, us, .slice oa y.O.length oc⟩ y) (fun i => [(0, ptr b), (3, .int .i64 (sumV (y.V.take i))), (4, .int .i64 i)])
    (fun i _ => i ≤ y.V.length) 0 (by repeat (first | exact trivial | refine ⟨rfl, ?_⟩)) (Nat.zero_le _) ?_
  intro i F1 le1 hi ih
  have hb := sumV_le z i
  repeat (first | refine t_seq ?_ | refine t_region ?_ | refine to_nil ?_ | refine to_q rfl rfl rfl ?_ | refine to_fa rfl rfl ?_ | refine to_ld rfl rfl rfl ?_ | refine to_lenS rfl rfl rfl ?_)
  refine t_condT rfl (fun hlt => ?_) (fun hlt => ?_)
  · simp only [decide_eq_true_eq] at hlt
    have hlt : i < y.V.length := by omega
    have hc := List.getElem?_eq_getElem hlt
    generalize y.V[i] = q at hc
    have hq := z.t q (List.mem_of_getElem? hc)
    have hsn : sumV (y.V.take (i + 1)) = sumV (y.V.take i) + q.text.size := by rw [take_snoc' hc, sumV_snoc]
    obtain ⟨b_e, o_e, cap_e, u_e, e_e, hl_e, r_e, ro_e⟩ := slR_elem (P := Tryz.prog) (t := 101) (by_ := 56) hv hc
    cases e_e
    cases r_e
    repeat (first | refine t_seq ?_ | refine t_block ?_ | refine t_region ?_ | refine t_skip ?_ | refine to_q rfl rfl rfl ?_ | refine to_fa rfl rfl ?_ | refine to_ld rfl rfl rfl ?_)
    refine to_ia rfl rfl rfl rfl hl_e ?_
    repeat (refine to_fa rfl rfl ?_)
    refine to_ldR (F0 := F) rfl rfl (ro_e.one (j := 3) (v := (.string q.text)) rfl) ?_
    repeat (first | refine t_region ?_ | refine to_nil ?_ | refine t_inBlock ?_ | refine to_q rfl rfl rfl ?_ | refine to_add rfl rfl rfl (by omega) (by omega) ?_ | refine to_lenT rfl rfl rfl ?_)
    refine t_re (A := RP b ⟨_, us, _⟩ y) (R := R) (ih (i + 1) F1 ⟨.refl _⟩ (by omega) (by omega)) (by rw [hsn]; exact (by repeat (first | exact trivial | refine ⟨rfl, ?_⟩)))
  · simp only [decide_eq_false_iff_not] at hlt
    have hie : y.V.take i = y.V := List.take_of_length_le (by omega)
    rw [hie] at hb ⊢
    repeat (first | refine t_seq ?_ | refine t_block ?_ | refine t_region ?_ | refine to_nil ?_ | refine to_q rfl rfl rfl ?_ | refine t_exit rfl ?_)
    refine t_loopJ (R := R) (fun i : Nat => y.O.length - i) (fun _ => RP b ⟨.slice va y.V.length vc, us, .slice oa y.O.length oc⟩ y) (fun i => [(0, ptr b), (3, .int .i64 ((sumV y.V + sumO (y.O.take i) : Nat) : Int)), (5, .int .i64 i)])
      (fun i _ => i ≤ y.O.length) 0 (by repeat (first | exact trivial | refine ⟨rfl, ?_⟩)) (Nat.zero_le _) ?_
    intro i F2 le2 hi ih
    have hb2 := sumO_le z i
    repeat (first | refine t_seq ?_ | refine t_region ?_ | refine to_nil ?_ | refine to_q rfl rfl rfl ?_ | refine to_fa rfl rfl ?_ | refine to_ld rfl rfl rfl ?_ | refine to_lenS rfl rfl rfl ?_)
    refine t_condT rfl (fun hlt => ?_) (fun hlt => ?_)
    · simp only [decide_eq_true_eq] at hlt
      have hlt : i < y.O.length := by omega
      have hc := List.getElem?_eq_getElem hlt
      generalize y.O[i] = q at hc
      have hq := z.u q (List.mem_of_getElem? hc)
      have hsn : sumO (y.O.take (i + 1)) = sumO (y.O.take i) + q.text.size := by rw [take_snoc' hc, sumO_snoc]
      obtain ⟨b_e, o_e, cap_e, u_e, e_e, hl_e, r_e, ro_e⟩ := slR_elem (P := Tryz.prog) (t := 95) (by_ := 40) ho hc
      cases e_e
      cases r_e
      repeat (first | refine t_seq ?_ | refine t_block ?_ | refine t_region ?_ | refine t_skip ?_ | refine to_q rfl rfl rfl ?_ | refine to_fa rfl rfl ?_ | refine to_ld rfl rfl rfl ?_)
      refine to_ia rfl rfl rfl rfl hl_e ?_
      repeat (refine to_fa rfl rfl ?_)
      refine to_ldR (F0 := F) rfl rfl (ro_e.one (j := 2) (v := (.string q.text)) rfl) ?_
      repeat (first | refine t_region ?_ | refine to_nil ?_ | refine t_inBlock ?_ | refine to_q rfl rfl rfl ?_ | refine to_add rfl rfl rfl (by omega) (by omega) ?_ | refine to_lenT rfl rfl rfl ?_)
      refine t_re (A := RP b ⟨_, us, _⟩ y) (R := R) (ih (i + 1) F2 ⟨.refl _⟩ (by omega) (by omega)) (by rw [hsn, show ((sumV y.V + (sumO (y.O.take i) + q.text.size) : Nat) : Int) = ((sumV y.V + sumO (y.O.take i) : Nat) : Int) + (q.text.size : Int) from by omega]; exact (by repeat (first | exact trivial | refine ⟨rfl, ?_⟩)))
    · simp only [decide_eq_false_iff_not] at hlt
      have hie : y.O.take i = y.O := List.take_of_length_le (by omega)
      rw [hie] at hb2 ⊢
      repeat (first | refine t_seq ?_ | refine t_region ?_ | refine to_nil ?_ | refine to_q rfl rfl rfl ?_ | refine t_exit rfl ?_)
      exact t_ret (RP b ⟨_, us, _⟩ y) Tryz.func82 (.tmp rfl .nil) ⟨rfl, rfl⟩
def rfindP (name : ByteArray) (gen : Int) (q : RVer) : Bool := decide (q.name = name) && (!q.gone && (gen == 0 || q.gen == gen))
theorem rfind_sp (b : Nat) (y : RM) (u : RU) (name : ByteArray) (gen : Int) (F : Frz) (h : RY F y u) (z : RSz y) :
    Sp Tryz.prog 56 [ptr b, .string name, .int .i64 gen] (RP b u y) F (fun v B F' => v = .int .i64 (ixO (lastI (rfindP name gen) y.V)) ∧ B = RP b u y) := by
  obtain ⟨uv, us, uo⟩ := u
  obtain ⟨hv, hs, ho⟩ := h
  obtain ⟨va, vc, rfl⟩ := slR_len hv
  have hz := z.v
  refine sp_of Tryz.func56 rfl (by kernel_rfl) rfl fun R => ?_
  repeat (first | refine t_seq ?_ | refine t_block ?_ | refine t_region ?_ | refine to_nil ?_ | refine to_q rfl rfl rfl ?_)
  refine t_loopJ (R := R) (fun i : Nat => y.V.length - i) (fun _ => RP b ⟨.slice va y.V.length vc, us, uo⟩ y) (fun i => [(0, ptr b), (1, .string name), (2, .int .i64 gen), (7, .int .i64 (ixO (lastI (rfindP name gen) (y.V.take i)))), (8, .int .i64 i)])
    (fun i _ => i ≤ y.V.length) 0 (by repeat (first | exact trivial | refine ⟨rfl, ?_⟩)) (Nat.zero_le _) ?_
  intro i F1 le1 hi ih
  repeat (first | refine t_seq ?_ | refine t_region ?_ | refine to_nil ?_ | refine to_q rfl rfl rfl ?_ | refine to_fa rfl rfl ?_ | refine to_ld rfl rfl rfl ?_ | refine to_lenS rfl rfl rfl ?_)
  refine t_condT rfl (fun hlt => ?_) (fun hlt => ?_)
  · simp only [decide_eq_true_eq] at hlt
    have hlt : i < y.V.length := by omega
    have hc := List.getElem?_eq_getElem hlt
    generalize y.V[i] = q at hc
    have hsn : lastI (rfindP name gen) (y.V.take (i + 1)) = if rfindP name gen q then some i else lastI (rfindP name gen) (y.V.take i) := by rw [take_snoc' hc, lastI_snoc, List.length_take, Nat.min_eq_left (by omega)]
    obtain ⟨b_e, o_e, cap_e, u_e, e_e, hl_e, r_e, ro_e⟩ := slR_elem (P := Tryz.prog) (t := 101) (by_ := 56) hv hc
    cases e_e
    cases r_e
    repeat (first | refine t_seq ?_ | refine t_block ?_ | refine t_region ?_ | refine t_skip ?_ | refine to_q rfl rfl rfl ?_ | refine to_fa rfl rfl ?_ | refine to_ld rfl rfl rfl ?_)
    refine to_ia rfl rfl rfl rfl hl_e ?_
    repeat (refine to_fa rfl rfl ?_)
    refine to_ldR (F0 := F) rfl rfl (ro_e.one (j := 0) (v := (.string q.name)) rfl) ?_
    repeat (refine to_q rfl rfl rfl ?_)
    refine to_gd rfl rfl (fun h1 => ?_) (fun h1 => ?_)
    · rw [ba_beq, decide_eq_true_eq] at h1
      repeat (first | refine to_q rfl rfl rfl ?_ | refine to_fa rfl rfl ?_ | refine to_ld rfl rfl rfl ?_)
      refine to_ia rfl rfl rfl rfl hl_e ?_
      repeat (refine to_fa rfl rfl ?_)
      refine to_ldR (F0 := F) rfl rfl (ro_e.one (j := 4) (v := (.bool q.gone)) rfl) ?_
      repeat (refine to_q rfl rfl rfl ?_)
      refine to_gd rfl rfl (fun h2 => ?_) (fun h2 => ?_)
      · simp only [Bool.not_eq_true'] at h2
        repeat (refine to_q rfl rfl rfl ?_)
        refine to_gd rfl rfl (fun h3 => ?_) (fun h3 => ?_)
        · have e : lastI (rfindP name gen) (y.V.take (i + 1)) = some i := by rw [hsn, if_pos (by simp [rfindP, h1, h2, h3])]
          repeat (first | refine t_region ?_ | refine to_nil ?_ | refine t_inBlock ?_ | refine to_no rfl ?_ | refine to_q rfl rfl rfl ?_ | refine to_add rfl rfl rfl (by omega) (by omega) ?_
                        | refine t_cond (t := true) rfl (fun _ => ?_) (fun h => nomatch h))
          refine t_re (A := RP b ⟨_, us, uo⟩ y) (R := R) (ih (i + 1) F1 ⟨.refl _⟩ (by omega) (by omega)) (by rw [e]; exact (by repeat (first | exact trivial | refine ⟨rfl, ?_⟩)))
        · repeat (first | refine to_q rfl rfl rfl ?_ | refine to_fa rfl rfl ?_ | refine to_ld rfl rfl rfl ?_)
          refine to_ia rfl rfl rfl rfl hl_e ?_
          repeat (refine to_fa rfl rfl ?_)
          refine to_ldR (F0 := F) rfl rfl (ro_e.one (j := 1) (v := (.int .i64 q.gen)) rfl) ?_
          repeat (first | refine to_nil ?_ | refine to_q rfl rfl rfl ?_)
          refine t_condT rfl (fun h4 => ?_) (fun h4 => ?_)
          · have e : lastI (rfindP name gen) (y.V.take (i + 1)) = some i := by rw [hsn, if_pos (by simp only [rfindP, h1, h2, h3, h4]; simp)]
            repeat (first | refine t_region ?_ | refine to_nil ?_ | refine t_inBlock ?_ | refine to_q rfl rfl rfl ?_ | refine to_add rfl rfl rfl (by omega) (by omega) ?_)
            refine t_re (A := RP b ⟨_, us, uo⟩ y) (R := R) (ih (i + 1) F1 ⟨.refl _⟩ (by omega) (by omega)) (by rw [e]; exact (by repeat (first | exact trivial | refine ⟨rfl, ?_⟩)))
          · have e : lastI (rfindP name gen) (y.V.take (i + 1)) = lastI (rfindP name gen) (y.V.take i) := by rw [hsn, if_neg (by simp only [rfindP, h3, h4]; simp)]
            repeat (first | refine t_region ?_ | refine to_nil ?_ | refine t_skip ?_ | refine t_inBlock ?_ | refine to_q rfl rfl rfl ?_ | refine to_add rfl rfl rfl (by omega) (by omega) ?_)
            refine t_re (A := RP b ⟨_, us, uo⟩ y) (R := R) (ih (i + 1) F1 ⟨.refl _⟩ (by omega) (by omega)) (by rw [e]; exact (by repeat (first | exact trivial | refine ⟨rfl, ?_⟩)))
      · simp only [Bool.not_eq_false'] at h2
        have e : lastI (rfindP name gen) (y.V.take (i + 1)) = lastI (rfindP name gen) (y.V.take i) := by rw [hsn, if_neg (by simp [rfindP, h2])]
        repeat (first | refine t_region ?_ | refine to_nil ?_ | refine t_skip ?_ | refine t_inBlock ?_ | refine to_no rfl ?_ | refine to_q rfl rfl rfl ?_ | refine to_add rfl rfl rfl (by omega) (by omega) ?_
                      | refine t_cond (t := false) rfl (fun h => nomatch h) (fun _ => ?_))
        refine t_re (A := RP b ⟨_, us, uo⟩ y) (R := R) (ih (i + 1) F1 ⟨.refl _⟩ (by omega) (by omega)) (by rw [e]; exact (by repeat (first | exact trivial | refine ⟨rfl, ?_⟩)))
    · rw [ba_beq, decide_eq_false_iff_not] at h1
      have e : lastI (rfindP name gen) (y.V.take (i + 1)) = lastI (rfindP name gen) (y.V.take i) := by rw [hsn, if_neg (by simp [rfindP, h1])]
      repeat (first | refine t_region ?_ | refine to_nil ?_ | refine t_skip ?_ | refine t_inBlock ?_ | refine to_no rfl ?_ | refine to_q rfl rfl rfl ?_ | refine to_add rfl rfl rfl (by omega) (by omega) ?_
                    | refine t_cond (t := false) rfl (fun h => nomatch h) (fun _ => ?_))
      refine t_re (A := RP b ⟨_, us, uo⟩ y) (R := R) (ih (i + 1) F1 ⟨.refl _⟩ (by omega) (by omega)) (by rw [e]; exact (by repeat (first | exact trivial | refine ⟨rfl, ?_⟩)))
  · simp only [decide_eq_false_iff_not] at hlt
    have hie : y.V.take i = y.V := List.take_of_length_le (by omega)
    rw [hie]
    repeat (first | refine t_seq ?_ | refine t_region ?_ | refine to_nil ?_ | refine to_q rfl rfl rfl ?_ | refine t_exit rfl ?_)
    exact t_ret (RP b ⟨_, us, uo⟩ y) Tryz.func56 (.tmp rfl .nil) ⟨rfl, rfl⟩
end Go.Proofs.YtbffngeameenoaaGreat
end

section
set_option maxRecDepth 100000
set_option linter.unusedVariables false
set_option linter.unusedSimpArgs false
namespace Go.Proofs.YtbffngeameenoaaGreat
open Go Go.Au
attribute [local irreducible] T TO

/-- how many files: places at which another name begins -/
def fileC (V : List RVer) : Nat → Nat
  | 0 => 0
  | i + 1 => fileC V i + (if i = 0 ∨ (V[i]?).map (·.name) ≠ (V[i - 1]?).map (·.name) then 1 else 0)
theorem fileC_le (V : List RVer) : ∀ i, fileC V i ≤ i
  | 0 => Nat.le_refl _
  | i + 1 => by
    have := fileC_le V i
    unfold fileC
    split <;> omega
def ofName (V : List RVer) (name : ByteArray) : List RVer := V.filter fun q => decide (q.name = name)
def topG (l : List RVer) : Int := match l.getLast? with
  | some q => q.gen
  | none => 0
theorem ofName_snoc (V : List RVer) (name : ByteArray) (q : RVer) : ofName (V ++ [q]) name = if q.name = name then ofName V name ++ [q] else ofName V name := by
  unfold ofName
  rw [List.filter_append]
  by_cases h : q.name = name
  · simp [h]
  · simp [h]
theorem topG_snoc (l : List RVer) (q : RVer) : topG (l ++ [q]) = q.gen := by simp [topG]
theorem ofName_le (V : List RVer) (name : ByteArray) : (ofName V name).length ≤ V.length := List.length_filter_le _ _
theorem rcount_sp (b : Nat) (y : RM) (u : RU) (name : ByteArray) (F : Frz) (h : RY F y u) (z : RSz y) :
    Sp Tryz.prog 83 [ptr b, .string name] (RP b u y) F (fun v B F' => v = .tuple #[.int .i64 (fileC y.V y.V.length), .int .i64 (ofName y.V name).length, .int .i64 (topG (ofName y.V name))] ∧ B = RP b u y) := by
  obtain ⟨uv, us, uo⟩ := u
  obtain ⟨hv, hs, ho⟩ := h
  obtain ⟨va, vc, rfl⟩ := slR_len hv
  have hz := z.v
  refine sp_of Tryz.func83 rfl (by kernel_rfl) rfl fun R => ?_
  repeat (first | refine t_seq ?_ | refine t_block ?_ | refine t_region ?_ | refine to_nil ?_ | refine to_q rfl rfl rfl ?_)
  refine t_loopJ (R := R) (fun i : Nat => y.V.length - i) (fun _ => RP b ⟨.slice va y.V.length vc, us, uo⟩ y) (fun i => [(0, ptr b), (1, .string name), (7, .int .i64 (fileC y.V i)), (8, .int .i64 (ofName (y.V.take i) name).length), (9, .int .i64 (topG (ofName (y.V.take i) name))), (10, .int .i64 i)])
    (fun i _ => i ≤ y.V.length) 0 (by repeat (first | exact trivial | refine ⟨rfl, ?_⟩)) (Nat.zero_le _) ?_
  intro i F1 le1 hi ih
  have hf1 := fileC_le y.V i
  have hf2 := ofName_le (y.V.take i) name
  rw [List.length_take] at hf2
  repeat (first | refine t_seq ?_ | refine t_region ?_ | refine to_nil ?_ | refine to_q rfl rfl rfl ?_ | refine to_fa rfl rfl ?_ | refine to_ld rfl rfl rfl ?_ | refine to_lenS rfl rfl rfl ?_)
  refine t_condT rfl (fun hlt => ?_) (fun hlt => ?_)
  · simp only [decide_eq_true_eq] at hlt
    have hlt : i < y.V.length := by omega
    have hc := List.getElem?_eq_getElem hlt
    generalize y.V[i] = q at hc
    obtain ⟨b_e, o_e, cap_e, u_e, e_e, hl_e, r_e, ro_e⟩ := slR_elem (P := Tryz.prog) (t := 101) (by_ := 56) hv hc
    cases e_e
    cases r_e
    have hso : ofName (y.V.take (i + 1)) name = if q.name = name then ofName (y.V.take i) name ++ [q] else ofName (y.V.take i) name := by rw [take_snoc' hc, ofName_snoc]
    repeat (first | refine t_seq ?_ | refine t_block ?_ | refine t_skip ?_)
    refine t_drawn1 (by kernel_rfl) (by kernel_rfl) ?_
    repeat (refine to_q rfl rfl rfl ?_)
    refine to_gd rfl rfl (fun h1 => ?_) (fun h1 => ?_)
    · simp only [beq_iff_eq] at h1
      have hi0 : i = 0 := by omega
      have hf : fileC y.V (i + 1) = fileC y.V i + 1 := by rw [fileC, if_pos (.inl hi0)]
      repeat (first | refine t_seq ?_ | refine t_region ?_ | refine to_nil ?_ | refine to_no rfl ?_ | refine to_q rfl rfl rfl ?_ | refine to_fa rfl rfl ?_ | refine to_ld rfl rfl rfl ?_
                    | refine to_add rfl rfl rfl (by omega) (by omega) ?_ | refine t_cond (t := true) rfl (fun _ => ?_) (fun h => nomatch h))
      refine to_ia rfl rfl rfl rfl hl_e ?_
      repeat (refine to_fa rfl rfl ?_)
      refine to_ldR (F0 := F) rfl rfl (ro_e.one (j := 0) (v := (.string q.name)) rfl) ?_
      repeat (first | refine to_nil ?_ | refine to_q rfl rfl rfl ?_)
      refine t_condT rfl (fun h2 => ?_) (fun h2 => ?_)
      · rw [ba_beq, decide_eq_true_eq] at h2
        rw [if_pos h2] at hso
        repeat (first | refine t_seq ?_ | refine t_region ?_ | refine to_nil ?_ | refine to_q rfl rfl rfl ?_ | refine to_fa rfl rfl ?_ | refine to_ld rfl rfl rfl ?_ | refine to_add rfl rfl rfl (by omega) (by omega) ?_)
        refine to_ia rfl rfl rfl rfl hl_e ?_
        repeat (refine to_fa rfl rfl ?_)
        refine to_ldR (F0 := F) rfl rfl (ro_e.one (j := 1) (v := (.int .i64 q.gen)) rfl) ?_
        repeat (first | refine t_region ?_ | refine to_nil ?_ | refine t_inBlock ?_ | refine to_q rfl rfl rfl ?_ | refine to_add rfl rfl rfl (by omega) (by omega) ?_)
        refine t_re (A := RP b ⟨_, us, uo⟩ y) (R := R) (ih (i + 1) F1 ⟨.refl _⟩ (by omega) (by omega)) (by rw [hso, hf, topG_snoc, List.length_append]; exact (by repeat (first | exact trivial | refine ⟨rfl, ?_⟩)))
      · rw [ba_beq, decide_eq_false_iff_not] at h2
        rw [if_neg h2] at hso
        repeat (first | refine t_region ?_ | refine to_nil ?_ | refine t_skip ?_ | refine t_inBlock ?_ | refine to_q rfl rfl rfl ?_ | refine to_add rfl rfl rfl (by omega) (by omega) ?_)
        refine t_re (A := RP b ⟨_, us, uo⟩ y) (R := R) (ih (i + 1) F1 ⟨.refl _⟩ (by omega) (by omega)) (by rw [hso, hf]; exact (by repeat (first | exact trivial | refine ⟨rfl, ?_⟩)))
    · simp only [beq_eq_false_iff_ne] at h1
      have hi0 : i ≠ 0 := by omega
      have hlt0 : i - 1 < y.V.length := by omega
      have hc0 := List.getElem?_eq_getElem hlt0
      generalize y.V[i - 1] = p at hc0
      have hii : (i : Int) - 1 = ((i - 1 : Nat) : Int) := by omega
      obtain ⟨b0, o0, cap0, u0, e0, hl0, r0, ro0⟩ := slR_elem (P := Tryz.prog) (t := 101) (by_ := 56) hv hc0
      cases e0
      cases r0
      repeat (first | refine to_q rfl rfl rfl ?_ | refine to_fa rfl rfl ?_ | refine to_ld rfl rfl rfl ?_)
      refine to_ia rfl rfl rfl rfl hl_e ?_
      repeat (refine to_fa rfl rfl ?_)
      refine to_ldR (F0 := F) rfl rfl (ro_e.one (j := 0) (v := (.string q.name)) rfl) ?_
      repeat (first | refine to_q rfl rfl rfl ?_ | refine to_fa rfl rfl ?_ | refine to_ld rfl rfl rfl ?_ | refine to_sub_ rfl rfl rfl (by omega) (by omega) ?_)
      refine to_ia rfl rfl rfl hii hl0 ?_
      repeat (refine to_fa rfl rfl ?_)
      refine to_ldR (F0 := F) rfl rfl (ro0.one (j := 0) (v := .string p.name) rfl) ?_
      repeat (first | refine to_nil ?_ | refine to_q rfl rfl rfl ?_)
      refine t_condT rfl (fun h3 => ?_) (fun h3 => ?_)
      · rw [ba_beq] at h3
        have hx : (y.V[i]?).map (·.name) ≠ (y.V[i - 1]?).map (·.name) := by rw [hc, hc0]; simpa using h3
        have hf : fileC y.V (i + 1) = fileC y.V i + 1 := by rw [fileC, if_pos (.inr hx)]
        repeat (first | refine t_seq ?_ | refine t_region ?_ | refine to_nil ?_ | refine to_q rfl rfl rfl ?_ | refine to_fa rfl rfl ?_ | refine to_ld rfl rfl rfl ?_ | refine to_add rfl rfl rfl (by omega) (by omega) ?_)
        refine to_ia rfl rfl rfl rfl hl_e ?_
        repeat (refine to_fa rfl rfl ?_)
        refine to_ldR (F0 := F) rfl rfl (ro_e.one (j := 0) (v := (.string q.name)) rfl) ?_
        repeat (first | refine to_nil ?_ | refine to_q rfl rfl rfl ?_)
        refine t_condT rfl (fun h2 => ?_) (fun h2 => ?_)
        · rw [ba_beq, decide_eq_true_eq] at h2
          rw [if_pos h2] at hso
          repeat (first | refine t_seq ?_ | refine t_region ?_ | refine to_nil ?_ | refine to_q rfl rfl rfl ?_ | refine to_fa rfl rfl ?_ | refine to_ld rfl rfl rfl ?_ | refine to_add rfl rfl rfl (by omega) (by omega) ?_)
          refine to_ia rfl rfl rfl rfl hl_e ?_
          repeat (refine to_fa rfl rfl ?_)
          refine to_ldR (F0 := F) rfl rfl (ro_e.one (j := 1) (v := (.int .i64 q.gen)) rfl) ?_
          repeat (first | refine t_region ?_ | refine to_nil ?_ | refine t_inBlock ?_ | refine to_q rfl rfl rfl ?_ | refine to_add rfl rfl rfl (by omega) (by omega) ?_)
          refine t_re (A := RP b ⟨_, us, uo⟩ y) (R := R) (ih (i + 1) F1 ⟨.refl _⟩ (by omega) (by omega)) (by rw [hso, hf, topG_snoc, List.length_append]; exact (by repeat (first | exact trivial | refine ⟨rfl, ?_⟩)))
        · rw [ba_beq, decide_eq_false_iff_not] at h2
          rw [if_neg h2] at hso
          repeat (first | refine t_region ?_ | refine to_nil ?_ | refine t_skip ?_ | refine t_inBlock ?_ | refine to_q rfl rfl rfl ?_ | refine to_add rfl rfl rfl (by omega) (by omega) ?_)
          refine t_re (A := RP b ⟨_, us, uo⟩ y) (R := R) (ih (i + 1) F1 ⟨.refl _⟩ (by omega) (by omega)) (by rw [hso, hf]; exact (by repeat (first | exact trivial | refine ⟨rfl, ?_⟩)))
      · rw [ba_beq] at h3
        have hf : fileC y.V (i + 1) = fileC y.V i := by
          rw [fileC, if_neg, Nat.add_zero]
          rw [hc, hc0]
          rintro (h | h)
          · exact hi0 h
          · exact h (by simpa using h3)
        repeat (first | refine t_seq ?_ | refine t_region ?_ | refine t_skip ?_ | refine to_q rfl rfl rfl ?_ | refine to_fa rfl rfl ?_ | refine to_ld rfl rfl rfl ?_)
        refine to_ia rfl rfl rfl rfl hl_e ?_
        repeat (refine to_fa rfl rfl ?_)
        refine to_ldR (F0 := F) rfl rfl (ro_e.one (j := 0) (v := (.string q.name)) rfl) ?_
        repeat (first | refine to_nil ?_ | refine to_q rfl rfl rfl ?_)
        refine t_condT rfl (fun h2 => ?_) (fun h2 => ?_)
        · rw [ba_beq, decide_eq_true_eq] at h2
          rw [if_pos h2] at hso
          repeat (first | refine t_seq ?_ | refine t_region ?_ | refine to_nil ?_ | refine to_q rfl rfl rfl ?_ | refine to_fa rfl rfl ?_ | refine to_ld rfl rfl rfl ?_ | refine to_add rfl rfl rfl (by omega) (by omega) ?_)
          refine to_ia rfl rfl rfl rfl hl_e ?_
          repeat (refine to_fa rfl rfl ?_)
          refine to_ldR (F0 := F) rfl rfl (ro_e.one (j := 1) (v := (.int .i64 q.gen)) rfl) ?_
          repeat (first | refine t_region ?_ | refine to_nil ?_ | refine t_inBlock ?_ | refine to_q rfl rfl rfl ?_ | refine to_add rfl rfl rfl (by omega) (by omega) ?_)
          refine t_re (A := RP b ⟨_, us, uo⟩ y) (R := R) (ih (i + 1) F1 ⟨.refl _⟩ (by omega) (by omega)) (by rw [hso, hf, topG_snoc, List.length_append]; exact (by repeat (first | exact trivial | refine ⟨rfl, ?_⟩)))
        · rw [ba_beq, decide_eq_false_iff_not] at h2
          rw [if_neg h2] at hso
          repeat (first | refine t_region ?_ | refine to_nil ?_ | refine t_skip ?_ | refine t_inBlock ?_ | refine to_q rfl rfl rfl ?_ | refine to_add rfl rfl rfl (by omega) (by omega) ?_)
          refine t_re (A := RP b ⟨_, us, uo⟩ y) (R := R) (ih (i + 1) F1 ⟨.refl _⟩ (by omega) (by omega)) (by rw [hso, hf]; exact (by repeat (first | exact trivial | refine ⟨rfl, ?_⟩)))
  · simp only [decide_eq_false_iff_not] at hlt
    have hie : i = y.V.length := by omega
    subst hie
    rw [List.take_length] at *
    repeat (first | refine t_seq ?_ | refine t_region ?_ | refine to_nil ?_ | refine to_q rfl rfl rfl ?_ | refine t_exit rfl ?_)
    exact t_ret (RP b ⟨_, us, uo⟩ y) Tryz.func83 (.tmp rfl (.tmp rfl (.tmp rfl .nil))) ⟨rfl, rfl⟩
def rheldB (S : List (ByteArray × List (ByteArray × Int))) (nm : ByteArray) (g : Int) : Bool := S.any fun q => q.2.any fun h => decide (h = (nm, g))
def keepR (S : List (ByteArray × List (ByteArray × Int))) (q : RVer) : Bool := rheldB S q.name q.gen || !q.gone
theorem rsweep_sp (b : Nat) (y : RM) (u : RU) (F : Frz) (h : RY F y u) (z : RSz y) (hS : ∀ q ∈ y.S, q.2.length ≤ 4096) :
    Sp Tryz.prog 58 [ptr b] (RP b u y) F (fun v B F' => ∃ u', RY F' { y with V := y.V.filter (keepR y.S) } u' ∧ B = RP b u' { y with V := y.V.filter (keepR y.S) }) := by
  obtain ⟨uv, us, uo⟩ := u
  obtain ⟨hv, hs, ho⟩ := h
  obtain ⟨va, vc, rfl⟩ := slR_len hv
  obtain ⟨sa, sc, rfl⟩ := slR_len hs
  have hz := z.v
  have hzs := z.s
  refine sp_of Tryz.func58 rfl (by kernel_rfl) rfl fun R => ?_
  refine t_seq ?_
  refine t_region ?_
  refine to_bsl (len := 0) rfl rfl rfl rfl fun b1 => ?_
  refine to_osl (n := 5) (b := b1) rverR [] .nil rfl ?_
  repeat (first | refine t_seq ?_ | refine t_block ?_ | refine t_region ?_ | refine to_nil ?_ | refine to_q rfl rfl rfl ?_)
  refine t_loopJ (R := R) (fun z : Nat × Value × List RVer => y.V.length - z.1) (fun z => OSl rverR 5 101 z.2.1 z.2.2 :: RP b ⟨.slice va y.V.length vc, .slice sa y.S.length sc, uo⟩ y)
    (fun z => [(0, ptr b), (2, z.2.1), (3, .int .i64 z.1)]) (fun z _ => z.1 ≤ y.V.length ∧ z.2.2 = (y.V.take z.1).filter (keepR y.S)) (0, .slice (some ⟨b1, 0, none⟩) 0 0, []) (by repeat (first | exact trivial | refine ⟨rfl, ?_⟩)) ⟨Nat.zero_le _, rfl⟩ ?_
  rintro ⟨i, w, acc⟩ F1 le1 hg ih
  dsimp only at hg ih ⊢
  obtain ⟨hi, hacc⟩ := hg
  repeat (first | refine t_seq ?_ | refine t_region ?_ | refine to_nil ?_ | refine to_q rfl rfl rfl ?_ | refine to_fa rfl rfl ?_ | refine to_ld rfl rfl rfl ?_ | refine to_lenS rfl rfl rfl ?_)
  refine t_condT rfl (fun hlt => ?_) (fun hlt => ?_)
  · simp only [decide_eq_true_eq] at hlt
    have hlt : i < y.V.length := by omega
    have hc := List.getElem?_eq_getElem hlt
    generalize y.V[i] = q at hc
    obtain ⟨b_e, o_e, cap_e, u_e, e_e, hl_e, r_e, ro_e⟩ := slR_elem (P := Tryz.prog) (t := 101) (by_ := 56) hv hc
    cases e_e
    cases r_e
    have hal : acc.length ≤ 4096 := by
      rw [hacc]
      refine Nat.le_trans (List.length_filter_le _ _) ?_
      rw [List.length_take]; omega
    have hsn : (y.V.take (i + 1)).filter (keepR y.S) = if keepR y.S q then acc ++ [q] else acc := by
      rw [take_snoc' hc, List.filter_append, ← hacc]
      by_cases h : keepR y.S q = true
      · simp [h]
      · simp [h]
    repeat (first | refine t_seq ?_ | refine t_block ?_ | refine t_region ?_ | refine to_nil ?_ | refine t_skip ?_ | refine to_q rfl rfl rfl ?_)
    refine t_loopJ (R := R) (fun k : Nat => y.S.length - k) (fun _ => OSl rverR 5 101 w acc :: RP b ⟨.slice (some ⟨b_e, o_e, none⟩) y.V.length vc, .slice sa y.S.length sc, uo⟩ y)
      (fun k => [(0, ptr b), (2, w), (3, .int .i64 i), (4, .bool (rheldB (y.S.take k) q.name q.gen)), (5, .int .i64 k)]) (fun k _ => k ≤ y.S.length) 0 (by repeat (first | exact trivial | refine ⟨rfl, ?_⟩)) (Nat.zero_le _) ?_
    intro k F2 le2 hk ih2
    repeat (first | refine t_seq ?_ | refine t_region ?_ | refine to_nil ?_ | refine to_q rfl rfl rfl ?_ | refine to_fa rfl rfl ?_ | refine to_ld rfl rfl rfl ?_ | refine to_lenS rfl rfl rfl ?_)
    refine t_condT rfl (fun hltk => ?_) (fun hltk => ?_)
    · simp only [decide_eq_true_eq] at hltk
      have hltk : k < y.S.length := by omega
      have hck := List.getElem?_eq_getElem hltk
      have hqS : y.S[k] ∈ y.S := List.getElem_mem hltk
      generalize y.S[k] = sh at hck hqS
      have hsnk : rheldB (y.S.take (k + 1)) q.name q.gen = (rheldB (y.S.take k) q.name q.gen || sh.2.any fun h => decide (h = (q.name, q.gen))) := by
        unfold rheldB
        rw [take_snoc' hck, List.any_append]; simp
      have hshl := hS sh hqS
      obtain ⟨b_s, o_s, cap_s, u_s, e_s, hl_s, ⟨hv_s, ve_s, vr_s⟩, ro_s⟩ := slR_elem (P := Tryz.prog) (t := 103) (by_ := 40) hs hck
      cases e_s
      cases ve_s
      obtain ⟨ha, hac, rfl⟩ := slR_len vr_s
      repeat (first | refine t_seq ?_ | refine t_block ?_ | refine t_region ?_ | refine to_nil ?_ | refine t_skip ?_ | refine to_q rfl rfl rfl ?_)
      refine t_loopJ (R := R) (fun j : Nat => sh.2.length - j) (fun _ => OSl rverR 5 101 w acc :: RP b ⟨.slice (some ⟨b_e, o_e, none⟩) y.V.length vc, .slice (some ⟨b_s, o_s, none⟩) y.S.length sc, uo⟩ y)
        (fun j => [(0, ptr b), (2, w), (3, .int .i64 i), (4, .bool (rheldB (y.S.take k) q.name q.gen || (sh.2.take j).any fun h => decide (h = (q.name, q.gen)))), (5, .int .i64 k), (6, .int .i64 j)]) (fun j _ => j ≤ sh.2.length) 0 (by rw [List.take_zero, List.any_nil, Bool.or_false]; exact (by repeat (first | exact trivial | refine ⟨rfl, ?_⟩))) (Nat.zero_le _) ?_
      intro j F3 le3 hj ih3
      repeat (first | refine t_seq ?_ | refine t_region ?_ | refine to_q rfl rfl rfl ?_ | refine to_fa rfl rfl ?_ | refine to_ld rfl rfl rfl ?_)
      refine to_ia rfl rfl rfl rfl hl_s ?_
      repeat (refine to_fa rfl rfl ?_)
      refine to_ldR (F0 := F) rfl rfl (ro_s.one (j := 1) (v := (.slice ha sh.2.length hac)) rfl) ?_
      repeat (first | refine to_nil ?_ | refine to_q rfl rfl rfl ?_ | refine to_lenS rfl rfl rfl ?_)
      refine t_condT rfl (fun hltj => ?_) (fun hltj => ?_)
      · simp only [decide_eq_true_eq] at hltj
        have hltj : j < sh.2.length := by omega
        have hcj := List.getElem?_eq_getElem hltj
        generalize sh.2[j] = hd at hcj
        have hsnj : (sh.2.take (j + 1)).any (fun h => decide (h = (q.name, q.gen))) = ((sh.2.take j).any (fun h => decide (h = (q.name, q.gen))) || decide (hd = (q.name, q.gen))) := by
          rw [take_snoc' hcj, List.any_append]; simp
        obtain ⟨b_h, o_h, cap_h, u_h, e_h, hl_h, r_h, ro_h⟩ := slR_elem (P := Tryz.prog) (t := 105) (by_ := 24) vr_s hcj
        cases e_h
        cases r_h
        generalize hcur : (rheldB (y.S.take k) q.name q.gen || (sh.2.take j).any fun h => decide (h = (q.name, q.gen))) = cur
        have hnew : (rheldB (y.S.take k) q.name q.gen || (sh.2.take (j + 1)).any fun h => decide (h = (q.name, q.gen))) = (cur || decide (hd = (q.name, q.gen))) := by rw [hsnj, ← hcur, Bool.or_assoc]
        repeat (first | refine t_seq ?_ | refine t_block ?_ | refine t_skip ?_)
        refine t_drawn1 (by kernel_rfl) (by kernel_rfl) ?_
        repeat (refine to_q rfl rfl rfl ?_)
        refine to_gd rfl rfl (fun h5 => ?_) (fun h5 => ?_)
        · repeat (first | refine t_region ?_ | refine to_nil ?_ | refine t_inBlock ?_ | refine to_no rfl ?_ | refine to_q rfl rfl rfl ?_ | refine to_add rfl rfl rfl (by omega) (by omega) ?_)
          refine t_re (A := OSl rverR 5 101 w acc :: RP b ⟨_, _, uo⟩ y) (R := R) (ih3 (j + 1) F3 ⟨.refl _⟩ (by omega) (by omega)) (by rw [hnew, h5, Bool.true_or]; exact (by repeat (first | exact trivial | refine ⟨rfl, ?_⟩)))
        · repeat (first | refine to_q rfl rfl rfl ?_ | refine to_fa rfl rfl ?_ | refine to_ld rfl rfl rfl ?_)
          refine to_ia rfl rfl rfl rfl hl_s ?_
          repeat (refine to_fa rfl rfl ?_)
          refine to_ldR (F0 := F) rfl rfl (ro_s.one (j := 1) (v := (.slice (some ⟨b_h, o_h, none⟩) sh.2.length hac)) rfl) ?_
          repeat (refine to_q rfl rfl rfl ?_)
          refine to_ia rfl rfl rfl rfl hl_h ?_
          skip
          refine to_ldV (F1 := F) (ρ := heldR) (q := hd) rfl ro_h rfl rfl ?_
          repeat (first | refine to_q rfl rfl rfl ?_ | refine to_fa rfl rfl ?_ | refine to_ld rfl rfl rfl ?_)
          refine to_ia rfl rfl rfl rfl hl_e ?_
          repeat (refine to_fa rfl rfl ?_)
          refine to_ldR (F0 := F) rfl rfl (ro_e.one (j := 0) (v := (.string q.name)) rfl) ?_
          repeat (first | refine to_q rfl rfl rfl ?_ | refine to_fa rfl rfl ?_ | refine to_ld rfl rfl rfl ?_)
          refine to_ia rfl rfl rfl rfl hl_e ?_
          repeat (refine to_fa rfl rfl ?_)
          refine to_ldR (F0 := F) rfl rfl (ro_e.one (j := 1) (v := (.int .i64 q.gen)) rfl) ?_
          repeat (refine to_bs rfl rfl rfl rfl ?_)
          refine to_eqA (by kernel_rfl) rfl rfl rfl (eq_held hd (q.name, q.gen)) ?_
          repeat (first | refine t_region ?_ | refine to_nil ?_ | refine t_inBlock ?_ | refine to_q rfl rfl rfl ?_ | refine to_add rfl rfl rfl (by omega) (by omega) ?_)
          refine t_re (A := OSl rverR 5 101 w acc :: RP b ⟨_, _, uo⟩ y) (R := R) (ih3 (j + 1) F3 ⟨.refl _⟩ (by omega) (by omega)) (by rw [hnew, h5, Bool.false_or]; exact (by repeat (first | exact trivial | refine ⟨rfl, ?_⟩)))
      · simp only [decide_eq_false_iff_not] at hltj
        have hje : sh.2.take j = sh.2 := List.take_of_length_le (by omega)
        rw [hje]
        repeat (first | refine t_region ?_ | refine to_nil ?_ | refine t_inBlock ?_ | refine to_q rfl rfl rfl ?_ | refine to_add rfl rfl rfl (by omega) (by omega) ?_ | refine t_exit rfl ?_)
        refine t_re (A := OSl rverR 5 101 w acc :: RP b ⟨_, _, uo⟩ y) (R := R) (ih2 (k + 1) F3 le3 (by omega) (by omega)) (by rw [hsnk]; exact (by repeat (first | exact trivial | refine ⟨rfl, ?_⟩)))
    · simp only [decide_eq_false_iff_not] at hltk
      have hke : y.S.take k = y.S := List.take_of_length_le (by omega)
      rw [hke]
      generalize hcur : rheldB y.S q.name q.gen = cur
      repeat (first | refine t_seq ?_ | refine t_region ?_ | refine to_q rfl rfl rfl ?_ | refine t_exit rfl ?_)
      refine to_gd rfl rfl (fun h6 => ?_) (fun h6 => ?_)
      · have hkp : keepR y.S q = true := by simp [keepR, hcur, h6]
        repeat (first | refine t_region ?_ | refine to_nil ?_ | refine to_no rfl ?_ | refine to_q rfl rfl rfl ?_ | refine to_fa rfl rfl ?_ | refine to_ld rfl rfl rfl ?_
                      | refine t_cond (t := true) rfl (fun _ => ?_) (fun h => nomatch h))
        refine to_ia rfl rfl rfl rfl hl_e ?_
        refine to_ldV (F1 := F) (ρ := rverR) (q := q) rfl ro_e rfl rfl ?_
        refine to_bsl (len := 1) rfl rfl rfl rfl fun b3 => ?_
        refine to_app1 (ρ := rverR) (q := q) (u := rverV q) rfl rfl rfl rfl rfl rfl (by omega) fun w2 => ?_
        repeat (first | refine t_region ?_ | refine to_nil ?_ | refine t_inBlock ?_ | refine to_q rfl rfl rfl ?_ | refine to_add rfl rfl rfl (by omega) (by omega) ?_)
        refine t_re (A := OSl rverR 5 101 w2 (acc ++ [q]) :: RP b ⟨_, _, uo⟩ y) (R := R)
          (ih (i + 1, w2, acc ++ [q]) F2 le2 (by dsimp only; omega) ⟨by dsimp only; omega, by dsimp only; rw [hsn, if_pos hkp]⟩) (by repeat (first | exact trivial | refine ⟨rfl, ?_⟩))
      · repeat (first | refine to_q rfl rfl rfl ?_ | refine to_fa rfl rfl ?_ | refine to_ld rfl rfl rfl ?_)
        refine to_ia rfl rfl rfl rfl hl_e ?_
        repeat (refine to_fa rfl rfl ?_)
        refine to_ldR (F0 := F) rfl rfl (ro_e.one (j := 4) (v := (.bool q.gone)) rfl) ?_
        repeat (first | refine to_nil ?_ | refine to_q rfl rfl rfl ?_)
        refine t_condT rfl (fun h7 => ?_) (fun h7 => ?_)
        · have hkp : keepR y.S q = true := by simp only [keepR, hcur, h6, h7]; simp
          repeat (first | refine t_region ?_ | refine to_q rfl rfl rfl ?_ | refine to_fa rfl rfl ?_ | refine to_ld rfl rfl rfl ?_)
          refine to_ia rfl rfl rfl rfl hl_e ?_
          refine to_ldV (F1 := F) (ρ := rverR) (q := q) rfl ro_e rfl rfl ?_
          refine to_bsl (len := 1) rfl rfl rfl rfl fun b3 => ?_
          refine to_app1 (ρ := rverR) (q := q) (u := rverV q) rfl rfl rfl rfl rfl rfl (by omega) fun w2 => ?_
          repeat (first | refine t_region ?_ | refine to_nil ?_ | refine t_inBlock ?_ | refine to_q rfl rfl rfl ?_ | refine to_add rfl rfl rfl (by omega) (by omega) ?_)
          refine t_re (A := OSl rverR 5 101 w2 (acc ++ [q]) :: RP b ⟨_, _, uo⟩ y) (R := R)
            (ih (i + 1, w2, acc ++ [q]) F2 le2 (by dsimp only; omega) ⟨by dsimp only; omega, by dsimp only; rw [hsn, if_pos hkp]⟩) (by repeat (first | exact trivial | refine ⟨rfl, ?_⟩))
        · have hkp : keepR y.S q = false := by simp only [keepR, hcur, h6, h7]; simp
          repeat (first | refine t_region ?_ | refine to_nil ?_ | refine t_skip ?_ | refine t_inBlock ?_ | refine to_q rfl rfl rfl ?_ | refine to_add rfl rfl rfl (by omega) (by omega) ?_)
          refine t_re (A := OSl rverR 5 101 w acc :: RP b ⟨_, _, uo⟩ y) (R := R)
            (ih (i + 1, w, acc) F2 le2 (by dsimp only; omega) ⟨by dsimp only; omega, by dsimp only; rw [hsn, hkp]; simp⟩) (by repeat (first | exact trivial | refine ⟨rfl, ?_⟩))
  · simp only [decide_eq_false_iff_not] at hlt
    have hie : y.V.take i = y.V := List.take_of_length_le (by omega)
    rw [hie] at hacc
    repeat (first | refine t_region ?_ | refine to_q rfl rfl rfl ?_ | refine to_fa rfl rfl ?_ | refine t_exit rfl ?_)
    refine to_freeze w fun F2 le2 hw => ?_
    obtain ⟨na, nc, rfl⟩ := slR_len hw
    subst hacc
    repeat (first | refine to_nil ?_ | refine to_st rfl rfl rfl rfl rfl ?_)
    exact t_end (RP b ⟨.slice na (y.V.filter (keepR y.S)).length nc, .slice sa y.S.length sc, uo⟩ { y with V := y.V.filter (keepR y.S) }) Tryz.func58 .nil
      ⟨⟨.slice na (y.V.filter (keepR y.S)).length nc, .slice sa y.S.length sc, uo⟩, ⟨hw, (slR rshotR 2).mono (le1.h.trans le2.h) hs, (slR rsesR 3).mono (le1.h.trans le2.h) ho⟩, rfl⟩
end Go.Proofs.YtbffngeameenoaaGreat
end

section
set_option maxRecDepth 100000
set_option linter.unusedVariables false
set_option linter.unusedSimpArgs false
namespace Go.Proofs.YtbffngeameenoaaGreat
open Go Go.Au
attribute [local irreducible] T TO

theorem rgone_sp (b : Nat) (y : RM) (u : RU) (i : Nat) (q : RVer) (F : Frz) (h : RY F y u) (z : RSz y) (hq : y.V[i]? = some q) :
    Sp Tryz.prog 57 [ptr b, .int .i64 i] (RP b u y) F (fun v B F' => ∃ u', RY F' { y with V := y.V.set i { q with gone := true } } u' ∧ B = RP b u' { y with V := y.V.set i { q with gone := true } }) := by
  obtain ⟨uv, us, uo⟩ := u
  obtain ⟨hv, hs, ho⟩ := h
  obtain ⟨va, vc, rfl⟩ := slR_len hv
  have hz := z.v
  have hi := (List.getElem?_eq_some_iff.1 hq).1
  refine sp_of Tryz.func57 rfl (by kernel_rfl) rfl fun R => ?_
  refine t_seq ?_
  refine t_region ?_
  refine to_bsl (len := 0) rfl rfl rfl rfl fun b1 => ?_
  refine to_osl (n := 5) (b := b1) rverR [] .nil rfl ?_
  repeat (first | refine to_q rfl rfl rfl ?_ | refine to_fa rfl rfl ?_ | refine to_ld rfl rfl rfl ?_)
  refine to_appR hv rfl rfl rfl rfl (by simp; omega) fun v1 => ?_
  rw [List.nil_append]
  repeat (first | refine t_seq ?_ | refine t_region ?_ | refine to_nil ?_ | refine to_q rfl rfl rfl ?_)
  refine to_lit v1 (ρ := rverR) (List.ne_nil_of_length_pos (show 0 < y.V.length by omega)) fun b2 cap2 ev => ?_
  subst ev
  refine to_ia (j := i) rfl rfl rfl rfl hi ?_
  refine to_fa rfl rfl ?_
  refine to_stF (ρ := rverR) (j := i) (f := 4) (m := 1) (q := q) (q' := { q with gone := true }) rfl rfl rfl rfl hq rfl (by intro c hc; cases List.mem_singleton.1 hc; rfl) (by omega) (fun u hu => ⟨_, rfl, by cases hu; rfl⟩) ?_
  refine to_freeze (Value.slice (some ⟨b2, 0, none⟩) y.V.length cap2) fun F7 le7 hu7 => ?_
  repeat (first | refine t_region ?_ | refine to_nil ?_ | refine to_q rfl rfl rfl ?_ | refine to_fa rfl rfl ?_ | refine to_st rfl rfl rfl rfl rfl ?_)
  exact t_end (RP b ⟨.slice (some ⟨b2, 0, none⟩) y.V.length cap2, us, uo⟩ { y with V := y.V.set i { q with gone := true } }) Tryz.func57 .nil
    ⟨⟨.slice (some ⟨b2, 0, none⟩) y.V.length cap2, us, uo⟩, ⟨hu7, (slR rshotR 2).mono le7.h hs, (slR rsesR 3).mono le7.h ho⟩, rfl⟩
/-- the newest live generation of each file -/
def rnamesI (V : List RVer) : Nat → List (ByteArray × Int)
  | 0 => []
  | i + 1 => rnamesI V i ++ (match V[i]? with
    | some q => if lastI (rfindP q.name 0) V = some i then [(q.name, q.gen)] else []
    | none => [])
theorem rnamesI_le (V : List RVer) : ∀ i, (rnamesI V i).length ≤ i
  | 0 => by simp [rnamesI]
  | i + 1 => by
    have := rnamesI_le V i
    unfold rnamesI
    rw [List.length_append]
    split
    · split <;> simp <;> omega
    · simp; omega
def rnames (V : List RVer) : List (ByteArray × Int) := rnamesI V V.length
theorem rnames_sp (b : Nat) (y : RM) (u : RU) (F : Frz) (h : RY F y u) (z : RSz y) :
    Sp Tryz.prog 22 [ptr b] (RP b u y) F (fun v B F' => (slR heldR 2).r F' (rnames y.V) v ∧ B = RP b u y) := by
  obtain ⟨uv, us, uo⟩ := u
  have h' := h
  obtain ⟨hv, hs, ho⟩ := h
  obtain ⟨va, vc, rfl⟩ := slR_len hv
  have hz := z.v
  refine sp_of Tryz.func22 rfl (by kernel_rfl) rfl fun R => ?_
  repeat (first | refine t_seq ?_ | refine t_region ?_ | refine to_nil ?_ | refine to_q rfl rfl rfl ?_)
  refine to_bsl (len := 0) rfl rfl rfl rfl fun b1 => ?_
  refine to_osl (n := 2) (b := b1) heldR [] .nil rfl ?_
  repeat (first | refine t_seq ?_ | refine t_block ?_ | refine t_region ?_ | refine to_nil ?_ | refine to_q rfl rfl rfl ?_)
  refine t_loopJ (R := R) (fun z : Nat × Value × List (ByteArray × Int) => y.V.length - z.1) (fun z => OSl heldR 2 105 z.2.1 z.2.2 :: RP b ⟨.slice va y.V.length vc, us, uo⟩ y)
    (fun z => [(0, ptr b), (3, z.2.1), (4, .int .i64 z.1)]) (fun z _ => z.1 ≤ y.V.length ∧ z.2.2 = rnamesI y.V z.1) (0, .slice (some ⟨b1, 0, none⟩) 0 0, []) (by repeat (first | exact trivial | refine ⟨rfl, ?_⟩)) ⟨Nat.zero_le _, rfl⟩ ?_
  rintro ⟨i, w, acc⟩ F1 le1 hg ih
  dsimp only at hg ih ⊢
  obtain ⟨hi, hacc⟩ := hg
  have hal := rnamesI_le y.V i
  rw [← hacc] at hal
  repeat (first | refine t_seq ?_ | refine t_region ?_ | refine to_nil ?_ | refine to_q rfl rfl rfl ?_ | refine to_fa rfl rfl ?_ | refine to_ld rfl rfl rfl ?_ | refine to_lenS rfl rfl rfl ?_)
  refine t_condT rfl (fun hlt => ?_) (fun hlt => ?_)
  · simp only [decide_eq_true_eq] at hlt
    have hlt : i < y.V.length := by omega
    have hc := List.getElem?_eq_getElem hlt
    generalize y.V[i] = q at hc
    have hsn : rnamesI y.V (i + 1) = acc ++ (if lastI (rfindP q.name 0) y.V = some i then [(q.name, q.gen)] else []) := by rw [rnamesI, hc, hacc]
    obtain ⟨b_e, o_e, cap_e, u_e, e_e, hl_e, r_e, ro_e⟩ := slR_elem (P := Tryz.prog) (t := 101) (by_ := 56) hv hc
    cases e_e
    cases r_e
    repeat (first | refine t_seq ?_ | refine t_block ?_ | refine t_region ?_ | refine t_skip ?_ | refine to_q rfl rfl rfl ?_ | refine to_fa rfl rfl ?_ | refine to_ld rfl rfl rfl ?_)
    refine to_ia rfl rfl rfl rfl hl_e ?_
    repeat (refine to_fa rfl rfl ?_)
    refine to_ldR (F0 := F) rfl rfl (ro_e.one (j := 0) (v := (.string q.name)) rfl) ?_
    skip
    refine to_call rfl rfl (rfind_sp b y _ q.name 0 _ (h'.mono le1.h) z) fun v B F2 le2 h2 => ?_
    obtain ⟨rfl, rfl⟩ := h2
    repeat (first | refine to_nil ?_ | refine to_q rfl rfl rfl ?_)
    refine t_condT rfl (fun h3 => ?_) (fun h3 => ?_)
    · simp only [beq_iff_eq] at h3
      have h3 : lastI (rfindP q.name 0) y.V = some i := by
        cases hl : lastI (rfindP q.name 0) y.V with
        | none => rw [hl] at h3; simp only [ixO] at h3; omega
        | some j => rw [hl] at h3; simp only [ixO] at h3; congr 1; omega
      skip
      refine t_drawn1 (by kernel_rfl) (by kernel_rfl) ?_
      repeat (first | refine to_q rfl rfl rfl ?_ | refine to_fa rfl rfl ?_ | refine to_ld rfl rfl rfl ?_)
      refine to_ia rfl rfl rfl rfl hl_e ?_
      repeat (refine to_fa rfl rfl ?_)
      refine to_ldR (F0 := F) rfl rfl (ro_e.one (j := 0) (v := (.string q.name)) rfl) ?_
      repeat (first | refine to_q rfl rfl rfl ?_ | refine to_fa rfl rfl ?_ | refine to_ld rfl rfl rfl ?_)
      refine to_ia rfl rfl rfl rfl hl_e ?_
      repeat (refine to_fa rfl rfl ?_)
      refine to_ldR (F0 := F) rfl rfl (ro_e.one (j := 1) (v := (.int .i64 q.gen)) rfl) ?_
      repeat (refine to_bs rfl rfl rfl rfl ?_)
      refine to_bsl (len := 1) rfl rfl rfl rfl fun b3 => ?_
      refine to_app1 (ρ := heldR) (q := (q.name, q.gen)) (u := .agg #[.string q.name, .int .i64 q.gen]) rfl rfl rfl rfl rfl rfl (by omega) fun w2 => ?_
      repeat (first | refine t_region ?_ | refine to_nil ?_ | refine t_inBlock ?_ | refine to_q rfl rfl rfl ?_ | refine to_add rfl rfl rfl (by omega) (by omega) ?_)
      refine t_re (A := OSl heldR 2 105 w2 (acc ++ [(q.name, q.gen)]) :: RP b ⟨_, us, uo⟩ y) (R := R)
        (ih (i + 1, w2, acc ++ [(q.name, q.gen)]) F2 le2 (by dsimp only; omega) ⟨by dsimp only; omega, by dsimp only; rw [hsn, if_pos h3]⟩) (by repeat (first | exact trivial | refine ⟨rfl, ?_⟩))
    · simp only [beq_eq_false_iff_ne] at h3
      have h3 : ¬ lastI (rfindP q.name 0) y.V = some i := fun e => h3 (by rw [e]; rfl)
      repeat (first | refine t_region ?_ | refine to_nil ?_ | refine t_skip ?_ | refine t_inBlock ?_ | refine to_q rfl rfl rfl ?_ | refine to_add rfl rfl rfl (by omega) (by omega) ?_)
      refine t_re (A := OSl heldR 2 105 w acc :: RP b ⟨_, us, uo⟩ y) (R := R)
        (ih (i + 1, w, acc) F2 le2 (by dsimp only; omega) ⟨by dsimp only; omega, by dsimp only; rw [hsn, if_neg h3, List.append_nil]⟩) (by repeat (first | exact trivial | refine ⟨rfl, ?_⟩))
  · simp only [decide_eq_false_iff_not] at hlt
    have hie : i = y.V.length := by omega
    subst hie
    repeat (first | refine t_seq ?_ | refine t_region ?_ | refine to_nil ?_ | refine to_q rfl rfl rfl ?_ | refine t_exit rfl ?_)
    refine t_freeze w fun F2 le2 hw => ?_
    exact t_ret (RP b ⟨_, us, uo⟩ y) Tryz.func22 (.tmp rfl .nil) ⟨by rw [rnames, ← hacc]; exact hw, rfl⟩
def baApp (t : ByteArray) (l : List UInt8) : ByteArray := t ++ ⟨l.toArray⟩
abbrev lostR (y : RM) (i : Nat) : RM := { y with O := y.O.take i ++ y.O.drop (i + 1) }
def writeR (y : RM) (p : Op1) (sp : Bool) : Int × Int × RM := match y.O.findIdx? (fun q : RSes => q.n == p.n) with
  | none => (9, 0, y)
  | some i => match y.O[i]? with
    | none => (9, 0, y)
    | some q =>
      if (q.text.size : Int) + p.bytes.length > 8192 then (6, 0, lostR y i)
      else if y.quota > 0 ∧ ((sumV y.V + sumO y.O : Nat) : Int) + p.bytes.length > y.quota then (11, 0, lostR y i)
      else if sp then (8, 0, lostR y i)
      else (0, 0, { y with O := y.O.set i { q with text := baApp q.text p.bytes } })
/-- an answer that only an error and a number make, beside what becomes of the reference -/
def rQ (b : Nat) (X : List HP) (t : Int × Int × RM) : Fin := fun v B F' => ∃ u', RY F' t.2.2 u' ∧ v = ansV t.1 t.2.1 nilS nilS ∧ B = X ++ RP b u' t.2.2
theorem rwrite_sp (b : Nat) (y : RM) (u : RU) (p : Op1) (sp c : Bool) (bv cv ct ca : Value) (F : Frz) (h : RY F y u) (z : RSz y) (hb : p.bytes.length ≤ 140737488355328) (hq' : -9223372036854775808 ≤ y.quota) (hq'' : y.quota ≤ 9223372036854775807) :
    Sp Tryz.prog 51 [ptr b, opV p bv cv ct ca, .bool sp] (byH c 5 bv p.bytes :: RP b u y) F (rQ b [byH c 5 bv p.bytes] (writeR y p sp)) := by
  obtain ⟨uv, us, uo⟩ := u
  have h' := h
  obtain ⟨hv, hs, ho⟩ := h
  obtain ⟨oa, oc, rfl⟩ := slR_len ho
  have hz := z.o
  have hsv : sumV y.V ≤ 33554432 := by have := sumV_le z y.V.length; rwa [List.take_length] at this
  have hso : sumO y.O ≤ 33554432 := by have := sumO_le z y.O.length; rwa [List.take_length] at this
  refine sp_of Tryz.func51 rfl (by kernel_rfl) rfl fun R => ?_
  repeat (first | refine t_seq ?_ | refine t_region ?_ | refine to_nil ?_ | refine to_q rfl rfl rfl ?_ | refine to_fa rfl rfl ?_ | refine to_ld rfl rfl rfl ?_ | refine to_alloc rfl fun _ => ?_
                | refine to_boxA rfl rfl fun _ => ?_)
  rename_i bop ba
  refine to_call rfl rfl (rsession_sp b y _ p.n _ h' z) fun v B F1 le1 h1 => ?_
  obtain ⟨rfl, rfl⟩ := h1
  cases hf : y.O.findIdx? (fun q : RSes => q.n == p.n) with
  | none =>
    have e : writeR y p sp = (9, 0, y) := by simp [writeR, hf]
    rw [show idxG (fun q : RSes => q.n == p.n) y.O = -1 from by simp [idxG, hf]]
    repeat (first | refine t_seq ?_ | refine t_region ?_ | refine to_nil ?_ | refine to_q rfl rfl rfl ?_ | refine t_cond (t := true) rfl (fun _ => ?_) (fun h => nomatch h))
    refine to_call rfl rfl (rwrong_sp 9 _) fun v B F2 le_F2 h => ?_
    obtain ⟨rfl, rfl⟩ := h
    repeat (first | refine to_nil ?_ | refine to_stA rfl rfl rfl rfl rfl rfl ?_)
    exact t_ret (byH c 5 bv p.bytes :: RP b ⟨uv, us, .slice oa y.O.length oc⟩ y) Tryz.func51 (.cellA rfl rfl .nil) (by rw [e]; exact ⟨⟨uv, us, .slice oa y.O.length oc⟩, h'.mono (le1.h.trans le_F2.h), rfl, rfl⟩)
  | some i =>
    have hi : i < y.O.length := (List.findIdx?_eq_some_iff_getElem.1 hf).1
    have hc := List.getElem?_eq_getElem hi
    generalize y.O[i] = q at hc
    rw [show idxG (fun q : RSes => q.n == p.n) y.O = i from by simp [idxG, hf]]
    have hw : writeR y p sp = if (q.text.size : Int) + p.bytes.length > 8192 then (6, 0, lostR y i)
      else if y.quota > 0 ∧ ((sumV y.V + sumO y.O : Nat) : Int) + p.bytes.length > y.quota then (11, 0, lostR y i)
      else if sp then (8, 0, lostR y i)
      else (0, 0, { y with O := y.O.set i { q with text := baApp q.text p.bytes } }) := by simp only [writeR, hf, hc]
    have hqt := z.u q (List.mem_of_getElem? hc)
    repeat (first | refine t_seq ?_ | refine t_region ?_ | refine to_nil ?_ | refine t_skip ?_ | refine to_q rfl rfl rfl ?_ | refine to_fa rfl rfl ?_ | refine to_ld rfl rfl rfl ?_
                  | refine t_cond (t := false) rfl (fun h => nomatch h) (fun _ => ?_))
    obtain ⟨b_e, o_e, cap_e, u_e, e_e, hl_e, r_e, ro_e⟩ := slR_elem (P := Tryz.prog) (t := 95) (by_ := 40) ho hc
    cases e_e
    cases r_e
    refine to_ia rfl rfl rfl rfl hl_e ?_
    refine to_ldV (F1 := F) (ρ := rsesR) (q := q) rfl ro_e rfl rfl ?_
    repeat (first | refine t_seq ?_ | refine t_region ?_ | refine to_nil ?_ | refine to_q rfl rfl rfl ?_ | refine to_fa rfl rfl ?_ | refine to_ld rfl rfl rfl ?_ | refine to_stA rfl rfl rfl rfl rfl rfl ?_
                  | refine to_alloc rfl fun _ => ?_ | refine to_lenT rfl rfl rfl ?_)
    refine to_lenY rfl rfl rfl ?_
    repeat (first | refine to_nil ?_ | refine to_q rfl rfl rfl ?_ | refine to_add rfl rfl rfl (by omega) (by omega) ?_)
    refine t_condT rfl (fun h1 => ?_) (fun h1 => ?_)
    · simp only [decide_eq_true_eq] at h1
      have e : writeR y p sp = (6, 0, lostR y i) := by rw [hw, if_pos (by omega)]
      repeat (first | refine t_seq ?_ | refine t_region ?_ | refine to_nil ?_ | refine to_q rfl rfl rfl ?_ | refine t_cond (t := true) rfl (fun _ => ?_) (fun h => nomatch h))
      refine to_call rfl rfl (rlost_sp b y _ i _ (h'.mono le1.h) z hi) fun v B F5 le5 h5 => ?_
      obtain ⟨u5, hu5, rfl⟩ := h5
      repeat (first | refine t_seq ?_ | refine t_region ?_ | refine to_nil ?_ | refine to_q rfl rfl rfl ?_)
      refine to_call rfl rfl (rwrong_sp 6 _) fun v B F6 le6 h6 => ?_
      obtain ⟨rfl, rfl⟩ := h6
      repeat (first | refine to_nil ?_ | refine to_stA rfl rfl rfl rfl rfl rfl ?_)
      exact t_ret (byH c 5 bv p.bytes :: RP b u5 (lostR y i)) Tryz.func51 (.cellA rfl rfl .nil) (by rw [e]; exact ⟨u5, hu5.mono le6.h, rfl, rfl⟩)
    simp only [decide_eq_false_iff_not] at h1
    repeat (refine t_seq ?_)
    rename_i b8
    refine t_drawnX [b, bop, b8] (by kernel_rfl) fun s0 hs0 => ?_
    refine to_frees (by assumption) [0,1,2,3,4,5,8,9,12,13,14,15,6,7,10,11,16,17] (by kernel_rfl) fun _ _ => ?_
    simp only [List.map_cons, List.map_nil, List.cons_append, List.nil_append, opAt, List.getElem?_cons_zero, List.getElem?_cons_succ, Option.getD_some]
    repeat (first | refine to_q rfl rfl rfl ?_ | refine to_fa rfl rfl ?_ | refine to_ldK rfl rfl rfl ?_)
    refine to_gd rfl rfl (fun hq0 => ?_) (fun hq0 => ?_)
    · simp only [decide_eq_true_eq] at hq0
      repeat (first | refine to_q rfl rfl rfl ?_ | refine to_fa rfl rfl ?_ | refine to_ldK rfl rfl rfl ?_)
      refine to_callK rfl rfl (rsize_sp b y _ _ (h'.mono le1.h) z) fun v B F2 le_F2 h_F2 => ?_
      obtain ⟨rfl, rfl⟩ := h_F2
      refine ⟨inferInstance, ?_⟩
      skip
      refine to_lenY rfl rfl rfl ?_
      repeat (first | refine to_q rfl rfl rfl ?_ | refine to_add rfl rfl rfl (by omega) (by omega) ?_)
      refine to_lin_nil (by assumption) (t_out ?_)
      skip
      refine t_condT rfl (fun h4 => ?_) (fun h4 => ?_)
      · simp only [decide_eq_true_eq] at h4
        have e : writeR y p sp = (11, 0, lostR y i) := by rw [hw, if_neg (by omega), if_pos (by omega)]
        repeat (first | refine t_seq ?_ | refine t_region ?_ | refine to_nil ?_ | refine to_q rfl rfl rfl ?_ | refine t_cond (t := true) rfl (fun _ => ?_) (fun h => nomatch h))
        refine to_call rfl rfl (rlost_sp b y _ i _ (h'.mono (le1.h.trans le_F2.h)) z hi) fun v B F5 le5 h5 => ?_
        obtain ⟨u5, hu5, rfl⟩ := h5
        repeat (first | refine t_seq ?_ | refine t_region ?_ | refine to_nil ?_ | refine to_q rfl rfl rfl ?_)
        refine to_call rfl rfl (rwrong_sp 11 _) fun v B F6 le6 h6 => ?_
        obtain ⟨rfl, rfl⟩ := h6
        repeat (first | refine to_nil ?_ | refine to_stA rfl rfl rfl rfl rfl rfl ?_)
        exact t_ret (byH c 5 bv p.bytes :: RP b u5 (lostR y i)) Tryz.func51 (.cellA rfl rfl .nil) (by rw [e]; exact ⟨u5, hu5.mono le6.h, rfl, rfl⟩)
      simp only [decide_eq_false_iff_not] at h4
      repeat (first | refine t_seq ?_ | refine t_region ?_ | refine to_nil ?_ | refine to_q rfl rfl rfl ?_)
      cases sp
      · repeat (first | refine t_seq ?_ | refine t_region ?_ | refine to_nil ?_ | refine t_skip ?_ | refine to_q rfl rfl rfl ?_ | refine to_fa rfl rfl ?_ | refine to_ld rfl rfl rfl ?_
                      | refine t_cond (t := false) rfl (fun h => nomatch h) (fun _ => ?_))
        have e : writeR y p false = (0, 0, { y with O := y.O.set i { q with text := baApp q.text p.bytes } }) := by rw [hw, if_neg (by omega), if_neg (by omega)]; rfl
        skip
        refine to_cvY rfl rfl ?_
        refine to_cat rfl rfl rfl (by rw [show (ByteArray.mk p.bytes.toArray).size = p.bytes.length from by simp [ByteArray.size]]; omega) ?_
        repeat (first | refine t_seq ?_ | refine t_region ?_ | refine to_nil ?_ | refine to_fa rfl rfl ?_ | refine to_st rfl rfl rfl rfl rfl ?_)
        refine to_bsl (len := 0) rfl rfl rfl rfl fun b1 => ?_
        refine to_osl (n := 3) (b := b1) rsesR [] .nil rfl ?_
        repeat (first | refine to_q rfl rfl rfl ?_ | refine to_fa rfl rfl ?_ | refine to_ld rfl rfl rfl ?_)
        refine to_appR ho rfl rfl rfl rfl (by simp; omega) fun v1 => ?_
        rw [List.nil_append]
        repeat (first | refine t_seq ?_ | refine t_region ?_ | refine to_nil ?_ | refine to_q rfl rfl rfl ?_ | refine to_ldA rfl rfl rfl ?_)
        refine to_lit v1 (ρ := rsesR) (List.ne_nil_of_length_pos (show 0 < y.O.length by omega)) fun b2 cap2 ev => ?_
        subst ev
        refine to_ia (j := i) rfl rfl rfl rfl hi ?_
        refine to_stO (ρ := rsesR) (j := i) (q' := { q with text := baApp q.text p.bytes }) rfl rfl rfl rfl hi rfl ?_
        refine to_freeze (Value.slice (some ⟨b2, 0, none⟩) y.O.length cap2) fun F7 le7 hu7 => ?_
        repeat (first | refine t_seq ?_ | refine t_region ?_ | refine to_nil ?_ | refine to_q rfl rfl rfl ?_ | refine to_fa rfl rfl ?_ | refine to_st rfl rfl rfl rfl rfl ?_ | refine to_stA rfl rfl rfl rfl rfl rfl ?_
                      | refine to_bs rfl rfl rfl rfl ?_)
        exact t_ret (byH c 5 bv p.bytes :: RP b ⟨uv, us, .slice (some ⟨b2, 0, none⟩) y.O.length cap2⟩ { y with O := y.O.set i { q with text := baApp q.text p.bytes } }) Tryz.func51 (.cellA rfl rfl .nil)
          (by rw [e]; exact ⟨⟨uv, us, .slice (some ⟨b2, 0, none⟩) y.O.length cap2⟩, ⟨(slR rverR 5).mono ((le1.h.trans le_F2.h).trans le7.h) hv, (slR rshotR 2).mono ((le1.h.trans le_F2.h).trans le7.h) hs, hu7⟩, rfl, rfl⟩)
      · have e : writeR y p true = (8, 0, lostR y i) := by rw [hw, if_neg (by omega), if_neg (by omega)]; rfl
        repeat (first | refine t_seq ?_ | refine t_region ?_ | refine to_nil ?_ | refine to_q rfl rfl rfl ?_ | refine t_cond (t := true) rfl (fun _ => ?_) (fun h => nomatch h))
        refine to_call rfl rfl (rlost_sp b y _ i _ (h'.mono (le1.h.trans le_F2.h)) z hi) fun v B F5 le5 h5 => ?_
        obtain ⟨u5, hu5, rfl⟩ := h5
        repeat (first | refine t_seq ?_ | refine t_region ?_ | refine to_nil ?_ | refine to_q rfl rfl rfl ?_)
        refine to_call rfl rfl (rwrong_sp 8 _) fun v B F6 le6 h6 => ?_
        obtain ⟨rfl, rfl⟩ := h6
        repeat (first | refine to_nil ?_ | refine to_stA rfl rfl rfl rfl rfl rfl ?_)
        exact t_ret (byH c 5 bv p.bytes :: RP b u5 (lostR y i)) Tryz.func51 (.cellA rfl rfl .nil) (by rw [e]; exact ⟨u5, hu5.mono le6.h, rfl, rfl⟩)
    · simp only [decide_eq_false_iff_not] at hq0
      repeat (first | refine to_no rfl ?_ | refine to_q rfl rfl rfl ?_)
      refine to_lin_nil (by assumption) (t_out ?_)
      repeat (first | refine t_seq ?_ | refine t_region ?_ | refine to_nil ?_ | refine to_q rfl rfl rfl ?_ | refine t_cond (t := false) rfl (fun h => nomatch h) (fun _ => ?_))
      cases sp
      · repeat (first | refine t_seq ?_ | refine t_region ?_ | refine to_nil ?_ | refine t_skip ?_ | refine to_q rfl rfl rfl ?_ | refine to_fa rfl rfl ?_ | refine to_ld rfl rfl rfl ?_
                      | refine t_cond (t := false) rfl (fun h => nomatch h) (fun _ => ?_))
        have e : writeR y p false = (0, 0, { y with O := y.O.set i { q with text := baApp q.text p.bytes } }) := by rw [hw, if_neg (by omega), if_neg (by omega)]; rfl
        skip
        refine to_cvY rfl rfl ?_
        refine to_cat rfl rfl rfl (by rw [show (ByteArray.mk p.bytes.toArray).size = p.bytes.length from by simp [ByteArray.size]]; omega) ?_
        repeat (first | refine t_seq ?_ | refine t_region ?_ | refine to_nil ?_ | refine to_fa rfl rfl ?_ | refine to_st rfl rfl rfl rfl rfl ?_)
        refine to_bsl (len := 0) rfl rfl rfl rfl fun b1 => ?_
        refine to_osl (n := 3) (b := b1) rsesR [] .nil rfl ?_
        repeat (first | refine to_q rfl rfl rfl ?_ | refine to_fa rfl rfl ?_ | refine to_ld rfl rfl rfl ?_)
        refine to_appR ho rfl rfl rfl rfl (by simp; omega) fun v1 => ?_
        rw [List.nil_append]
        repeat (first | refine t_seq ?_ | refine t_region ?_ | refine to_nil ?_ | refine to_q rfl rfl rfl ?_ | refine to_ldA rfl rfl rfl ?_)
        refine to_lit v1 (ρ := rsesR) (List.ne_nil_of_length_pos (show 0 < y.O.length by omega)) fun b2 cap2 ev => ?_
        subst ev
        refine to_ia (j := i) rfl rfl rfl rfl hi ?_
        refine to_stO (ρ := rsesR) (j := i) (q' := { q with text := baApp q.text p.bytes }) rfl rfl rfl rfl hi rfl ?_
        refine to_freeze (Value.slice (some ⟨b2, 0, none⟩) y.O.length cap2) fun F7 le7 hu7 => ?_
        repeat (first | refine t_seq ?_ | refine t_region ?_ | refine to_nil ?_ | refine to_q rfl rfl rfl ?_ | refine to_fa rfl rfl ?_ | refine to_st rfl rfl rfl rfl rfl ?_ | refine to_stA rfl rfl rfl rfl rfl rfl ?_
                      | refine to_bs rfl rfl rfl rfl ?_)
        exact t_ret (byH c 5 bv p.bytes :: RP b ⟨uv, us, .slice (some ⟨b2, 0, none⟩) y.O.length cap2⟩ { y with O := y.O.set i { q with text := baApp q.text p.bytes } }) Tryz.func51 (.cellA rfl rfl .nil)
          (by rw [e]; exact ⟨⟨uv, us, .slice (some ⟨b2, 0, none⟩) y.O.length cap2⟩, ⟨(slR rverR 5).mono ((le1.h).trans le7.h) hv, (slR rshotR 2).mono ((le1.h).trans le7.h) hs, hu7⟩, rfl, rfl⟩)
      · have e : writeR y p true = (8, 0, lostR y i) := by rw [hw, if_neg (by omega), if_neg (by omega)]; rfl
        repeat (first | refine t_seq ?_ | refine t_region ?_ | refine to_nil ?_ | refine to_q rfl rfl rfl ?_ | refine t_cond (t := true) rfl (fun _ => ?_) (fun h => nomatch h))
        refine to_call rfl rfl (rlost_sp b y _ i _ (h'.mono le1.h) z hi) fun v B F5 le5 h5 => ?_
        obtain ⟨u5, hu5, rfl⟩ := h5
        repeat (first | refine t_seq ?_ | refine t_region ?_ | refine to_nil ?_ | refine to_q rfl rfl rfl ?_)
        refine to_call rfl rfl (rwrong_sp 8 _) fun v B F6 le6 h6 => ?_
        obtain ⟨rfl, rfl⟩ := h6
        repeat (first | refine to_nil ?_ | refine to_stA rfl rfl rfl rfl rfl rfl ?_)
        exact t_ret (byH c 5 bv p.bytes :: RP b u5 (lostR y i)) Tryz.func51 (.cellA rfl rfl .nil) (by rw [e]; exact ⟨u5, hu5.mono le6.h, rfl, rfl⟩)
end Go.Proofs.YtbffngeameenoaaGreat
end

section
set_option maxRecDepth 100000
set_option linter.unusedVariables false
set_option linter.unusedSimpArgs false
namespace Go.Proofs.YtbffngeameenoaaGreat
open Go Go.Au
attribute [local irreducible] T TO

def bleB (a c : ByteArray) : Bool := Op.bytesLess a.toList c.toList || a.toList == c.toList
def insI (V : List RVer) (nm : ByteArray) : Nat := (V.takeWhile fun q => bleB q.name nm).length
def insV (V : List RVer) (q : RVer) : List RVer := (V.take (insI V q.name) ++ [q]) ++ V.drop (insI V q.name)
def commitR (y : RM) (p : Op1) (sp : Bool) : Int × Int × RM := match y.O.findIdx? (fun q : RSes => q.n == p.n) with
  | none => (9, 0, y)
  | some i => match y.O[i]? with
    | none => (9, 0, y)
    | some q =>
      if ((ofName y.V q.name).length = 0 ∧ 64 ≤ fileC y.V y.V.length) ∨ 32 ≤ (ofName y.V q.name).length then (6, 0, lostR y i)
      else if sp then (8, 0, lostR y i)
      else (0, topG (ofName y.V q.name) + 1, { lostR y i with V := insV y.V ⟨q.name, topG (ofName y.V q.name) + 1, y.now, q.text, false⟩ })
theorem topG_le {y : RM} (z : RSz y) (nm : ByteArray) : 0 ≤ topG (ofName y.V nm) ∧ topG (ofName y.V nm) ≤ 1152921504606846976 := by
  unfold topG
  cases hl : (ofName y.V nm).getLast? with
  | none => simp
  | some q =>
    have := z.g q (List.mem_filter.1 (List.mem_of_getLast? hl)).1
    simp only; omega
theorem RSz.lost {y : RM} (z : RSz y) (i : Nat) : RSz (lostR y i) := ⟨z.v, z.s, by
  have h := z.o
  have h1 : (y.O.take i).length ≤ i := by rw [List.length_take]; omega
  have h2 : (y.O.take i).length ≤ y.O.length := by rw [List.length_take]; omega
  dsimp only
  rw [List.length_append, List.length_drop]
  rw [List.length_take] at *
  omega, z.t, fun q hq => by
  rcases List.mem_append.1 hq with hq | hq
  · exact z.u q (List.mem_of_mem_take hq)
  · exact z.u q (List.mem_of_mem_drop hq), z.g⟩
set_option maxHeartbeats 2000000 in
theorem rcommit_sp (b : Nat) (y : RM) (u : RU) (p : Op1) (sp : Bool) (bv cv ct ca : Value) (F : Frz) (h : RY F y u) (z : RSz y) :
    Sp Tryz.prog 52 [ptr b, opV p bv cv ct ca, .bool sp] (RP b u y) F (rQ b [] (commitR y p sp)) := by
  obtain ⟨uv, us, uo⟩ := u
  have h' := h
  obtain ⟨hv, hs, ho⟩ := h
  obtain ⟨oa, oc, rfl⟩ := slR_len ho
  have hz := z.o
  have hzv := z.v
  refine sp_of Tryz.func52 rfl (by kernel_rfl) rfl fun R => ?_
  repeat (first | refine t_seq ?_ | refine t_region ?_ | refine to_nil ?_ | refine to_q rfl rfl rfl ?_ | refine to_fa rfl rfl ?_ | refine to_ld rfl rfl rfl ?_ | refine to_alloc rfl fun _ => ?_
                | refine to_boxA rfl rfl fun _ => ?_)
  rename_i bop ba
  refine to_call rfl rfl (rsession_sp b y _ p.n _ h' z) fun v B F1 le1 h1 => ?_
  obtain ⟨rfl, rfl⟩ := h1
  cases hf : y.O.findIdx? (fun q : RSes => q.n == p.n) with
  | none =>
    have e : commitR y p sp = (9, 0, y) := by simp [commitR, hf]
    rw [show idxG (fun q : RSes => q.n == p.n) y.O = -1 from by simp [idxG, hf]]
    repeat (first | refine t_seq ?_ | refine t_region ?_ | refine to_nil ?_ | refine to_q rfl rfl rfl ?_ | refine t_cond (t := true) rfl (fun _ => ?_) (fun h => nomatch h))
    refine to_call rfl rfl (rwrong_sp 9 _) fun v B F2 le_F2 h => ?_
    obtain ⟨rfl, rfl⟩ := h
    repeat (first | refine to_nil ?_ | refine to_stA rfl rfl rfl rfl rfl rfl ?_)
    exact t_ret (RP b ⟨uv, us, .slice oa y.O.length oc⟩ y) Tryz.func52 (.cellA rfl rfl .nil) (by rw [e]; exact ⟨⟨uv, us, .slice oa y.O.length oc⟩, h'.mono (le1.h.trans le_F2.h), rfl, rfl⟩)
  | some i =>
    have hi : i < y.O.length := (List.findIdx?_eq_some_iff_getElem.1 hf).1
    have hc := List.getElem?_eq_getElem hi
    generalize y.O[i] = q at hc
    rw [show idxG (fun q : RSes => q.n == p.n) y.O = i from by simp [idxG, hf]]
    have hw : commitR y p sp = if ((ofName y.V q.name).length = 0 ∧ 64 ≤ fileC y.V y.V.length) ∨ 32 ≤ (ofName y.V q.name).length then (6, 0, lostR y i)
      else if sp then (8, 0, lostR y i)
      else (0, topG (ofName y.V q.name) + 1, { lostR y i with V := insV y.V ⟨q.name, topG (ofName y.V q.name) + 1, y.now, q.text, false⟩ }) := by simp only [commitR, hf, hc]
    have hqt := z.u q (List.mem_of_getElem? hc)
    have htg := topG_le z q.name
    have z1 := z.lost i
    repeat (first | refine t_seq ?_ | refine t_region ?_ | refine to_nil ?_ | refine t_skip ?_ | refine to_q rfl rfl rfl ?_ | refine to_fa rfl rfl ?_ | refine to_ld rfl rfl rfl ?_
                  | refine t_cond (t := false) rfl (fun h => nomatch h) (fun _ => ?_))
    obtain ⟨b_e, o_e, cap_e, u_e, e_e, hl_e, r_e, ro_e⟩ := slR_elem (P := Tryz.prog) (t := 95) (by_ := 40) ho hc
    cases e_e
    cases r_e
    refine to_ia rfl rfl rfl rfl hl_e ?_
    refine to_ldV (F1 := F) (ρ := rsesR) (q := q) rfl ro_e rfl rfl ?_
    repeat (first | refine t_seq ?_ | refine t_region ?_ | refine to_nil ?_ | refine to_q rfl rfl rfl ?_ | refine to_stA rfl rfl rfl rfl rfl rfl ?_ | refine to_alloc rfl fun _ => ?_)
    rename_i b8
    refine to_call rfl rfl (rlost_sp b y _ i _ (h'.mono le1.h) z hi) fun v B F5 le5 h5 => ?_
    obtain ⟨u5, hu5, rfl⟩ := h5
    repeat (first | refine t_seq ?_ | refine t_region ?_ | refine to_nil ?_ | refine to_q rfl rfl rfl ?_ | refine to_fa rfl rfl ?_ | refine to_ld rfl rfl rfl ?_)
    refine to_call rfl rfl (rcount_sp b (lostR y i) u5 q.name _ hu5 z1) fun v B F6 le6 h6 => ?_
    obtain ⟨rfl, rfl⟩ := h6
    repeat (first | refine t_seq ?_ | refine t_region ?_ | refine to_nil ?_ | refine to_q rfl rfl rfl ?_)
    have bad6 : ((ofName y.V q.name).length = 0 ∧ 64 ≤ fileC y.V y.V.length) ∨ 32 ≤ (ofName y.V q.name).length → commitR y p sp = (6, 0, lostR y i) := fun h => by rw [hw, if_pos h]
    generalize hgl : (ofName y.V q.name).length = gl at *
    refine to_gd rfl rfl (fun h0 => ?_) (fun h0 => ?_)
    · simp only [beq_iff_eq] at h0
      repeat (refine to_q rfl rfl rfl ?_)
      refine to_gd rfl rfl (fun h1 => ?_) (fun h1 => ?_)
      · simp only [decide_eq_true_eq] at h1
        repeat (first | refine t_seq ?_ | refine t_region ?_ | refine to_nil ?_ | refine to_no rfl ?_ | refine to_q rfl rfl rfl ?_ | refine t_cond (t := true) rfl (fun _ => ?_) (fun h => nomatch h))
        refine to_call rfl rfl (rwrong_sp 6 _) fun v B F7 le_F7 h => ?_
        obtain ⟨rfl, rfl⟩ := h
        repeat (first | refine to_nil ?_ | refine to_stA rfl rfl rfl rfl rfl rfl ?_)
        exact t_ret (RP b u5 (lostR y i)) Tryz.func52 (.cellA rfl rfl .nil) (by rw [bad6 (by omega)]; exact ⟨u5, hu5.mono (le6.h.trans le_F7.h), rfl, rfl⟩)
      simp only [decide_eq_false_iff_not] at h1
      repeat (first | refine to_nil ?_ | refine to_q rfl rfl rfl ?_)
      refine t_condT rfl (fun h2 => ?_) (fun h2 => ?_)
      · simp only [decide_eq_true_eq] at h2; omega
      simp only [decide_eq_false_iff_not] at h2
      have hnb : ¬ (gl = 0 ∧ 64 ≤ fileC y.V y.V.length ∨ 32 ≤ gl) := by omega
      repeat (first | refine t_seq ?_ | refine t_region ?_ | refine to_nil ?_ | refine t_skip ?_ | refine to_q rfl rfl rfl ?_)
      cases sp
      rotate_left
      focus
        repeat (first | refine t_seq ?_ | refine t_region ?_ | refine t_cond (t := true) rfl (fun _ => ?_) (fun h => nomatch h))
        refine to_call rfl rfl (rwrong_sp 8 _) fun v B F7 le_F7 h => ?_
        obtain ⟨rfl, rfl⟩ := h
        repeat (first | refine to_nil ?_ | refine to_stA rfl rfl rfl rfl rfl rfl ?_)
        exact t_ret (RP b u5 (lostR y i)) Tryz.func52 (.cellA rfl rfl .nil) (by rw [hw, if_neg hnb]; exact ⟨u5, hu5.mono (le6.h.trans le_F7.h), rfl, rfl⟩)
      generalize hgen : topG (ofName y.V q.name) + 1 = gen at hw
      have e : commitR y p false = (0, gen, { lostR y i with V := insV y.V ⟨q.name, gen, y.now, q.text, false⟩ }) := by rw [hw, if_neg hnb]; rfl
      obtain ⟨u5v, u5s, u5o⟩ := u5
      obtain ⟨g1, g2, g3⟩ := hu5
      replace g1 : (slR rverR 5).r F5 y.V u5v := g1
      replace g3 : (slR rsesR 3).r F5 (y.O.take i ++ y.O.drop (i + 1)) u5o := g3
      obtain ⟨va, vc, rfl⟩ := slR_len g1
      obtain ⟨wa, wc, rfl⟩ := slR_len g3
      repeat (first | refine t_seq ?_ | refine t_block ?_ | refine t_region ?_ | refine to_nil ?_ | refine t_skip ?_ | refine to_q rfl rfl rfl ?_ | refine t_cond (t := false) rfl (fun h => nomatch h) (fun _ => ?_))
      refine t_loopJ (R := R) (fun k : Nat => y.V.length - k) (fun _ => own b8 [.int .i64 q.n, .string q.name, .string q.text] 95 :: own ba [.int .i64 0, .int .i64 0, nilS, nilS] 31 :: RP b ⟨.slice va y.V.length vc, u5s, .slice wa (y.O.take i ++ y.O.drop (i + 1)).length wc⟩ (lostR y i))
        (fun k => [(0, ptr b), (6, ptr ba), (8, ptr b8), (11, .int .i64 (topG (ofName y.V q.name))), (12, .int .i64 k)])
        (fun k _ => k ≤ y.V.length ∧ ∀ j (q' : RVer), j < k → y.V[j]? = some q' → bleB q'.name q.name = true) 0 (by repeat (first | exact trivial | refine ⟨rfl, ?_⟩)) ⟨Nat.zero_le _, by omega⟩ ?_
      intro k F7 le7 hg7 ih
      obtain ⟨hk, hyes⟩ := hg7
      repeat (refine t_seq ?_)
      refine t_drawn1 (by kernel_rfl) (by kernel_rfl) ?_
      repeat (first | refine to_q rfl rfl rfl ?_ | refine to_fa rfl rfl ?_ | refine to_ld rfl rfl rfl ?_ | refine to_lenS rfl rfl rfl ?_)
      refine to_gd rfl rfl (fun hlt => ?_) (fun hlt => ?_)
      · simp only [decide_eq_true_eq] at hlt
        have hlt : k < y.V.length := by omega
        have hck := List.getElem?_eq_getElem hlt
        generalize y.V[k] = r at hck
        obtain ⟨b_f, o_f, cap_f, u_f, e_f, hl_f, r_f, ro_f⟩ := slR_elem (P := Tryz.prog) (t := 101) (by_ := 56) g1 hck
        cases e_f
        cases r_f
        repeat (first | refine to_q rfl rfl rfl ?_ | refine to_fa rfl rfl ?_ | refine to_ld rfl rfl rfl ?_)
        refine to_ia rfl rfl rfl rfl hl_f ?_
        repeat (refine to_fa rfl rfl ?_)
        refine to_ldR (F0 := F5) rfl rfl (ro_f.one (j := 0) (v := (.string r.name)) rfl) ?_
        repeat (first | refine to_nil ?_ | refine to_q rfl rfl rfl ?_ | refine to_fa rfl rfl ?_ | refine to_ld rfl rfl rfl ?_)
        refine t_condT rfl (fun hq => ?_) (fun hq => ?_)
        · repeat (first | refine t_block ?_ | refine t_region ?_ | refine to_nil ?_ | refine t_skip ?_ | refine t_inBlock ?_ | refine to_q rfl rfl rfl ?_ | refine to_add rfl rfl rfl (by omega) (by omega) ?_)
          refine t_re (A := own b8 [.int .i64 q.n, .string q.name, .string q.text] 95 :: own ba [.int .i64 0, .int .i64 0, nilS, nilS] 31 :: RP b ⟨_, u5s, _⟩ (lostR y i)) (R := R) (ih (k + 1) F7 ⟨.refl _⟩ (by omega) ⟨by omega, all_snoc hck hyes hq⟩) (by repeat (first | exact trivial | refine ⟨rfl, ?_⟩))
        have hI : insI y.V q.name = k := takeWhile_at hyes hk fun q' e => by rw [hck] at e; cases e; exact hq
        repeat (first | refine t_seq ?_ | refine t_region ?_ | refine t_exit rfl ?_)
        have hl1 : (y.V.take k).length ≤ y.V.length := by rw [List.length_take]; omega
        refine to_bsl (len := 0) rfl rfl rfl rfl fun b1 => ?_
        refine to_osl (n := 5) (b := b1) rverR [] .nil rfl ?_
        repeat (first | refine to_q rfl rfl rfl ?_ | refine to_fa rfl rfl ?_ | refine to_ld rfl rfl rfl ?_)
        refine to_slR g1 rfl rfl rfl rfl (by omega) (by omega) (by omega) fun s1 hs1 => ?_
        replace hs1 : (slR rverR 5).r F5 (y.V.take k) s1 := by simpa using hs1
        refine to_appR hs1 rfl rfl rfl rfl (by simp; omega) fun v1 => ?_
        rw [List.nil_append]
        repeat (first | refine t_seq ?_ | refine to_nil ?_ | refine to_q rfl rfl rfl ?_)
        refine t_drawn1 (by kernel_rfl) (by kernel_rfl) ?_
        repeat (first | refine to_q rfl rfl rfl ?_ | refine to_fa rfl rfl ?_ | refine to_ld rfl rfl rfl ?_ | refine to_bs rfl rfl rfl rfl ?_ | refine to_add rfl rfl rfl (by omega) (by omega) ?_)
        rw [hgen]
        refine to_bsl (len := 1) rfl rfl rfl rfl fun b3 => ?_
        refine to_app1 (ρ := rverR) (q := ⟨q.name, gen, y.now, q.text, false⟩) (u := rverV ⟨q.name, gen, y.now, q.text, false⟩) rfl rfl rfl rfl rfl rfl (by omega) fun w2 => ?_
        repeat (first | refine t_seq ?_ | refine t_region ?_ | refine to_nil ?_ | refine to_q rfl rfl rfl ?_ | refine to_fa rfl rfl ?_ | refine to_ld rfl rfl rfl ?_)
        refine to_slR g1 rfl rfl rfl rfl (by omega) (by omega) (by omega) fun s2 hs2 => ?_
        replace hs2 : (slR rverR 5).r F5 (y.V.drop k) s2 := by simpa using hs2
        refine to_appR hs2 rfl rfl rfl rfl (by rw [List.length_append, List.length_drop, List.length_singleton]; omega) fun v3 => ?_
        have hins : (y.V.take k ++ [⟨q.name, gen, y.now, q.text, false⟩]) ++ y.V.drop k = insV y.V ⟨q.name, gen, y.now, q.text, false⟩ := by rw [insV, hI]
        rw [hins]
        refine to_freeze v3 fun F9 le9 hv9 => ?_
        obtain ⟨na, nc, rfl⟩ := slR_len hv9
        repeat (first | refine t_seq ?_ | refine t_region ?_ | refine to_nil ?_ | refine to_q rfl rfl rfl ?_ | refine to_fa rfl rfl ?_ | refine to_st rfl rfl rfl rfl rfl ?_ | refine to_stA rfl rfl rfl rfl rfl rfl ?_
                      | refine to_bs rfl rfl rfl rfl ?_ | refine to_add rfl rfl rfl (by omega) (by omega) ?_)
        rw [hgen]
        skip
        exact t_ret (RP b ⟨.slice na (insV y.V ⟨q.name, gen, y.now, q.text, false⟩).length nc, u5s, .slice wa (y.O.take i ++ y.O.drop (i + 1)).length wc⟩ { lostR y i with V := insV y.V ⟨q.name, gen, y.now, q.text, false⟩ }) Tryz.func52 (.cellA rfl rfl .nil)
          (by rw [e]; exact ⟨⟨_, u5s, .slice wa (y.O.take i ++ y.O.drop (i + 1)).length wc⟩, ⟨hv9, (slR rshotR 2).mono ((le6.h.trans le7.h).trans le9.h) g2, (slR rsesR 3).mono ((le6.h.trans le7.h).trans le9.h) g3⟩, rfl, rfl⟩)
      · simp only [decide_eq_false_iff_not] at hlt
        have hie : k = y.V.length := by omega
        have hI : insI y.V q.name = k := takeWhile_at hyes hk fun q' e => by rw [List.getElem?_eq_none (by omega)] at e; cases e
        repeat (first | refine t_seq ?_ | refine t_region ?_ | refine to_nil ?_ | refine to_no rfl ?_ | refine to_q rfl rfl rfl ?_ | refine t_cond (t := false) rfl (fun h => nomatch h) (fun _ => ?_) | refine t_exit rfl ?_)
        have hl1 : (y.V.take k).length ≤ y.V.length := by rw [List.length_take]; omega
        refine to_bsl (len := 0) rfl rfl rfl rfl fun b1 => ?_
        refine to_osl (n := 5) (b := b1) rverR [] .nil rfl ?_
        repeat (first | refine to_q rfl rfl rfl ?_ | refine to_fa rfl rfl ?_ | refine to_ld rfl rfl rfl ?_)
        refine to_slR g1 rfl rfl rfl rfl (by omega) (by omega) (by omega) fun s1 hs1 => ?_
        replace hs1 : (slR rverR 5).r F5 (y.V.take k) s1 := by simpa using hs1
        refine to_appR hs1 rfl rfl rfl rfl (by simp; omega) fun v1 => ?_
        rw [List.nil_append]
        repeat (first | refine t_seq ?_ | refine to_nil ?_ | refine to_q rfl rfl rfl ?_)
        refine t_drawn1 (by kernel_rfl) (by kernel_rfl) ?_
        repeat (first | refine to_q rfl rfl rfl ?_ | refine to_fa rfl rfl ?_ | refine to_ld rfl rfl rfl ?_ | refine to_bs rfl rfl rfl rfl ?_ | refine to_add rfl rfl rfl (by omega) (by omega) ?_)
        rw [hgen]
        refine to_bsl (len := 1) rfl rfl rfl rfl fun b3 => ?_
        refine to_app1 (ρ := rverR) (q := ⟨q.name, gen, y.now, q.text, false⟩) (u := rverV ⟨q.name, gen, y.now, q.text, false⟩) rfl rfl rfl rfl rfl rfl (by omega) fun w2 => ?_
        repeat (first | refine t_seq ?_ | refine t_region ?_ | refine to_nil ?_ | refine to_q rfl rfl rfl ?_ | refine to_fa rfl rfl ?_ | refine to_ld rfl rfl rfl ?_)
        refine to_slR g1 rfl rfl rfl rfl (by omega) (by omega) (by omega) fun s2 hs2 => ?_
        replace hs2 : (slR rverR 5).r F5 (y.V.drop k) s2 := by simpa using hs2
        refine to_appR hs2 rfl rfl rfl rfl (by rw [List.length_append, List.length_drop, List.length_singleton]; omega) fun v3 => ?_
        have hins : (y.V.take k ++ [⟨q.name, gen, y.now, q.text, false⟩]) ++ y.V.drop k = insV y.V ⟨q.name, gen, y.now, q.text, false⟩ := by rw [insV, hI]
        rw [hins]
        refine to_freeze v3 fun F9 le9 hv9 => ?_
        obtain ⟨na, nc, rfl⟩ := slR_len hv9
        repeat (first | refine t_seq ?_ | refine t_region ?_ | refine to_nil ?_ | refine to_q rfl rfl rfl ?_ | refine to_fa rfl rfl ?_ | refine to_st rfl rfl rfl rfl rfl ?_ | refine to_stA rfl rfl rfl rfl rfl rfl ?_
                      | refine to_bs rfl rfl rfl rfl ?_ | refine to_add rfl rfl rfl (by omega) (by omega) ?_)
        rw [hgen]
        skip
        exact t_ret (RP b ⟨.slice na (insV y.V ⟨q.name, gen, y.now, q.text, false⟩).length nc, u5s, .slice wa (y.O.take i ++ y.O.drop (i + 1)).length wc⟩ { lostR y i with V := insV y.V ⟨q.name, gen, y.now, q.text, false⟩ }) Tryz.func52 (.cellA rfl rfl .nil)
          (by rw [e]; exact ⟨⟨_, u5s, .slice wa (y.O.take i ++ y.O.drop (i + 1)).length wc⟩, ⟨hv9, (slR rshotR 2).mono ((le6.h.trans le7.h).trans le9.h) g2, (slR rsesR 3).mono ((le6.h.trans le7.h).trans le9.h) g3⟩, rfl, rfl⟩)
    simp only [beq_eq_false_iff_ne] at h0
    repeat (first | refine to_nil ?_ | refine to_no rfl ?_ | refine to_q rfl rfl rfl ?_)
    refine t_condT rfl (fun h2 => ?_) (fun h2 => ?_)
    · simp only [decide_eq_true_eq] at h2
      repeat (first | refine t_seq ?_ | refine t_region ?_)
      refine to_call rfl rfl (rwrong_sp 6 _) fun v B F7 le_F7 h => ?_
      obtain ⟨rfl, rfl⟩ := h
      repeat (first | refine to_nil ?_ | refine to_stA rfl rfl rfl rfl rfl rfl ?_)
      exact t_ret (RP b u5 (lostR y i)) Tryz.func52 (.cellA rfl rfl .nil) (by rw [bad6 (by omega)]; exact ⟨u5, hu5.mono (le6.h.trans le_F7.h), rfl, rfl⟩)
    simp only [decide_eq_false_iff_not] at h2
    have hnb : ¬ (gl = 0 ∧ 64 ≤ fileC y.V y.V.length ∨ 32 ≤ gl) := by omega
    repeat (first | refine t_seq ?_ | refine t_region ?_ | refine to_nil ?_ | refine t_skip ?_ | refine to_q rfl rfl rfl ?_)
    cases sp
    rotate_left
    focus
      repeat (first | refine t_seq ?_ | refine t_region ?_ | refine t_cond (t := true) rfl (fun _ => ?_) (fun h => nomatch h))
      refine to_call rfl rfl (rwrong_sp 8 _) fun v B F7 le_F7 h => ?_
      obtain ⟨rfl, rfl⟩ := h
      repeat (first | refine to_nil ?_ | refine to_stA rfl rfl rfl rfl rfl rfl ?_)
      exact t_ret (RP b u5 (lostR y i)) Tryz.func52 (.cellA rfl rfl .nil) (by rw [hw, if_neg hnb]; exact ⟨u5, hu5.mono (le6.h.trans le_F7.h), rfl, rfl⟩)
    generalize hgen : topG (ofName y.V q.name) + 1 = gen at hw
    have e : commitR y p false = (0, gen, { lostR y i with V := insV y.V ⟨q.name, gen, y.now, q.text, false⟩ }) := by rw [hw, if_neg hnb]; rfl
    obtain ⟨u5v, u5s, u5o⟩ := u5
    obtain ⟨g1, g2, g3⟩ := hu5
    replace g1 : (slR rverR 5).r F5 y.V u5v := g1
    replace g3 : (slR rsesR 3).r F5 (y.O.take i ++ y.O.drop (i + 1)) u5o := g3
    obtain ⟨va, vc, rfl⟩ := slR_len g1
    obtain ⟨wa, wc, rfl⟩ := slR_len g3
    repeat (first | refine t_seq ?_ | refine t_block ?_ | refine t_region ?_ | refine to_nil ?_ | refine t_skip ?_ | refine to_q rfl rfl rfl ?_ | refine t_cond (t := false) rfl (fun h => nomatch h) (fun _ => ?_))
    refine t_loopJ (R := R) (fun k : Nat => y.V.length - k) (fun _ => own b8 [.int .i64 q.n, .string q.name, .string q.text] 95 :: own ba [.int .i64 0, .int .i64 0, nilS, nilS] 31 :: RP b ⟨.slice va y.V.length vc, u5s, .slice wa (y.O.take i ++ y.O.drop (i + 1)).length wc⟩ (lostR y i))
      (fun k => [(0, ptr b), (6, ptr ba), (8, ptr b8), (11, .int .i64 (topG (ofName y.V q.name))), (12, .int .i64 k)])
      (fun k _ => k ≤ y.V.length ∧ ∀ j (q' : RVer), j < k → y.V[j]? = some q' → bleB q'.name q.name = true) 0 (by repeat (first | exact trivial | refine ⟨rfl, ?_⟩)) ⟨Nat.zero_le _, by omega⟩ ?_
    intro k F7 le7 hg7 ih
    obtain ⟨hk, hyes⟩ := hg7
    repeat (refine t_seq ?_)
    refine t_drawn1 (by kernel_rfl) (by kernel_rfl) ?_
    repeat (first | refine to_q rfl rfl rfl ?_ | refine to_fa rfl rfl ?_ | refine to_ld rfl rfl rfl ?_ | refine to_lenS rfl rfl rfl ?_)
    refine to_gd rfl rfl (fun hlt => ?_) (fun hlt => ?_)
    · simp only [decide_eq_true_eq] at hlt
      have hlt : k < y.V.length := by omega
      have hck := List.getElem?_eq_getElem hlt
      generalize y.V[k] = r at hck
      obtain ⟨b_f, o_f, cap_f, u_f, e_f, hl_f, r_f, ro_f⟩ := slR_elem (P := Tryz.prog) (t := 101) (by_ := 56) g1 hck
      cases e_f
      cases r_f
      repeat (first | refine to_q rfl rfl rfl ?_ | refine to_fa rfl rfl ?_ | refine to_ld rfl rfl rfl ?_)
      refine to_ia rfl rfl rfl rfl hl_f ?_
      repeat (refine to_fa rfl rfl ?_)
      refine to_ldR (F0 := F5) rfl rfl (ro_f.one (j := 0) (v := (.string r.name)) rfl) ?_
      repeat (first | refine to_nil ?_ | refine to_q rfl rfl rfl ?_ | refine to_fa rfl rfl ?_ | refine to_ld rfl rfl rfl ?_)
      refine t_condT rfl (fun hq => ?_) (fun hq => ?_)
      · repeat (first | refine t_block ?_ | refine t_region ?_ | refine to_nil ?_ | refine t_skip ?_ | refine t_inBlock ?_ | refine to_q rfl rfl rfl ?_ | refine to_add rfl rfl rfl (by omega) (by omega) ?_)
        refine t_re (A := own b8 [.int .i64 q.n, .string q.name, .string q.text] 95 :: own ba [.int .i64 0, .int .i64 0, nilS, nilS] 31 :: RP b ⟨_, u5s, _⟩ (lostR y i)) (R := R) (ih (k + 1) F7 ⟨.refl _⟩ (by omega) ⟨by omega, all_snoc hck hyes hq⟩) (by repeat (first | exact trivial | refine ⟨rfl, ?_⟩))
      have hI : insI y.V q.name = k := takeWhile_at hyes hk fun q' e => by rw [hck] at e; cases e; exact hq
      repeat (first | refine t_seq ?_ | refine t_region ?_ | refine t_exit rfl ?_)
      have hl1 : (y.V.take k).length ≤ y.V.length := by rw [List.length_take]; omega
      refine to_bsl (len := 0) rfl rfl rfl rfl fun b1 => ?_
      refine to_osl (n := 5) (b := b1) rverR [] .nil rfl ?_
      repeat (first | refine to_q rfl rfl rfl ?_ | refine to_fa rfl rfl ?_ | refine to_ld rfl rfl rfl ?_)
      refine to_slR g1 rfl rfl rfl rfl (by omega) (by omega) (by omega) fun s1 hs1 => ?_
      replace hs1 : (slR rverR 5).r F5 (y.V.take k) s1 := by simpa using hs1
      refine to_appR hs1 rfl rfl rfl rfl (by simp; omega) fun v1 => ?_
      rw [List.nil_append]
      repeat (first | refine t_seq ?_ | refine to_nil ?_ | refine to_q rfl rfl rfl ?_)
      refine t_drawn1 (by kernel_rfl) (by kernel_rfl) ?_
      repeat (first | refine to_q rfl rfl rfl ?_ | refine to_fa rfl rfl ?_ | refine to_ld rfl rfl rfl ?_ | refine to_bs rfl rfl rfl rfl ?_ | refine to_add rfl rfl rfl (by omega) (by omega) ?_)
      rw [hgen]
      refine to_bsl (len := 1) rfl rfl rfl rfl fun b3 => ?_
      refine to_app1 (ρ := rverR) (q := ⟨q.name, gen, y.now, q.text, false⟩) (u := rverV ⟨q.name, gen, y.now, q.text, false⟩) rfl rfl rfl rfl rfl rfl (by omega) fun w2 => ?_
      repeat (first | refine t_seq ?_ | refine t_region ?_ | refine to_nil ?_ | refine to_q rfl rfl rfl ?_ | refine to_fa rfl rfl ?_ | refine to_ld rfl rfl rfl ?_)
      refine to_slR g1 rfl rfl rfl rfl (by omega) (by omega) (by omega) fun s2 hs2 => ?_
      replace hs2 : (slR rverR 5).r F5 (y.V.drop k) s2 := by simpa using hs2
      refine to_appR hs2 rfl rfl rfl rfl (by rw [List.length_append, List.length_drop, List.length_singleton]; omega) fun v3 => ?_
      have hins : (y.V.take k ++ [⟨q.name, gen, y.now, q.text, false⟩]) ++ y.V.drop k = insV y.V ⟨q.name, gen, y.now, q.text, false⟩ := by rw [insV, hI]
      rw [hins]
      refine to_freeze v3 fun F9 le9 hv9 => ?_
      obtain ⟨na, nc, rfl⟩ := slR_len hv9
      repeat (first | refine t_seq ?_ | refine t_region ?_ | refine to_nil ?_ | refine to_q rfl rfl rfl ?_ | refine to_fa rfl rfl ?_ | refine to_st rfl rfl rfl rfl rfl ?_ | refine to_stA rfl rfl rfl rfl rfl rfl ?_
                    | refine to_bs rfl rfl rfl rfl ?_ | refine to_add rfl rfl rfl (by omega) (by omega) ?_)
      rw [hgen]
      skip
      exact t_ret (RP b ⟨.slice na (insV y.V ⟨q.name, gen, y.now, q.text, false⟩).length nc, u5s, .slice wa (y.O.take i ++ y.O.drop (i + 1)).length wc⟩ { lostR y i with V := insV y.V ⟨q.name, gen, y.now, q.text, false⟩ }) Tryz.func52 (.cellA rfl rfl .nil)
        (by rw [e]; exact ⟨⟨_, u5s, .slice wa (y.O.take i ++ y.O.drop (i + 1)).length wc⟩, ⟨hv9, (slR rshotR 2).mono ((le6.h.trans le7.h).trans le9.h) g2, (slR rsesR 3).mono ((le6.h.trans le7.h).trans le9.h) g3⟩, rfl, rfl⟩)
    · simp only [decide_eq_false_iff_not] at hlt
      have hie : k = y.V.length := by omega
      have hI : insI y.V q.name = k := takeWhile_at hyes hk fun q' e => by rw [List.getElem?_eq_none (by omega)] at e; cases e
      repeat (first | refine t_seq ?_ | refine t_region ?_ | refine to_nil ?_ | refine to_no rfl ?_ | refine to_q rfl rfl rfl ?_ | refine t_cond (t := false) rfl (fun h => nomatch h) (fun _ => ?_) | refine t_exit rfl ?_)
      have hl1 : (y.V.take k).length ≤ y.V.length := by rw [List.length_take]; omega
      refine to_bsl (len := 0) rfl rfl rfl rfl fun b1 => ?_
      refine to_osl (n := 5) (b := b1) rverR [] .nil rfl ?_
      repeat (first | refine to_q rfl rfl rfl ?_ | refine to_fa rfl rfl ?_ | refine to_ld rfl rfl rfl ?_)
      refine to_slR g1 rfl rfl rfl rfl (by omega) (by omega) (by omega) fun s1 hs1 => ?_
      replace hs1 : (slR rverR 5).r F5 (y.V.take k) s1 := by simpa using hs1
      refine to_appR hs1 rfl rfl rfl rfl (by simp; omega) fun v1 => ?_
      rw [List.nil_append]
      repeat (first | refine t_seq ?_ | refine to_nil ?_ | refine to_q rfl rfl rfl ?_)
      refine t_drawn1 (by kernel_rfl) (by kernel_rfl) ?_
      repeat (first | refine to_q rfl rfl rfl ?_ | refine to_fa rfl rfl ?_ | refine to_ld rfl rfl rfl ?_ | refine to_bs rfl rfl rfl rfl ?_ | refine to_add rfl rfl rfl (by omega) (by omega) ?_)
      rw [hgen]
      refine to_bsl (len := 1) rfl rfl rfl rfl fun b3 => ?_
      refine to_app1 (ρ := rverR) (q := ⟨q.name, gen, y.now, q.text, false⟩) (u := rverV ⟨q.name, gen, y.now, q.text, false⟩) rfl rfl rfl rfl rfl rfl (by omega) fun w2 => ?_
      repeat (first | refine t_seq ?_ | refine t_region ?_ | refine to_nil ?_ | refine to_q rfl rfl rfl ?_ | refine to_fa rfl rfl ?_ | refine to_ld rfl rfl rfl ?_)
      refine to_slR g1 rfl rfl rfl rfl (by omega) (by omega) (by omega) fun s2 hs2 => ?_
      replace hs2 : (slR rverR 5).r F5 (y.V.drop k) s2 := by simpa using hs2
      refine to_appR hs2 rfl rfl rfl rfl (by rw [List.length_append, List.length_drop, List.length_singleton]; omega) fun v3 => ?_
      have hins : (y.V.take k ++ [⟨q.name, gen, y.now, q.text, false⟩]) ++ y.V.drop k = insV y.V ⟨q.name, gen, y.now, q.text, false⟩ := by rw [insV, hI]
      rw [hins]
      refine to_freeze v3 fun F9 le9 hv9 => ?_
      obtain ⟨na, nc, rfl⟩ := slR_len hv9
      repeat (first | refine t_seq ?_ | refine t_region ?_ | refine to_nil ?_ | refine to_q rfl rfl rfl ?_ | refine to_fa rfl rfl ?_ | refine to_st rfl rfl rfl rfl rfl ?_ | refine to_stA rfl rfl rfl rfl rfl rfl ?_
                    | refine to_bs rfl rfl rfl rfl ?_ | refine to_add rfl rfl rfl (by omega) (by omega) ?_)
      rw [hgen]
      skip
      exact t_ret (RP b ⟨.slice na (insV y.V ⟨q.name, gen, y.now, q.text, false⟩).length nc, u5s, .slice wa (y.O.take i ++ y.O.drop (i + 1)).length wc⟩ { lostR y i with V := insV y.V ⟨q.name, gen, y.now, q.text, false⟩ }) Tryz.func52 (.cellA rfl rfl .nil)
        (by rw [e]; exact ⟨⟨_, u5s, .slice wa (y.O.take i ++ y.O.drop (i + 1)).length wc⟩, ⟨hv9, (slR rshotR 2).mono ((le6.h.trans le7.h).trans le9.h) g2, (slR rsesR 3).mono ((le6.h.trans le7.h).trans le9.h) g3⟩, rfl, rfl⟩)
end Go.Proofs.YtbffngeameenoaaGreat
end

section
set_option maxRecDepth 100000
set_option linter.unusedVariables false
set_option linter.unusedSimpArgs false
namespace Go.Proofs.YtbffngeameenoaaGreat
open Go Go.Au
attribute [local irreducible] T TO

def showP (nm : ByteArray) (h : ByteArray × Int) (q : RVer) : Bool := decide (h.1 = nm) && (decide (q.name = nm) && (q.gen == h.2))
def showI (V : List RVer) (nm : ByteArray) (l : List (ByteArray × Int)) : Option Nat := l.foldl (fun o h => (lastI (showP nm h) V).or o) none
theorem showI_snoc (V : List RVer) (nm : ByteArray) (l : List (ByteArray × Int)) (h : ByteArray × Int) : showI V nm (l ++ [h]) = (lastI (showP nm h) V).or (showI V nm l) := by simp [showI]
def heldOf (S : List (ByteArray × List (ByteArray × Int))) (s : ByteArray) : List (ByteArray × Int) := if shotB S s then (match S[shotI S s]? with | some q => q.2 | none => []) else []
def toldI (y : RM) (p : Op1) : Option Nat := if p.do_ = 7 then showI y.V p.name (heldOf y.S p.shot) else lastI (rfindP p.name p.gen) y.V
def toldT (p : Op1) (t : ByteArray) : Ans :=
  if p.do_ = 8 then (0, t.size, [], []) else if p.do_ ≠ 6 then (0, 0, strB t, [])
  else if p.from_ < 0 ∨ p.from_ > t.size ∨ p.size < 0 then (2, 0, [], []) else (0, 0, ((strB t).drop p.from_.toNat).take p.size.toNat, [])
def toldR (y : RM) (p : Op1) : Ans :=
  if p.do_ = 9 then (0, 0, [], rnames y.V) else match toldI y p with
  | none => (9, 0, [], [])
  | some i => match y.V[i]? with
    | none => (9, 0, [], [])
    | some q => toldT p q.text
theorem lastI_lt {α : Type} {p : α → Bool} {xs : List α} {i : Nat} (h : lastI p xs = some i) : i < xs.length := by
  obtain ⟨q, hq, _⟩ := lastI_spec h
  exact (List.getElem?_eq_some_iff.1 hq).1
theorem showI_lt {V : List RVer} {nm : ByteArray} : ∀ {l : List (ByteArray × Int)} {i : Nat}, showI V nm l = some i → i < V.length := by
  intro l
  have key : ∀ (l : List (ByteArray × Int)) (o : Option Nat), (∀ i, o = some i → i < V.length) → ∀ i, l.foldl (fun o h => (lastI (showP nm h) V).or o) o = some i → i < V.length := by
    intro l
    induction l with
    | nil => exact fun o h i e => h i e
    | cons a l ih =>
      intro o h i e
      refine ih _ (fun j hj => ?_) i e
      dsimp only at hj
      cases hl : lastI (showP nm a) V with
      | some m => rw [hl] at hj; cases hj; exact lastI_lt hl
      | none => rw [hl] at hj; exact h j hj
  exact fun {i} e => key l none (fun _ h => by cases h) i e
theorem toldI_lt {y : RM} {p : Op1} {i : Nat} (h : toldI y p = some i) : i < y.V.length := by
  unfold toldI at h
  split at h
  · exact showI_lt h
  · exact lastI_lt h
theorem shotB_at {S : List (ByteArray × List (ByteArray × Int))} {s : ByteArray} (h : shotB S s = true) : ∃ q, S[shotI S s]? = some q ∧ heldOf S s = q.2 := by
  unfold heldOf
  rw [if_pos h]
  unfold shotB at h
  cases hq : S[shotI S s]? with
  | none => rw [hq] at h; cases h
  | some q => exact ⟨q, rfl, rfl⟩
theorem extract_bytes (t : ByteArray) (a c : Nat) (hc : c ≤ t.size) : strB (t.extract a c) = ((strB t).drop a).take (c - a) := by
  unfold strB
  rw [ByteArray.data_extract, Array.toList_extract, List.extract_eq_take_drop]
theorem cut_ref (t : ByteArray) (fr sz c : Int) (h0 : 0 ≤ fr) (h1 : fr ≤ t.size) (h2 : 0 ≤ sz) (hc : c = if sz < t.size - fr then fr + sz else t.size) :
    strB (t.extract fr.toNat c.toNat) = ((strB t).drop fr.toNat).take sz.toNat := by
  have hl : ((strB t).drop fr.toNat).length = t.size - fr.toNat := by rw [List.length_drop, strB, ba_len]
  rw [extract_bytes _ _ _ (by split at hc <;> omega)]
  split at hc
  · congr 1; omega
  · rw [List.take_of_length_le (by omega), List.take_of_length_le (by omega)]
set_option maxHeartbeats 4000000 in
theorem rtold_sp (b : Nat) (y : RM) (u : RU) (p : Op1) (bv cv ct ca : Value) (F : Frz) (h : RY F y u) (z : RSz y) (hS : ∀ q ∈ y.S, q.2.length ≤ 4096) :
    Sp Tryz.prog 55 [ptr b, opV p bv cv ct ca] (RP b u y) F (ansQ (RP b u y) (toldR y p)) := by
  obtain ⟨uv, us, uo⟩ := u
  have h' := h
  obtain ⟨hv, hs, ho⟩ := h
  obtain ⟨va, vc, rfl⟩ := slR_len hv
  obtain ⟨sa, sc, rfl⟩ := slR_len hs
  have hzv := z.v
  have hzs := z.s
  refine sp_of Tryz.func55 rfl (by kernel_rfl) rfl fun R => ?_
  repeat (first | refine t_seq ?_ | refine t_region ?_ | refine to_nil ?_ | refine to_q rfl rfl rfl ?_ | refine to_fa rfl rfl ?_ | refine to_ld rfl rfl rfl ?_ | refine to_alloc rfl fun _ => ?_
                | refine to_boxA rfl rfl fun _ => ?_)
  rename_i bop ba
  refine t_condT rfl (fun h9 => ?_) (fun h9 => ?_)
  · simp only [beq_iff_eq] at h9
    repeat (first | refine t_seq ?_ | refine t_region ?_ | refine to_q rfl rfl rfl ?_)
    refine to_call rfl rfl (rnames_sp b y _ _ h' z) fun v B F1 le1 h1 => ?_
    obtain ⟨hn, rfl⟩ := h1
    obtain ⟨na, nc, rfl⟩ := slR_len hn
    repeat (first | refine to_nil ?_ | refine to_stA rfl rfl rfl rfl rfl rfl ?_ | refine to_bs rfl rfl rfl rfl ?_)
    refine t_emp u8R 1 5 none ?_
    exact t_ret (OSl u8R 1 5 nilS [] :: RP b ⟨_, _, uo⟩ y) Tryz.func55 (.cellA rfl rfl .nil) (by rw [toldR, if_pos h9]; exact ⟨_, _, rfl, hn, rfl⟩)
  simp only [beq_eq_false_iff_ne] at h9
  repeat (first | refine t_seq ?_ | refine t_region ?_ | refine to_nil ?_ | refine t_skip ?_ | refine to_q rfl rfl rfl ?_ | refine to_fa rfl rfl ?_ | refine to_ld rfl rfl rfl ?_)
  have hr : ∀ o, toldI y p = o → toldR y p = match o with
    | none => (9, 0, [], [])
    | some i => match y.V[i]? with
      | none => (9, 0, [], [])
      | some q => toldT p q.text := fun o e => by unfold toldR; rw [if_neg h9, e]
  refine t_cutJ (R := R) (fun _ : Unit => own bop (opC p bv cv ct ca) 40 :: own ba [.int .i64 0, .int .i64 0, nilS, nilS] 31 :: RP b ⟨.slice va y.V.length vc, .slice sa y.S.length sc, uo⟩ y)
    (fun _ => [(0, ptr b), (3, ptr bop), (4, ptr ba), (5, .int .i64 (ixO (toldI y p)))]) (fun _ _ => True) (fun _ F1 le1 _ => ?_) (fun tail => ?_)
  · cases hI : toldI y p with
    | none =>
      rw [show ixO none = -1 from rfl]
      repeat (first | refine t_seq ?_ | refine t_region ?_ | refine to_nil ?_ | refine to_q rfl rfl rfl ?_ | refine t_cond (t := true) rfl (fun _ => ?_) (fun h => nomatch h))
      refine to_call rfl rfl (rwrong_sp 9 _) fun v B F2 le_F2 h => ?_
      obtain ⟨rfl, rfl⟩ := h
      repeat (first | refine to_nil ?_ | refine to_stA rfl rfl rfl rfl rfl rfl ?_)
      refine t_emp u8R 1 5 none ?_
      exact t_ret (OSl u8R 1 5 nilS [] :: RP b ⟨_, _, uo⟩ y) Tryz.func55 (.cellA rfl rfl .nil) (by rw [hr _ hI]; exact ansQ_plain _ _ _ _)
    | some i =>
      have hlt := toldI_lt hI
      have hc := List.getElem?_eq_getElem hlt
      generalize y.V[i] = q at hc
      have hrr : toldR y p = toldT p q.text := by rw [hr _ hI]; simp only [hc]
      have hqt := z.t q (List.mem_of_getElem? hc)
      rw [show ixO (some i) = (i : Int) from rfl]
      obtain ⟨b_e, o_e, cap_e, u_e, e_e, hl_e, r_e, ro_e⟩ := slR_elem (P := Tryz.prog) (t := 101) (by_ := 56) hv hc
      cases e_e
      cases r_e
      repeat (first | refine t_seq ?_ | refine t_region ?_ | refine to_nil ?_ | refine t_skip ?_ | refine to_q rfl rfl rfl ?_ | refine to_fa rfl rfl ?_ | refine to_ld rfl rfl rfl ?_
                    | refine t_cond (t := false) rfl (fun h => nomatch h) (fun _ => ?_))
      refine to_ia rfl rfl rfl rfl hl_e ?_
      repeat (refine to_fa rfl rfl ?_)
      refine to_ldR (F0 := F) rfl rfl (ro_e.one (j := 3) (v := (.string q.text)) rfl) ?_
      repeat (first | refine t_seq ?_ | refine t_region ?_ | refine to_nil ?_ | refine to_q rfl rfl rfl ?_ | refine to_fa rfl rfl ?_ | refine to_ld rfl rfl rfl ?_)
      refine t_condT rfl (fun h8 => ?_) (fun h8 => ?_)
      · simp only [beq_iff_eq] at h8
        have e : toldT p q.text = (0, (q.text.size : Int), [], []) := by rw [toldT, if_pos h8]
        repeat (first | refine t_seq ?_ | refine t_region ?_ | refine to_nil ?_ | refine to_q rfl rfl rfl ?_ | refine to_stA rfl rfl rfl rfl rfl rfl ?_ | refine to_bs rfl rfl rfl rfl ?_ | refine to_lenT rfl rfl rfl ?_)
        refine t_emp u8R 1 5 none ?_
        exact t_ret (OSl u8R 1 5 nilS [] :: RP b ⟨_, _, uo⟩ y) Tryz.func55 (.cellA rfl rfl .nil) (by rw [hrr, e]; exact ansQ_plain _ _ _ _)
      simp only [beq_eq_false_iff_ne] at h8
      repeat (first | refine t_seq ?_ | refine t_region ?_ | refine to_nil ?_ | refine t_skip ?_ | refine to_q rfl rfl rfl ?_ | refine to_fa rfl rfl ?_ | refine to_ld rfl rfl rfl ?_)
      refine t_condT rfl (fun h6 => ?_) (fun h6 => ?_)
      · simp only [bne_iff_ne, ne_eq] at h6
        have e : toldT p q.text = (0, 0, strB q.text, []) := by rw [toldT, if_neg h8, if_pos h6]
        repeat (first | refine t_seq ?_ | refine t_region ?_ | refine to_q rfl rfl rfl ?_)
        refine to_cvSB rfl rfl fun bb cc => ?_
        repeat (first | refine to_nil ?_ | refine to_stA rfl rfl rfl rfl rfl rfl ?_ | refine to_bs rfl rfl rfl rfl ?_)
        exact t_ret (OSl u8R 1 5 (.slice (some ⟨bb, 0, none⟩) q.text.data.toList.length cc) q.text.data.toList :: RP b ⟨_, _, uo⟩ y) Tryz.func55 (.cellA rfl rfl .nil) (by rw [hrr, e]; exact ⟨_, _, rfl, slR_nil _ _ _ _ _, rfl⟩)
      simp only [bne_eq_false_iff_eq] at h6
      have e0 : toldT p q.text = if p.from_ < 0 ∨ p.from_ > q.text.size ∨ p.size < 0 then (2, 0, [], []) else (0, 0, ((strB q.text).drop p.from_.toNat).take p.size.toNat, []) := by rw [toldT, if_neg h8, if_neg (by simp [h6])]
      repeat (first | refine t_seq ?_ | refine t_region ?_ | refine t_skip ?_ | refine to_q rfl rfl rfl ?_ | refine to_fa rfl rfl ?_ | refine to_ld rfl rfl rfl ?_)
      refine to_gd rfl rfl (fun g1 => ?_) (fun g1 => ?_)
      · simp only [decide_eq_true_eq] at g1
        repeat (first | refine t_seq ?_ | refine t_region ?_ | refine to_nil ?_ | refine to_no rfl ?_ | refine to_q rfl rfl rfl ?_ | refine t_cond (t := true) rfl (fun _ => ?_) (fun h => nomatch h))
        refine to_call rfl rfl (rwrong_sp 2 _) fun v B F2 le_F2 h => ?_
        obtain ⟨rfl, rfl⟩ := h
        repeat (first | refine to_nil ?_ | refine to_stA rfl rfl rfl rfl rfl rfl ?_)
        refine t_emp u8R 1 5 none ?_
        exact t_ret (OSl u8R 1 5 nilS [] :: RP b ⟨_, _, uo⟩ y) Tryz.func55 (.cellA rfl rfl .nil) (by rw [hrr, e0, if_pos (by omega)]; exact ansQ_plain _ _ _ _)
      simp only [decide_eq_false_iff_not] at g1
      repeat (first | refine to_q rfl rfl rfl ?_ | refine to_fa rfl rfl ?_ | refine to_ld rfl rfl rfl ?_ | refine to_lenT rfl rfl rfl ?_)
      refine to_gd rfl rfl (fun g2 => ?_) (fun g2 => ?_)
      · simp only [decide_eq_true_eq] at g2
        repeat (first | refine t_seq ?_ | refine t_region ?_ | refine to_nil ?_ | refine to_no rfl ?_ | refine to_q rfl rfl rfl ?_ | refine t_cond (t := true) rfl (fun _ => ?_) (fun h => nomatch h))
        refine to_call rfl rfl (rwrong_sp 2 _) fun v B F2 le_F2 h => ?_
        obtain ⟨rfl, rfl⟩ := h
        repeat (first | refine to_nil ?_ | refine to_stA rfl rfl rfl rfl rfl rfl ?_)
        refine t_emp u8R 1 5 none ?_
        exact t_ret (OSl u8R 1 5 nilS [] :: RP b ⟨_, _, uo⟩ y) Tryz.func55 (.cellA rfl rfl .nil) (by rw [hrr, e0, if_pos (by omega)]; exact ansQ_plain _ _ _ _)
      simp only [decide_eq_false_iff_not] at g2
      repeat (first | refine to_nil ?_ | refine to_q rfl rfl rfl ?_ | refine to_fa rfl rfl ?_ | refine to_ld rfl rfl rfl ?_)
      refine t_condT rfl (fun g3 => ?_) (fun g3 => ?_)
      · simp only [decide_eq_true_eq] at g3
        repeat (first | refine t_seq ?_ | refine t_region ?_)
        refine to_call rfl rfl (rwrong_sp 2 _) fun v B F2 le_F2 h => ?_
        obtain ⟨rfl, rfl⟩ := h
        repeat (first | refine to_nil ?_ | refine to_stA rfl rfl rfl rfl rfl rfl ?_)
        refine t_emp u8R 1 5 none ?_
        exact t_ret (OSl u8R 1 5 nilS [] :: RP b ⟨_, _, uo⟩ y) Tryz.func55 (.cellA rfl rfl .nil) (by rw [hrr, e0, if_pos (by omega)]; exact ansQ_plain _ _ _ _)
      simp only [decide_eq_false_iff_not] at g3
      repeat (first | refine t_seq ?_ | refine t_region ?_ | refine to_nil ?_ | refine t_skip ?_ | refine to_q rfl rfl rfl ?_ | refine to_fa rfl rfl ?_ | refine to_ld rfl rfl rfl ?_
                    | refine to_sub_ rfl rfl rfl (by omega) (by omega) ?_ | refine to_lenT rfl rfl rfl ?_)
      refine t_condT rfl (fun g4 => ?_) (fun g4 => ?_)
      · simp only [decide_eq_true_eq] at g4
        repeat (first | refine t_seq ?_ | refine t_region ?_ | refine to_nil ?_ | refine to_q rfl rfl rfl ?_ | refine to_fa rfl rfl ?_ | refine to_ld rfl rfl rfl ?_ | refine to_add rfl rfl rfl (by omega) (by omega) ?_)
        refine to_slT rfl rfl rfl rfl (by omega) (by omega) (by omega) ?_
        refine to_cvSB rfl rfl fun bb cc => ?_
        repeat (first | refine to_nil ?_ | refine to_stA rfl rfl rfl rfl rfl rfl ?_ | refine to_bs rfl rfl rfl rfl ?_)
        exact t_ret (OSl u8R 1 5 (.slice (some ⟨bb, 0, none⟩) _ cc) (q.text.extract p.from_.toNat (p.from_ + p.size).toNat).data.toList :: RP b ⟨_, _, uo⟩ y) Tryz.func55 (.cellA rfl rfl .nil)
          (by rw [hrr, e0, if_neg (by omega), ← cut_ref q.text p.from_ p.size ((p.from_ + p.size)) (by omega) (by omega) (by omega) (by split <;> omega)]; exact ⟨_, _, rfl, slR_nil _ _ _ _ _, rfl⟩)
      · simp only [decide_eq_false_iff_not] at g4
        repeat (first | refine t_seq ?_ | refine t_region ?_ | refine t_skip ?_ | refine to_q rfl rfl rfl ?_ | refine to_fa rfl rfl ?_ | refine to_ld rfl rfl rfl ?_)
        refine to_slT rfl rfl rfl rfl (by omega) (by omega) (by omega) ?_
        refine to_cvSB rfl rfl fun bb cc => ?_
        repeat (first | refine to_nil ?_ | refine to_stA rfl rfl rfl rfl rfl rfl ?_ | refine to_bs rfl rfl rfl rfl ?_)
        exact t_ret (OSl u8R 1 5 (.slice (some ⟨bb, 0, none⟩) _ cc) (q.text.extract p.from_.toNat (q.text.size : Int).toNat).data.toList :: RP b ⟨_, _, uo⟩ y) Tryz.func55 (.cellA rfl rfl .nil)
          (by rw [hrr, e0, if_neg (by omega), ← cut_ref q.text p.from_ p.size ((q.text.size : Int)) (by omega) (by omega) (by omega) (by split <;> omega)]; exact ⟨_, _, rfl, slR_nil _ _ _ _ _, rfl⟩)
  · refine t_condT rfl (fun h7 => ?_) (fun h7 => ?_)
    · simp only [beq_iff_eq] at h7
      have hI : toldI y p = showI y.V p.name (heldOf y.S p.shot) := by rw [toldI, if_pos h7]
      repeat (first | refine t_seq ?_ | refine t_region ?_ | refine to_q rfl rfl rfl ?_ | refine to_fa rfl rfl ?_ | refine to_ld rfl rfl rfl ?_)
      refine to_call rfl rfl (rshot_sp b y _ p.shot _ h' z) fun v B F1 le1 h1 => ?_
      obtain ⟨rfl, rfl⟩ := h1
      repeat (first | refine t_seq ?_ | refine t_block ?_ | refine t_region ?_ | refine to_nil ?_ | refine to_q rfl rfl rfl ?_)
      cases hB : shotB y.S p.shot with
      | false =>
        have hn : toldI y p = none := by rw [hI, heldOf, if_neg (by simp [hB])]; rfl
        refine t_loop1 ?_
        repeat (first | refine t_seq ?_ | refine t_region ?_ | refine to_nil ?_ | refine to_no rfl ?_ | refine to_q rfl rfl rfl ?_ | refine t_cond (t := false) rfl (fun h => nomatch h) (fun _ => ?_))
        refine t_exit rfl ?_
        refine t_re (A := own bop (opC p bv cv ct ca) 40 :: own ba [.int .i64 0, .int .i64 0, nilS, nilS] 31 :: RP b ⟨_, _, uo⟩ y) (R := R) (tail () F1 le1 trivial) (by rw [hn]; exact (by repeat (first | exact trivial | refine ⟨rfl, ?_⟩)))
      | true =>
        obtain ⟨sh, hcs, hho⟩ := shotB_at hB
        have hlts := (List.getElem?_eq_some_iff.1 hcs).1
        have hshl := hS sh (List.mem_of_getElem? hcs)
        rw [hho] at hI
        generalize shotI y.S p.shot = k at hcs hlts
        obtain ⟨b_s, o_s, cap_s, u_s, e_s, hl_s, ⟨hv_s, ve_s, vr_s⟩, ro_s⟩ := slR_elem (P := Tryz.prog) (t := 103) (by_ := 40) hs hcs
        cases e_s
        cases ve_s
        obtain ⟨ha, hac, rfl⟩ := slR_len vr_s
        refine t_loopJ (R := R) (fun j : Nat => sh.2.length - j) (fun _ => own bop (opC p bv cv ct ca) 40 :: own ba [.int .i64 0, .int .i64 0, nilS, nilS] 31 :: RP b ⟨.slice va y.V.length vc, .slice (some ⟨b_s, o_s, none⟩) y.S.length sc, uo⟩ y)
          (fun j => [(0, ptr b), (3, ptr bop), (4, ptr ba), (5, .int .i64 (ixO (showI y.V p.name (sh.2.take j)))), (6, .int .i64 k), (7, .bool true), (8, .int .i64 j)]) (fun j _ => j ≤ sh.2.length) 0 (by repeat (first | exact trivial | refine ⟨rfl, ?_⟩)) (Nat.zero_le _) ?_
        intro j F2 le2 hj ih
        repeat (first | refine t_seq ?_ | refine t_region ?_ | refine to_q rfl rfl rfl ?_ | refine to_fa rfl rfl ?_ | refine to_ld rfl rfl rfl ?_)
        refine to_ia rfl rfl rfl rfl hl_s ?_
        repeat (refine to_fa rfl rfl ?_)
        refine to_ldR (F0 := F) rfl rfl (ro_s.one (j := 1) (v := (.slice ha sh.2.length hac)) rfl) ?_
        repeat (first | refine to_nil ?_ | refine to_q rfl rfl rfl ?_ | refine to_lenS rfl rfl rfl ?_)
        refine t_condT rfl (fun hltj => ?_) (fun hltj => ?_)
        · simp only [decide_eq_true_eq] at hltj
          have hltj : j < sh.2.length := by omega
          have hcj := List.getElem?_eq_getElem hltj
          generalize sh.2[j] = hd at hcj
          obtain ⟨b_h, o_h, cap_h, u_h, e_h, hl_h, r_h, ro_h⟩ := slR_elem (P := Tryz.prog) (t := 105) (by_ := 24) vr_s hcj
          cases e_h
          cases r_h
          repeat (first | refine t_seq ?_ | refine t_block ?_ | refine t_region ?_ | refine to_nil ?_ | refine t_skip ?_ | refine to_q rfl rfl rfl ?_)
          refine t_loopJ (R := R) (fun n : Nat => y.V.length - n) (fun _ => own bop (opC p bv cv ct ca) 40 :: own ba [.int .i64 0, .int .i64 0, nilS, nilS] 31 :: RP b ⟨.slice va y.V.length vc, .slice (some ⟨b_s, o_s, none⟩) y.S.length sc, uo⟩ y)
            (fun n => [(0, ptr b), (3, ptr bop), (4, ptr ba), (5, .int .i64 (ixO ((lastI (showP p.name hd) (y.V.take n)).or (showI y.V p.name (sh.2.take j))))), (6, .int .i64 k), (7, .bool true), (8, .int .i64 j), (9, .int .i64 n)]) (fun n _ => n ≤ y.V.length) 0 (by repeat (first | exact trivial | refine ⟨rfl, ?_⟩)) (Nat.zero_le _) ?_
          intro n F3 le3 hn ih2
          repeat (first | refine t_seq ?_ | refine t_region ?_ | refine to_nil ?_ | refine to_q rfl rfl rfl ?_ | refine to_fa rfl rfl ?_ | refine to_ld rfl rfl rfl ?_ | refine to_lenS rfl rfl rfl ?_)
          refine t_condT rfl (fun hltn => ?_) (fun hltn => ?_)
          · simp only [decide_eq_true_eq] at hltn
            have hltn : n < y.V.length := by omega
            have hcn := List.getElem?_eq_getElem hltn
            generalize y.V[n] = q at hcn
            have hsn : lastI (showP p.name hd) (y.V.take (n + 1)) = if showP p.name hd q then some n else lastI (showP p.name hd) (y.V.take n) := by rw [take_snoc' hcn, lastI_snoc, List.length_take, Nat.min_eq_left (by omega)]
            obtain ⟨b_e, o_e, cap_e, u_e, e_e, hl_e, r_e, ro_e⟩ := slR_elem (P := Tryz.prog) (t := 101) (by_ := 56) hv hcn
            cases e_e
            cases r_e
            repeat (first | refine t_seq ?_ | refine t_block ?_ | refine t_skip ?_)
            refine t_drawn1 (by kernel_rfl) (by kernel_rfl) ?_
            repeat (first | refine to_q rfl rfl rfl ?_ | refine to_fa rfl rfl ?_ | refine to_ld rfl rfl rfl ?_)
            refine to_ia rfl rfl rfl rfl hl_s ?_
            repeat (refine to_fa rfl rfl ?_)
            refine to_ldR (F0 := F) rfl rfl (ro_s.one (j := 1) (v := (.slice (some ⟨b_h, o_h, none⟩) sh.2.length hac)) rfl) ?_
            repeat (refine to_q rfl rfl rfl ?_)
            refine to_ia rfl rfl rfl rfl hl_h ?_
            repeat (refine to_fa rfl rfl ?_)
            refine to_ldR (F0 := F) rfl rfl (ro_h.one (j := 0) (v := .string hd.1) rfl) ?_
            repeat (first | refine to_q rfl rfl rfl ?_ | refine to_fa rfl rfl ?_ | refine to_ld rfl rfl rfl ?_)
            refine to_gd rfl rfl (fun w1 => ?_) (fun w1 => ?_)
            · rw [ba_beq, decide_eq_true_eq] at w1
              repeat (first | refine to_q rfl rfl rfl ?_ | refine to_fa rfl rfl ?_ | refine to_ld rfl rfl rfl ?_)
              refine to_ia rfl rfl rfl rfl hl_e ?_
              repeat (refine to_fa rfl rfl ?_)
              refine to_ldR (F0 := F) rfl rfl (ro_e.one (j := 0) (v := (.string q.name)) rfl) ?_
              repeat (first | refine to_q rfl rfl rfl ?_ | refine to_fa rfl rfl ?_ | refine to_ld rfl rfl rfl ?_)
              refine to_gd rfl rfl (fun w2 => ?_) (fun w2 => ?_)
              · rw [ba_beq, decide_eq_true_eq] at w2
                repeat (first | refine to_q rfl rfl rfl ?_ | refine to_fa rfl rfl ?_ | refine to_ld rfl rfl rfl ?_)
                refine to_ia rfl rfl rfl rfl hl_e ?_
                repeat (refine to_fa rfl rfl ?_)
                refine to_ldR (F0 := F) rfl rfl (ro_e.one (j := 1) (v := (.int .i64 q.gen)) rfl) ?_
                repeat (first | refine to_q rfl rfl rfl ?_ | refine to_fa rfl rfl ?_ | refine to_ld rfl rfl rfl ?_)
                refine to_ia rfl rfl rfl rfl hl_s ?_
                repeat (refine to_fa rfl rfl ?_)
                refine to_ldR (F0 := F) rfl rfl (ro_s.one (j := 1) (v := (.slice (some ⟨b_h, o_h, none⟩) sh.2.length hac)) rfl) ?_
                repeat (refine to_q rfl rfl rfl ?_)
                refine to_ia rfl rfl rfl rfl hl_h ?_
                repeat (refine to_fa rfl rfl ?_)
                refine to_ldR (F0 := F) rfl rfl (ro_h.one (j := 1) (v := .int .i64 hd.2) rfl) ?_
                repeat (first | refine to_nil ?_ | refine to_q rfl rfl rfl ?_)
                refine t_condT rfl (fun w3 => ?_) (fun w3 => ?_)
                · have e : lastI (showP p.name hd) (y.V.take (n + 1)) = some n := by rw [hsn, if_pos (by simp only [showP, w1, w2, w3]; simp)]
                  repeat (first | refine t_region ?_ | refine to_nil ?_ | refine t_inBlock ?_ | refine to_q rfl rfl rfl ?_ | refine to_add rfl rfl rfl (by omega) (by omega) ?_)
                  refine t_re (A := own bop (opC p bv cv ct ca) 40 :: own ba [.int .i64 0, .int .i64 0, nilS, nilS] 31 :: RP b ⟨_, _, uo⟩ y) (R := R) (ih2 (n + 1) F3 ⟨.refl _⟩ (by omega) (by omega)) (by rw [e]; exact (by repeat (first | exact trivial | refine ⟨rfl, ?_⟩)))
                · have e : lastI (showP p.name hd) (y.V.take (n + 1)) = lastI (showP p.name hd) (y.V.take n) := by rw [hsn, if_neg (by simp only [showP, w3]; simp)]
                  repeat (first | refine t_region ?_ | refine to_nil ?_ | refine t_skip ?_ | refine t_inBlock ?_ | refine to_q rfl rfl rfl ?_ | refine to_add rfl rfl rfl (by omega) (by omega) ?_)
                  refine t_re (A := own bop (opC p bv cv ct ca) 40 :: own ba [.int .i64 0, .int .i64 0, nilS, nilS] 31 :: RP b ⟨_, _, uo⟩ y) (R := R) (ih2 (n + 1) F3 ⟨.refl _⟩ (by omega) (by omega)) (by rw [e]; exact (by repeat (first | exact trivial | refine ⟨rfl, ?_⟩)))
              · rw [ba_beq, decide_eq_false_iff_not] at w2
                have e : lastI (showP p.name hd) (y.V.take (n + 1)) = lastI (showP p.name hd) (y.V.take n) := by rw [hsn, if_neg (by simp [showP, w2])]
                repeat (first | refine t_region ?_ | refine to_nil ?_ | refine t_skip ?_ | refine t_inBlock ?_ | refine to_no rfl ?_ | refine to_q rfl rfl rfl ?_ | refine to_add rfl rfl rfl (by omega) (by omega) ?_
                              | refine t_cond (t := false) rfl (fun h => nomatch h) (fun _ => ?_))
                refine t_re (A := own bop (opC p bv cv ct ca) 40 :: own ba [.int .i64 0, .int .i64 0, nilS, nilS] 31 :: RP b ⟨_, _, uo⟩ y) (R := R) (ih2 (n + 1) F3 ⟨.refl _⟩ (by omega) (by omega)) (by rw [e]; exact (by repeat (first | exact trivial | refine ⟨rfl, ?_⟩)))
            · rw [ba_beq, decide_eq_false_iff_not] at w1
              have e : lastI (showP p.name hd) (y.V.take (n + 1)) = lastI (showP p.name hd) (y.V.take n) := by rw [hsn, if_neg (by simp [showP, w1])]
              repeat (first | refine t_region ?_ | refine to_nil ?_ | refine t_skip ?_ | refine t_inBlock ?_ | refine to_no rfl ?_ | refine to_q rfl rfl rfl ?_ | refine to_add rfl rfl rfl (by omega) (by omega) ?_
                            | refine t_cond (t := false) rfl (fun h => nomatch h) (fun _ => ?_))
              refine t_re (A := own bop (opC p bv cv ct ca) 40 :: own ba [.int .i64 0, .int .i64 0, nilS, nilS] 31 :: RP b ⟨_, _, uo⟩ y) (R := R) (ih2 (n + 1) F3 ⟨.refl _⟩ (by omega) (by omega)) (by rw [e]; exact (by repeat (first | exact trivial | refine ⟨rfl, ?_⟩)))
          · simp only [decide_eq_false_iff_not] at hltn
            have hne : y.V.take n = y.V := List.take_of_length_le (by omega)
            have hs2 : showI y.V p.name (sh.2.take (j + 1)) = (lastI (showP p.name hd) y.V).or (showI y.V p.name (sh.2.take j)) := by rw [take_snoc' hcj, showI_snoc]
            rw [hne]
            repeat (first | refine t_region ?_ | refine to_nil ?_ | refine t_inBlock ?_ | refine to_q rfl rfl rfl ?_ | refine to_add rfl rfl rfl (by omega) (by omega) ?_ | refine t_exit rfl ?_)
            refine t_re (A := own bop (opC p bv cv ct ca) 40 :: own ba [.int .i64 0, .int .i64 0, nilS, nilS] 31 :: RP b ⟨_, _, uo⟩ y) (R := R) (ih (j + 1) F3 le3 (by omega) (by omega)) (by rw [hs2]; exact (by repeat (first | exact trivial | refine ⟨rfl, ?_⟩)))
        · simp only [decide_eq_false_iff_not] at hltj
          have hje : sh.2.take j = sh.2 := List.take_of_length_le (by omega)
          rw [hje, ← hI]
          skip
          refine t_exit rfl ?_
          refine t_re (A := own bop (opC p bv cv ct ca) 40 :: own ba [.int .i64 0, .int .i64 0, nilS, nilS] 31 :: RP b ⟨_, _, uo⟩ y) (R := R) (tail () F2 ⟨le1.h.trans le2.h⟩ trivial) (by repeat (first | exact trivial | refine ⟨rfl, ?_⟩))
    · simp only [beq_eq_false_iff_ne] at h7
      have hI : toldI y p = lastI (rfindP p.name p.gen) y.V := by rw [toldI, if_neg h7]
      repeat (first | refine t_region ?_ | refine to_q rfl rfl rfl ?_ | refine to_fa rfl rfl ?_ | refine to_ld rfl rfl rfl ?_)
      refine to_call rfl rfl (rfind_sp b y _ p.name p.gen _ h' z) fun v B F1 le1 h1 => ?_
      obtain ⟨rfl, rfl⟩ := h1
      rw [← hI]
      refine to_q rfl rfl rfl ?_
      refine to_nil ?_
      refine t_re (A := own bop (opC p bv cv ct ca) 40 :: own ba [.int .i64 0, .int .i64 0, nilS, nilS] 31 :: RP b ⟨_, _, uo⟩ y) (R := R) (tail () F1 le1 trivial) (by repeat (first | exact trivial | refine ⟨rfl, ?_⟩))
end Go.Proofs.YtbffngeameenoaaGreat
end

section
set_option maxRecDepth 100000
set_option linter.unusedVariables false
set_option linter.unusedSimpArgs false
namespace Go.Proofs.YtbffngeameenoaaGreat
open Go Go.Au
attribute [local irreducible] T TO

abbrev delS (S : List (ByteArray × List (ByteArray × Int))) (i : Nat) : List (ByteArray × List (ByteArray × Int)) := S.take i ++ S.drop (i + 1)
abbrev insS (S : List (ByteArray × List (ByteArray × Int))) (i : Nat) (q : ByteArray × List (ByteArray × Int)) : List (ByteArray × List (ByteArray × Int)) := (S.take i ++ [q]) ++ S.drop i
def shotsR (y : RM) (p : Op1) (sp : Bool) : Int × Int × RM :=
  if nameOk p.shot = false then (2, 0, y)
  else if p.do_ = 12 then (if shotB y.S p.shot = false then (9, 0, y)
    else (0, 0, { y with S := delS y.S (shotI y.S p.shot), V := y.V.filter (keepR (delS y.S (shotI y.S p.shot))) }))
  else if shotB y.S p.shot then (10, 0, y)
  else if 16 ≤ y.S.length then (6, 0, y)
  else if sp then (8, 0, y)
  else (0, 0, { y with S := insS y.S (shotI y.S p.shot) (p.shot, rnames y.V) })
theorem shotI_le (S : List (ByteArray × List (ByteArray × Int))) (s : ByteArray) : shotI S s ≤ S.length := List.Sublist.length_le (List.takeWhile_sublist _)
set_option maxHeartbeats 2000000 in
theorem rshots_sp (b : Nat) (y : RM) (u : RU) (p : Op1) (sp : Bool) (bv cv ct ca : Value) (F : Frz) (h : RY F y u) (z : RSz y) (hS : ∀ q ∈ y.S, q.2.length ≤ 4096) (h1 : p.shot.size ≤ 9223372036854775807) :
    Sp Tryz.prog 59 [ptr b, opV p bv cv ct ca, .bool sp] (RP b u y) F (rQ b [] (shotsR y p sp)) := by
  obtain ⟨uv, us, uo⟩ := u
  have h' := h
  obtain ⟨hv, hs, ho⟩ := h
  obtain ⟨sa, sc, rfl⟩ := slR_len hs
  have hzv := z.v
  have hzs := z.s
  have hile := shotI_le y.S p.shot
  refine sp_of Tryz.func59 rfl (by kernel_rfl) rfl fun R => ?_
  repeat (first | refine t_seq ?_ | refine t_region ?_ | refine to_nil ?_ | refine to_fa rfl rfl ?_ | refine to_ld rfl rfl rfl ?_ | refine to_alloc rfl fun _ => ?_ | refine to_boxA rfl rfl fun _ => ?_)
  rename_i bop ba
  refine to_call rfl rfl (rname_sp p.shot h1 _) fun v B F1 le1 h => ?_
  obtain ⟨rfl, rfl⟩ := h
  repeat (first | refine to_nil ?_ | refine to_q rfl rfl rfl ?_)
  refine t_condT rfl (fun hn => ?_) (fun hn => ?_)
  · simp only [Bool.not_eq_true'] at hn
    have e : shotsR y p sp = (2, 0, y) := by rw [shotsR, if_pos hn]
    repeat (first | refine t_seq ?_ | refine t_region ?_)
    refine to_call rfl rfl (rwrong_sp 2 _) fun v B F2 le_F2 h => ?_
    obtain ⟨rfl, rfl⟩ := h
    repeat (first | refine to_nil ?_ | refine to_stA rfl rfl rfl rfl rfl rfl ?_)
    exact t_ret (RP b ⟨uv, _, uo⟩ y) Tryz.func59 (.cellA rfl rfl .nil) (by rw [e]; exact ⟨⟨uv, _, uo⟩, h'.mono (le1.h.trans le_F2.h), rfl, rfl⟩)
  simp only [Bool.not_eq_false'] at hn
  have hw : shotsR y p sp = if p.do_ = 12 then (if shotB y.S p.shot = false then (9, 0, y)
    else (0, 0, { y with S := delS y.S (shotI y.S p.shot), V := y.V.filter (keepR (delS y.S (shotI y.S p.shot))) }))
    else if shotB y.S p.shot then (10, 0, y)
    else if 16 ≤ y.S.length then (6, 0, y)
    else if sp then (8, 0, y)
    else (0, 0, { y with S := insS y.S (shotI y.S p.shot) (p.shot, rnames y.V) }) := by rw [shotsR, if_neg (by simp [hn])]
  repeat (first | refine t_seq ?_ | refine t_region ?_ | refine t_skip ?_ | refine to_q rfl rfl rfl ?_ | refine to_fa rfl rfl ?_ | refine to_ld rfl rfl rfl ?_)
  refine to_call rfl rfl (rshot_sp b y _ p.shot _ (h'.mono le1.h) z) fun v B F2 le2 h2 => ?_
  obtain ⟨rfl, rfl⟩ := h2
  repeat (first | refine t_seq ?_ | refine t_region ?_ | refine to_nil ?_ | refine to_q rfl rfl rfl ?_ | refine to_fa rfl rfl ?_ | refine to_ld rfl rfl rfl ?_)
  refine t_condT rfl (fun h12 => ?_) (fun h12 => ?_)
  · simp only [beq_iff_eq] at h12
    rw [if_pos h12] at hw
    cases hB : shotB y.S p.shot with
    | false =>
      rw [if_pos hB] at hw
      repeat (first | refine t_seq ?_ | refine t_region ?_ | refine to_nil ?_ | refine to_q rfl rfl rfl ?_ | refine t_cond (t := true) rfl (fun _ => ?_) (fun h => nomatch h))
      refine to_call rfl rfl (rwrong_sp 9 _) fun v B F3 le_F3 h => ?_
      obtain ⟨rfl, rfl⟩ := h
      repeat (first | refine to_nil ?_ | refine to_stA rfl rfl rfl rfl rfl rfl ?_)
      exact t_ret (RP b ⟨uv, _, uo⟩ y) Tryz.func59 (.cellA rfl rfl .nil) (by rw [hw]; exact ⟨⟨uv, _, uo⟩, h'.mono ((le1.h.trans le2.h).trans le_F3.h), rfl, rfl⟩)
    | true =>
      rw [if_neg (by simp [hB])] at hw
      obtain ⟨sh, hcs, _⟩ := shotB_at hB
      have hlt := (List.getElem?_eq_some_iff.1 hcs).1
      generalize shotI y.S p.shot = i at hcs hlt hw hile ⊢
      have ht1 : (y.S.take i).length = i := by rw [List.length_take]; omega
      repeat (first | refine t_seq ?_ | refine t_region ?_ | refine to_nil ?_ | refine t_skip ?_ | refine to_q rfl rfl rfl ?_ | refine t_cond (t := false) rfl (fun h => nomatch h) (fun _ => ?_))
      refine t_drawnX [b] (by kernel_rfl) fun s0 hs0 => ?_
      refine to_frees (by assumption) [0,2,3,4,5,6,7,9,10,11,12,13,14,15,1,8,16,17,18,19] (by kernel_rfl) fun _ _ => ?_
      simp only [List.map_cons, List.map_nil, List.cons_append, List.nil_append, opAt, List.getElem?_cons_zero, List.getElem?_cons_succ, Option.getD_some]
      repeat (first | refine to_q rfl rfl rfl ?_ | refine to_fa rfl rfl ?_ | refine to_ldK rfl rfl rfl ?_)
      refine to_slR hs rfl rfl rfl rfl (by omega) (by omega) (by omega) fun s1 hs1 => ?_
      repeat (first | refine to_q rfl rfl rfl ?_ | refine to_fa rfl rfl ?_ | refine to_ldK rfl rfl rfl ?_ | refine to_add rfl rfl rfl (by omega) (by omega) ?_)
      refine to_slR hs rfl rfl rfl rfl (by omega) (by omega) (by omega) fun s2 hs2 => ?_
      replace hs1 : (slR rshotR 2).r F (y.S.take i) s1 := by simpa using hs1
      replace hs2 : (slR rshotR 2).r F (y.S.drop (i + 1)) s2 := by
        have e : ((i : Int) + 1).toNat = i + 1 := by omega
        rw [e] at hs2
        simpa using hs2
      refine to_bsl (len := 0) rfl rfl rfl rfl fun b1 => ?_
      refine to_osl (n := 2) (b := b1) rshotR [] .nil rfl ?_
      refine to_appR hs1 rfl rfl rfl rfl (by simp; omega) fun v1 => ?_
      refine to_appR hs2 rfl rfl rfl rfl (by rw [List.nil_append, List.length_drop, ht1]; omega) fun v2 => ?_
      refine to_freeze v2 fun F4 le4 hv2 => ?_
      rw [List.nil_append] at hv2
      obtain ⟨na, nc, rfl⟩ := slR_len hv2
      repeat (first | refine to_q rfl rfl rfl ?_ | refine to_fa rfl rfl ?_ | refine to_st rfl rfl rfl rfl rfl ?_)
      refine to_lin_nil (by assumption) (t_out ?_)
      repeat (first | refine t_seq ?_ | refine t_region ?_ | refine to_q rfl rfl rfl ?_)
      have le14 : FLe F F4 := (le1.h.trans le2.h).trans le4.h
      refine to_call rfl rfl (rsweep_sp b { y with S := delS y.S i } ⟨uv, .slice na (delS y.S i).length nc, uo⟩ _ ⟨(slR rverR 5).mono le14 hv, hv2, (slR rsesR 3).mono le14 ho⟩
        ⟨z.v, by show (delS y.S i).length ≤ 4096; rw [List.length_append, List.length_drop, ht1]; omega, z.o, z.t, z.u, z.g⟩ (fun q hq => by
          rcases List.mem_append.1 hq with hq | hq
          · exact hS q (List.mem_of_mem_take hq)
          · exact hS q (List.mem_of_mem_drop hq))) fun v B F5 le5 h5 => ?_
      obtain ⟨u5, hu5, rfl⟩ := h5
      repeat (first | refine t_seq ?_ | refine t_region ?_ | refine to_nil ?_ | refine to_stA rfl rfl rfl rfl rfl rfl ?_ | refine to_bs rfl rfl rfl rfl ?_)
      exact t_ret (RP b u5 _) Tryz.func59 (.cellA rfl rfl .nil) (by rw [hw]; exact ⟨u5, hu5, rfl, rfl⟩)
  · simp only [beq_eq_false_iff_ne] at h12
    rw [if_neg h12] at hw
    cases hB : shotB y.S p.shot with
    | true =>
      rw [if_pos hB] at hw
      repeat (first | refine t_seq ?_ | refine t_region ?_ | refine to_nil ?_ | refine t_skip ?_ | refine to_q rfl rfl rfl ?_ | refine t_cond (t := true) rfl (fun _ => ?_) (fun h => nomatch h))
      refine to_call rfl rfl (rwrong_sp 10 _) fun v B F3 le_F3 h => ?_
      obtain ⟨rfl, rfl⟩ := h
      repeat (first | refine to_nil ?_ | refine to_stA rfl rfl rfl rfl rfl rfl ?_)
      exact t_ret (RP b ⟨uv, _, uo⟩ y) Tryz.func59 (.cellA rfl rfl .nil) (by rw [hw]; exact ⟨⟨uv, _, uo⟩, h'.mono ((le1.h.trans le2.h).trans le_F3.h), rfl, rfl⟩)
    | false =>
      rw [if_neg (by simp [hB])] at hw
      repeat (first | refine t_seq ?_ | refine t_region ?_ | refine to_nil ?_ | refine t_skip ?_ | refine to_q rfl rfl rfl ?_ | refine to_fa rfl rfl ?_ | refine to_ld rfl rfl rfl ?_ | refine to_lenS rfl rfl rfl ?_
                    | refine t_cond (t := false) rfl (fun h => nomatch h) (fun _ => ?_))
      refine t_condT rfl (fun h16 => ?_) (fun h16 => ?_)
      · simp only [decide_eq_true_eq] at h16
        rw [if_pos (by omega)] at hw
        repeat (first | refine t_seq ?_ | refine t_region ?_)
        refine to_call rfl rfl (rwrong_sp 6 _) fun v B F3 le_F3 h => ?_
        obtain ⟨rfl, rfl⟩ := h
        repeat (first | refine to_nil ?_ | refine to_stA rfl rfl rfl rfl rfl rfl ?_)
        exact t_ret (RP b ⟨uv, _, uo⟩ y) Tryz.func59 (.cellA rfl rfl .nil) (by rw [hw]; exact ⟨⟨uv, _, uo⟩, h'.mono ((le1.h.trans le2.h).trans le_F3.h), rfl, rfl⟩)
      simp only [decide_eq_false_iff_not] at h16
      rw [if_neg (by omega)] at hw
      repeat (first | refine t_seq ?_ | refine t_region ?_ | refine to_nil ?_ | refine t_skip ?_ | refine to_q rfl rfl rfl ?_)
      cases sp
      · rw [if_neg (by simp)] at hw
        generalize shotI y.S p.shot = i at hw hile ⊢
        have ht1 : (y.S.take i).length = i := by rw [List.length_take]; omega
        repeat (first | refine t_seq ?_ | refine t_region ?_ | refine t_skip ?_ | refine t_cond (t := false) rfl (fun h => nomatch h) (fun _ => ?_))
        refine to_bsl (len := 0) rfl rfl rfl rfl fun b1 => ?_
        refine to_osl (n := 2) (b := b1) rshotR [] .nil rfl ?_
        repeat (first | refine to_q rfl rfl rfl ?_ | refine to_fa rfl rfl ?_ | refine to_ld rfl rfl rfl ?_)
        refine to_slR hs rfl rfl rfl rfl (by omega) (by omega) (by omega) fun s1 hs1 => ?_
        replace hs1 : (slR rshotR 2).r F (y.S.take i) s1 := by simpa using hs1
        refine to_appR hs1 rfl rfl rfl rfl (by simp; omega) fun v1 => ?_
        rw [List.nil_append]
        repeat (first | refine t_seq ?_ | refine to_nil ?_ | refine to_q rfl rfl rfl ?_)
        refine t_drawnX [b, bop] (by kernel_rfl) fun s0 hs0 => ?_
        refine to_frees (by assumption) [0,1,2,3,4,5,6,7,8] (by kernel_rfl) fun _ _ => ?_
        simp only [List.map_cons, List.map_nil, List.cons_append, List.nil_append, opAt, List.getElem?_cons_zero, List.getElem?_cons_succ, Option.getD_some]
        repeat (first | refine to_q rfl rfl rfl ?_ | refine to_fa rfl rfl ?_ | refine to_ldK rfl rfl rfl ?_)
        refine to_callK rfl rfl (rnames_sp b y _ _ (h'.mono (le1.h.trans le2.h)) z) fun v B F3 le_F3 h_F3 => ?_
        obtain ⟨hn3, rfl⟩ := h_F3
        obtain ⟨na, nc, rfl⟩ := slR_len hn3
        refine ⟨inferInstance, ?_⟩
        repeat (refine to_bs rfl rfl rfl rfl ?_)
        refine to_bsl (len := 1) rfl rfl rfl rfl fun b3 => ?_
        refine to_app1 (ρ := rshotR) (q := (p.shot, rnames y.V)) (u := .agg #[.string p.shot, .slice na (rnames y.V).length nc]) rfl rfl rfl rfl ⟨_, rfl, hn3⟩ rfl (by omega) fun v2 => ?_
        repeat (refine to_q rfl rfl rfl ?_)
        refine to_lin_nil (by assumption) (t_out ?_)
        repeat (first | refine t_seq ?_ | refine t_region ?_ | refine to_q rfl rfl rfl ?_ | refine to_fa rfl rfl ?_ | refine to_ld rfl rfl rfl ?_)
        refine to_slR hs rfl rfl rfl rfl (by omega) (by omega) (by omega) fun s2 hs2 => ?_
        replace hs2 : (slR rshotR 2).r F (y.S.drop i) s2 := by simpa using hs2
        refine to_appR hs2 rfl rfl rfl rfl (by rw [List.length_append, List.length_drop, List.length_singleton, ht1]; omega) fun v3 => ?_
        refine to_freeze v3 fun F4 le4 hv4 => ?_
        obtain ⟨ma, mc, rfl⟩ := slR_len hv4
        repeat (first | refine t_seq ?_ | refine t_region ?_ | refine to_nil ?_ | refine to_q rfl rfl rfl ?_ | refine to_fa rfl rfl ?_ | refine to_st rfl rfl rfl rfl rfl ?_ | refine to_stA rfl rfl rfl rfl rfl rfl ?_
                      | refine to_bs rfl rfl rfl rfl ?_)
        have le14 : FLe F F4 := ((le1.h.trans le2.h).trans le_F3.h).trans le4.h
        exact t_ret (RP b ⟨uv, .slice ma (insS y.S i (p.shot, rnames y.V)).length mc, uo⟩ { y with S := insS y.S i (p.shot, rnames y.V) }) Tryz.func59 (.cellA rfl rfl .nil)
          (by rw [hw]; exact ⟨⟨uv, .slice ma (insS y.S i (p.shot, rnames y.V)).length mc, uo⟩, ⟨(slR rverR 5).mono le14 hv, hv4, (slR rsesR 3).mono le14 ho⟩, rfl, rfl⟩)
      · rw [if_pos rfl] at hw
        repeat (first | refine t_seq ?_ | refine t_region ?_ | refine t_cond (t := true) rfl (fun _ => ?_) (fun h => nomatch h))
        refine to_call rfl rfl (rwrong_sp 8 _) fun v B F3 le_F3 h => ?_
        obtain ⟨rfl, rfl⟩ := h
        repeat (first | refine to_nil ?_ | refine to_stA rfl rfl rfl rfl rfl rfl ?_)
        exact t_ret (RP b ⟨uv, _, uo⟩ y) Tryz.func59 (.cellA rfl rfl .nil) (by rw [hw]; exact ⟨⟨uv, _, uo⟩, h'.mono ((le1.h.trans le2.h).trans le_F3.h), rfl, rfl⟩)
end Go.Proofs.YtbffngeameenoaaGreat
end

section
set_option maxRecDepth 100000
set_option linter.unusedVariables false
set_option linter.unusedSimpArgs false
namespace Go.Proofs.YtbffngeameenoaaGreat
open Go Go.Au
attribute [local irreducible] T TO

def rElig (v w : RVer) : Bool := decide (w.name = v.name) && !w.gone
def rAfter (v : RVer) (V : List RVer) : Nat := (V.filter fun w => rElig v w && decide (w.gen > v.gen)).length
def rSame (step : Int) (v : RVer) (V : List RVer) : Bool := V.any fun w => rElig v w && (decide (w.gen > v.gen) && (slotX step w.time == slotX step v.time))
def rLater1 (step : Int) (v : RVer) (l : List Int) (w : RVer) : List Int :=
  if (rElig v w && decide (slotX step w.time > slotX step v.time)) && !(l.any fun s => s == slotX step w.time) then l ++ [slotX step w.time] else l
def rLater (step : Int) (v : RVer) (V : List RVer) : List Int := V.foldl (rLater1 step v) []
def rstays (now : Int) (v : RVer) (k : Kp) (V : List RVer) : Bool :=
  decide ((rAfter v V : Int) < k.last) || (decide (v.time > now - k.young) || (!(rSame k.step v V) && decide (((rLater k.step v V).length : Int) < k.count)))
theorem rAfter_snoc (v : RVer) (V : List RVer) (w : RVer) : rAfter v (V ++ [w]) = rAfter v V + if rElig v w && decide (w.gen > v.gen) then 1 else 0 := by
  unfold rAfter
  rw [List.filter_append]
  by_cases h : (rElig v w && decide (w.gen > v.gen)) = true
  · simp [h]
  · simp [h]
theorem rSame_snoc (step : Int) (v : RVer) (V : List RVer) (w : RVer) : rSame step v (V ++ [w]) = (rSame step v V || (rElig v w && (decide (w.gen > v.gen) && (slotX step w.time == slotX step v.time)))) := by
  unfold rSame; rw [List.any_append]; simp
theorem rLater_snoc (step : Int) (v : RVer) (V : List RVer) (w : RVer) : rLater step v (V ++ [w]) = rLater1 step v (rLater step v V) w := by simp [rLater]
theorem rAfter_le (v : RVer) (V : List RVer) : rAfter v V ≤ V.length := List.length_filter_le _ _
theorem rLater_le (step : Int) (v : RVer) : ∀ (V : List RVer) (l : List Int), (V.foldl (rLater1 step v) l).length ≤ l.length + V.length
  | [], l => by simp
  | w :: V, l => by
    have h1 := rLater_le step v V (rLater1 step v l w)
    have h2 : (rLater1 step v l w).length ≤ l.length + 1 := by
      unfold rLater1
      split <;> simp
    simp only [List.foldl_cons, List.length_cons]; omega
def TmOk (t : Int) : Prop := 0 ≤ t ∧ t ≤ 9007199254740991
set_option maxHeartbeats 4000000 in
theorem rstays_sp (b : Nat) (y : RM) (u : RU) (v : RVer) (k : Kp) (F : Frz) (h : RY F y u) (z : RSz y) (hk : KpOk k) (n0 : 0 ≤ y.now) (n1 : y.now ≤ 9007199254740991)
    (ht : ∀ q ∈ y.V, TmOk q.time) (hvt : TmOk v.time) :
    Sp Tryz.prog 85 [ptr b, rverV v, kpV k] (RP b u y) F (fun r B F' => r = .bool (rstays y.now v k y.V) ∧ B = RP b u y) := by
  obtain ⟨uv, us, uo⟩ := u
  have h' := h
  obtain ⟨hv, hs, ho⟩ := h
  obtain ⟨va, vc, rfl⟩ := slR_len hv
  have hzv := z.v
  obtain ⟨k0, k1, k2, k3, k4, k5, k6, k7⟩ := hk
  refine sp_of Tryz.func85 rfl (by kernel_rfl) rfl fun R => ?_
  refine t_seq ?_
  refine t_region ?_
  refine to_boxA (cs := [.string v.name, .int .i64 v.gen, .int .i64 v.time, .string v.text, .bool v.gone]) rfl rfl fun b4 => ?_
  refine to_boxA (cs := [.int .i64 k.last, .int .i64 k.young, .int .i64 k.step, .int .i64 k.count]) rfl rfl fun bk => ?_
  repeat (first | refine t_seq ?_ | refine t_region ?_ | refine to_nil ?_ | refine to_q rfl rfl rfl ?_)
  refine to_bsl (len := 0) rfl rfl rfl rfl fun b1 => ?_
  refine to_osl (n := 1) (b := b1) intR [] .nil rfl ?_
  repeat (first | refine t_seq ?_ | refine t_block ?_ | refine t_region ?_ | refine to_nil ?_ | refine to_q rfl rfl rfl ?_)
  refine t_loopJ (R := R) (fun z : Nat × Value × List Int => y.V.length - z.1)
    (fun z => OSl intR 1 3 z.2.1 z.2.2 :: own b4 [.string v.name, .int .i64 v.gen, .int .i64 v.time, .string v.text, .bool v.gone] 101 :: own bk [.int .i64 k.last, .int .i64 k.young, .int .i64 k.step, .int .i64 k.count] 35 :: RP b ⟨.slice va y.V.length vc, us, uo⟩ y)
    (fun z => [(0, ptr b), (4, ptr b4), (5, ptr bk), (7, .int .i64 (rAfter v (y.V.take z.1))), (8, .bool (rSame k.step v (y.V.take z.1))), (9, z.2.1), (10, .int .i64 z.1)]) (fun z _ => z.1 ≤ y.V.length ∧ z.2.2 = rLater k.step v (y.V.take z.1)) (0, .slice (some ⟨b1, 0, none⟩) 0 0, []) (by repeat (first | exact trivial | refine ⟨rfl, ?_⟩)) ⟨Nat.zero_le _, rfl⟩ ?_
  rintro ⟨i, w9, l9⟩ F1 le1 hg ih
  dsimp only at hg ih ⊢
  obtain ⟨hi, hl9⟩ := hg
  have hal := rAfter_le v (y.V.take i)
  rw [List.length_take] at hal
  have hll : l9.length ≤ 4096 := by
    have := rLater_le k.step v (y.V.take i) []
    rw [List.length_take, List.length_nil] at this
    rw [hl9]; unfold rLater; omega
  repeat (first | refine t_seq ?_ | refine t_region ?_ | refine to_nil ?_ | refine to_q rfl rfl rfl ?_ | refine to_fa rfl rfl ?_ | refine to_ld rfl rfl rfl ?_ | refine to_lenS rfl rfl rfl ?_)
  refine t_condT rfl (fun hlt => ?_) (fun hlt => ?_)
  · simp only [decide_eq_true_eq] at hlt
    have hlt : i < y.V.length := by omega
    have hc := List.getElem?_eq_getElem hlt
    have htk : y.V.take (i + 1) = y.V.take i ++ [y.V[i]] := take_snoc' hc
    generalize y.V[i] = w at hc htk
    have hwt := ht w (List.mem_of_getElem? hc)
    have eA := rAfter_snoc v (y.V.take i) w
    have eS := rSame_snoc k.step v (y.V.take i) w
    have eL := rLater_snoc k.step v (y.V.take i) w
    rw [← htk] at eA eS eL
    rw [← hl9] at eL
    have skip_ : rElig v w = false → rAfter v (y.V.take (i + 1)) = rAfter v (y.V.take i) ∧ rSame k.step v (y.V.take (i + 1)) = rSame k.step v (y.V.take i) ∧ rLater k.step v (y.V.take (i + 1)) = l9 := fun h => by
      rw [eA, eS, eL]
      simp [h, rLater1]
    obtain ⟨b_e, o_e, cap_e, u_e, e_e, hl_e, r_e, ro_e⟩ := slR_elem (P := Tryz.prog) (t := 101) (by_ := 56) hv hc
    cases e_e
    cases r_e
    repeat (first | refine t_seq ?_ | refine t_block ?_ | refine t_region ?_ | refine t_skip ?_ | refine to_q rfl rfl rfl ?_ | refine to_fa rfl rfl ?_ | refine to_ld rfl rfl rfl ?_)
    refine to_ia rfl rfl rfl rfl hl_e ?_
    refine to_ldV (F1 := F) (ρ := rverR) (q := w) rfl ro_e rfl rfl ?_
    repeat (first | refine t_seq ?_ | refine t_region ?_ | refine to_nil ?_ | refine to_q rfl rfl rfl ?_ | refine to_fa rfl rfl ?_ | refine to_ld rfl rfl rfl ?_ | refine to_stA rfl rfl rfl rfl rfl rfl ?_
                  | refine to_alloc rfl fun _ => ?_)
    rename_i b11
    refine to_gd rfl rfl (fun g1 => ?_) (fun g1 => ?_)
    · rw [ba_beq, Bool.not_eq_true', decide_eq_false_iff_not] at g1
      obtain ⟨e1, e2, e3⟩ := skip_ (by simp [rElig, g1])
      repeat (first | refine t_region ?_ | refine to_nil ?_ | refine to_no rfl ?_ | refine to_q rfl rfl rfl ?_ | refine to_add rfl rfl rfl (by omega) (by omega) ?_
                    | refine t_cond (t := true) rfl (fun _ => ?_) (fun h => nomatch h) | refine t_exit rfl ?_)
      refine t_re (A := OSl intR 1 3 w9 l9 :: own b4 [.string v.name, .int .i64 v.gen, .int .i64 v.time, .string v.text, .bool v.gone] 101 :: own bk [.int .i64 k.last, .int .i64 k.young, .int .i64 k.step, .int .i64 k.count] 35 :: RP b ⟨_, us, uo⟩ y) (R := R)
        (by have := ih (i + 1, w9, l9) F1 ⟨.refl _⟩ (by dsimp only; omega) ⟨by dsimp only; omega, e3.symm⟩; dsimp only at this; rw [e1, e2] at this; exact this) (by repeat (first | exact trivial | refine ⟨rfl, ?_⟩))
    rw [ba_beq, Bool.not_eq_false', decide_eq_true_eq] at g1
    repeat (first | refine to_nil ?_ | refine to_q rfl rfl rfl ?_ | refine to_fa rfl rfl ?_ | refine to_ld rfl rfl rfl ?_)
    refine t_condT rfl (fun g2 => ?_) (fun g2 => ?_)
    · obtain ⟨e1, e2, e3⟩ := skip_ (by simp [rElig, g2])
      repeat (first | refine t_region ?_ | refine to_nil ?_ | refine to_q rfl rfl rfl ?_ | refine to_add rfl rfl rfl (by omega) (by omega) ?_ | refine t_exit rfl ?_)
      refine t_re (A := OSl intR 1 3 w9 l9 :: own b4 [.string v.name, .int .i64 v.gen, .int .i64 v.time, .string v.text, .bool v.gone] 101 :: own bk [.int .i64 k.last, .int .i64 k.young, .int .i64 k.step, .int .i64 k.count] 35 :: RP b ⟨_, us, uo⟩ y) (R := R)
        (by have := ih (i + 1, w9, l9) F1 ⟨.refl _⟩ (by dsimp only; omega) ⟨by dsimp only; omega, e3.symm⟩; dsimp only at this; rw [e1, e2] at this; exact this) (by repeat (first | exact trivial | refine ⟨rfl, ?_⟩))
    have hel : rElig v w = true := by simp [rElig, g1, g2]
    rw [hel, Bool.true_and] at eA eS
    have hsw := slot_wrap hwt.1 hwt.2 k4
    have hsv := slot_wrap hvt.1 hvt.2 k4
    repeat (first | refine t_seq ?_ | refine t_region ?_ | refine to_nil ?_ | refine t_skip ?_ | refine to_q rfl rfl rfl ?_ | refine to_fa rfl rfl ?_ | refine to_ld rfl rfl rfl ?_)
    refine t_cutK (R := R) (fun _ : Unit => own b11 [.string w.name, .int .i64 w.gen, .int .i64 w.time, .string w.text, .bool w.gone] 101 :: OSl intR 1 3 w9 l9 :: own b4 [.string v.name, .int .i64 v.gen, .int .i64 v.time, .string v.text, .bool v.gone] 101 :: own bk [.int .i64 k.last, .int .i64 k.young, .int .i64 k.step, .int .i64 k.count] 35 :: RP b ⟨.slice (some ⟨b_e, o_e, none⟩) y.V.length vc, us, uo⟩ y)
      (fun _ => [(0, ptr b), (4, ptr b4), (5, ptr bk), (7, .int .i64 (rAfter v (y.V.take (i + 1)))), (8, .bool (rSame k.step v (y.V.take (i + 1)))), (9, w9), (10, .int .i64 i), (11, ptr b11)]) (fun _ _ => True) (fun _ F2 le2 _ => ?_) (fun k' tail => ?_)
    · repeat (refine t_seq ?_)
      refine t_drawn1 (by kernel_rfl) (by kernel_rfl) ?_
      repeat (first | refine to_fa rfl rfl ?_ | refine to_ld rfl rfl rfl ?_)
      refine to_quo rfl rfl rfl (by omega) ?_
      rw [hsw]
      repeat (first | refine to_fa rfl rfl ?_ | refine to_ld rfl rfl rfl ?_)
      refine to_quo rfl rfl rfl (by omega) ?_
      rw [hsv]
      repeat (first | refine to_nil ?_ | refine to_q rfl rfl rfl ?_)
      refine t_condT rfl (fun h5 => ?_) (fun h5 => ?_)
      · simp only [decide_eq_true_eq] at h5
        repeat (first | refine t_seq ?_ | refine t_block ?_ | refine t_region ?_ | refine to_nil ?_ | refine to_q rfl rfl rfl ?_)
        refine t_loopJ (R := R) (fun n : Nat => l9.length - n) (fun _ => own b11 [.string w.name, .int .i64 w.gen, .int .i64 w.time, .string w.text, .bool w.gone] 101 :: OSl intR 1 3 w9 l9 :: own b4 [.string v.name, .int .i64 v.gen, .int .i64 v.time, .string v.text, .bool v.gone] 101 :: own bk [.int .i64 k.last, .int .i64 k.young, .int .i64 k.step, .int .i64 k.count] 35 :: RP b ⟨.slice (some ⟨b_e, o_e, none⟩) y.V.length vc, us, uo⟩ y)
          (fun n => [(0, ptr b), (4, ptr b4), (5, ptr bk), (7, .int .i64 (rAfter v (y.V.take (i + 1)))), (8, .bool (rSame k.step v (y.V.take (i + 1)))), (9, w9), (10, .int .i64 i), (11, ptr b11), (12, .bool ((l9.take n).any fun s => s == slotX k.step w.time)), (13, .int .i64 n)]) (fun n _ => n ≤ l9.length) 0 (by repeat (first | exact trivial | refine ⟨rfl, ?_⟩)) (Nat.zero_le _) ?_
        intro n F3 le3 hn ih2
        repeat (first | refine t_seq ?_ | refine t_region ?_ | refine to_nil ?_ | refine to_q rfl rfl rfl ?_ | refine to_lenO rfl rfl rfl ?_)
        refine t_condT rfl (fun hltn => ?_) (fun hltn => ?_)
        · simp only [decide_eq_true_eq] at hltn
          have hltn : n < l9.length := by omega
          have hcn := List.getElem?_eq_getElem hltn
          generalize l9[n] = s9 at hcn
          have hsn : ((l9.take (n + 1)).any fun s => s == slotX k.step w.time) = (((l9.take n).any fun s => s == slotX k.step w.time) || (s9 == slotX k.step w.time)) := by rw [take_snoc' hcn, List.any_append]; simp
          generalize hcur : ((l9.take n).any fun s => s == slotX k.step w.time) = cur at hsn
          refine t_lit w9 (List.ne_nil_of_length_pos (show 0 < l9.length by omega)) fun bl cl el => ?_
          subst el
          repeat (first | refine t_seq ?_ | refine t_block ?_ | refine t_skip ?_)
          refine t_drawn1 (by kernel_rfl) (by kernel_rfl) ?_
          repeat (refine to_q rfl rfl rfl ?_)
          refine to_gd rfl rfl (fun h6 => ?_) (fun h6 => ?_)
          · repeat (first | refine t_region ?_ | refine to_nil ?_ | refine t_inBlock ?_ | refine to_no rfl ?_ | refine to_q rfl rfl rfl ?_ | refine to_add rfl rfl rfl (by omega) (by omega) ?_)
            refine t_re (A := own b11 [.string w.name, .int .i64 w.gen, .int .i64 w.time, .string w.text, .bool w.gone] 101 :: OSl intR 1 3 _ l9 :: own b4 [.string v.name, .int .i64 v.gen, .int .i64 v.time, .string v.text, .bool v.gone] 101 :: own bk [.int .i64 k.last, .int .i64 k.young, .int .i64 k.step, .int .i64 k.count] 35 :: RP b ⟨.slice (some ⟨b_e, o_e, none⟩) y.V.length vc, us, uo⟩ y) (R := R) (ih2 (n + 1) F3 ⟨.refl _⟩ (by omega) (by omega)) (by rw [hsn, h6, Bool.true_or]; exact (by repeat (first | exact trivial | refine ⟨rfl, ?_⟩)))
          · repeat (refine to_q rfl rfl rfl ?_)
            refine to_ia rfl rfl rfl rfl hltn ?_
            refine to_ldO (ρ := intR) (j := n) (q := s9) rfl rfl rfl hcn fun u hu => ?_
            cases hu
            repeat (first | refine to_fa rfl rfl ?_ | refine to_ld rfl rfl rfl ?_)
            refine to_quo rfl rfl rfl (by omega) ?_
            rw [hsw]
            repeat (first | refine t_region ?_ | refine to_nil ?_ | refine t_inBlock ?_ | refine to_q rfl rfl rfl ?_ | refine to_add rfl rfl rfl (by omega) (by omega) ?_)
            refine t_re (A := own b11 [.string w.name, .int .i64 w.gen, .int .i64 w.time, .string w.text, .bool w.gone] 101 :: OSl intR 1 3 _ l9 :: own b4 [.string v.name, .int .i64 v.gen, .int .i64 v.time, .string v.text, .bool v.gone] 101 :: own bk [.int .i64 k.last, .int .i64 k.young, .int .i64 k.step, .int .i64 k.count] 35 :: RP b ⟨.slice (some ⟨b_e, o_e, none⟩) y.V.length vc, us, uo⟩ y) (R := R) (ih2 (n + 1) F3 ⟨.refl _⟩ (by omega) (by omega)) (by rw [hsn, h6, Bool.false_or]; exact (by repeat (first | exact trivial | refine ⟨rfl, ?_⟩)))
        · simp only [decide_eq_false_iff_not] at hltn
          have hne : l9.take n = l9 := List.take_of_length_le (by omega)
          rw [hne]
          repeat (first | refine t_seq ?_ | refine t_region ?_ | refine to_nil ?_ | refine to_q rfl rfl rfl ?_ | refine t_exit rfl ?_)
          refine t_condT rfl (fun h7 => ?_) (fun h7 => ?_)
          · simp only [Bool.not_eq_true'] at h7
            have eL2 : rLater k.step v (y.V.take (i + 1)) = l9 ++ [slotX k.step w.time] := by rw [eL, rLater1, if_pos (by rw [hel, h7]; simp; omega)]
            repeat (first | refine t_region ?_ | refine to_q rfl rfl rfl ?_ | refine to_fa rfl rfl ?_ | refine to_ld rfl rfl rfl ?_)
            refine to_quo rfl rfl rfl (by omega) ?_
            rw [hsw]
            skip
            refine to_bsl (len := 1) rfl rfl rfl rfl fun b3 => ?_
            refine to_app1 (ρ := intR) (q := slotX k.step w.time) (u := .int .i64 (slotX k.step w.time)) rfl rfl rfl rfl rfl rfl (by omega) fun w2 => ?_
            repeat (first | refine t_region ?_ | refine to_nil ?_ | refine t_inBlock ?_ | refine to_q rfl rfl rfl ?_ | refine to_add rfl rfl rfl (by omega) (by omega) ?_)
            refine t_re (A := OSl intR 1 3 w2 (l9 ++ [slotX k.step w.time]) :: own b4 [.string v.name, .int .i64 v.gen, .int .i64 v.time, .string v.text, .bool v.gone] 101 :: own bk [.int .i64 k.last, .int .i64 k.young, .int .i64 k.step, .int .i64 k.count] 35 :: RP b ⟨.slice (some ⟨b_e, o_e, none⟩) y.V.length vc, us, uo⟩ y) (R := R)
              (ih (i + 1, w2, l9 ++ [slotX k.step w.time]) F3 ⟨le2.h.trans le3.h⟩ (by dsimp only; omega) ⟨by dsimp only; omega, eL2.symm⟩) (by repeat (first | exact trivial | refine ⟨rfl, ?_⟩))
          · simp only [Bool.not_eq_false'] at h7
            have eL2 : rLater k.step v (y.V.take (i + 1)) = l9 := by rw [eL, rLater1, if_neg (by rw [h7]; simp)]
            repeat (first | refine t_region ?_ | refine to_nil ?_ | refine t_skip ?_ | refine t_inBlock ?_ | refine to_q rfl rfl rfl ?_ | refine to_add rfl rfl rfl (by omega) (by omega) ?_)
            refine t_re (A := OSl intR 1 3 w9 l9 :: own b4 [.string v.name, .int .i64 v.gen, .int .i64 v.time, .string v.text, .bool v.gone] 101 :: own bk [.int .i64 k.last, .int .i64 k.young, .int .i64 k.step, .int .i64 k.count] 35 :: RP b ⟨.slice (some ⟨b_e, o_e, none⟩) y.V.length vc, us, uo⟩ y) (R := R)
              (ih (i + 1, w9, l9) F3 ⟨le2.h.trans le3.h⟩ (by dsimp only; omega) ⟨by dsimp only; omega, eL2.symm⟩) (by repeat (first | exact trivial | refine ⟨rfl, ?_⟩))
      · simp only [decide_eq_false_iff_not] at h5
        have eL2 : rLater k.step v (y.V.take (i + 1)) = l9 := by rw [eL, rLater1, if_neg (by simp; omega)]
        repeat (first | refine t_region ?_ | refine to_nil ?_ | refine t_skip ?_ | refine t_inBlock ?_ | refine to_q rfl rfl rfl ?_ | refine to_add rfl rfl rfl (by omega) (by omega) ?_)
        refine t_re (A := OSl intR 1 3 w9 l9 :: own b4 [.string v.name, .int .i64 v.gen, .int .i64 v.time, .string v.text, .bool v.gone] 101 :: own bk [.int .i64 k.last, .int .i64 k.young, .int .i64 k.step, .int .i64 k.count] 35 :: RP b ⟨.slice (some ⟨b_e, o_e, none⟩) y.V.length vc, us, uo⟩ y) (R := R)
          (ih (i + 1, w9, l9) F2 le2 (by dsimp only; omega) ⟨by dsimp only; omega, eL2.symm⟩) (by repeat (first | exact trivial | refine ⟨rfl, ?_⟩))
    · refine t_condT rfl (fun h5 => ?_) (fun h5 => ?_)
      · simp only [decide_eq_true_eq] at h5
        rw [decide_eq_true h5, if_pos rfl] at eA
        rw [decide_eq_true h5, Bool.true_and] at eS
        repeat (first | refine t_seq ?_ | refine t_region ?_ | refine to_nil ?_ | refine to_q rfl rfl rfl ?_ | refine to_add rfl rfl rfl (by omega) (by omega) ?_)
        refine t_drawn1 (by kernel_rfl) (by kernel_rfl) ?_
        repeat (refine to_q rfl rfl rfl ?_)
        generalize hcur : rSame k.step v (y.V.take i) = cur at eS
        refine to_gd rfl rfl (fun h6 => ?_) (fun h6 => ?_)
        · rw [h6, Bool.true_or] at eS
          repeat (first | refine to_nil ?_ | refine to_no rfl ?_ | refine to_q rfl rfl rfl ?_)
          refine t_re (A := own b11 [.string w.name, .int .i64 w.gen, .int .i64 w.time, .string w.text, .bool w.gone] 101 :: OSl intR 1 3 w9 l9 :: own b4 [.string v.name, .int .i64 v.gen, .int .i64 v.time, .string v.text, .bool v.gone] 101 :: own bk [.int .i64 k.last, .int .i64 k.young, .int .i64 k.step, .int .i64 k.count] 35 :: RP b ⟨.slice (some ⟨b_e, o_e, none⟩) y.V.length vc, us, uo⟩ y) (R := R) (tail () F1 ⟨.refl _⟩ trivial) (by rw [eA, eS]; exact (by repeat (first | exact trivial | refine ⟨rfl, ?_⟩)))
        · rw [h6, Bool.false_or] at eS
          repeat (first | refine to_fa rfl rfl ?_ | refine to_ld rfl rfl rfl ?_)
          refine to_quo rfl rfl rfl (by omega) ?_
          rw [hsw]
          repeat (first | refine to_fa rfl rfl ?_ | refine to_ld rfl rfl rfl ?_)
          refine to_quo rfl rfl rfl (by omega) ?_
          rw [hsv]
          repeat (first | refine to_nil ?_ | refine to_q rfl rfl rfl ?_)
          refine t_re (A := own b11 [.string w.name, .int .i64 w.gen, .int .i64 w.time, .string w.text, .bool w.gone] 101 :: OSl intR 1 3 w9 l9 :: own b4 [.string v.name, .int .i64 v.gen, .int .i64 v.time, .string v.text, .bool v.gone] 101 :: own bk [.int .i64 k.last, .int .i64 k.young, .int .i64 k.step, .int .i64 k.count] 35 :: RP b ⟨.slice (some ⟨b_e, o_e, none⟩) y.V.length vc, us, uo⟩ y) (R := R) (tail () F1 ⟨.refl _⟩ trivial) (by rw [eA, eS]; exact (by repeat (first | exact trivial | refine ⟨rfl, ?_⟩)))
      · simp only [decide_eq_false_iff_not] at h5
        rw [decide_eq_false h5, if_neg (by simp)] at eA
        rw [decide_eq_false h5, Bool.false_and, Bool.or_false] at eS
        repeat (refine t_skip ?_)
        refine t_re (A := own b11 [.string w.name, .int .i64 w.gen, .int .i64 w.time, .string w.text, .bool w.gone] 101 :: OSl intR 1 3 w9 l9 :: own b4 [.string v.name, .int .i64 v.gen, .int .i64 v.time, .string v.text, .bool v.gone] 101 :: own bk [.int .i64 k.last, .int .i64 k.young, .int .i64 k.step, .int .i64 k.count] 35 :: RP b ⟨.slice (some ⟨b_e, o_e, none⟩) y.V.length vc, us, uo⟩ y) (R := R) (tail () F1 ⟨.refl _⟩ trivial) (by rw [eA, eS]; exact (by repeat (first | exact trivial | refine ⟨rfl, ?_⟩)))
  · simp only [decide_eq_false_iff_not] at hlt
    have hie : y.V.take i = y.V := List.take_of_length_le (by omega)
    rw [hie] at hl9 ⊢
    repeat (first | refine t_seq ?_ | refine t_exit rfl ?_)
    refine t_drawn1 (by kernel_rfl) (by kernel_rfl) ?_
    repeat (first | refine to_q rfl rfl rfl ?_ | refine to_fa rfl rfl ?_ | refine to_ld rfl rfl rfl ?_)
    refine to_gd rfl rfl (fun q1 => ?_) (fun q1 => ?_)
    · have e : rstays y.now v k y.V = true := by unfold rstays; rw [q1, Bool.true_or]
      repeat (first | refine to_nil ?_ | refine to_no rfl ?_ | refine to_q rfl rfl rfl ?_)
      exact t_ret (RP b ⟨_, us, uo⟩ y) Tryz.func85 (.tmp rfl .nil) (by rw [e]; exact ⟨rfl, rfl⟩)
    have q1' := q1
    repeat (first | refine to_q rfl rfl rfl ?_ | refine to_fa rfl rfl ?_ | refine to_ld rfl rfl rfl ?_ | refine to_sub_ rfl rfl rfl (by omega) (by omega) ?_)
    refine to_gd rfl rfl (fun q2 => ?_) (fun q2 => ?_)
    · have e : rstays y.now v k y.V = true := by unfold rstays; rw [q2, Bool.true_or, Bool.or_true]
      repeat (first | refine to_nil ?_ | refine to_no rfl ?_ | refine to_q rfl rfl rfl ?_)
      exact t_ret (RP b ⟨_, us, uo⟩ y) Tryz.func85 (.tmp rfl .nil) (by rw [e]; exact ⟨rfl, rfl⟩)
    repeat (refine to_q rfl rfl rfl ?_)
    refine to_gd rfl rfl (fun q3 => ?_) (fun q3 => ?_)
    · have e : rstays y.now v k y.V = decide ((l9.length : Int) < k.count) := by unfold rstays; rw [q1, q2, q3, hl9]; simp
      repeat (first | refine to_nil ?_ | refine to_q rfl rfl rfl ?_ | refine to_fa rfl rfl ?_ | refine to_ld rfl rfl rfl ?_ | refine to_lenO rfl rfl rfl ?_)
      exact t_ret (RP b ⟨_, us, uo⟩ y) Tryz.func85 (.tmp rfl .nil) (by rw [e]; exact ⟨rfl, rfl⟩)
    · have e : rstays y.now v k y.V = false := by unfold rstays; rw [q1, q2, q3]; simp
      repeat (first | refine to_nil ?_ | refine to_no rfl ?_ | refine to_q rfl rfl rfl ?_)
      exact t_ret (RP b ⟨_, us, uo⟩ y) Tryz.func85 (.tmp rfl .nil) (by rw [e]; exact ⟨rfl, rfl⟩)
end Go.Proofs.YtbffngeameenoaaGreat
end

section
set_option maxRecDepth 100000
set_option linter.unusedVariables false
set_option linter.unusedSimpArgs false
namespace Go.Proofs.YtbffngeameenoaaGreat
open Go Go.Au
attribute [local irreducible] T TO

def expOkK (k : Kp) : Bool := numOk k.last && (numOk k.young && (numOk k.step && (decide (1 ≤ k.step) && numOk k.count)))
def rdrops (y : RM) (k : Kp) (v : RVer) : Bool := !v.gone && !(rstays y.now v k y.V)
def rmark (y : RM) (k : Kp) (v : RVer) : RVer := if rdrops y k v then { v with gone := true } else v
abbrev markR (y : RM) (k : Kp) : RM := { y with V := y.V.map (rmark y k) }
def expireR (y : RM) (k : Kp) : Int × Int × RM := if expOkK k = false then (2, 0, y) else
  (0, (y.V.filter (rdrops y k)).length, { y with V := (y.V.map (rmark y k)).filter (keepR y.S) })
theorem rmark_z {y : RM} (z : RSz y) (k : Kp) : RSz (markR y k) := ⟨by show (y.V.map (rmark y k)).length ≤ 4096; rw [List.length_map]; exact z.v, z.s, z.o, fun q hq => by
  obtain ⟨v, hv, rfl⟩ := List.mem_map.1 hq
  have := z.t v hv
  unfold rmark
  split <;> exact this, z.u, fun q hq => by
  obtain ⟨v, hv, rfl⟩ := List.mem_map.1 hq
  have := z.g v hv
  unfold rmark
  split <;> exact this⟩
set_option maxHeartbeats 4000000 in
theorem rexpire_sp (b : Nat) (y : RM) (u : RU) (k : Kp) (F : Frz) (h : RY F y u) (z : RSz y) (hS : ∀ q ∈ y.S, q.2.length ≤ 4096) (n0 : 0 ≤ y.now) (n1 : y.now ≤ 9007199254740991) (ht : ∀ q ∈ y.V, TmOk q.time) :
    Sp Tryz.prog 60 [ptr b, kpV k] (RP b u y) F (rQ b [] (expireR y k)) := by
  obtain ⟨uv, us, uo⟩ := u
  have h' := h
  obtain ⟨hv, hs, ho⟩ := h
  obtain ⟨va, vc, rfl⟩ := slR_len hv
  have hzv := z.v
  have bad : expOkK k = false → ∀ F', FLe F F' → rQ b [] (expireR y k) (ansV 2 0 nilS nilS) (RP b ⟨.slice va y.V.length vc, us, uo⟩ y) F' := fun h F' le => by
    unfold expireR
    rw [if_pos h]
    exact ⟨_, h'.mono le, rfl, rfl⟩
  refine sp_of Tryz.func60 rfl (by kernel_rfl) rfl fun R => ?_
  refine t_seq ?_
  refine t_region ?_
  refine to_boxA (cs := [.int .i64 k.last, .int .i64 k.young, .int .i64 k.step, .int .i64 k.count]) rfl rfl fun bk => ?_
  repeat (first | refine t_seq ?_ | refine t_region ?_ | refine to_nil ?_ | refine to_fa rfl rfl ?_ | refine to_ld rfl rfl rfl ?_ | refine to_alloc rfl fun _ => ?_)
  rename_i ba
  refine to_bsl (len := 4) rfl rfl rfl rfl fun b5 => ?_
  repeat (first | refine t_seq ?_ | refine t_block ?_ | refine t_region ?_ | refine to_nil ?_ | refine to_q rfl rfl rfl ?_)
  refine t_loop1 ?_
  repeat (first | refine t_seq ?_ | refine t_block ?_ | refine t_region ?_ | refine to_nil ?_ | refine t_skip ?_ | refine to_q rfl rfl rfl ?_ | refine t_cond (t := true) rfl (fun _ => ?_) (fun h => nomatch h))
  refine to_ia (j := 0) rfl rfl rfl rfl (by omega) ?_
  repeat (first | refine to_q rfl rfl rfl ?_ | refine to_ld rfl rfl rfl ?_)
  refine to_gd rfl rfl (fun a0 => ?_) (fun a0 => ?_)
  · simp only [decide_eq_true_eq] at a0
    repeat (first | refine t_seq ?_ | refine t_region ?_ | refine to_nil ?_ | refine to_no rfl ?_ | refine to_q rfl rfl rfl ?_ | refine t_cond (t := true) rfl (fun _ => ?_) (fun h => nomatch h))
    refine to_call rfl rfl (rwrong_sp 2 _) fun v B F2 le_F2 h => ?_
    obtain ⟨rfl, rfl⟩ := h
    repeat (first | refine to_nil ?_ | refine to_stA rfl rfl rfl rfl rfl rfl ?_)
    exact t_ret (RP b ⟨.slice va y.V.length vc, us, uo⟩ y) Tryz.func60 (.cellA rfl rfl .nil) (bad (by simp only [expOkK, numOk]; simp; omega) _ le_F2.h)
  simp only [decide_eq_false_iff_not] at a0
  repeat (refine to_q rfl rfl rfl ?_)
  refine to_ia (j := 0) rfl rfl rfl rfl (by omega) ?_
  repeat (first | refine to_nil ?_ | refine to_q rfl rfl rfl ?_ | refine to_ld rfl rfl rfl ?_)
  refine t_condT rfl (fun c0 => ?_) (fun c0 => ?_)
  · simp only [decide_eq_true_eq] at c0
    repeat (first | refine t_seq ?_ | refine t_region ?_)
    refine to_call rfl rfl (rwrong_sp 2 _) fun v B F2 le_F2 h => ?_
    obtain ⟨rfl, rfl⟩ := h
    repeat (first | refine to_nil ?_ | refine to_stA rfl rfl rfl rfl rfl rfl ?_)
    exact t_ret (RP b ⟨.slice va y.V.length vc, us, uo⟩ y) Tryz.func60 (.cellA rfl rfl .nil) (bad (by simp only [expOkK, numOk]; simp; omega) _ le_F2.h)
  simp only [decide_eq_false_iff_not] at c0
  repeat (first | refine t_region ?_ | refine to_nil ?_ | refine t_skip ?_ | refine t_inBlock ?_ | refine to_q rfl rfl rfl ?_ | refine to_add rfl rfl rfl (by omega) (by omega) ?_)
  refine t_inLoop1 ?_
  repeat (first | refine t_seq ?_ | refine t_block ?_ | refine t_region ?_ | refine to_nil ?_ | refine t_skip ?_ | refine to_q rfl rfl rfl ?_ | refine t_cond (t := true) rfl (fun _ => ?_) (fun h => nomatch h))
  refine to_ia (j := 1) rfl rfl rfl rfl (by omega) ?_
  repeat (first | refine to_q rfl rfl rfl ?_ | refine to_ld rfl rfl rfl ?_)
  refine to_gd rfl rfl (fun a1 => ?_) (fun a1 => ?_)
  · simp only [decide_eq_true_eq] at a1
    repeat (first | refine t_seq ?_ | refine t_region ?_ | refine to_nil ?_ | refine to_no rfl ?_ | refine to_q rfl rfl rfl ?_ | refine t_cond (t := true) rfl (fun _ => ?_) (fun h => nomatch h))
    refine to_call rfl rfl (rwrong_sp 2 _) fun v B F2 le_F2 h => ?_
    obtain ⟨rfl, rfl⟩ := h
    repeat (first | refine to_nil ?_ | refine to_stA rfl rfl rfl rfl rfl rfl ?_)
    exact t_ret (RP b ⟨.slice va y.V.length vc, us, uo⟩ y) Tryz.func60 (.cellA rfl rfl .nil) (bad (by simp only [expOkK, numOk]; simp; omega) _ le_F2.h)
  simp only [decide_eq_false_iff_not] at a1
  repeat (refine to_q rfl rfl rfl ?_)
  refine to_ia (j := 1) rfl rfl rfl rfl (by omega) ?_
  repeat (first | refine to_nil ?_ | refine to_q rfl rfl rfl ?_ | refine to_ld rfl rfl rfl ?_)
  refine t_condT rfl (fun c1 => ?_) (fun c1 => ?_)
  · simp only [decide_eq_true_eq] at c1
    repeat (first | refine t_seq ?_ | refine t_region ?_)
    refine to_call rfl rfl (rwrong_sp 2 _) fun v B F2 le_F2 h => ?_
    obtain ⟨rfl, rfl⟩ := h
    repeat (first | refine to_nil ?_ | refine to_stA rfl rfl rfl rfl rfl rfl ?_)
    exact t_ret (RP b ⟨.slice va y.V.length vc, us, uo⟩ y) Tryz.func60 (.cellA rfl rfl .nil) (bad (by simp only [expOkK, numOk]; simp; omega) _ le_F2.h)
  simp only [decide_eq_false_iff_not] at c1
  repeat (first | refine t_region ?_ | refine to_nil ?_ | refine t_skip ?_ | refine t_inBlock ?_ | refine to_q rfl rfl rfl ?_ | refine to_add rfl rfl rfl (by omega) (by omega) ?_)
  refine t_inLoop1 ?_
  repeat (first | refine t_seq ?_ | refine t_block ?_ | refine t_region ?_ | refine to_nil ?_ | refine t_skip ?_ | refine to_q rfl rfl rfl ?_ | refine t_cond (t := true) rfl (fun _ => ?_) (fun h => nomatch h))
  refine to_ia (j := 2) rfl rfl rfl rfl (by omega) ?_
  repeat (first | refine to_q rfl rfl rfl ?_ | refine to_ld rfl rfl rfl ?_)
  refine to_gd rfl rfl (fun a2 => ?_) (fun a2 => ?_)
  · simp only [decide_eq_true_eq] at a2
    repeat (first | refine t_seq ?_ | refine t_region ?_ | refine to_nil ?_ | refine to_no rfl ?_ | refine to_q rfl rfl rfl ?_ | refine t_cond (t := true) rfl (fun _ => ?_) (fun h => nomatch h))
    refine to_call rfl rfl (rwrong_sp 2 _) fun v B F2 le_F2 h => ?_
    obtain ⟨rfl, rfl⟩ := h
    repeat (first | refine to_nil ?_ | refine to_stA rfl rfl rfl rfl rfl rfl ?_)
    exact t_ret (RP b ⟨.slice va y.V.length vc, us, uo⟩ y) Tryz.func60 (.cellA rfl rfl .nil) (bad (by simp only [expOkK, numOk]; simp; omega) _ le_F2.h)
  simp only [decide_eq_false_iff_not] at a2
  repeat (refine to_q rfl rfl rfl ?_)
  refine to_ia (j := 2) rfl rfl rfl rfl (by omega) ?_
  repeat (first | refine to_nil ?_ | refine to_q rfl rfl rfl ?_ | refine to_ld rfl rfl rfl ?_)
  refine t_condT rfl (fun c2 => ?_) (fun c2 => ?_)
  · simp only [decide_eq_true_eq] at c2
    repeat (first | refine t_seq ?_ | refine t_region ?_)
    refine to_call rfl rfl (rwrong_sp 2 _) fun v B F2 le_F2 h => ?_
    obtain ⟨rfl, rfl⟩ := h
    repeat (first | refine to_nil ?_ | refine to_stA rfl rfl rfl rfl rfl rfl ?_)
    exact t_ret (RP b ⟨.slice va y.V.length vc, us, uo⟩ y) Tryz.func60 (.cellA rfl rfl .nil) (bad (by simp only [expOkK, numOk]; simp; omega) _ le_F2.h)
  simp only [decide_eq_false_iff_not] at c2
  repeat (first | refine t_region ?_ | refine to_nil ?_ | refine t_skip ?_ | refine t_inBlock ?_ | refine to_q rfl rfl rfl ?_ | refine to_add rfl rfl rfl (by omega) (by omega) ?_)
  refine t_inLoop1 ?_
  repeat (first | refine t_seq ?_ | refine t_block ?_ | refine t_region ?_ | refine to_nil ?_ | refine t_skip ?_ | refine to_q rfl rfl rfl ?_ | refine t_cond (t := true) rfl (fun _ => ?_) (fun h => nomatch h))
  refine to_ia (j := 3) rfl rfl rfl rfl (by omega) ?_
  repeat (first | refine to_q rfl rfl rfl ?_ | refine to_ld rfl rfl rfl ?_)
  refine to_gd rfl rfl (fun a3 => ?_) (fun a3 => ?_)
  · simp only [decide_eq_true_eq] at a3
    repeat (first | refine t_seq ?_ | refine t_region ?_ | refine to_nil ?_ | refine to_no rfl ?_ | refine to_q rfl rfl rfl ?_ | refine t_cond (t := true) rfl (fun _ => ?_) (fun h => nomatch h))
    refine to_call rfl rfl (rwrong_sp 2 _) fun v B F2 le_F2 h => ?_
    obtain ⟨rfl, rfl⟩ := h
    repeat (first | refine to_nil ?_ | refine to_stA rfl rfl rfl rfl rfl rfl ?_)
    exact t_ret (RP b ⟨.slice va y.V.length vc, us, uo⟩ y) Tryz.func60 (.cellA rfl rfl .nil) (bad (by simp only [expOkK, numOk]; simp; omega) _ le_F2.h)
  simp only [decide_eq_false_iff_not] at a3
  repeat (refine to_q rfl rfl rfl ?_)
  refine to_ia (j := 3) rfl rfl rfl rfl (by omega) ?_
  repeat (first | refine to_nil ?_ | refine to_q rfl rfl rfl ?_ | refine to_ld rfl rfl rfl ?_)
  refine t_condT rfl (fun c3 => ?_) (fun c3 => ?_)
  · simp only [decide_eq_true_eq] at c3
    repeat (first | refine t_seq ?_ | refine t_region ?_)
    refine to_call rfl rfl (rwrong_sp 2 _) fun v B F2 le_F2 h => ?_
    obtain ⟨rfl, rfl⟩ := h
    repeat (first | refine to_nil ?_ | refine to_stA rfl rfl rfl rfl rfl rfl ?_)
    exact t_ret (RP b ⟨.slice va y.V.length vc, us, uo⟩ y) Tryz.func60 (.cellA rfl rfl .nil) (bad (by simp only [expOkK, numOk]; simp; omega) _ le_F2.h)
  simp only [decide_eq_false_iff_not] at c3
  repeat (first | refine t_region ?_ | refine to_nil ?_ | refine t_skip ?_ | refine t_inBlock ?_ | refine to_q rfl rfl rfl ?_ | refine to_add rfl rfl rfl (by omega) (by omega) ?_)
  refine t_inLoop1 ?_
  repeat (first | refine t_seq ?_ | refine t_region ?_ | refine to_nil ?_ | refine to_q rfl rfl rfl ?_ | refine to_fa rfl rfl ?_ | refine to_ld rfl rfl rfl ?_
                | refine t_cond (t := false) rfl (fun h => nomatch h) (fun _ => ?_) | refine t_exit rfl ?_)
  refine t_condT rfl (fun s1 => ?_) (fun s1 => ?_)
  · simp only [decide_eq_true_eq] at s1
    repeat (first | refine t_seq ?_ | refine t_region ?_)
    refine to_call rfl rfl (rwrong_sp 2 _) fun v B F2 le_F2 h => ?_
    obtain ⟨rfl, rfl⟩ := h
    repeat (first | refine to_nil ?_ | refine to_stA rfl rfl rfl rfl rfl rfl ?_)
    exact t_ret (RP b ⟨.slice va y.V.length vc, us, uo⟩ y) Tryz.func60 (.cellA rfl rfl .nil) (bad (by simp only [expOkK, numOk]; simp; omega) _ le_F2.h)
  simp only [decide_eq_false_iff_not] at s1
  have hgood : expOkK k = true := by simp only [expOkK, numOk]; simp; omega
  have hkp : KpOk k := ⟨by omega, by omega, by omega, by omega, by omega, by omega, by omega, by omega⟩
  have e : expireR y k = (0, ((y.V.filter (rdrops y k)).length : Int), { y with V := (y.V.map (rmark y k)).filter (keepR y.S) }) := by unfold expireR; rw [if_neg (by simp [hgood])]
  repeat (first | refine t_seq ?_ | refine t_region ?_ | refine t_skip ?_)
  refine to_bsl (len := 0) rfl rfl rfl rfl fun b1 => ?_
  refine to_osl (n := 5) (b := b1) rverR [] .nil rfl ?_
  repeat (first | refine t_seq ?_ | refine t_block ?_ | refine t_region ?_ | refine to_nil ?_ | refine to_q rfl rfl rfl ?_)
  refine t_loopJ (R := R) (fun z : Nat × Value × List RVer => y.V.length - z.1) (fun z => OSl rverR 5 101 z.2.1 z.2.2 :: own bk [.int .i64 k.last, .int .i64 k.young, .int .i64 k.step, .int .i64 k.count] 35 :: own ba [.int .i64 0, .int .i64 0, nilS, nilS] 31 :: RP b ⟨.slice va y.V.length vc, us, uo⟩ y)
    (fun z => [(0, ptr b), (3, ptr bk), (4, ptr ba), (7, z.2.1), (8, .int .i64 ((y.V.take z.1).filter (rdrops y k)).length), (9, .int .i64 z.1)]) (fun z _ => z.1 ≤ y.V.length ∧ z.2.2 = (y.V.take z.1).map (rmark y k)) (0, .slice (some ⟨b1, 0, none⟩) 0 0, []) (by repeat (first | exact trivial | refine ⟨rfl, ?_⟩)) ⟨Nat.zero_le _, rfl⟩ ?_
  rintro ⟨i, w, acc⟩ F1 le1 hg ih
  dsimp only at hg ih ⊢
  obtain ⟨hi, hacc⟩ := hg
  have hcl : ((y.V.take i).filter (rdrops y k)).length ≤ 4096 := by
    refine Nat.le_trans (List.length_filter_le _ _) ?_
    rw [List.length_take]; omega
  repeat (first | refine t_seq ?_ | refine t_region ?_ | refine to_nil ?_ | refine to_q rfl rfl rfl ?_ | refine to_fa rfl rfl ?_ | refine to_ld rfl rfl rfl ?_ | refine to_lenS rfl rfl rfl ?_)
  refine t_condT rfl (fun hlt => ?_) (fun hlt => ?_)
  · simp only [decide_eq_true_eq] at hlt
    have hlt : i < y.V.length := by omega
    have hc := List.getElem?_eq_getElem hlt
    generalize y.V[i] = q at hc
    have hal : acc.length ≤ 4096 := by rw [hacc, List.length_map, List.length_take]; omega
    have hsn : (y.V.take (i + 1)).map (rmark y k) = acc ++ [rmark y k q] := by rw [take_snoc' hc, List.map_append, ← hacc]; rfl
    have hcn : ((y.V.take (i + 1)).filter (rdrops y k)).length = ((y.V.take i).filter (rdrops y k)).length + if rdrops y k q then 1 else 0 := by
      rw [take_snoc' hc, List.filter_append]
      by_cases h : rdrops y k q = true
      · simp [h]
      · simp [h]
    obtain ⟨b_e, o_e, cap_e, u_e, e_e, hl_e, r_e, ro_e⟩ := slR_elem (P := Tryz.prog) (t := 101) (by_ := 56) hv hc
    cases e_e
    cases r_e
    repeat (first | refine t_seq ?_ | refine t_block ?_ | refine t_region ?_ | refine t_skip ?_ | refine to_q rfl rfl rfl ?_ | refine to_fa rfl rfl ?_ | refine to_ld rfl rfl rfl ?_)
    refine to_ia rfl rfl rfl rfl hl_e ?_
    refine to_ldV (F1 := F) (ρ := rverR) (q := q) rfl ro_e rfl rfl ?_
    repeat (first | refine t_seq ?_ | refine t_region ?_ | refine to_nil ?_ | refine to_q rfl rfl rfl ?_ | refine to_fa rfl rfl ?_ | refine to_ld rfl rfl rfl ?_ | refine to_stA rfl rfl rfl rfl rfl rfl ?_
                  | refine to_alloc rfl fun _ => ?_)
    refine to_gd rfl rfl (fun g1 => ?_) (fun g1 => ?_)
    · simp only [Bool.not_eq_true'] at g1
      repeat (first | refine to_q rfl rfl rfl ?_ | refine to_ldA rfl rfl rfl ?_)
      refine to_call rfl rfl (rstays_sp b y _ q k _ (h'.mono le1.h) z hkp n0 n1 ht (ht q (List.mem_of_getElem? hc))) fun r B F2 le2 h2 => ?_
      obtain ⟨rfl, rfl⟩ := h2
      repeat (first | refine to_nil ?_ | refine to_q rfl rfl rfl ?_)
      refine t_condT rfl (fun g2 => ?_) (fun g2 => ?_)
      · simp only [Bool.not_eq_true'] at g2
        have hd : rdrops y k q = true := by unfold rdrops; rw [g1, g2]; rfl
        have hm : rmark y k q = { q with gone := true } := by unfold rmark; rw [if_pos hd]
        rw [hm] at hsn
        rw [if_pos hd] at hcn
        repeat (first | refine t_seq ?_ | refine t_region ?_ | refine to_nil ?_ | refine to_q rfl rfl rfl ?_ | refine to_fa rfl rfl ?_ | refine to_ldA rfl rfl rfl ?_ | refine to_st rfl rfl rfl rfl rfl ?_
                      | refine to_add rfl rfl rfl (by omega) (by omega) ?_)
        refine to_bsl (len := 1) rfl rfl rfl rfl fun b3 => ?_
        refine to_app1 (ρ := rverR) (q := { q with gone := true }) (u := rverV { q with gone := true }) rfl rfl rfl rfl rfl rfl (by omega) fun w2 => ?_
        repeat (first | refine t_region ?_ | refine to_nil ?_ | refine t_inBlock ?_ | refine to_q rfl rfl rfl ?_ | refine to_add rfl rfl rfl (by omega) (by omega) ?_)
        refine t_re (A := OSl rverR 5 101 w2 (acc ++ [{ q with gone := true }]) :: own bk [.int .i64 k.last, .int .i64 k.young, .int .i64 k.step, .int .i64 k.count] 35 :: own ba [.int .i64 0, .int .i64 0, nilS, nilS] 31 :: RP b ⟨.slice (some ⟨b_e, o_e, none⟩) y.V.length vc, us, uo⟩ y) (R := R)
          (ih (i + 1, w2, acc ++ [{ q with gone := true }]) F2 le2 (by dsimp only; omega) ⟨by dsimp only; omega, hsn.symm⟩) (by dsimp only; rw [hcn]; exact (by repeat (first | exact trivial | refine ⟨rfl, ?_⟩)))
      · simp only [Bool.not_eq_false'] at g2
        have hd : rdrops y k q = false := by unfold rdrops; rw [g1, g2]; rfl
        have hm : rmark y k q = q := by unfold rmark; rw [if_neg (by simp [hd])]
        rw [hm] at hsn
        rw [if_neg (by simp [hd])] at hcn
        repeat (first | refine t_region ?_ | refine t_skip ?_ | refine to_q rfl rfl rfl ?_ | refine to_ldA rfl rfl rfl ?_)
        refine to_bsl (len := 1) rfl rfl rfl rfl fun b3 => ?_
        refine to_app1 (ρ := rverR) (q := q) (u := rverV q) rfl rfl rfl rfl rfl rfl (by omega) fun w2 => ?_
        repeat (first | refine t_region ?_ | refine to_nil ?_ | refine t_inBlock ?_ | refine to_q rfl rfl rfl ?_ | refine to_add rfl rfl rfl (by omega) (by omega) ?_)
        refine t_re (A := OSl rverR 5 101 w2 (acc ++ [q]) :: own bk [.int .i64 k.last, .int .i64 k.young, .int .i64 k.step, .int .i64 k.count] 35 :: own ba [.int .i64 0, .int .i64 0, nilS, nilS] 31 :: RP b ⟨.slice (some ⟨b_e, o_e, none⟩) y.V.length vc, us, uo⟩ y) (R := R)
          (ih (i + 1, w2, acc ++ [q]) F2 le2 (by dsimp only; omega) ⟨by dsimp only; omega, hsn.symm⟩) (by dsimp only; rw [hcn]; exact (by repeat (first | exact trivial | refine ⟨rfl, ?_⟩)))
    · simp only [Bool.not_eq_false'] at g1
      have hd : rdrops y k q = false := by unfold rdrops; rw [g1]; rfl
      have hm : rmark y k q = q := by unfold rmark; rw [if_neg (by simp [hd])]
      rw [hm] at hsn
      rw [if_neg (by simp [hd])] at hcn
      repeat (first | refine t_region ?_ | refine to_nil ?_ | refine t_skip ?_ | refine to_no rfl ?_ | refine to_q rfl rfl rfl ?_ | refine to_ldA rfl rfl rfl ?_
                    | refine t_cond (t := false) rfl (fun h => nomatch h) (fun _ => ?_))
      refine to_bsl (len := 1) rfl rfl rfl rfl fun b3 => ?_
      refine to_app1 (ρ := rverR) (q := q) (u := rverV q) rfl rfl rfl rfl rfl rfl (by omega) fun w2 => ?_
      repeat (first | refine t_region ?_ | refine to_nil ?_ | refine t_inBlock ?_ | refine to_q rfl rfl rfl ?_ | refine to_add rfl rfl rfl (by omega) (by omega) ?_)
      refine t_re (A := OSl rverR 5 101 w2 (acc ++ [q]) :: own bk [.int .i64 k.last, .int .i64 k.young, .int .i64 k.step, .int .i64 k.count] 35 :: own ba [.int .i64 0, .int .i64 0, nilS, nilS] 31 :: RP b ⟨.slice (some ⟨b_e, o_e, none⟩) y.V.length vc, us, uo⟩ y) (R := R)
        (ih (i + 1, w2, acc ++ [q]) F1 ⟨.refl _⟩ (by dsimp only; omega) ⟨by dsimp only; omega, hsn.symm⟩) (by dsimp only; rw [hcn]; exact (by repeat (first | exact trivial | refine ⟨rfl, ?_⟩)))
  · simp only [decide_eq_false_iff_not] at hlt
    have hie : y.V.take i = y.V := List.take_of_length_le (by omega)
    rw [hie] at hacc hcl ⊢
    subst hacc
    repeat (first | refine t_seq ?_ | refine t_region ?_ | refine to_q rfl rfl rfl ?_ | refine to_fa rfl rfl ?_ | refine t_exit rfl ?_)
    refine to_freeze w fun F2 le2 hw => ?_
    obtain ⟨na, nc, rfl⟩ := slR_len hw
    have le12 : FLe F F2 := le1.h.trans le2.h
    repeat (first | refine t_seq ?_ | refine t_region ?_ | refine to_nil ?_ | refine to_q rfl rfl rfl ?_ | refine to_st rfl rfl rfl rfl rfl ?_)
    refine to_call rfl rfl (rsweep_sp b (markR y k) ⟨.slice na (y.V.map (rmark y k)).length nc, us, uo⟩ _ ⟨hw, (slR rshotR 2).mono le12 hs, (slR rsesR 3).mono le12 ho⟩ (rmark_z z k) hS) fun v B F5 le5 h5 => ?_
    obtain ⟨u5, hu5, rfl⟩ := h5
    repeat (first | refine t_seq ?_ | refine t_region ?_ | refine to_nil ?_ | refine to_q rfl rfl rfl ?_ | refine to_stA rfl rfl rfl rfl rfl rfl ?_ | refine to_bs rfl rfl rfl rfl ?_)
    exact t_ret (RP b u5 _) Tryz.func60 (.cellA rfl rfl .nil) (by rw [e]; exact ⟨u5, hu5, rfl, rfl⟩)
end Go.Proofs.YtbffngeameenoaaGreat
end
