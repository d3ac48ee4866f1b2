/- Part 5 of the proof.
  Parts: The reference: what it does.; The reference's comparisons; what a fork is.; The reference: the same models.; Plain: names in order, lists in order, groups of versions.; Plain: a model and a reference that say the same.; Plain: sessions.; Plain: committing.; Plain: what only tells.; Plain: marks and sweeps.; Plain: Delete, Snap, Unsnap.; Plain: Expire.; Plain: each step; the same models; what a snapshot shows.; Plain: what a snapshot shows stays as it was.; What must be whatever is asked.; A script on both.
-/
import Derived.Test.YtbffngeameenoaaGreatUD
import Derived.Sort.Walk0

section
set_option maxRecDepth 100000
set_option linter.unusedVariables false
set_option linter.unusedSimpArgs false
namespace Go.Proofs.YtbffngeameenoaaGreat
open Go Go.Au
attribute [local irreducible] T TO

def beginR (y : RM) (p : Op1) : Int × Int × RM :=
  if nameOk p.name = false then (2, 0, y) else if 4 ≤ y.O.length then (6, 0, y)
  else (0, y.began + 1, { y with began := y.began + 1, O := y.O ++ [⟨y.began + 1, p.name, ⟨#[]⟩⟩] })
def abortR (y : RM) (p : Op1) : Int × Int × RM := match y.O.findIdx? (fun q : RSes => q.n == p.n) with
  | none => (9, 0, y)
  | some i => (0, 0, lostR y i)
def deleteR (y : RM) (p : Op1) : Int × Int × RM := match lastI (rfindP p.name p.gen) y.V with
  | none => (9, 0, y)
  | some i => match y.V[i]? with
    | none => (9, 0, y)
    | some q => (0, 0, { y with V := (y.V.set i { q with gone := true }).filter (keepR y.S) })
def tickR (y : RM) (p : Op1) : Int × Int × RM := if p.n < 0 ∨ p.n > 9007199254740991 - y.now then (2, 0, y) else (0, 0, { y with now := y.now + p.n })
def cleanR (y : RM) (p : Op1) (sp : Bool) : Int × Int × RM := if p.n < 0 ∨ p.n > 100 then (2, 0, y) else if sp then (8, 0, y) else (0, 0, y)
def plR (t : Int × Int × RM) : Ans × RM := ((t.1, t.2.1, [], []), t.2.2)
def doR (y : RM) (p : Op1) (sp : Bool) : Ans × RM :=
  if p.do_ = 1 then plR (beginR y p) else if p.do_ = 2 then plR (writeR y p sp) else if p.do_ = 3 then plR (commitR y p sp) else if p.do_ = 4 then plR (abortR y p)
  else if p.do_ = 5 ∨ p.do_ = 6 ∨ p.do_ = 7 ∨ p.do_ = 8 ∨ p.do_ = 9 then (toldR y p, y)
  else if p.do_ = 10 then plR (deleteR y p) else if p.do_ = 11 ∨ p.do_ = 12 then plR (shotsR y p sp)
  else if p.do_ = 13 then plR (tickR y p) else if p.do_ = 14 then plR (expireR y (kpOf p)) else if p.do_ = 15 then plR (cleanR y p sp)
  else if p.do_ = 16 ∨ p.do_ = 17 ∨ p.do_ = 18 ∨ p.do_ = 19 ∨ p.do_ = 20 ∨ p.do_ = 21 then ((0, 0, [], []), y)
  else ((4, 0, [], []), y)
/-- what a reference is held within, altogether -/
structure RAll (y : RM) : Prop where
  z : RSz y
  hS : ∀ q ∈ y.S, q.2.length ≤ 4096
  n0 : 0 ≤ y.now
  n1 : y.now ≤ 9007199254740991
  tm : ∀ q ∈ y.V, TmOk q.time
  q0 : -9223372036854775808 ≤ y.quota
  q1 : y.quota ≤ 9223372036854775807
  b0 : 0 ≤ y.began
  b1 : y.began ≤ 4611686018427387904
def doRQ (b : Nat) (y : RM) (p : Op1) (sp c : Bool) (bv : Value) : Fin := fun v B F' => ∃ u', RY F' (doR y p sp).2 u' ∧ ansQ (byH c 5 bv p.bytes :: RP b u' (doR y p sp).2) (doR y p sp).1 v B F'
set_option maxHeartbeats 4000000 in
theorem rdo_sp (b : Nat) (y : RM) (u : RU) (p : Op1) (sp c : Bool) (bv cv ct ca : Value) (F : Frz) (h : RY F y u) (a : RAll y) (po : OpOk p) (hb : p.bytes.length ≤ 140737488355328) :
    Sp Tryz.prog 16 [ptr b, opV p bv cv ct ca, .bool sp] (byH c 5 bv p.bytes :: RP b u y) F (doRQ b y p sp c bv) := by
  obtain ⟨uv, us, uo⟩ := u
  have h' := h
  obtain ⟨hv, hs, ho⟩ := h
  obtain ⟨oa, oc, rfl⟩ := slR_len ho
  have hzo := a.z.o
  have fin : ∀ (e n : Int) (y' : RM) (u' : RU) (F' : Frz), doR y p sp = ((e, n, [], []), y') → RY F' y' u' → doRQ b y p sp c bv (ansV e n nilS nilS) (OSl u8R 1 5 nilS [] :: byH c 5 bv p.bytes :: RP b u' y') F' := fun e n y' u' F' hd hr => by
    unfold doRQ
    rw [hd]
    exact ⟨u', hr, ansQ_plain _ _ _ _⟩
  refine sp_of Tryz.func16 rfl (by kernel_rfl) rfl fun R => ?_
  repeat (first | refine t_seq ?_ | refine t_block ?_ | refine t_region ?_ | refine to_nil ?_ | refine to_q rfl rfl rfl ?_ | refine to_fa rfl rfl ?_ | refine to_ld rfl rfl rfl ?_ | refine to_alloc rfl fun _ => ?_
                | refine to_boxA rfl rfl fun _ => ?_)
  rename_i bop ba
  refine t_condT rfl (fun h1 => ?_) (fun h1 => ?_)
  · simp only [beq_iff_eq] at h1
    have hd : doR y p sp = plR (beginR y p) := by rw [doR, if_pos h1]
    repeat (first | refine t_seq ?_ | refine t_region ?_ | refine to_fa rfl rfl ?_ | refine to_ld rfl rfl rfl ?_)
    refine to_call rfl rfl (rname_sp p.name po.nm _) fun v B F1 le1 h => ?_
    obtain ⟨rfl, rfl⟩ := h
    repeat (first | refine to_nil ?_ | refine to_q rfl rfl rfl ?_)
    refine t_condT rfl (fun hn => ?_) (fun hn => ?_)
    · simp only [Bool.not_eq_true'] at hn
      repeat (first | refine t_seq ?_ | refine t_region ?_)
      refine to_call rfl rfl (rwrong_sp 2 _) fun v B F2 le_F2 h => ?_
      obtain ⟨rfl, rfl⟩ := h
      repeat (first | refine to_nil ?_ | refine to_stA rfl rfl rfl rfl rfl rfl ?_)
      refine t_emp u8R 1 5 none ?_
      exact t_ret (OSl u8R 1 5 nilS [] :: byH c 5 bv p.bytes :: RP b ⟨uv, us, _⟩ y) Tryz.func16 (.cellA rfl rfl .nil) (fin _ _ _ ⟨uv, us, _⟩ _ (by rw [hd, beginR, if_pos hn]; rfl) (h'.mono (le1.h.trans le_F2.h)))
    simp only [Bool.not_eq_false'] at hn
    repeat (first | refine t_seq ?_ | refine t_region ?_ | refine to_nil ?_ | refine t_skip ?_ | refine to_q rfl rfl rfl ?_ | refine to_fa rfl rfl ?_ | refine to_ld rfl rfl rfl ?_ | refine to_lenS rfl rfl rfl ?_)
    refine t_condT rfl (fun h4 => ?_) (fun h4 => ?_)
    · simp only [decide_eq_true_eq] at h4
      repeat (first | refine t_seq ?_ | refine t_region ?_)
      refine to_call rfl rfl (rwrong_sp 6 _) fun v B F2 le_F2 h => ?_
      obtain ⟨rfl, rfl⟩ := h
      repeat (first | refine to_nil ?_ | refine to_stA rfl rfl rfl rfl rfl rfl ?_)
      refine t_emp u8R 1 5 none ?_
      exact t_ret (OSl u8R 1 5 nilS [] :: byH c 5 bv p.bytes :: RP b ⟨uv, us, _⟩ y) Tryz.func16 (.cellA rfl rfl .nil) (fin _ _ _ ⟨uv, us, _⟩ _ (by rw [hd, beginR, if_neg (by simp [hn]), if_pos (by omega)]; rfl) (h'.mono (le1.h.trans le_F2.h)))
    simp only [decide_eq_false_iff_not] at h4
    have hb0 := a.b0
    have hb1 := a.b1
    repeat (first | refine t_seq ?_ | refine t_region ?_ | refine to_nil ?_ | refine t_skip ?_ | refine to_q rfl rfl rfl ?_ | refine to_fa rfl rfl ?_ | refine to_ld rfl rfl rfl ?_ | refine to_st rfl rfl rfl rfl rfl ?_
                  | refine to_add rfl rfl rfl (by omega) (by omega) ?_)
    refine t_drawnX [b, bop] (by kernel_rfl) fun s0 hs0 => ?_
    refine to_frees (by assumption) [0,2,3,4,5,7,8,9,10,11,12,13] (by kernel_rfl) fun _ _ => ?_
    simp only [List.map_cons, List.map_nil, List.cons_append, List.nil_append, opAt, List.getElem?_cons_zero, List.getElem?_cons_succ, Option.getD_some]
    repeat (first | refine to_q rfl rfl rfl ?_ | refine to_fa rfl rfl ?_ | refine to_ldK rfl rfl rfl ?_ | refine to_bs rfl rfl rfl rfl ?_)
    refine to_next2 (by assumption) 1 14 rfl rfl (by kernel_rfl) (fun _ _ => ?_) (fun _ _ => ?_)
    focus
      refine to_bsl (len := 0) rfl rfl rfl rfl fun b1 => ?_
      refine to_osl (n := 3) (b := b1) rsesR [] .nil rfl ?_
      refine to_next2 (by assumption) 6 14 rfl rfl (by kernel_rfl) (fun _ _ => ?_) (fun _ _ => ?_)
      focus
        refine to_appR ho rfl rfl rfl rfl (by simp; omega) fun v1 => ?_
        rw [List.nil_append]
        refine to_free (by assumption) 14 rfl (by kernel_rfl) (by kernel_rfl) fun _ _ => ?_
        refine to_bsl (len := 1) rfl rfl rfl rfl fun b3 => ?_
      rotate_left
      focus
        refine to_bsl (len := 1) rfl rfl rfl rfl fun b3 => ?_
        refine to_free (by assumption) 6 rfl (by kernel_rfl) (by kernel_rfl) fun _ _ => ?_
        refine to_appR ho rfl rfl rfl rfl (by simp; omega) fun v1 => ?_
        rw [List.nil_append]
    rotate_left 2
    focus
      refine to_bsl (len := 1) rfl rfl rfl rfl fun b3 => ?_
      refine to_free (by assumption) 1 rfl (by kernel_rfl) (by kernel_rfl) fun _ _ => ?_
      refine to_bsl (len := 0) rfl rfl rfl rfl fun b1 => ?_
      refine to_osl (n := 3) (b := b1) rsesR [] .nil rfl ?_
      refine to_free (by assumption) 6 rfl (by kernel_rfl) (by kernel_rfl) fun _ _ => ?_
      refine to_appR ho rfl rfl rfl rfl (by simp; omega) fun v1 => ?_
      rw [List.nil_append]
    all_goals
      refine to_free (by assumption) 15 rfl (by kernel_rfl) (by kernel_rfl) fun _ _ => ?_
      refine to_app1 (ρ := rsesR) (q := ⟨y.began + 1, p.name, ⟨#[]⟩⟩) (u := .agg #[.int .i64 (y.began + 1), .string p.name, .string ⟨#[]⟩]) rfl rfl rfl rfl rfl rfl (by omega) fun v2 => ?_
      refine to_freeze v2 fun F3 le3 hv3 => ?_
      obtain ⟨na, nc, rfl⟩ := slR_len hv3
      refine to_frees (by assumption) [16,17,18] (by kernel_rfl) fun _ _ => ?_
      simp only [List.map_cons, List.map_nil, List.cons_append, List.nil_append, opAt, List.getElem?_cons_zero, List.getElem?_cons_succ, Option.getD_some]
      repeat (first | refine to_q rfl rfl rfl ?_ | refine to_fa rfl rfl ?_ | refine to_st rfl rfl rfl rfl rfl ?_)
      refine to_lin_nil (by assumption) (t_out ?_)
      repeat (first | refine t_seq ?_ | refine t_region ?_ | refine to_nil ?_ | refine to_q rfl rfl rfl ?_ | refine to_fa rfl rfl ?_ | refine to_ld rfl rfl rfl ?_ | refine to_stA rfl rfl rfl rfl rfl rfl ?_
                    | refine to_bs rfl rfl rfl rfl ?_)
      refine t_emp u8R 1 5 none ?_
      have le13 := le1.h.trans le3.h
      exact t_ret (OSl u8R 1 5 nilS [] :: byH c 5 bv p.bytes :: RP b (⟨uv, us, .slice na (y.O ++ [(⟨y.began + 1, p.name, ⟨#[]⟩⟩ : RSes)]).length nc⟩ : RU) ({ y with began := y.began + 1, O := y.O ++ [(⟨y.began + 1, p.name, ⟨#[]⟩⟩ : RSes)] } : RM)) Tryz.func16 (.cellA rfl rfl .nil)
        (fin 0 (y.began + 1) ({ y with began := y.began + 1, O := y.O ++ [(⟨y.began + 1, p.name, ⟨#[]⟩⟩ : RSes)] } : RM) (⟨uv, us, .slice na (y.O ++ [(⟨y.began + 1, p.name, ⟨#[]⟩⟩ : RSes)]).length nc⟩ : RU) F3 (by rw [hd, beginR, if_neg (by simp [hn]), if_neg (by omega)]; rfl) ⟨(slR rverR 5).mono le13 hv, (slR rshotR 2).mono le13 hs, hv3⟩)
  simp only [beq_eq_false_iff_ne] at h1
  repeat (first | refine t_seq ?_ | refine t_region ?_ | refine to_nil ?_ | refine to_q rfl rfl rfl ?_)
  refine t_condT rfl (fun h2 => ?_) (fun h2 => ?_)
  · simp only [beq_iff_eq] at h2
    have hd : doR y p sp = plR (writeR y p sp) := by simp [doR, h2]
    repeat (first | refine t_seq ?_ | refine t_region ?_ | refine to_q rfl rfl rfl ?_ | refine to_ldA rfl rfl rfl ?_)
    refine to_call rfl rfl (rwrite_sp b y _ p sp c bv cv ct ca _ h' a.z hb a.q0 a.q1) fun v B F2 le h => ?_
    obtain ⟨u2, hu2, rfl, rfl⟩ := h
    repeat (first | refine to_nil ?_ | refine to_stA rfl rfl rfl rfl rfl rfl ?_)
    refine t_emp u8R 1 5 none ?_
    exact t_ret (OSl u8R 1 5 nilS [] :: byH c 5 bv p.bytes :: RP b u2 (writeR y p sp).2.2) Tryz.func16 (.cellA rfl rfl .nil) (fin _ _ _ u2 _ hd hu2)
  simp only [beq_eq_false_iff_ne] at h2
  repeat (first | refine t_seq ?_ | refine t_region ?_ | refine to_nil ?_ | refine to_q rfl rfl rfl ?_)
  refine t_condT rfl (fun h3 => ?_) (fun h3 => ?_)
  · simp only [beq_iff_eq] at h3
    have hd : doR y p sp = plR (commitR y p sp) := by simp [doR, h3]
    repeat (first | refine t_seq ?_ | refine t_region ?_ | refine to_q rfl rfl rfl ?_ | refine to_ldA rfl rfl rfl ?_)
    refine to_call rfl rfl (rcommit_sp b y _ p sp bv cv ct ca _ h' a.z) fun v B F2 le h => ?_
    obtain ⟨u2, hu2, rfl, rfl⟩ := h
    repeat (first | refine to_nil ?_ | refine to_stA rfl rfl rfl rfl rfl rfl ?_)
    refine t_emp u8R 1 5 none ?_
    exact t_ret (OSl u8R 1 5 nilS [] :: byH c 5 bv p.bytes :: RP b u2 (commitR y p sp).2.2) Tryz.func16 (.cellA rfl rfl .nil) (fin _ _ _ u2 _ hd hu2)
  simp only [beq_eq_false_iff_ne] at h3
  repeat (first | refine t_seq ?_ | refine t_region ?_ | refine to_nil ?_ | refine to_q rfl rfl rfl ?_)
  refine t_condT rfl (fun h4 => ?_) (fun h4 => ?_)
  · simp only [beq_iff_eq] at h4
    have hd : doR y p sp = plR (abortR y p) := by simp [doR, h4]
    repeat (first | refine t_seq ?_ | refine t_region ?_ | refine to_q rfl rfl rfl ?_ | refine to_fa rfl rfl ?_ | refine to_ld rfl rfl rfl ?_)
    refine to_call rfl rfl (rsession_sp b y _ p.n _ h' a.z) fun v B F1 le1 h => ?_
    obtain ⟨rfl, rfl⟩ := h
    cases hf : y.O.findIdx? (fun q : RSes => q.n == p.n) with
    | none =>
      rw [show idxG (fun q : RSes => q.n == p.n) y.O = -1 from by simp [idxG, hf]]
      repeat (first | refine t_seq ?_ | refine t_region ?_ | refine to_nil ?_ | refine to_q rfl rfl rfl ?_ | refine t_cond (t := true) rfl (fun _ => ?_) (fun h => nomatch h))
      refine to_call rfl rfl (rwrong_sp 9 _) fun v B F2 le_F2 h => ?_
      obtain ⟨rfl, rfl⟩ := h
      repeat (first | refine to_nil ?_ | refine to_stA rfl rfl rfl rfl rfl rfl ?_)
      refine t_emp u8R 1 5 none ?_
      exact t_ret (OSl u8R 1 5 nilS [] :: byH c 5 bv p.bytes :: RP b ⟨uv, us, _⟩ y) Tryz.func16 (.cellA rfl rfl .nil) (fin _ _ _ ⟨uv, us, _⟩ _ (by rw [hd, abortR, hf]; rfl) (h'.mono (le1.h.trans le_F2.h)))
    | some i =>
      have hi : i < y.O.length := (List.findIdx?_eq_some_iff_getElem.1 hf).1
      rw [show idxG (fun q : RSes => q.n == p.n) y.O = i from by simp [idxG, hf]]
      repeat (first | refine t_seq ?_ | refine t_region ?_ | refine to_nil ?_ | refine t_skip ?_ | refine to_q rfl rfl rfl ?_ | refine t_cond (t := false) rfl (fun h => nomatch h) (fun _ => ?_))
      refine to_call rfl rfl (rlost_sp b y _ i _ (h'.mono le1.h) a.z hi) fun v B F5 le5 h5 => ?_
      obtain ⟨u5, hu5, rfl⟩ := h5
      repeat (first | refine t_seq ?_ | refine t_region ?_ | refine to_nil ?_ | refine to_stA rfl rfl rfl rfl rfl rfl ?_ | refine to_bs rfl rfl rfl rfl ?_)
      refine t_emp u8R 1 5 none ?_
      exact t_ret (OSl u8R 1 5 nilS [] :: byH c 5 bv p.bytes :: RP b u5 (lostR y i)) Tryz.func16 (.cellA rfl rfl .nil) (fin _ _ _ u5 _ (by rw [hd, abortR, hf]; rfl) hu5)
  simp only [beq_eq_false_iff_ne] at h4
  repeat (first | refine t_seq ?_ | refine t_region ?_ | refine to_nil ?_ | refine to_q rfl rfl rfl ?_)
  refine t_condT rfl (fun h5 => ?_) (fun h5 => ?_)
  · simp only [beq_iff_eq] at h5
    have hd : doR y p sp = (toldR y p, y) := by simp [doR, h5]
    repeat (first | refine t_seq ?_ | refine t_region ?_ | refine t_skip ?_ | refine to_q rfl rfl rfl ?_ | refine to_ldA rfl rfl rfl ?_ | refine t_cond (t := true) rfl (fun _ => ?_) (fun h => nomatch h))
    refine to_call rfl rfl (rtold_sp b y _ p bv cv ct ca _ h' a.z a.hS) fun v B F2 le2 h => ?_
    obtain ⟨bv2, nv2, rfl, hn2, rfl⟩ := h
    obtain ⟨na, ncap, rfl⟩ := slR_len hn2
    refine to_sform bv2 fun a2 c2 e2 => ?_
    subst e2
    repeat (first | refine to_nil ?_ | refine to_stA rfl rfl rfl rfl rfl rfl ?_)
    exact t_ret (OSl u8R 1 5 (.slice a2 (toldR y p).2.2.1.length c2) (toldR y p).2.2.1 :: byH c 5 bv p.bytes :: RP b ⟨uv, us, .slice oa y.O.length oc⟩ y) Tryz.func16 (.cellA rfl rfl .nil)
      (by unfold doRQ; rw [hd]; exact ⟨⟨uv, us, .slice oa y.O.length oc⟩, h'.mono le2.h, _, _, rfl, hn2, rfl⟩)
  simp only [beq_eq_false_iff_ne] at h5
  repeat (first | refine t_seq ?_ | refine t_region ?_ | refine to_nil ?_ | refine to_q rfl rfl rfl ?_)
  refine t_condT rfl (fun h6 => ?_) (fun h6 => ?_)
  · simp only [beq_iff_eq] at h6
    have hd : doR y p sp = (toldR y p, y) := by simp [doR, h6]
    repeat (first | refine t_seq ?_ | refine t_region ?_ | refine t_skip ?_ | refine to_q rfl rfl rfl ?_ | refine to_ldA rfl rfl rfl ?_ | refine t_cond (t := true) rfl (fun _ => ?_) (fun h => nomatch h))
    refine to_call rfl rfl (rtold_sp b y _ p bv cv ct ca _ h' a.z a.hS) fun v B F2 le2 h => ?_
    obtain ⟨bv2, nv2, rfl, hn2, rfl⟩ := h
    obtain ⟨na, ncap, rfl⟩ := slR_len hn2
    refine to_sform bv2 fun a2 c2 e2 => ?_
    subst e2
    repeat (first | refine to_nil ?_ | refine to_stA rfl rfl rfl rfl rfl rfl ?_)
    exact t_ret (OSl u8R 1 5 (.slice a2 (toldR y p).2.2.1.length c2) (toldR y p).2.2.1 :: byH c 5 bv p.bytes :: RP b ⟨uv, us, .slice oa y.O.length oc⟩ y) Tryz.func16 (.cellA rfl rfl .nil)
      (by unfold doRQ; rw [hd]; exact ⟨⟨uv, us, .slice oa y.O.length oc⟩, h'.mono le2.h, _, _, rfl, hn2, rfl⟩)
  simp only [beq_eq_false_iff_ne] at h6
  repeat (first | refine t_seq ?_ | refine t_region ?_ | refine to_nil ?_ | refine to_q rfl rfl rfl ?_)
  refine t_condT rfl (fun h7 => ?_) (fun h7 => ?_)
  · simp only [beq_iff_eq] at h7
    have hd : doR y p sp = (toldR y p, y) := by simp [doR, h7]
    repeat (first | refine t_seq ?_ | refine t_region ?_ | refine t_skip ?_ | refine to_q rfl rfl rfl ?_ | refine to_ldA rfl rfl rfl ?_ | refine t_cond (t := true) rfl (fun _ => ?_) (fun h => nomatch h))
    refine to_call rfl rfl (rtold_sp b y _ p bv cv ct ca _ h' a.z a.hS) fun v B F2 le2 h => ?_
    obtain ⟨bv2, nv2, rfl, hn2, rfl⟩ := h
    obtain ⟨na, ncap, rfl⟩ := slR_len hn2
    refine to_sform bv2 fun a2 c2 e2 => ?_
    subst e2
    repeat (first | refine to_nil ?_ | refine to_stA rfl rfl rfl rfl rfl rfl ?_)
    exact t_ret (OSl u8R 1 5 (.slice a2 (toldR y p).2.2.1.length c2) (toldR y p).2.2.1 :: byH c 5 bv p.bytes :: RP b ⟨uv, us, .slice oa y.O.length oc⟩ y) Tryz.func16 (.cellA rfl rfl .nil)
      (by unfold doRQ; rw [hd]; exact ⟨⟨uv, us, .slice oa y.O.length oc⟩, h'.mono le2.h, _, _, rfl, hn2, rfl⟩)
  simp only [beq_eq_false_iff_ne] at h7
  repeat (first | refine t_seq ?_ | refine t_region ?_ | refine to_nil ?_ | refine to_q rfl rfl rfl ?_)
  refine t_condT rfl (fun h8 => ?_) (fun h8 => ?_)
  · simp only [beq_iff_eq] at h8
    have hd : doR y p sp = (toldR y p, y) := by simp [doR, h8]
    repeat (first | refine t_seq ?_ | refine t_region ?_ | refine t_skip ?_ | refine to_q rfl rfl rfl ?_ | refine to_ldA rfl rfl rfl ?_ | refine t_cond (t := true) rfl (fun _ => ?_) (fun h => nomatch h))
    refine to_call rfl rfl (rtold_sp b y _ p bv cv ct ca _ h' a.z a.hS) fun v B F2 le2 h => ?_
    obtain ⟨bv2, nv2, rfl, hn2, rfl⟩ := h
    obtain ⟨na, ncap, rfl⟩ := slR_len hn2
    refine to_sform bv2 fun a2 c2 e2 => ?_
    subst e2
    repeat (first | refine to_nil ?_ | refine to_stA rfl rfl rfl rfl rfl rfl ?_)
    exact t_ret (OSl u8R 1 5 (.slice a2 (toldR y p).2.2.1.length c2) (toldR y p).2.2.1 :: byH c 5 bv p.bytes :: RP b ⟨uv, us, .slice oa y.O.length oc⟩ y) Tryz.func16 (.cellA rfl rfl .nil)
      (by unfold doRQ; rw [hd]; exact ⟨⟨uv, us, .slice oa y.O.length oc⟩, h'.mono le2.h, _, _, rfl, hn2, rfl⟩)
  simp only [beq_eq_false_iff_ne] at h8
  repeat (first | refine t_region ?_ | refine to_nil ?_ | refine to_q rfl rfl rfl ?_)
  refine t_condT rfl (fun h9 => ?_) (fun h9 => ?_)
  · simp only [beq_iff_eq] at h9
    have hd : doR y p sp = (toldR y p, y) := by simp [doR, h9]
    repeat (first | refine t_seq ?_ | refine t_region ?_ | refine to_q rfl rfl rfl ?_ | refine to_ldA rfl rfl rfl ?_)
    refine to_call rfl rfl (rtold_sp b y _ p bv cv ct ca _ h' a.z a.hS) fun v B F2 le2 h => ?_
    obtain ⟨bv2, nv2, rfl, hn2, rfl⟩ := h
    obtain ⟨na, ncap, rfl⟩ := slR_len hn2
    refine to_sform bv2 fun a2 c2 e2 => ?_
    subst e2
    repeat (first | refine to_nil ?_ | refine to_stA rfl rfl rfl rfl rfl rfl ?_)
    exact t_ret (OSl u8R 1 5 (.slice a2 (toldR y p).2.2.1.length c2) (toldR y p).2.2.1 :: byH c 5 bv p.bytes :: RP b ⟨uv, us, .slice oa y.O.length oc⟩ y) Tryz.func16 (.cellA rfl rfl .nil)
      (by unfold doRQ; rw [hd]; exact ⟨⟨uv, us, .slice oa y.O.length oc⟩, h'.mono le2.h, _, _, rfl, hn2, rfl⟩)
  simp only [beq_eq_false_iff_ne] at h9
  repeat (first | refine t_seq ?_ | refine t_region ?_ | refine to_nil ?_ | refine to_q rfl rfl rfl ?_)
  refine t_condT rfl (fun h10 => ?_) (fun h10 => ?_)
  · simp only [beq_iff_eq] at h10
    have hd : doR y p sp = plR (deleteR y p) := by simp [doR, h10]
    repeat (first | refine t_seq ?_ | refine t_region ?_ | refine to_q rfl rfl rfl ?_ | refine to_fa rfl rfl ?_ | refine to_ld rfl rfl rfl ?_)
    refine to_call rfl rfl (rfind_sp b y _ p.name p.gen _ h' a.z) fun v B F1 le1 h => ?_
    obtain ⟨rfl, rfl⟩ := h
    cases hl : lastI (rfindP p.name p.gen) y.V with
    | none =>
      rw [show ixO none = -1 from rfl]
      repeat (first | refine t_seq ?_ | refine t_region ?_ | refine to_nil ?_ | refine to_q rfl rfl rfl ?_ | refine t_cond (t := true) rfl (fun _ => ?_) (fun h => nomatch h))
      refine to_call rfl rfl (rwrong_sp 9 _) fun v B F2 le_F2 h => ?_
      obtain ⟨rfl, rfl⟩ := h
      repeat (first | refine to_nil ?_ | refine to_stA rfl rfl rfl rfl rfl rfl ?_)
      refine t_emp u8R 1 5 none ?_
      exact t_ret (OSl u8R 1 5 nilS [] :: byH c 5 bv p.bytes :: RP b ⟨uv, us, _⟩ y) Tryz.func16 (.cellA rfl rfl .nil) (fin _ _ _ ⟨uv, us, _⟩ _ (by rw [hd, deleteR, hl]; rfl) (h'.mono (le1.h.trans le_F2.h)))
    | some i =>
      obtain ⟨q, hq, _⟩ := lastI_spec hl
      rw [show ixO (some i) = (i : Int) from rfl]
      repeat (first | refine t_seq ?_ | refine t_region ?_ | refine to_nil ?_ | refine t_skip ?_ | refine to_q rfl rfl rfl ?_ | refine t_cond (t := false) rfl (fun h => nomatch h) (fun _ => ?_))
      refine to_call rfl rfl (rgone_sp b y _ i q _ (h'.mono le1.h) a.z hq) fun v B F2 le2 h2 => ?_
      obtain ⟨u2, hu2, rfl⟩ := h2
      repeat (first | refine t_seq ?_ | refine t_region ?_ | refine to_nil ?_ | refine to_q rfl rfl rfl ?_)
      have hq1 := a.z.t q (List.mem_of_getElem? hq)
      have hq2 := a.z.g q (List.mem_of_getElem? hq)
      refine to_call rfl rfl (rsweep_sp b { y with V := y.V.set i { q with gone := true } } u2 _ hu2 ⟨by show (y.V.set i _).length ≤ 4096; rw [List.length_set]; exact a.z.v, a.z.s, a.z.o, fun r hr => by
        rcases List.mem_or_eq_of_mem_set hr with hr | rfl
        · exact a.z.t r hr
        · exact hq1, a.z.u, fun r hr => by
        rcases List.mem_or_eq_of_mem_set hr with hr | rfl
        · exact a.z.g r hr
        · exact hq2⟩ a.hS) fun v B F3 le3 h3 => ?_
      obtain ⟨u3, hu3, rfl⟩ := h3
      repeat (first | refine t_seq ?_ | refine t_region ?_ | refine to_nil ?_ | refine to_stA rfl rfl rfl rfl rfl rfl ?_ | refine to_bs rfl rfl rfl rfl ?_)
      refine t_emp u8R 1 5 none ?_
      exact t_ret (OSl u8R 1 5 nilS [] :: byH c 5 bv p.bytes :: RP b u3 _) Tryz.func16 (.cellA rfl rfl .nil) (fin _ _ _ u3 _ (by rw [hd, deleteR, hl]; simp only [hq]; rfl) hu3)
  simp only [beq_eq_false_iff_ne] at h10
  repeat (first | refine t_seq ?_ | refine t_region ?_ | refine to_nil ?_ | refine to_q rfl rfl rfl ?_)
  refine t_condT rfl (fun h11 => ?_) (fun h11 => ?_)
  · simp only [beq_iff_eq] at h11
    have hd : doR y p sp = plR (shotsR y p sp) := by simp [doR, h11]
    repeat (first | refine t_seq ?_ | refine t_region ?_ | refine t_skip ?_ | refine to_q rfl rfl rfl ?_ | refine to_ldA rfl rfl rfl ?_ | refine t_cond (t := true) rfl (fun _ => ?_) (fun h => nomatch h))
    refine to_call rfl rfl (rshots_sp b y _ p sp bv cv ct ca _ h' a.z a.hS po.sh) fun v B F2 le h => ?_
    obtain ⟨u2, hu2, rfl, rfl⟩ := h
    repeat (first | refine to_nil ?_ | refine to_stA rfl rfl rfl rfl rfl rfl ?_)
    refine t_emp u8R 1 5 none ?_
    exact t_ret (OSl u8R 1 5 nilS [] :: byH c 5 bv p.bytes :: RP b u2 (shotsR y p sp).2.2) Tryz.func16 (.cellA rfl rfl .nil) (fin _ _ _ u2 _ hd hu2)
  simp only [beq_eq_false_iff_ne] at h11
  repeat (first | refine t_region ?_ | refine to_nil ?_ | refine to_q rfl rfl rfl ?_)
  refine t_condT rfl (fun h12 => ?_) (fun h12 => ?_)
  · simp only [beq_iff_eq] at h12
    have hd : doR y p sp = plR (shotsR y p sp) := by simp [doR, h12]
    repeat (first | refine t_seq ?_ | refine t_region ?_ | refine to_q rfl rfl rfl ?_ | refine to_ldA rfl rfl rfl ?_)
    refine to_call rfl rfl (rshots_sp b y _ p sp bv cv ct ca _ h' a.z a.hS po.sh) fun v B F2 le h => ?_
    obtain ⟨u2, hu2, rfl, rfl⟩ := h
    repeat (first | refine to_nil ?_ | refine to_stA rfl rfl rfl rfl rfl rfl ?_)
    refine t_emp u8R 1 5 none ?_
    exact t_ret (OSl u8R 1 5 nilS [] :: byH c 5 bv p.bytes :: RP b u2 (shotsR y p sp).2.2) Tryz.func16 (.cellA rfl rfl .nil) (fin _ _ _ u2 _ hd hu2)
  simp only [beq_eq_false_iff_ne] at h12
  repeat (first | refine t_seq ?_ | refine t_region ?_ | refine to_nil ?_ | refine to_q rfl rfl rfl ?_)
  refine t_condT rfl (fun h13 => ?_) (fun h13 => ?_)
  · simp only [beq_iff_eq] at h13
    have hd : doR y p sp = plR (tickR y p) := by simp [doR, h13]
    have hn0 := a.n0
    have hn1 := a.n1
    have hpn := po.n1
    repeat (refine t_seq ?_)
    refine t_drawn1 (by kernel_rfl) (by kernel_rfl) ?_
    repeat (first | refine to_q rfl rfl rfl ?_ | refine to_fa rfl rfl ?_ | refine to_ld rfl rfl rfl ?_)
    refine to_gd rfl rfl (fun g1 => ?_) (fun g1 => ?_)
    · simp only [decide_eq_true_eq] at g1
      repeat (first | refine t_seq ?_ | refine t_region ?_ | refine to_nil ?_ | refine to_no rfl ?_ | refine to_q rfl rfl rfl ?_ | refine t_cond (t := true) rfl (fun _ => ?_) (fun h => nomatch h))
      refine to_call rfl rfl (rwrong_sp 2 _) fun v B F2 le_F2 h => ?_
      obtain ⟨rfl, rfl⟩ := h
      repeat (first | refine to_nil ?_ | refine to_stA rfl rfl rfl rfl rfl rfl ?_)
      refine t_emp u8R 1 5 none ?_
      exact t_ret (OSl u8R 1 5 nilS [] :: byH c 5 bv p.bytes :: RP b ⟨uv, us, _⟩ y) Tryz.func16 (.cellA rfl rfl .nil) (fin _ _ _ ⟨uv, us, _⟩ _ (by rw [hd, tickR, if_pos (by omega)]; rfl) (h'.mono le_F2.h))
    simp only [decide_eq_false_iff_not] at g1
    repeat (first | refine to_nil ?_ | refine to_q rfl rfl rfl ?_ | refine to_fa rfl rfl ?_ | refine to_ld rfl rfl rfl ?_ | refine to_sub_ rfl rfl rfl (by omega) (by omega) ?_)
    refine t_condT rfl (fun g2 => ?_) (fun g2 => ?_)
    · simp only [decide_eq_true_eq] at g2
      repeat (first | refine t_seq ?_ | refine t_region ?_)
      refine to_call rfl rfl (rwrong_sp 2 _) fun v B F2 le_F2 h => ?_
      obtain ⟨rfl, rfl⟩ := h
      repeat (first | refine to_nil ?_ | refine to_stA rfl rfl rfl rfl rfl rfl ?_)
      refine t_emp u8R 1 5 none ?_
      exact t_ret (OSl u8R 1 5 nilS [] :: byH c 5 bv p.bytes :: RP b ⟨uv, us, _⟩ y) Tryz.func16 (.cellA rfl rfl .nil) (fin _ _ _ ⟨uv, us, _⟩ _ (by rw [hd, tickR, if_pos (by omega)]; rfl) (h'.mono le_F2.h))
    simp only [decide_eq_false_iff_not] at g2
    repeat (first | refine t_seq ?_ | refine t_skip ?_)
    refine t_drawn1 (by kernel_rfl) (by kernel_rfl) ?_
    repeat (first | refine t_seq ?_ | refine t_region ?_ | refine to_nil ?_ | refine to_q rfl rfl rfl ?_ | refine to_fa rfl rfl ?_ | refine to_ld rfl rfl rfl ?_ | refine to_st rfl rfl rfl rfl rfl ?_
                  | refine to_stA rfl rfl rfl rfl rfl rfl ?_ | refine to_bs rfl rfl rfl rfl ?_ | refine to_add rfl rfl rfl (by omega) (by omega) ?_)
    refine t_emp u8R 1 5 none ?_
    exact t_ret (OSl u8R 1 5 nilS [] :: byH c 5 bv p.bytes :: RP b ⟨uv, us, _⟩ { y with now := y.now + p.n }) Tryz.func16 (.cellA rfl rfl .nil) (fin _ _ _ ⟨uv, us, _⟩ _ (by rw [hd, tickR, if_neg (by omega)]; rfl) ⟨hv, hs, ho⟩)
  simp only [beq_eq_false_iff_ne] at h13
  repeat (first | refine t_seq ?_ | refine t_region ?_ | refine to_nil ?_ | refine to_q rfl rfl rfl ?_)
  refine t_condT rfl (fun h14 => ?_) (fun h14 => ?_)
  · simp only [beq_iff_eq] at h14
    have hd : doR y p sp = plR (expireR y (kpOf p)) := by simp [doR, h14]
    repeat (first | refine t_seq ?_ | refine t_region ?_ | refine to_q rfl rfl rfl ?_ | refine to_fa rfl rfl ?_ | refine to_ldA rfl rfl rfl ?_)
    refine to_call rfl rfl (rexpire_sp b y _ (kpOf p) _ h' a.z a.hS a.n0 a.n1 a.tm) fun v B F2 le h => ?_
    obtain ⟨u2, hu2, rfl, rfl⟩ := h
    repeat (first | refine to_nil ?_ | refine to_stA rfl rfl rfl rfl rfl rfl ?_)
    refine t_emp u8R 1 5 none ?_
    exact t_ret (OSl u8R 1 5 nilS [] :: byH c 5 bv p.bytes :: RP b u2 (expireR y (kpOf p)).2.2) Tryz.func16 (.cellA rfl rfl .nil) (fin _ _ _ u2 _ hd hu2)
  simp only [beq_eq_false_iff_ne] at h14
  repeat (first | refine t_seq ?_ | refine t_region ?_ | refine to_nil ?_ | refine to_q rfl rfl rfl ?_)
  refine t_condT rfl (fun h15 => ?_) (fun h15 => ?_)
  · simp only [beq_iff_eq] at h15
    have hd : doR y p sp = plR (cleanR y p sp) := by simp [doR, h15]
    repeat (first | refine t_seq ?_ | refine t_region ?_ | refine to_q rfl rfl rfl ?_ | refine to_fa rfl rfl ?_ | refine to_ld rfl rfl rfl ?_)
    refine to_gd rfl rfl (fun g1 => ?_) (fun g1 => ?_)
    · simp only [decide_eq_true_eq] at g1
      repeat (first | refine t_seq ?_ | refine t_region ?_ | refine to_nil ?_ | refine to_no rfl ?_ | refine to_q rfl rfl rfl ?_ | refine t_cond (t := true) rfl (fun _ => ?_) (fun h => nomatch h))
      refine to_call rfl rfl (rwrong_sp 2 _) fun v B F2 le_F2 h => ?_
      obtain ⟨rfl, rfl⟩ := h
      repeat (first | refine to_nil ?_ | refine to_stA rfl rfl rfl rfl rfl rfl ?_)
      refine t_emp u8R 1 5 none ?_
      exact t_ret (OSl u8R 1 5 nilS [] :: byH c 5 bv p.bytes :: RP b ⟨uv, us, _⟩ y) Tryz.func16 (.cellA rfl rfl .nil) (fin _ _ _ ⟨uv, us, _⟩ _ (by rw [hd, cleanR, if_pos (by omega)]; rfl) (h'.mono le_F2.h))
    simp only [decide_eq_false_iff_not] at g1
    repeat (first | refine to_nil ?_ | refine to_q rfl rfl rfl ?_ | refine to_fa rfl rfl ?_ | refine to_ld rfl rfl rfl ?_)
    refine t_condT rfl (fun g2 => ?_) (fun g2 => ?_)
    · simp only [decide_eq_true_eq] at g2
      repeat (first | refine t_seq ?_ | refine t_region ?_)
      refine to_call rfl rfl (rwrong_sp 2 _) fun v B F2 le_F2 h => ?_
      obtain ⟨rfl, rfl⟩ := h
      repeat (first | refine to_nil ?_ | refine to_stA rfl rfl rfl rfl rfl rfl ?_)
      refine t_emp u8R 1 5 none ?_
      exact t_ret (OSl u8R 1 5 nilS [] :: byH c 5 bv p.bytes :: RP b ⟨uv, us, _⟩ y) Tryz.func16 (.cellA rfl rfl .nil) (fin _ _ _ ⟨uv, us, _⟩ _ (by rw [hd, cleanR, if_pos (by omega)]; rfl) (h'.mono le_F2.h))
    simp only [decide_eq_false_iff_not] at g2
    repeat (first | refine t_seq ?_ | refine t_region ?_ | refine to_nil ?_ | refine t_skip ?_ | refine to_q rfl rfl rfl ?_)
    refine t_condT rfl (fun g3 => ?_) (fun g3 => ?_)
    · subst g3
      repeat (first | refine t_seq ?_ | refine t_region ?_)
      refine to_call rfl rfl (rwrong_sp 8 _) fun v B F2 le_F2 h => ?_
      obtain ⟨rfl, rfl⟩ := h
      repeat (first | refine to_nil ?_ | refine to_stA rfl rfl rfl rfl rfl rfl ?_)
      refine t_emp u8R 1 5 none ?_
      exact t_ret (OSl u8R 1 5 nilS [] :: byH c 5 bv p.bytes :: RP b ⟨uv, us, _⟩ y) Tryz.func16 (.cellA rfl rfl .nil) (fin _ _ _ ⟨uv, us, _⟩ _ (by rw [hd, cleanR, if_neg (by omega), if_pos rfl]; rfl) (h'.mono le_F2.h))
    subst g3
    repeat (first | refine t_seq ?_ | refine t_region ?_ | refine to_nil ?_ | refine t_skip ?_ | refine to_stA rfl rfl rfl rfl rfl rfl ?_ | refine to_bs rfl rfl rfl rfl ?_)
    refine t_emp u8R 1 5 none ?_
    exact t_ret (OSl u8R 1 5 nilS [] :: byH c 5 bv p.bytes :: RP b ⟨uv, us, _⟩ y) Tryz.func16 (.cellA rfl rfl .nil) (fin _ _ _ ⟨uv, us, _⟩ _ (by rw [hd, cleanR, if_neg (by omega), if_neg (by simp)]; rfl) h')
  simp only [beq_eq_false_iff_ne] at h15
  repeat (first | refine t_seq ?_ | refine t_region ?_ | refine to_nil ?_ | refine to_q rfl rfl rfl ?_)
  refine t_condT rfl (fun h16 => ?_) (fun h16 => ?_)
  · simp only [beq_iff_eq] at h16
    repeat (first | refine t_seq ?_ | refine t_region ?_ | refine to_nil ?_ | refine t_skip ?_ | refine to_stA rfl rfl rfl rfl rfl rfl ?_ | refine to_bs rfl rfl rfl rfl ?_
                  | refine t_cond (t := true) rfl (fun _ => ?_) (fun h => nomatch h))
    refine t_emp u8R 1 5 none ?_
    exact t_ret (OSl u8R 1 5 nilS [] :: byH c 5 bv p.bytes :: RP b ⟨uv, us, _⟩ y) Tryz.func16 (.cellA rfl rfl .nil) (fin _ _ _ ⟨uv, us, _⟩ _ (by simp [doR, h16]) h')
  simp only [beq_eq_false_iff_ne] at h16
  repeat (first | refine t_seq ?_ | refine t_region ?_ | refine to_nil ?_ | refine to_q rfl rfl rfl ?_)
  refine t_condT rfl (fun h17 => ?_) (fun h17 => ?_)
  · simp only [beq_iff_eq] at h17
    repeat (first | refine t_seq ?_ | refine t_region ?_ | refine to_nil ?_ | refine t_skip ?_ | refine to_stA rfl rfl rfl rfl rfl rfl ?_ | refine to_bs rfl rfl rfl rfl ?_
                  | refine t_cond (t := true) rfl (fun _ => ?_) (fun h => nomatch h))
    refine t_emp u8R 1 5 none ?_
    exact t_ret (OSl u8R 1 5 nilS [] :: byH c 5 bv p.bytes :: RP b ⟨uv, us, _⟩ y) Tryz.func16 (.cellA rfl rfl .nil) (fin _ _ _ ⟨uv, us, _⟩ _ (by simp [doR, h17]) h')
  simp only [beq_eq_false_iff_ne] at h17
  repeat (first | refine t_seq ?_ | refine t_region ?_ | refine to_nil ?_ | refine to_q rfl rfl rfl ?_)
  refine t_condT rfl (fun h18 => ?_) (fun h18 => ?_)
  · simp only [beq_iff_eq] at h18
    repeat (first | refine t_seq ?_ | refine t_region ?_ | refine to_nil ?_ | refine t_skip ?_ | refine to_stA rfl rfl rfl rfl rfl rfl ?_ | refine to_bs rfl rfl rfl rfl ?_
                  | refine t_cond (t := true) rfl (fun _ => ?_) (fun h => nomatch h))
    refine t_emp u8R 1 5 none ?_
    exact t_ret (OSl u8R 1 5 nilS [] :: byH c 5 bv p.bytes :: RP b ⟨uv, us, _⟩ y) Tryz.func16 (.cellA rfl rfl .nil) (fin _ _ _ ⟨uv, us, _⟩ _ (by simp [doR, h18]) h')
  simp only [beq_eq_false_iff_ne] at h18
  repeat (first | refine t_seq ?_ | refine t_region ?_ | refine to_nil ?_ | refine to_q rfl rfl rfl ?_)
  refine t_condT rfl (fun h19 => ?_) (fun h19 => ?_)
  · simp only [beq_iff_eq] at h19
    repeat (first | refine t_seq ?_ | refine t_region ?_ | refine to_nil ?_ | refine t_skip ?_ | refine to_stA rfl rfl rfl rfl rfl rfl ?_ | refine to_bs rfl rfl rfl rfl ?_
                  | refine t_cond (t := true) rfl (fun _ => ?_) (fun h => nomatch h))
    refine t_emp u8R 1 5 none ?_
    exact t_ret (OSl u8R 1 5 nilS [] :: byH c 5 bv p.bytes :: RP b ⟨uv, us, _⟩ y) Tryz.func16 (.cellA rfl rfl .nil) (fin _ _ _ ⟨uv, us, _⟩ _ (by simp [doR, h19]) h')
  simp only [beq_eq_false_iff_ne] at h19
  repeat (first | refine t_seq ?_ | refine t_region ?_ | refine to_nil ?_ | refine to_q rfl rfl rfl ?_)
  refine t_condT rfl (fun h20 => ?_) (fun h20 => ?_)
  · simp only [beq_iff_eq] at h20
    repeat (first | refine t_seq ?_ | refine t_region ?_ | refine to_nil ?_ | refine t_skip ?_ | refine to_stA rfl rfl rfl rfl rfl rfl ?_ | refine to_bs rfl rfl rfl rfl ?_
                  | refine t_cond (t := true) rfl (fun _ => ?_) (fun h => nomatch h))
    refine t_emp u8R 1 5 none ?_
    exact t_ret (OSl u8R 1 5 nilS [] :: byH c 5 bv p.bytes :: RP b ⟨uv, us, _⟩ y) Tryz.func16 (.cellA rfl rfl .nil) (fin _ _ _ ⟨uv, us, _⟩ _ (by simp [doR, h20]) h')
  simp only [beq_eq_false_iff_ne] at h20
  repeat (first | refine t_region ?_ | refine to_nil ?_ | refine to_q rfl rfl rfl ?_)
  refine t_condT rfl (fun h21 => ?_) (fun h21 => ?_)
  · simp only [beq_iff_eq] at h21
    repeat (first | refine t_seq ?_ | refine t_region ?_ | refine to_nil ?_ | refine to_stA rfl rfl rfl rfl rfl rfl ?_ | refine to_bs rfl rfl rfl rfl ?_)
    refine t_emp u8R 1 5 none ?_
    exact t_ret (OSl u8R 1 5 nilS [] :: byH c 5 bv p.bytes :: RP b ⟨uv, us, _⟩ y) Tryz.func16 (.cellA rfl rfl .nil) (fin _ _ _ ⟨uv, us, _⟩ _ (by simp [doR, h21]) h')
  simp only [beq_eq_false_iff_ne] at h21
  repeat (first | refine t_seq ?_ | refine t_region ?_ | refine t_skip ?_ | refine t_inBlock ?_)
  refine to_call rfl rfl (rwrong_sp 4 _) fun v B F2 le_F2 h => ?_
  obtain ⟨rfl, rfl⟩ := h
  repeat (first | refine to_nil ?_ | refine to_stA rfl rfl rfl rfl rfl rfl ?_)
  refine t_emp u8R 1 5 none ?_
  exact t_ret (OSl u8R 1 5 nilS [] :: byH c 5 bv p.bytes :: RP b ⟨uv, us, _⟩ y) Tryz.func16 (.cellA rfl rfl .nil) (fin _ _ _ ⟨uv, us, _⟩ _ (by simp [doR, h1, h2, h3, h4, h5, h6, h7, h8, h9, h10, h11, h12, h13, h14, h15, h16, h17, h18, h19, h20, h21]) (h'.mono le_F2.h))
end Go.Proofs.YtbffngeameenoaaGreat
end

section
set_option maxRecDepth 100000
set_option linter.unusedVariables false
set_option linter.unusedSimpArgs false
namespace Go.Proofs.YtbffngeameenoaaGreat
open Go Go.Au
attribute [local irreducible] T TO

theorem sameHeld_sp (v1 v2 : Value) (l1 l2 : List (ByteArray × Int)) (F : Frz) (h1 : (slR heldR 2).r F l1 v1) (h2 : (slR heldR 2).r F l2 v2) (hn : l1.length ≤ 1048576) :
    Sp Tryz.prog 20 [v1, v2] [] F (fun v B F' => v = .bool (decide (l1 = l2)) ∧ B = []) := by
  obtain ⟨a1, c1, e1⟩ := slR_len h1
  obtain ⟨a2, c2, e2⟩ := slR_len h2
  subst e1
  subst e2
  refine sp_of Tryz.func20 rfl (by kernel_rfl) rfl fun R => ?_
  repeat (first | refine t_seq ?_ | refine t_region ?_ | refine to_nil ?_ | refine to_q rfl rfl rfl ?_ | refine to_lenS rfl rfl rfl ?_)
  refine t_condT rfl (fun h => ?_) (fun h => ?_)
  · simp only [bne_iff_ne, ne_eq] at h
    have e : decide (l1 = l2) = false := decide_eq_false fun e => h (by rw [e])
    repeat (first | refine t_seq ?_ | refine t_region ?_ | refine to_nil ?_ | refine to_q rfl rfl rfl ?_)
    exact t_ret [] Tryz.func20 (.tmp rfl .nil) (by rw [e]; exact ⟨rfl, rfl⟩)
  have hle : l1.length = l2.length := by simp only [bne_eq_false_iff_eq] at h; omega
  repeat (first | refine t_seq ?_ | refine t_block ?_ | refine t_region ?_ | refine to_nil ?_ | refine t_skip ?_ | refine to_q rfl rfl rfl ?_)
  refine t_loopJ (R := R) (fun i : Nat => l1.length - i) (fun _ => []) (fun i => [(0, .slice a1 l1.length c1), (1, .slice a2 l2.length c2), (5, .int .i64 i)])
    (fun i _ => i ≤ l1.length ∧ l1.take i = l2.take i) 0 (by repeat (first | exact trivial | refine ⟨rfl, ?_⟩)) ⟨Nat.zero_le _, rfl⟩ ?_
  intro i F1 le1 hg ih
  obtain ⟨hi, heq⟩ := hg
  repeat (first | refine t_seq ?_ | refine t_region ?_ | refine to_nil ?_ | refine to_q rfl rfl rfl ?_ | refine to_lenS rfl rfl rfl ?_)
  refine t_condT rfl (fun hlt => ?_) (fun hlt => ?_)
  · simp only [decide_eq_true_eq] at hlt
    have hlt1 : i < l1.length := by omega
    have hlt2 : i < l2.length := by omega
    have hc1 := List.getElem?_eq_getElem hlt1
    have hc2 := List.getElem?_eq_getElem hlt2
    have ht1 := take_snoc' hc1
    have ht2 := take_snoc' hc2
    generalize l1[i] = q1 at hc1 ht1
    generalize l2[i] = q2 at hc2 ht2
    obtain ⟨b1, o1, cap1, u1, e1, hl1, hr1, hro1⟩ := slR_elem (P := Tryz.prog) (t := 105) (by_ := 24) h1 hc1
    obtain ⟨b2, o2, cap2, u2, e2, hl2, hr2, hro2⟩ := slR_elem (P := Tryz.prog) (t := 105) (by_ := 24) h2 hc2
    cases e1
    cases e2
    cases hr1
    cases hr2
    repeat (first | refine t_seq ?_ | refine t_block ?_ | refine t_skip ?_)
    refine t_drawn1 (by kernel_rfl) (by kernel_rfl) ?_
    repeat (refine to_q rfl rfl rfl ?_)
    refine to_ia rfl rfl rfl rfl hl1 ?_
    refine to_ldV (F1 := F) (ρ := heldR) (q := q1) rfl hro1 rfl rfl ?_
    repeat (refine to_q rfl rfl rfl ?_)
    refine to_ia rfl rfl rfl rfl hl2 ?_
    refine to_ldV (F1 := F) (ρ := heldR) (q := q2) rfl hro2 rfl rfl ?_
    refine to_neA (by kernel_rfl) rfl rfl rfl (eq_held q1 q2) ?_
    repeat (refine to_nil ?_)
    refine t_condT rfl (fun hq => ?_) (fun hq => ?_)
    · simp only [Bool.not_eq_true', decide_eq_false_iff_not] at hq
      have e : decide (l1 = l2) = false := decide_eq_false fun e => hq (by rw [e, hc2] at hc1; exact (Option.some.inj hc1).symm)
      repeat (first | refine t_seq ?_ | refine t_region ?_ | refine to_nil ?_ | refine to_q rfl rfl rfl ?_)
      exact t_ret [] Tryz.func20 (.tmp rfl .nil) (by rw [e]; exact ⟨rfl, rfl⟩)
    · simp only [Bool.not_eq_false', decide_eq_true_eq] at hq
      repeat (first | refine t_region ?_ | refine to_nil ?_ | refine t_skip ?_ | refine t_inBlock ?_ | refine to_q rfl rfl rfl ?_ | refine to_add rfl rfl rfl (by omega) (by omega) ?_)
      refine t_re (A := []) (R := R) (ih (i + 1) F1 ⟨.refl _⟩ (by omega) ⟨by omega, by rw [ht1, ht2, heq, hq]⟩) (by repeat (first | exact trivial | refine ⟨rfl, ?_⟩))
  · simp only [decide_eq_false_iff_not] at hlt
    have e : decide (l1 = l2) = true := decide_eq_true (by rw [List.take_of_length_le (by omega), List.take_of_length_le (by omega)] at heq; exact heq)
    repeat (first | refine t_seq ?_ | refine t_region ?_ | refine to_nil ?_ | refine to_q rfl rfl rfl ?_ | refine t_exit rfl ?_)
    exact t_ret [] Tryz.func20 (.tmp rfl .nil) (by rw [e]; exact ⟨rfl, rfl⟩)
theorem ints_sp (v1 v2 : Value) (l1 l2 : List (Int)) (F : Frz) (h1 : (slR intR 1).r F l1 v1) (h2 : (slR intR 1).r F l2 v2) (hn : l1.length ≤ 1048576) :
    Sp Tryz.prog 14 [v1, v2] [] F (fun v B F' => v = .bool (decide (l1 = l2)) ∧ B = []) := by
  obtain ⟨a1, c1, e1⟩ := slR_len h1
  obtain ⟨a2, c2, e2⟩ := slR_len h2
  subst e1
  subst e2
  refine sp_of Tryz.func14 rfl (by kernel_rfl) rfl fun R => ?_
  repeat (first | refine t_seq ?_ | refine t_region ?_ | refine to_nil ?_ | refine to_q rfl rfl rfl ?_ | refine to_lenS rfl rfl rfl ?_)
  refine t_condT rfl (fun h => ?_) (fun h => ?_)
  · simp only [bne_iff_ne, ne_eq] at h
    have e : decide (l1 = l2) = false := decide_eq_false fun e => h (by rw [e])
    repeat (first | refine t_seq ?_ | refine t_region ?_ | refine to_nil ?_ | refine to_q rfl rfl rfl ?_)
    exact t_ret [] Tryz.func14 (.tmp rfl .nil) (by rw [e]; exact ⟨rfl, rfl⟩)
  have hle : l1.length = l2.length := by simp only [bne_eq_false_iff_eq] at h; omega
  repeat (first | refine t_seq ?_ | refine t_block ?_ | refine t_region ?_ | refine to_nil ?_ | refine t_skip ?_ | refine to_q rfl rfl rfl ?_)
  refine t_loopJ (R := R) (fun i : Nat => l1.length - i) (fun _ => []) (fun i => [(0, .slice a1 l1.length c1), (1, .slice a2 l2.length c2), (5, .int .i64 i)])
    (fun i _ => i ≤ l1.length ∧ l1.take i = l2.take i) 0 (by repeat (first | exact trivial | refine ⟨rfl, ?_⟩)) ⟨Nat.zero_le _, rfl⟩ ?_
  intro i F1 le1 hg ih
  obtain ⟨hi, heq⟩ := hg
  repeat (first | refine t_seq ?_ | refine t_region ?_ | refine to_nil ?_ | refine to_q rfl rfl rfl ?_ | refine to_lenS rfl rfl rfl ?_)
  refine t_condT rfl (fun hlt => ?_) (fun hlt => ?_)
  · simp only [decide_eq_true_eq] at hlt
    have hlt1 : i < l1.length := by omega
    have hlt2 : i < l2.length := by omega
    have hc1 := List.getElem?_eq_getElem hlt1
    have hc2 := List.getElem?_eq_getElem hlt2
    have ht1 := take_snoc' hc1
    have ht2 := take_snoc' hc2
    generalize l1[i] = q1 at hc1 ht1
    generalize l2[i] = q2 at hc2 ht2
    obtain ⟨b1, o1, cap1, u1, e1, hl1, hr1, hro1⟩ := slR_elem (P := Tryz.prog) (t := 3) (by_ := 8) h1 hc1
    obtain ⟨b2, o2, cap2, u2, e2, hl2, hr2, hro2⟩ := slR_elem (P := Tryz.prog) (t := 3) (by_ := 8) h2 hc2
    cases e1
    cases e2
    cases hr1
    cases hr2
    repeat (first | refine t_seq ?_ | refine t_block ?_ | refine t_skip ?_)
    refine t_drawn1 (by kernel_rfl) (by kernel_rfl) ?_
    repeat (refine to_q rfl rfl rfl ?_)
    refine to_ia rfl rfl rfl rfl hl1 ?_
    refine to_ldV (F1 := F) (ρ := intR) (q := q1) rfl hro1 rfl rfl ?_
    repeat (refine to_q rfl rfl rfl ?_)
    refine to_ia rfl rfl rfl rfl hl2 ?_
    refine to_ldV (F1 := F) (ρ := intR) (q := q2) rfl hro2 rfl rfl ?_
    repeat (first | refine to_nil ?_ | refine to_q rfl rfl rfl ?_)
    skip
    refine t_condT rfl (fun hq => ?_) (fun hq => ?_)
    · simp only [bne_iff_ne, ne_eq] at hq
      have e : decide (l1 = l2) = false := decide_eq_false fun e => hq (by rw [e, hc2] at hc1; exact (Option.some.inj hc1).symm)
      repeat (first | refine t_seq ?_ | refine t_region ?_ | refine to_nil ?_ | refine to_q rfl rfl rfl ?_)
      exact t_ret [] Tryz.func14 (.tmp rfl .nil) (by rw [e]; exact ⟨rfl, rfl⟩)
    · simp only [bne_eq_false_iff_eq] at hq
      repeat (first | refine t_region ?_ | refine to_nil ?_ | refine t_skip ?_ | refine t_inBlock ?_ | refine to_q rfl rfl rfl ?_ | refine to_add rfl rfl rfl (by omega) (by omega) ?_)
      refine t_re (A := []) (R := R) (ih (i + 1) F1 ⟨.refl _⟩ (by omega) ⟨by omega, by rw [ht1, ht2, heq, hq]⟩) (by repeat (first | exact trivial | refine ⟨rfl, ?_⟩))
  · simp only [decide_eq_false_iff_not] at hlt
    have e : decide (l1 = l2) = true := decide_eq_true (by rw [List.take_of_length_le (by omega), List.take_of_length_le (by omega)] at heq; exact heq)
    repeat (first | refine t_seq ?_ | refine t_region ?_ | refine to_nil ?_ | refine to_q rfl rfl rfl ?_ | refine t_exit rfl ?_)
    exact t_ret [] Tryz.func14 (.tmp rfl .nil) (by rw [e]; exact ⟨rfl, rfl⟩)
def sameA (r r' : Ans) : Bool := decide (r.1 = r'.1) && (decide (r.2.1 = r'.2.1) && (decide (r.2.2.1 = r'.2.2.1) && decide (r.2.2.2 = r'.2.2.2)))
theorem bytes_eq (l l' : List UInt8) : ((⟨l.toArray⟩ : ByteArray).toList == (⟨l'.toArray⟩ : ByteArray).toList) = decide (l = l') := by
  rw [ba_beq, Bool.eq_iff_iff]
  simp
theorem sameAnswer_sp (r r' : Ans) (bv nv bv' nv' : Value) (F : Frz) (h1 : (slR heldR 2).r F r.2.2.2 nv) (h2 : (slR heldR 2).r F r'.2.2.2 nv') (hn : r.2.2.2.length ≤ 1048576) :
    Sp Tryz.prog 18 [ansV r.1 r.2.1 bv nv, ansV r'.1 r'.2.1 bv' nv'] [OSl u8R 1 5 bv r.2.2.1, OSl u8R 1 5 bv' r'.2.2.1] F
      (fun v B F' => v = .bool (sameA r r') ∧ B = [OSl u8R 1 5 bv r.2.2.1, OSl u8R 1 5 bv' r'.2.2.1]) := by
  refine sp_of Tryz.func18 rfl (by kernel_rfl) rfl fun R => ?_
  refine t_seq ?_
  refine t_region ?_
  refine to_boxA (cs := [.int .i64 r.1, .int .i64 r.2.1, bv, nv]) rfl rfl fun _ => ?_
  refine to_boxA (cs := [.int .i64 r'.1, .int .i64 r'.2.1, bv', nv']) rfl rfl fun _ => ?_
  repeat (first | refine t_seq ?_ | refine t_region ?_ | refine to_nil ?_ | refine to_q rfl rfl rfl ?_ | refine to_fa rfl rfl ?_ | refine to_ld rfl rfl rfl ?_)
  refine to_gd rfl rfl (fun g1 => ?_) (fun g1 => ?_)
  · simp only [beq_iff_eq] at g1
    repeat (first | refine to_q rfl rfl rfl ?_ | refine to_fa rfl rfl ?_ | refine to_ld rfl rfl rfl ?_)
    refine to_gd rfl rfl (fun g2 => ?_) (fun g2 => ?_)
    · simp only [beq_iff_eq] at g2
      repeat (first | refine to_fa rfl rfl ?_ | refine to_ld rfl rfl rfl ?_)
      refine to_cvBSO rfl rfl ?_
      repeat (first | refine to_fa rfl rfl ?_ | refine to_ld rfl rfl rfl ?_)
      refine to_cvBSO rfl rfl ?_
      repeat (refine to_q rfl rfl rfl ?_)
      refine to_gd rfl rfl (fun g3 => ?_) (fun g3 => ?_)
      · rw [bytes_eq, decide_eq_true_eq] at g3
        repeat (first | refine to_fa rfl rfl ?_ | refine to_ld rfl rfl rfl ?_)
        refine to_call rfl rfl (sameHeld_sp nv nv' _ _ _ h1 h2 hn) fun v B F1 le h => ?_
        obtain ⟨rfl, rfl⟩ := h
        have e : sameA r r' = decide (r.2.2.2 = r'.2.2.2) := by simp [sameA, g1, g2, g3]
        repeat (first | refine to_nil ?_ | refine to_q rfl rfl rfl ?_)
        exact t_ret [OSl u8R 1 5 bv r.2.2.1, OSl u8R 1 5 bv' r'.2.2.1] Tryz.func18 (.tmp rfl .nil) (by rw [e]; exact ⟨rfl, rfl⟩)
      · rw [bytes_eq, decide_eq_false_iff_not] at g3
        have e : sameA r r' = false := by simp [sameA, g3]
        repeat (first | refine to_nil ?_ | refine to_no rfl ?_ | refine to_q rfl rfl rfl ?_)
        exact t_ret [OSl u8R 1 5 bv r.2.2.1, OSl u8R 1 5 bv' r'.2.2.1] Tryz.func18 (.tmp rfl .nil) (by rw [e]; exact ⟨rfl, rfl⟩)
    · simp only [beq_eq_false_iff_ne] at g2
      have e : sameA r r' = false := by simp [sameA, g2]
      repeat (first | refine to_nil ?_ | refine to_no rfl ?_ | refine to_q rfl rfl rfl ?_)
      exact t_ret [OSl u8R 1 5 bv r.2.2.1, OSl u8R 1 5 bv' r'.2.2.1] Tryz.func18 (.tmp rfl .nil) (by rw [e]; exact ⟨rfl, rfl⟩)
  · simp only [beq_eq_false_iff_ne] at g1
    have e : sameA r r' = false := by simp [sameA, g1]
    repeat (first | refine to_nil ?_ | refine to_no rfl ?_ | refine to_q rfl rfl rfl ?_)
    exact t_ret [OSl u8R 1 5 bv r.2.2.1, OSl u8R 1 5 bv' r'.2.2.1] Tryz.func18 (.tmp rfl .nil) (by rw [e]; exact ⟨rfl, rfl⟩)
theorem rfork_sp (b : Nat) (y : RM) (u : RU) (F : Frz) (h : RY F y u) : Sp Tryz.prog 15 [ptr b] (RP b u y) F (fun v B F' => ∃ b', v = ptr b' ∧ B = RP b u y ++ RP b' u y) := by
  obtain ⟨uv, us, uo⟩ := u
  obtain ⟨hv, hs, ho⟩ := h
  obtain ⟨va, vc, rfl⟩ := slR_len hv
  obtain ⟨sa, sc, rfl⟩ := slR_len hs
  obtain ⟨oa, oc, rfl⟩ := slR_len ho
  refine sp_of Tryz.func15 rfl (by kernel_rfl) rfl fun R => ?_
  repeat (first | refine t_seq ?_ | refine t_region ?_ | refine to_nil ?_ | refine to_q rfl rfl rfl ?_ | refine to_ldA rfl rfl rfl ?_ | refine to_stA rfl rfl rfl rfl rfl rfl ?_ | refine to_alloc rfl fun _ => ?_)
  rename_i b'
  exact t_ret (RP b ⟨_, _, _⟩ y ++ RP b' ⟨_, _, _⟩ y) Tryz.func15 (.tmp rfl .nil) ⟨b', rfl, rfl⟩
theorem rsessions_sp (b : Nat) (y : RM) (u : RU) (F : Frz) (h : RY F y u) (z : RSz y) :
    Sp Tryz.prog 25 [ptr b] (RP b u y) F (fun v B F' => (slR intR 1).r F' (y.O.map (·.n)) v ∧ B = RP b u y) := by
  obtain ⟨uv, us, uo⟩ := u
  obtain ⟨hv, hs, ho⟩ := h
  obtain ⟨oa, oc, rfl⟩ := slR_len ho
  have hz := z.o
  refine sp_of Tryz.func25 rfl (by kernel_rfl) rfl fun R => ?_
  repeat (first | refine t_seq ?_ | refine t_block ?_ | refine t_region ?_ | refine to_nil ?_ | refine to_q rfl rfl rfl ?_)
  refine t_emp intR 1 3 none ?_
  refine t_loopJ (R := R) (fun z : Nat × Value × List Int => y.O.length - z.1) (fun z => OSl intR 1 3 z.2.1 z.2.2 :: RP b ⟨uv, us, .slice oa y.O.length oc⟩ y)
    (fun z => [(0, ptr b), (3, z.2.1), (4, .int .i64 z.1)]) (fun z _ => z.1 ≤ y.O.length ∧ z.2.2 = (y.O.take z.1).map (·.n)) (0, nilS, []) (by repeat (first | exact trivial | refine ⟨rfl, ?_⟩)) ⟨Nat.zero_le _, rfl⟩ ?_
  rintro ⟨i, w, acc⟩ F1 le1 hg ih
  dsimp only at hg ih ⊢
  obtain ⟨hi, hacc⟩ := hg
  have hal : acc.length ≤ 4096 := by rw [hacc, List.length_map, List.length_take]; omega
  repeat (first | refine t_seq ?_ | refine t_region ?_ | refine to_nil ?_ | refine to_q rfl rfl rfl ?_ | refine to_fa rfl rfl ?_ | refine to_ld rfl rfl rfl ?_ | refine to_lenS rfl rfl rfl ?_)
  refine t_condT rfl (fun hlt => ?_) (fun hlt => ?_)
  · simp only [decide_eq_true_eq] at hlt
    have hlt : i < y.O.length := by omega
    have hc := List.getElem?_eq_getElem hlt
    generalize y.O[i] = q at hc
    have hsn : (y.O.take (i + 1)).map (·.n) = acc ++ [q.n] := by rw [take_snoc' hc, List.map_append, ← hacc]; rfl
    obtain ⟨b_e, o_e, cap_e, u_e, e_e, hl_e, r_e, ro_e⟩ := slR_elem (P := Tryz.prog) (t := 95) (by_ := 40) ho hc
    cases e_e
    cases r_e
    repeat (first | refine t_seq ?_ | refine t_block ?_ | refine t_region ?_ | refine t_skip ?_ | refine to_q rfl rfl rfl ?_ | refine to_fa rfl rfl ?_ | refine to_ld rfl rfl rfl ?_)
    refine to_ia rfl rfl rfl rfl hl_e ?_
    repeat (refine to_fa rfl rfl ?_)
    refine to_ldR (F0 := F) rfl rfl (ro_e.one (j := 0) (v := (.int .i64 q.n)) rfl) ?_
    skip
    refine to_bsl (len := 1) rfl rfl rfl rfl fun b3 => ?_
    refine to_app1 (ρ := intR) (q := q.n) (u := .int .i64 q.n) rfl rfl rfl rfl rfl rfl (by omega) fun w2 => ?_
    repeat (first | refine t_region ?_ | refine to_nil ?_ | refine t_inBlock ?_ | refine to_q rfl rfl rfl ?_ | refine to_add rfl rfl rfl (by omega) (by omega) ?_)
    refine t_re (A := OSl intR 1 3 w2 (acc ++ [q.n]) :: RP b ⟨uv, us, _⟩ y) (R := R) (ih (i + 1, w2, acc ++ [q.n]) F1 ⟨.refl _⟩ (by dsimp only; omega) ⟨by dsimp only; omega, hsn.symm⟩) (by repeat (first | exact trivial | refine ⟨rfl, ?_⟩))
  · simp only [decide_eq_false_iff_not] at hlt
    have hie : y.O.take i = y.O := List.take_of_length_le (by omega)
    rw [hie] at hacc
    repeat (first | refine t_seq ?_ | refine t_region ?_ | refine to_nil ?_ | refine to_q rfl rfl rfl ?_ | refine t_exit rfl ?_)
    refine t_freeze w fun F2 le2 hw => ?_
    exact t_ret (RP b ⟨uv, us, _⟩ y) Tryz.func25 (.tmp rfl .nil) ⟨by rw [← hacc]; exact hw, rfl⟩
end Go.Proofs.YtbffngeameenoaaGreat
end

section
set_option maxRecDepth 100000
set_option linter.unusedVariables false
set_option linter.unusedSimpArgs false
namespace Go.Proofs.YtbffngeameenoaaGreat
open Go Go.Au
attribute [local irreducible] T TO

def rsame (y y' : RM) : Bool := decide (y.now = y'.now) && (decide (y.V = y'.V) && decide (y.S = y'.S))
theorem list_ne_len {α : Type} {l l' : List α} (h : l.length ≠ l'.length) : l ≠ l' := fun e => h (by rw [e])
theorem list_ne_at {α : Type} {l l' : List α} {i : Nat} {a a' : α} (h : l[i]? = some a) (h' : l'[i]? = some a') (hne : a ≠ a') : l ≠ l' := fun e => by rw [e, h'] at h; exact hne (Option.some.inj h).symm
set_option maxHeartbeats 2000000 in
theorem rsame_sp (b b' : Nat) (y y' : RM) (u u' : RU) (F : Frz) (h : RY F y u) (h' : RY F y' u') (z : RSz y) (hS : ∀ q ∈ y.S, q.2.length ≤ 4096) :
    Sp Tryz.prog 17 [ptr b, ptr b'] (RP b u y ++ RP b' u' y') F (fun v B F' => v = .bool (rsame y y') ∧ B = RP b u y ++ RP b' u' y') := by
  obtain ⟨uv, us, uo⟩ := u
  obtain ⟨hv, hs, ho⟩ := h
  obtain ⟨uv', us', uo'⟩ := u'
  obtain ⟨hv', hs', ho'⟩ := h'
  obtain ⟨va, vc, rfl⟩ := slR_len hv
  obtain ⟨sa, sc, rfl⟩ := slR_len hs
  obtain ⟨va', vc', rfl⟩ := slR_len hv'
  obtain ⟨sa', sc', rfl⟩ := slR_len hs'
  have hz := z.v
  have hzs := z.s
  refine sp_of Tryz.func17 rfl (by kernel_rfl) rfl fun R => ?_
  repeat (first | refine t_seq ?_ | refine t_region ?_ | refine to_nil ?_ | refine to_q rfl rfl rfl ?_)
  refine t_drawn1 (by kernel_rfl) (by kernel_rfl) ?_
  repeat (first | refine to_q rfl rfl rfl ?_ | refine to_fa rfl rfl ?_ | refine to_ld rfl rfl rfl ?_)
  refine to_gd rfl rfl (fun h1 => ?_) (fun h1 => ?_)
  · simp only [bne_iff_ne, ne_eq] at h1
    have e : rsame y y' = false := by unfold rsame; rw [decide_eq_false h1, Bool.false_and]
    repeat (first | refine t_seq ?_ | refine t_region ?_ | refine to_nil ?_ | refine to_no rfl ?_ | refine to_q rfl rfl rfl ?_ | refine t_cond (t := true) rfl (fun _ => ?_) (fun h => nomatch h))
    exact t_ret (RP b ⟨_, _, uo⟩ y ++ RP b' ⟨_, _, uo'⟩ y') Tryz.func17 (.tmp rfl .nil) (by rw [e]; exact ⟨rfl, rfl⟩)
  simp only [bne_eq_false_iff_eq] at h1
  repeat (first | refine to_q rfl rfl rfl ?_ | refine to_fa rfl rfl ?_ | refine to_ld rfl rfl rfl ?_ | refine to_lenS rfl rfl rfl ?_)
  refine to_gd rfl rfl (fun h2 => ?_) (fun h2 => ?_)
  · simp only [bne_iff_ne, ne_eq] at h2
    have e : rsame y y' = false := by unfold rsame; rw [decide_eq_false (list_ne_len fun e => h2 (by rw [e])), Bool.false_and, Bool.and_false]
    repeat (first | refine t_seq ?_ | refine t_region ?_ | refine to_nil ?_ | refine to_no rfl ?_ | refine to_q rfl rfl rfl ?_ | refine t_cond (t := true) rfl (fun _ => ?_) (fun h => nomatch h))
    exact t_ret (RP b ⟨_, _, uo⟩ y ++ RP b' ⟨_, _, uo'⟩ y') Tryz.func17 (.tmp rfl .nil) (by rw [e]; exact ⟨rfl, rfl⟩)
  have h2 : y.V.length = y'.V.length := by simp only [bne_eq_false_iff_eq] at h2; omega
  repeat (first | refine to_nil ?_ | refine to_q rfl rfl rfl ?_ | refine to_fa rfl rfl ?_ | refine to_ld rfl rfl rfl ?_ | refine to_lenS rfl rfl rfl ?_)
  refine t_condT rfl (fun h3 => ?_) (fun h3 => ?_)
  · simp only [bne_iff_ne, ne_eq] at h3
    have e : rsame y y' = false := by unfold rsame; rw [decide_eq_false (list_ne_len (l := y.S) (l' := y'.S) fun e => h3 (by rw [e])), Bool.and_false, Bool.and_false]
    repeat (first | refine t_seq ?_ | refine t_region ?_ | refine to_nil ?_ | refine to_q rfl rfl rfl ?_)
    exact t_ret (RP b ⟨_, _, uo⟩ y ++ RP b' ⟨_, _, uo'⟩ y') Tryz.func17 (.tmp rfl .nil) (by rw [e]; exact ⟨rfl, rfl⟩)
  have h3 : y.S.length = y'.S.length := by simp only [bne_eq_false_iff_eq] at h3; omega
  repeat (first | refine t_seq ?_ | refine t_block ?_ | refine t_region ?_ | refine to_nil ?_ | refine t_skip ?_ | refine to_q rfl rfl rfl ?_)
  refine t_loopJ (R := R) (fun i : Nat => y.V.length - i) (fun _ => RP b ⟨.slice va y.V.length vc, .slice sa y.S.length sc, uo⟩ y ++ RP b' ⟨.slice va' y'.V.length vc', .slice sa' y'.S.length sc', uo'⟩ y') (fun i => [(0, ptr b), (1, ptr b'), (5, .int .i64 i)])
    (fun i _ => i ≤ y.V.length ∧ y.V.take i = y'.V.take i) 0 (by repeat (first | exact trivial | refine ⟨rfl, ?_⟩)) ⟨Nat.zero_le _, rfl⟩ ?_
  intro i F1 le1 hg ih
  obtain ⟨hi, heq⟩ := hg
  repeat (first | refine t_seq ?_ | refine t_region ?_ | refine to_nil ?_ | refine to_q rfl rfl rfl ?_ | refine to_fa rfl rfl ?_ | refine to_ld rfl rfl rfl ?_ | refine to_lenS rfl rfl rfl ?_)
  refine t_condT rfl (fun hlt => ?_) (fun hlt => ?_)
  · simp only [decide_eq_true_eq] at hlt
    have hlt1 : i < y.V.length := by omega
    have hlt2 : i < y'.V.length := by omega
    have hc1 := List.getElem?_eq_getElem hlt1
    have hc2 := List.getElem?_eq_getElem hlt2
    have ht1 := take_snoc' hc1
    have ht2 := take_snoc' hc2
    generalize y.V[i] = q1 at hc1 ht1
    generalize y'.V[i] = q2 at hc2 ht2
    obtain ⟨b_e, o_e, cap_e, u_e, e_e, hl_e, r_e, ro_e⟩ := slR_elem (P := Tryz.prog) (t := 101) (by_ := 56) hv hc1
    cases e_e
    cases r_e
    obtain ⟨b_f, o_f, cap_f, u_f, e_f, hl_f, r_f, ro_f⟩ := slR_elem (P := Tryz.prog) (t := 101) (by_ := 56) hv' hc2
    cases e_f
    cases r_f
    repeat (first | refine t_seq ?_ | refine t_block ?_ | refine t_skip ?_)
    refine t_drawn1 (by kernel_rfl) (by kernel_rfl) ?_
    repeat (first | refine to_q rfl rfl rfl ?_ | refine to_fa rfl rfl ?_ | refine to_ld rfl rfl rfl ?_)
    refine to_ia rfl rfl rfl rfl hl_e ?_
    refine to_ldV (F1 := F) (ρ := rverR) (q := q1) rfl ro_e rfl rfl ?_
    repeat (first | refine to_q rfl rfl rfl ?_ | refine to_fa rfl rfl ?_ | refine to_ld rfl rfl rfl ?_)
    refine to_ia rfl rfl rfl rfl hl_f ?_
    refine to_ldV (F1 := F) (ρ := rverR) (q := q2) rfl ro_f rfl rfl ?_
    refine to_neA (by kernel_rfl) rfl rfl rfl (eq_rver q1 q2) ?_
    repeat (refine to_nil ?_)
    refine t_condT rfl (fun hq => ?_) (fun hq => ?_)
    · simp only [Bool.not_eq_true', decide_eq_false_iff_not] at hq
      have e : rsame y y' = false := by unfold rsame; rw [decide_eq_false (list_ne_at hc1 hc2 hq), Bool.false_and, Bool.and_false]
      repeat (first | refine t_seq ?_ | refine t_region ?_ | refine to_nil ?_ | refine to_q rfl rfl rfl ?_)
      exact t_ret (RP b ⟨_, _, uo⟩ y ++ RP b' ⟨_, _, uo'⟩ y') Tryz.func17 (.tmp rfl .nil) (by rw [e]; exact ⟨rfl, rfl⟩)
    · simp only [Bool.not_eq_false', decide_eq_true_eq] at hq
      repeat (first | refine t_region ?_ | refine to_nil ?_ | refine t_skip ?_ | refine t_inBlock ?_ | refine to_q rfl rfl rfl ?_ | refine to_add rfl rfl rfl (by omega) (by omega) ?_)
      refine t_re (A := RP b ⟨_, _, uo⟩ y ++ RP b' ⟨_, _, uo'⟩ y') (R := R) (ih (i + 1) F1 ⟨.refl _⟩ (by omega) ⟨by omega, by rw [ht1, ht2, heq, hq]⟩) (by repeat (first | exact trivial | refine ⟨rfl, ?_⟩))
  · simp only [decide_eq_false_iff_not] at hlt
    have hVV : y.V = y'.V := by rw [List.take_of_length_le (by omega), List.take_of_length_le (by omega)] at heq; exact heq
    repeat (first | refine t_seq ?_ | refine t_block ?_ | refine t_region ?_ | refine to_nil ?_ | refine to_q rfl rfl rfl ?_ | refine t_exit rfl ?_)
    refine t_loopJ (R := R) (fun i : Nat => y.S.length - i) (fun _ => RP b ⟨.slice va y.V.length vc, .slice sa y.S.length sc, uo⟩ y ++ RP b' ⟨.slice va' y'.V.length vc', .slice sa' y'.S.length sc', uo'⟩ y') (fun i => [(0, ptr b), (1, ptr b'), (6, .int .i64 i)])
      (fun i _ => i ≤ y.S.length ∧ y.S.take i = y'.S.take i) 0 (by repeat (first | exact trivial | refine ⟨rfl, ?_⟩)) ⟨Nat.zero_le _, rfl⟩ ?_
    intro i F2 le2 hg ih
    obtain ⟨hi, heq⟩ := hg
    repeat (first | refine t_seq ?_ | refine t_region ?_ | refine to_nil ?_ | refine to_q rfl rfl rfl ?_ | refine to_fa rfl rfl ?_ | refine to_ld rfl rfl rfl ?_ | refine to_lenS rfl rfl rfl ?_)
    refine t_condT rfl (fun hlt => ?_) (fun hlt => ?_)
    · simp only [decide_eq_true_eq] at hlt
      have hlt1 : i < y.S.length := by omega
      have hlt2 : i < y'.S.length := by omega
      have hc1 := List.getElem?_eq_getElem hlt1
      have hc2 := List.getElem?_eq_getElem hlt2
      have ht1 := take_snoc' hc1
      have ht2 := take_snoc' hc2
      generalize y.S[i] = q1 at hc1 ht1
      generalize y'.S[i] = q2 at hc2 ht2
      have hl1 := hS q1 (List.mem_of_getElem? hc1)
      obtain ⟨b_e, o_e, cap_e, u_e, e_e, hl_e, ⟨hv_e, ve_e, vr_e⟩, ro_e⟩ := slR_elem (P := Tryz.prog) (t := 103) (by_ := 40) hs hc1
      cases e_e
      cases ve_e
      obtain ⟨b_f, o_f, cap_f, u_f, e_f, hl_f, ⟨hv_f, ve_f, vr_f⟩, ro_f⟩ := slR_elem (P := Tryz.prog) (t := 103) (by_ := 40) hs' hc2
      cases e_f
      cases ve_f
      repeat (first | refine t_seq ?_ | refine t_block ?_ | refine t_skip ?_)
      refine t_drawn1 (by kernel_rfl) (by kernel_rfl) ?_
      repeat (first | refine to_q rfl rfl rfl ?_ | refine to_fa rfl rfl ?_ | refine to_ld rfl rfl rfl ?_)
      refine to_ia rfl rfl rfl rfl hl_e ?_
      repeat (refine to_fa rfl rfl ?_)
      refine to_ldR (F0 := F) rfl rfl (ro_e.one (j := 0) (v := (.string q1.1)) rfl) ?_
      repeat (first | refine to_q rfl rfl rfl ?_ | refine to_fa rfl rfl ?_ | refine to_ld rfl rfl rfl ?_)
      refine to_ia rfl rfl rfl rfl hl_f ?_
      repeat (refine to_fa rfl rfl ?_)
      refine to_ldR (F0 := F) rfl rfl (ro_f.one (j := 0) (v := (.string q2.1)) rfl) ?_
      repeat (refine to_q rfl rfl rfl ?_)
      refine to_gd rfl rfl (fun g1 => ?_) (fun g1 => ?_)
      · rw [ba_beq, Bool.not_eq_true', decide_eq_false_iff_not] at g1
        have e : rsame y y' = false := by unfold rsame; rw [decide_eq_false (list_ne_at hc1 hc2 fun e => g1 (by rw [e])), Bool.and_false, Bool.and_false]
        repeat (first | refine t_seq ?_ | refine t_region ?_ | refine to_nil ?_ | refine to_no rfl ?_ | refine to_q rfl rfl rfl ?_ | refine t_cond (t := true) rfl (fun _ => ?_) (fun h => nomatch h))
        exact t_ret (RP b ⟨_, _, uo⟩ y ++ RP b' ⟨_, _, uo'⟩ y') Tryz.func17 (.tmp rfl .nil) (by rw [e]; exact ⟨rfl, rfl⟩)
      rw [ba_beq, Bool.not_eq_false', decide_eq_true_eq] at g1
      repeat (first | refine to_q rfl rfl rfl ?_ | refine to_fa rfl rfl ?_ | refine to_ld rfl rfl rfl ?_)
      refine to_ia rfl rfl rfl rfl hl_e ?_
      repeat (refine to_fa rfl rfl ?_)
      refine to_ldR (F0 := F) rfl rfl (ro_e.one (j := 1) (v := hv_e) rfl) ?_
      repeat (first | refine to_q rfl rfl rfl ?_ | refine to_fa rfl rfl ?_ | refine to_ld rfl rfl rfl ?_)
      refine to_ia rfl rfl rfl rfl hl_f ?_
      repeat (refine to_fa rfl rfl ?_)
      refine to_ldR (F0 := F) rfl rfl (ro_f.one (j := 1) (v := hv_f) rfl) ?_
      skip
      refine to_call rfl rfl (sameHeld_sp hv_e hv_f _ _ _ ((slR heldR 2).mono (le1.h.trans le2.h) vr_e) ((slR heldR 2).mono (le1.h.trans le2.h) vr_f) (by omega)) fun v B F3 le3 h5 => ?_
      obtain ⟨rfl, rfl⟩ := h5
      repeat (first | refine to_nil ?_ | refine to_q rfl rfl rfl ?_)
      refine t_condT rfl (fun hq => ?_) (fun hq => ?_)
      · simp only [Bool.not_eq_true', decide_eq_false_iff_not] at hq
        have e : rsame y y' = false := by unfold rsame; rw [decide_eq_false (list_ne_at hc1 hc2 fun e => hq (by rw [e])), Bool.and_false, Bool.and_false]
        repeat (first | refine t_seq ?_ | refine t_region ?_ | refine to_nil ?_ | refine to_q rfl rfl rfl ?_)
        exact t_ret (RP b ⟨_, _, uo⟩ y ++ RP b' ⟨_, _, uo'⟩ y') Tryz.func17 (.tmp rfl .nil) (by rw [e]; exact ⟨rfl, rfl⟩)
      · simp only [Bool.not_eq_false', decide_eq_true_eq] at hq
        have hqq : q1 = q2 := Prod.ext g1 hq
        repeat (first | refine t_region ?_ | refine to_nil ?_ | refine t_skip ?_ | refine t_inBlock ?_ | refine to_q rfl rfl rfl ?_ | refine to_add rfl rfl rfl (by omega) (by omega) ?_)
        refine t_re (A := RP b ⟨_, _, uo⟩ y ++ RP b' ⟨_, _, uo'⟩ y') (R := R) (ih (i + 1) F3 le3 (by omega) ⟨by omega, by rw [ht1, ht2, heq, hqq]⟩) (by repeat (first | exact trivial | refine ⟨rfl, ?_⟩))
    · simp only [decide_eq_false_iff_not] at hlt
      have hSS : y.S = y'.S := by rw [List.take_of_length_le (by omega), List.take_of_length_le (by omega)] at heq; exact heq
      have e : rsame y y' = true := by unfold rsame; rw [decide_eq_true h1, decide_eq_true hVV, decide_eq_true hSS]; rfl
      repeat (first | refine t_seq ?_ | refine t_region ?_ | refine to_nil ?_ | refine to_q rfl rfl rfl ?_ | refine t_exit rfl ?_)
      exact t_ret (RP b ⟨_, _, uo⟩ y ++ RP b' ⟨_, _, uo'⟩ y') Tryz.func17 (.tmp rfl .nil) (by rw [e]; exact ⟨rfl, rfl⟩)
end Go.Proofs.YtbffngeameenoaaGreat
end

section
set_option linter.unusedVariables false
set_option linter.unusedSimpArgs false
namespace Go.Proofs.YtbffngeameenoaaGreat
open Go Go.Au

theorem blt_iff (a c : ByteArray) : bltB a c = true ↔ a.data.toList < c.data.toList := by
  unfold bltB
  rw [ByteArray.toList_eq, ByteArray.toList_eq, bytesLess_eq, decide_eq_true_eq]
theorem ba_ext {a c : ByteArray} (h : a.data.toList = c.data.toList) : a = c := by
  obtain ⟨⟨a⟩⟩ := a
  obtain ⟨⟨c⟩⟩ := c
  cases h; rfl
theorem blt_irrefl (a : ByteArray) : ¬ bltB a a = true := fun h => List.lt_irrefl _ ((blt_iff a a).1 h)
theorem blt_trans {a b c : ByteArray} (h : bltB a b = true) (k : bltB b c = true) : bltB a c = true := (blt_iff a c).2 (List.lt_trans ((blt_iff a b).1 h) ((blt_iff b c).1 k))
theorem blt_asymm {a b : ByteArray} (h : bltB a b = true) : ¬ bltB b a = true := fun k => blt_irrefl a (blt_trans h k)
theorem blt_tri (a b : ByteArray) : bltB a b = true ∨ a = b ∨ bltB b a = true := by
  by_cases h1 : a.data.toList < b.data.toList
  · exact .inl ((blt_iff _ _).2 h1)
  · by_cases h2 : b.data.toList < a.data.toList
    · exact .inr (.inr ((blt_iff _ _).2 h2))
    · exact .inr (.inl (ba_ext (List.le_antisymm (List.not_lt.1 h2) (List.not_lt.1 h1))))
theorem ble_iff (a b : ByteArray) : bleB a b = true ↔ bltB a b = true ∨ a = b := by
  unfold bleB bltB
  rw [Bool.or_eq_true, ba_beq, decide_eq_true_eq]
/-! #### Lists in order -/
theorem sorted_eq {α : Type} {R : α → α → Prop} (irr : ∀ a, ¬ R a a) (asy : ∀ a b, R a b → ¬ R b a) : ∀ {l l' : List α}, l.Pairwise R → l'.Pairwise R → (∀ x, x ∈ l ↔ x ∈ l') → l = l'
  | [], [], _, _, _ => rfl
  | [], b :: l', _, _, h => by have := (h b).2 List.mem_cons_self; cases this
  | a :: l, [], _, _, h => by have := (h a).1 List.mem_cons_self; cases this
  | a :: l, b :: l', h1, h2, h => by
    rw [List.pairwise_cons] at h1 h2
    have hab : a = b := by
      rcases List.mem_cons.1 ((h a).1 List.mem_cons_self) with e | e
      · exact e
      · rcases List.mem_cons.1 ((h b).2 List.mem_cons_self) with e' | e'
        · exact e'.symm
        · exact absurd (h1.1 b e') (asy _ _ (h2.1 a e))
    subst hab
    congr 1
    refine sorted_eq irr asy h1.2 h2.2 fun x => ⟨fun hx => ?_, fun hx => ?_⟩
    · rcases List.mem_cons.1 ((h x).1 (List.mem_cons_of_mem _ hx)) with e | e
      · exact absurd (h1.1 x hx) (e ▸ irr _)
      · exact e
    · rcases List.mem_cons.1 ((h x).2 (List.mem_cons_of_mem _ hx)) with e | e
      · exact absurd (h2.1 x hx) (e ▸ irr _)
      · exact e
theorem lastI_get {α : Type} (p : α → Bool) : ∀ xs : List α, (lastI p xs).bind (fun i => xs[i]?) = (xs.filter p).getLast?
  | [] => rfl
  | a :: xs => by
    have ih := lastI_get p xs
    unfold lastI
    cases h : lastI p xs with
    | some i =>
      rw [h] at ih
      simp only [Option.bind_some] at ih ⊢
      rw [List.getElem?_cons_succ, ih]
      by_cases hp : p a = true
      · rw [List.filter_cons_of_pos hp, List.getLast?_cons]
        cases hl : (xs.filter p).getLast? with
        | some q => rfl
        | none =>
          obtain ⟨q, hq, _⟩ := lastI_spec h
          rw [hq] at ih; rw [hl] at ih; cases ih
      · rw [List.filter_cons_of_neg hp]
    | none =>
      rw [h] at ih
      have he : xs.filter p = [] := List.getLast?_eq_none_iff.1 ih.symm
      by_cases hp : p a = true
      · rw [List.filter_cons_of_pos hp, he]; simp [hp]
      · rw [List.filter_cons_of_neg hp, he]; simp [hp]
theorem set_eq_map {α κ : Type} [DecidableEq κ] (key : α → κ) (f : α → α) : ∀ {l : List α} {i : Nat} {q : α}, (l.map key).Nodup → l[i]? = some q → l.set i (f q) = l.map fun a => if key a = key q then f a else a
  | a :: l, 0, q, nd, h => by
    cases h
    rw [List.map_cons, List.nodup_cons] at nd
    rw [List.set_cons_zero, List.map_cons, if_pos rfl]
    congr 1
    refine (List.map_id' l).symm.trans (List.map_congr_left fun x hx => ?_)
    rw [if_neg (show ¬ key x = key a from fun e => nd.1 (by rw [← e]; exact List.mem_map_of_mem hx))]
  | a :: l, i + 1, q, nd, h => by
    rw [List.map_cons, List.nodup_cons] at nd
    rw [List.getElem?_cons_succ] at h
    rw [List.set_cons_succ, List.map_cons, if_neg (show ¬ key a = key q from fun e => nd.1 (by rw [e]; exact List.mem_map_of_mem (List.mem_of_getElem? h))), set_eq_map key f nd.2 h]
/-! #### A reference's versions, by name -/
def toVer (q : RVer) : Ver := ⟨q.gen, q.time, q.text, q.gone⟩
def vers (V : List RVer) (nm : ByteArray) : List Ver := (ofName V nm).map toVer
theorem ofName_cons (q : RVer) (V : List RVer) (nm : ByteArray) : ofName (q :: V) nm = if q.name = nm then q :: ofName V nm else ofName V nm := by
  unfold ofName
  by_cases h : q.name = nm
  · simp [h]
  · simp [h]
theorem vers_cons (q : RVer) (V : List RVer) (nm : ByteArray) : vers (q :: V) nm = if q.name = nm then toVer q :: vers V nm else vers V nm := by
  unfold vers
  rw [ofName_cons]
  split <;> rfl
theorem mem_vers {V : List RVer} {nm : ByteArray} {v : Ver} : v ∈ vers V nm ↔ ∃ q ∈ V, q.name = nm ∧ toVer q = v := by
  unfold vers ofName
  simp only [List.mem_map, List.mem_filter, decide_eq_true_eq]
  constructor
  · rintro ⟨q, ⟨h1, h2⟩, h3⟩; exact ⟨q, h1, h2, h3⟩
  · rintro ⟨q, h1, h2, h3⟩; exact ⟨q, ⟨h1, h2⟩, h3⟩
theorem sum_one (L : List ByteArray) (nd : L.Nodup) (f : ByteArray → Nat) (nm : ByteArray) (c : Nat) (h : nm ∈ L) : (L.map fun x => f x + if nm = x then c else 0).sum = (L.map f).sum + c := by
  induction L with
  | nil => cases h
  | cons a L ih =>
    rw [List.nodup_cons] at nd
    rw [List.map_cons, List.map_cons, List.sum_cons, List.sum_cons]
    rcases List.mem_cons.1 h with rfl | h
    · have : (L.map fun x => f x + if nm = x then c else 0) = L.map f := List.map_congr_left fun x hx => by
        rw [if_neg (show ¬ nm = x from fun e => nd.1 (by rw [e]; exact hx))]; rfl
      rw [this, if_pos rfl]; omega
    · rw [ih nd.2 h, if_neg (show ¬ nm = a from fun e => nd.1 (by rw [← e]; exact h))]; omega
theorem sum_zero {α : Type} : ∀ L : List α, (L.map fun _ => 0).sum = 0
  | [] => rfl
  | a :: L => by rw [List.map_cons, List.sum_cons, sum_zero L]
theorem sum_group {L : List ByteArray} (nd : L.Nodup) : ∀ {V : List RVer}, (∀ q ∈ V, q.name ∈ L) → (L.map fun nm => sumT (vers V nm)).sum = sumV V
  | [], _ => by
    have : (L.map fun nm => sumT (vers [] nm)) = L.map fun _ => 0 := List.map_congr_left fun _ _ => rfl
    rw [this, sum_zero]; rfl
  | q :: V, h => by
    have ih := sum_group nd (V := V) fun r hr => h r (List.mem_cons_of_mem _ hr)
    have : (L.map fun nm => sumT (vers (q :: V) nm)) = L.map fun nm => sumT (vers V nm) + if q.name = nm then q.text.size else 0 := List.map_congr_left fun nm _ => by
      rw [vers_cons]
      split
      · simp [sumT, toVer]; omega
      · rfl
    rw [this, sum_one L nd _ _ _ (h q List.mem_cons_self), ih]
    simp [sumV]; omega
/-- the order of generations: by name, then by number -/
def vlt (a c : RVer) : Prop := bltB a.name c.name = true ∨ (a.name = c.name ∧ a.gen < c.gen)
theorem vlt_irrefl (a : RVer) : ¬ vlt a a := fun h => h.elim (blt_irrefl _) fun h => by omega
theorem vlt_asymm (a c : RVer) (h : vlt a c) : ¬ vlt c a := fun k => by
  rcases h with h | h <;> rcases k with k | k
  · exact blt_asymm h k
  · rw [k.1] at h; exact blt_irrefl _ h
  · rw [h.1] at k; exact blt_irrefl _ k
  · omega
/-- the names at which files begin -/
def dnI (V : List RVer) : Nat → List ByteArray
  | 0 => []
  | i + 1 => dnI V i ++ (match V[i]? with
    | some q => if i = 0 ∨ (V[i]?).map (·.name) ≠ (V[i - 1]?).map (·.name) then [q.name] else []
    | none => [])
theorem dnI_ok {V : List RVer} (hs : V.Pairwise vlt) : ∀ {i : Nat}, i ≤ V.length → (dnI V i).length = fileC V i ∧ (dnI V i).Nodup ∧ ∀ nm, nm ∈ dnI V i ↔ ∃ q ∈ V.take i, q.name = nm
  | 0, _ => ⟨rfl, .nil, by simp [dnI]⟩
  | i + 1, h => by
    obtain ⟨h1, h2, h3⟩ := dnI_ok hs (i := i) (by omega)
    have hc := List.getElem?_eq_getElem (show i < V.length by omega)
    have htk := take_snoc' hc
    generalize V[i] = q at hc htk
    unfold dnI fileC
    by_cases hb : i = 0 ∨ (V[i]?).map (·.name) ≠ (V[i - 1]?).map (·.name)
    · rw [if_pos hb, hc]
      dsimp only
      rw [hc] at hb
      rw [if_pos hb]
      have hnew : q.name ∉ dnI V i := fun hm => by
        obtain ⟨r, hr, e⟩ := (h3 _).1 hm
        have hi0 : i ≠ 0 := by rintro rfl; simp at hr
        have hb := hb.resolve_left hi0
        have hc0 := List.getElem?_eq_getElem (show i - 1 < V.length by omega)
        rw [hc0] at hb
        have hlt : vlt V[i - 1] q := by
          have := List.pairwise_iff_getElem.1 hs (i - 1) i (by omega) (by omega) (by omega)
          rwa [(List.getElem?_eq_some_iff.1 hc).2] at this
        obtain ⟨j, hj, er⟩ := List.getElem_of_mem hr
        rw [List.length_take] at hj
        rw [List.getElem_take] at er
        have hne : V[i - 1].name ≠ q.name := fun e => hb (by rw [Option.map_some, Option.map_some, e])
        have hl2 := hlt.resolve_right fun h => hne h.1
        rcases Nat.lt_or_ge j (i - 1) with hj' | hj'
        · have := List.pairwise_iff_getElem.1 hs j (i - 1) (by omega) (by omega) hj'
          rw [er] at this
          rcases this with t | t
          · rw [e] at t; exact blt_asymm hl2 t
          · rw [← t.1, e] at hl2; exact blt_irrefl _ hl2
        · have : j = i - 1 := by omega
          subst this
          rw [er] at hne; exact hne e
      refine ⟨by rw [List.length_append, h1]; rfl, snoc_nd h2 hnew, fun nm => ?_⟩
      rw [htk]
      simp only [List.mem_append, h3, List.mem_singleton]
      constructor
      · rintro (⟨r, hr, e⟩ | rfl)
        · exact ⟨r, .inl hr, e⟩
        · exact ⟨q, .inr rfl, rfl⟩
      · rintro ⟨r, hr | rfl, e⟩
        · exact .inl ⟨r, hr, e⟩
        · exact .inr e.symm
    · rw [if_neg hb, hc]
      dsimp only
      rw [hc] at hb
      rw [if_neg hb, List.append_nil, Nat.add_zero]
      refine ⟨h1, h2, fun nm => ?_⟩
      rw [h3, htk]
      constructor
      · rintro ⟨r, hr, e⟩; exact ⟨r, List.mem_append_left _ hr, e⟩
      · rintro ⟨r, hr, e⟩
        rcases List.mem_append.1 hr with hr | hr
        · exact ⟨r, hr, e⟩
        · cases List.mem_singleton.1 hr
          have hi0 : i ≠ 0 := fun h => hb (.inl h)
          have hc0 := List.getElem?_eq_getElem (show i - 1 < V.length by omega)
          have hb2 : ¬ (Option.map (·.name) (some q) ≠ (V[i - 1]?).map (·.name)) := fun h => hb (.inr h)
          rw [hc0] at hb2
          have hb3 : q.name = V[i - 1].name := by simpa using hb2
          refine ⟨V[i - 1], ?_, by rw [← hb3, e]⟩
          have : (V.take i)[i - 1]? = some V[i - 1] := by rw [List.getElem?_take, if_pos (by omega), hc0]
          exact List.mem_of_getElem? this
theorem fileC_eq {V : List RVer} (hs : V.Pairwise vlt) {L : List ByteArray} (nd : L.Nodup) (h : ∀ nm, nm ∈ L ↔ ∃ q ∈ V, q.name = nm) : fileC V V.length = L.length := by
  obtain ⟨h1, h2, h3⟩ := dnI_ok hs (Nat.le_refl _)
  rw [← h1]
  refine (perm_of_mem h2 nd fun nm => ?_).length_eq
  rw [h3, h, List.take_length]
end Go.Proofs.YtbffngeameenoaaGreat
end

section
set_option linter.unusedVariables false
set_option linter.unusedSimpArgs false
namespace Go.Proofs.YtbffngeameenoaaGreat
open Go Go.Au

def oL (O : List RSes) : List (Int × (ByteArray × ByteArray)) := O.map fun q => (q.n, (q.name, q.text))
structure RInv (K : Int) (y : RM) : Prop where
  vs : y.V.Pairwise vlt
  vz : ∀ q ∈ y.V, q.text.size ≤ 8192
  vg : ∀ q ∈ y.V, 1 ≤ q.gen ∧ q.gen ≤ K
  vt : ∀ q ∈ y.V, 0 ≤ q.time ∧ q.time ≤ y.now
  n0 : 0 ≤ y.now
  n1 : y.now ≤ 9007199254740991
  vf : fileC y.V y.V.length ≤ 64
  vc : ∀ nm, (ofName y.V nm).length ≤ 32
  vw : ∀ q ∈ y.V, q.gone = true → rheldB y.S q.name q.gen = true
  ss : y.S.Pairwise fun a c => bltB a.1 c.1 = true
  sl : y.S.length ≤ 16
  sh : ∀ s ∈ y.S, s.2.Pairwise fun a c => bltB a.1 c.1 = true
  sv : ∀ s ∈ y.S, ∀ h ∈ s.2, ∃ q ∈ y.V, q.name = h.1 ∧ q.gen = h.2
  os : y.O.Pairwise fun a c => a.n < c.n
  ob : ∀ q ∈ y.O, 1 ≤ q.n ∧ q.n ≤ y.began
  ol : y.O.length ≤ 4
  oz : ∀ q ∈ y.O, q.text.size ≤ 8192
  b0 : 0 ≤ y.began
  b1 : y.began ≤ K
structure Sim (x : XM) (y : RM) : Prop where
  fN : ND x
  ff : ∀ nm, filesOf x nm = vers y.V nm
  fe : ∀ q ∈ x.files, q.2 ≠ []
  sN : (x.shots.map (·.1)).Nodup
  s1 : ∀ s m, aget x.shots s = some m → ∃ l, aget y.S s = some l ∧ m.Perm l
  s2 : ∀ s, aget x.shots s = none → aget y.S s = none
  so : x.sess.Perm (oL y.O)
  bg : x.began = y.began
  nw : x.now = y.now
  qt : x.quota = y.quota
theorem nd_of_lt {α : Type} {l : List (ByteArray × α)} (h : l.Pairwise fun a c => bltB a.1 c.1 = true) : (l.map (·.1)).Nodup := by
  rw [List.nodup_iff_pairwise_ne, List.pairwise_map]
  exact h.imp fun {a c} h (e : a.1 = c.1) => blt_irrefl _ (by rw [e] at h; exact h)
theorem oL_nd {O : List RSes} (h : O.Pairwise fun a c => a.n < c.n) : ((oL O).map (·.1)).Nodup := by
  unfold oL
  rw [List.map_map, List.nodup_iff_pairwise_ne, List.pairwise_map]
  exact h.imp fun h e => by simp at e; omega
theorem ofName_lt {V : List RVer} (hs : V.Pairwise vlt) (nm : ByteArray) : (ofName V nm).Pairwise fun a c => a.gen < c.gen := by
  have h1 : (ofName V nm).Pairwise vlt := hs.filter _
  have h2 : ∀ q ∈ ofName V nm, q.name = nm := fun q hq => by simpa using (List.mem_filter.1 hq).2
  refine List.Pairwise.imp_of_mem (fun {a c} ha hc h => ?_) h1
  rcases h with h | h
  · rw [h2 a ha, h2 c hc] at h; exact absurd h (blt_irrefl _)
  · exact h.2
theorem vers_nd {V : List RVer} (hs : V.Pairwise vlt) (nm : ByteArray) : ((vers V nm).map (·.gen)).Nodup := by
  unfold vers
  rw [List.map_map, List.nodup_iff_pairwise_ne, List.pairwise_map]
  exact (ofName_lt hs nm).imp fun h e => by simp [toVer] at e; omega
theorem len_group {L : List ByteArray} (nd : L.Nodup) : ∀ {V : List RVer}, (∀ q ∈ V, q.name ∈ L) → (L.map fun nm => (ofName V nm).length).sum = V.length
  | [], _ => by
    have : (L.map fun nm => (ofName [] nm).length) = L.map fun _ => 0 := List.map_congr_left fun _ _ => rfl
    rw [this, sum_zero]; rfl
  | q :: V, h => by
    have ih := len_group nd (V := V) fun r hr => h r (List.mem_cons_of_mem _ hr)
    have : (L.map fun nm => (ofName (q :: V) nm).length) = L.map fun nm => (ofName V nm).length + if q.name = nm then 1 else 0 := List.map_congr_left fun nm _ => by
      rw [ofName_cons]
      split
      · simp
      · rfl
    rw [this, sum_one L nd _ _ _ (h q List.mem_cons_self), ih]
    simp
section
variable {K : Int} {x : XM} {y : RM}
theorem RInv.vlen (r : RInv K y) : y.V.length ≤ 4096 := by
  obtain ⟨h1, h2, h3⟩ := dnI_ok r.vs (Nat.le_refl _)
  have h4 := len_group h2 (V := y.V) fun q hq => (h3 _).2 ⟨q, by rw [List.take_length]; exact hq, rfl⟩
  have h5 := sum_le (fun nm => (ofName y.V nm).length) 32 (l := dnI y.V y.V.length) fun nm _ => r.vc nm
  have := r.vf
  rw [h4] at h5
  omega
theorem RInv.hlen (r : RInv K y) : ∀ q ∈ y.S, q.2.length ≤ 64 := by
  intro s hs
  obtain ⟨h1, h2, h3⟩ := dnI_ok r.vs (Nat.le_refl _)
  have h4 := nd_len (nd_of_lt (r.sh s hs)) (m := dnI y.V y.V.length) fun nm hm => by
    obtain ⟨h, hh, rfl⟩ := List.mem_map.1 hm
    obtain ⟨q, hq, e, _⟩ := r.sv s hs h hh
    exact (h3 _).2 ⟨q, by rw [List.take_length]; exact hq, e⟩
  have := r.vf
  rw [List.length_map] at h4
  omega
theorem RInv.rall (r : RInv K y) (hK : K ≤ 1000000) (q0 : -9223372036854775808 ≤ y.quota) (q1 : y.quota ≤ 9223372036854775807) : RAll y where
  z := ⟨r.vlen, by have := r.sl; omega, by have := r.ol; omega, r.vz, r.oz, fun q hq => by have := r.vg q hq; omega⟩
  hS q hq := by have := r.hlen q hq; omega
  n0 := r.n0
  n1 := r.n1
  tm q hq := by have := r.vt q hq; have := r.n1; exact ⟨by omega, by omega⟩
  q0 := q0
  q1 := q1
  b0 := r.b0
  b1 := by have := r.b1; omega
theorem Sim.keys (s : Sim x y) (nm : ByteArray) : nm ∈ x.files.map (·.1) ↔ ∃ q ∈ y.V, q.name = nm := by
  constructor
  · intro h
    obtain ⟨p, hp, rfl⟩ := List.mem_map.1 h
    have h1 := s.fe p hp
    rw [← filesOf_of_mem s.fN hp, s.ff] at h1
    cases hv : vers y.V p.1 with
    | nil => exact absurd hv h1
    | cons v l =>
      obtain ⟨q, hq, e, _⟩ := mem_vers.1 (show v ∈ vers y.V p.1 by rw [hv]; exact List.mem_cons_self)
      exact ⟨q, hq, e⟩
  · rintro ⟨q, hq, rfl⟩
    refine Classical.byContradiction fun hn => ?_
    have h1 := filesOf_nil hn
    rw [s.ff] at h1
    have : toVer q ∈ vers y.V q.name := mem_vers.2 ⟨q, hq, rfl, rfl⟩
    rw [h1] at this; cases this
theorem Sim.files_len (s : Sim x y) (r : RInv K y) : x.files.length = fileC y.V y.V.length := by
  rw [fileC_eq r.vs s.fN s.keys, List.length_map]
theorem Sim.mem_file (s : Sim x y) {p : ByteArray × List Ver} (hp : p ∈ x.files) : p.2 = vers y.V p.1 := by rw [← s.ff, filesOf_of_mem s.fN hp]
theorem Sim.sess_len (s : Sim x y) : x.sess.length = y.O.length := by rw [s.so.length_eq, oL, List.length_map]
theorem Sim.sess_nd (s : Sim x y) (r : RInv K y) : (x.sess.map (·.1)).Nodup := (s.so.map _).nodup_iff.2 (oL_nd r.os)
theorem Sim.shotGen (s : Sim x y) (r : RInv K y) (sn nm : ByteArray) (g : Int) : shotGen x sn nm = some g ↔ ∃ l, aget y.S sn = some l ∧ (nm, g) ∈ l := by
  unfold Proofs.YtbffngeameenoaaGreat.shotGen
  cases hm : aget x.shots sn with
  | none => simp [s.s2 _ hm]
  | some m =>
    obtain ⟨l, hl, p⟩ := s.s1 _ _ hm
    have hnd := nd_of_lt (r.sh _ (mem_of_aget hl))
    have hmd := (p.map _).nodup_iff.2 hnd
    simp only [Option.bind_some]
    rw [← mem_iff_aget hmd, p.mem_iff]
    constructor
    · exact fun h => ⟨l, hl, h⟩
    · rintro ⟨l', h1, h2⟩
      rw [hl] at h1; cases h1; exact h2
theorem Sim.xall (s : Sim x y) (r : RInv K y) (hK : K ≤ 1000000) (q0 : -9223372036854775808 ≤ y.quota) (q1 : y.quota ≤ 9223372036854775807) : XAll x where
  ok := {
    fl := by rw [s.files_len r]; exact r.vf
    fv := fun p hp => by rw [s.mem_file hp, vers, List.length_map]; exact r.vc _
    ft := fun p hp v hv => by
      rw [s.mem_file hp] at hv
      obtain ⟨q, hq, _, rfl⟩ := mem_vers.1 hv
      exact r.vz q hq
    fn := s.fe
    fg := fun p hp v hv => by
      rw [s.mem_file hp] at hv
      obtain ⟨q, hq, _, rfl⟩ := mem_vers.1 hv
      have := r.vg q hq
      exact ⟨this.1, by show q.gen ≤ _; omega⟩
    sl := by rw [s.sess_len]; exact r.ol
    st := fun p hp => by
      obtain ⟨q, hq, rfl⟩ := List.mem_map.1 (s.so.mem_iff.1 hp)
      exact r.oz q hq }
  tm := {
    n0 := by rw [s.nw]; exact r.n0
    n1 := by rw [s.nw]; exact r.n1
    tm := fun p hp v hv => by
      rw [s.mem_file hp] at hv
      obtain ⟨q, hq, _, rfl⟩ := mem_vers.1 hv
      rw [s.nw]; exact r.vt q hq }
  sh := fun sn nm g h => by
    obtain ⟨l, hl, hm⟩ := (s.shotGen r sn nm g).1 h
    obtain ⟨q, hq, e1, e2⟩ := r.sv _ (mem_of_aget hl) _ hm
    rw [s.ff]
    cases hf : (vers y.V nm).find? fun q => q.gen == g with
    | some v => exact ⟨v, rfl⟩
    | none =>
      rw [List.find?_eq_none] at hf
      exact absurd (by show (q.gen == g) = true; rw [beq_iff_eq]; exact e2) (hf (toVer q) (mem_vers.2 ⟨q, hq, e1, rfl⟩))
  nd := s.fN
  gn := fun nm => by rw [s.ff]; exact vers_nd r.vs nm
  q0 := by rw [s.qt]; exact q0
  q1 := by rw [s.qt]; exact q1
  b0 := by rw [s.bg]; exact r.b0
  b1 := by rw [s.bg]; have := r.b1; omega
end
theorem sim_new (q : Int) : Sim ⟨[], [], [], 0, 0, q⟩ ⟨[], [], [], 0, 0, q⟩ where
  fN := List.Pairwise.nil
  ff _ := rfl
  fe := by simp
  sN := List.Pairwise.nil
  s1 := fun s m h => nomatch h
  s2 _ _ := rfl
  so := List.Perm.nil
  bg := rfl
  nw := rfl
  qt := rfl
theorem inv_new (q : Int) : RInv 0 ⟨[], [], [], 0, 0, q⟩ where
  vs := List.Pairwise.nil
  vz := by simp
  vg := by simp
  vt := by simp
  n0 := by simp
  n1 := by simp
  vf := by simp [fileC]
  vc nm := by simp [ofName]
  vw := by simp
  ss := List.Pairwise.nil
  sl := by simp
  sh := by simp
  sv := by simp
  os := List.Pairwise.nil
  ob := by simp
  ol := by simp
  oz := by simp
  b0 := by simp
  b1 := by simp
end Go.Proofs.YtbffngeameenoaaGreat
end

section
set_option linter.unusedVariables false
set_option linter.unusedSimpArgs false
namespace Go.Proofs.YtbffngeameenoaaGreat
open Go Go.Au

section
variable {K : Int} {x : XM} {y : RM}
theorem RInv.mono {K' : Int} (r : RInv K y) (h : K ≤ K') : RInv K' y := { r with vg := fun q hq => by have := r.vg q hq; omega, b1 := by have := r.b1; omega }
/-- what stands for a number of a session -/
theorem sess_find (s : Sim x y) (r : RInv K y) (n : Int) : (y.O.findIdx? (fun q : RSes => q.n == n) = none ∧ aget x.sess n = none) ∨
    ∃ i q, y.O.findIdx? (fun q : RSes => q.n == n) = some i ∧ y.O[i]? = some q ∧ q.n = n ∧ aget x.sess n = some (q.name, q.text) := by
  cases hf : y.O.findIdx? (fun q : RSes => q.n == n) with
  | none =>
    refine .inl ⟨rfl, aget_none fun v hv => ?_⟩
    obtain ⟨q, hq, e⟩ := List.mem_map.1 (s.so.mem_iff.1 hv)
    have := List.findIdx?_eq_none_iff.1 hf q hq
    cases e
    simp at this
  | some i =>
    obtain ⟨hi, hp, _⟩ := List.findIdx?_eq_some_iff_getElem.1 hf
    have hc := List.getElem?_eq_getElem hi
    have hn : y.O[i].n = n := by simpa using hp
    refine .inr ⟨i, y.O[i], rfl, hc, hn, ?_⟩
    refine aget_of_mem (s.sess_nd r) (s.so.mem_iff.2 ?_)
    exact List.mem_map.2 ⟨y.O[i], List.getElem_mem hi, by rw [hn]⟩
theorem oL_get {O : List RSes} {i : Nat} {q : RSes} (h : O[i]? = some q) : (oL O)[i]? = some (q.n, (q.name, q.text)) := by
  unfold oL; rw [List.getElem?_map, h]; rfl
theorem oL_lost {O : List RSes} (hs : O.Pairwise fun a c => a.n < c.n) {i : Nat} {q : RSes} (h : O[i]? = some q) : oL (O.take i ++ O.drop (i + 1)) = adel (oL O) q.n := by
  rw [← erase_perm (oL_get h) (oL_nd hs), List.eraseIdx_eq_take_drop_succ]
  unfold oL
  rw [List.map_append, List.map_take, List.map_drop]
theorem Sim.lost (s : Sim x y) (r : RInv K y) {i : Nat} {q : RSes} (h : y.O[i]? = some q) : Sim { x with sess := adel x.sess q.n } (lostR y i) :=
  { s with so := by show (adel x.sess q.n).Perm (oL (y.O.take i ++ y.O.drop (i + 1))); rw [oL_lost r.os h]; exact adel_perm s.so q.n }
theorem lost_sub (O : List RSes) (i : Nat) : (O.take i ++ O.drop (i + 1)).Sublist O := by
  rw [← List.eraseIdx_eq_take_drop_succ]; exact List.eraseIdx_sublist _ _
theorem RInv.lost (r : RInv K y) (i : Nat) : RInv K (lostR y i) :=
  { r with
    os := r.os.sublist (lost_sub _ _)
    ob := fun q hq => r.ob q ((lost_sub _ _).subset hq)
    ol := Nat.le_trans (lost_sub _ _).length_le r.ol
    oz := fun q hq => r.oz q ((lost_sub _ _).subset hq) }
theorem begin_sim (s : Sim x y) (r : RInv K y) (p : Op1) :
    (beginX x p).1 = (beginR y p).1 ∧ (beginX x p).2.1 = (beginR y p).2.1 ∧ Sim (beginX x p).2.2 (beginR y p).2.2 ∧ RInv (K + 1) (beginR y p).2.2 := by
  have hl := s.sess_len
  have hol := r.ol
  unfold beginX beginR
  by_cases h1 : nameOk p.name = false
  · rw [if_pos h1, if_pos h1]; exact ⟨rfl, rfl, s, r.mono (by omega)⟩
  rw [if_neg h1, if_neg h1]
  by_cases h2 : x.sess.length = 4
  · rw [if_pos h2, if_pos (by omega)]; exact ⟨rfl, rfl, s, r.mono (by omega)⟩
  rw [if_neg h2, if_neg (by omega)]
  refine ⟨rfl, by show x.began + 1 = y.began + 1; rw [s.bg], { s with so := ?_, bg := by show x.began + 1 = y.began + 1; rw [s.bg] }, { r.mono (show K ≤ K + 1 by omega) with os := ?_, ob := ?_, ol := ?_, oz := ?_, b0 := ?_, b1 := ?_ }⟩
  · show (aset x.sess (x.began + 1) (p.name, ⟨#[]⟩)).Perm (oL (y.O ++ [⟨y.began + 1, p.name, ⟨#[]⟩⟩]))
    unfold aset
    rw [adel_of_not fun v hv => by
      obtain ⟨q, hq, e⟩ := List.mem_map.1 (s.so.mem_iff.1 hv)
      have h3 := r.ob q hq
      have h4 : q.n = x.began + 1 := congrArg Prod.fst e
      rw [s.bg] at h4; omega]
    unfold oL
    rw [List.map_append, s.bg]
    exact s.so.append_right _
  · show (y.O ++ [_]).Pairwise _
    rw [List.pairwise_append]
    exact ⟨r.os, List.pairwise_singleton _ _, fun a ha c hc => by
      cases List.mem_singleton.1 hc
      have := r.ob a ha
      show a.n < y.began + 1; omega⟩
  · intro q hq
    have hb := r.b0
    rcases List.mem_append.1 hq with hq | hq
    · have := r.ob q hq; show 1 ≤ q.n ∧ q.n ≤ y.began + 1; omega
    · cases List.mem_singleton.1 hq; show 1 ≤ y.began + 1 ∧ y.began + 1 ≤ y.began + 1; omega
  · show (y.O ++ [_]).length ≤ 4
    rw [List.length_append, List.length_singleton]; omega
  · intro q hq
    rcases List.mem_append.1 hq with hq | hq
    · exact r.oz q hq
    · cases List.mem_singleton.1 hq; show ByteArray.size ⟨#[]⟩ ≤ 8192; exact Nat.zero_le _
  · show 0 ≤ y.began + 1; have := r.b0; omega
  · show y.began + 1 ≤ K + 1; have := r.b1; omega
theorem abort_sim (s : Sim x y) (r : RInv K y) (p : Op1) :
    (abortX x p).1 = (abortR y p).1 ∧ (abortX x p).2.1 = (abortR y p).2.1 ∧ Sim (abortX x p).2.2 (abortR y p).2.2 ∧ RInv K (abortR y p).2.2 := by
  unfold abortX abortR
  rcases sess_find s r p.n with ⟨h1, h2⟩ | ⟨i, q, h1, h2, h3, h4⟩
  · rw [h1, h2]; exact ⟨rfl, rfl, s, r⟩
  · rw [h1, h4, if_neg (by simp), ← h3]
    exact ⟨rfl, rfl, s.lost r h2, r.lost i⟩
theorem tick_sim (s : Sim x y) (r : RInv K y) (p : Op1) :
    (tickX x p).1 = (tickR y p).1 ∧ (tickX x p).2.1 = (tickR y p).2.1 ∧ Sim (tickX x p).2.2 (tickR y p).2.2 ∧ RInv K (tickR y p).2.2 := by
  unfold tickX tickR
  rw [s.nw]
  by_cases h : p.n < 0 ∨ p.n > 9007199254740991 - y.now
  · rw [if_pos h, if_pos h]; exact ⟨rfl, rfl, s, r⟩
  · rw [if_neg h, if_neg h]
    have h0 := r.n0
    exact ⟨rfl, rfl, { s with nw := rfl }, { r with vt := fun q hq => by have := r.vt q hq; show _ ∧ q.time ≤ y.now + p.n; omega, n0 := by show 0 ≤ y.now + p.n; omega, n1 := by show y.now + p.n ≤ _; omega }⟩
theorem clean_sim (s : Sim x y) (r : RInv K y) (p : Op1) (sp : Bool) :
    (cleanX x p sp).1 = (cleanR y p sp).1 ∧ (cleanX x p sp).2.1 = (cleanR y p sp).2.1 ∧ Sim (cleanX x p sp).2.2 (cleanR y p sp).2.2 ∧ RInv K (cleanR y p sp).2.2 := by
  unfold cleanX cleanR
  by_cases h : p.n < 0 ∨ p.n > 100
  · rw [if_pos h, if_pos h]; exact ⟨rfl, rfl, s, r⟩
  · rw [if_neg h, if_neg h]
    cases sp
    · exact ⟨rfl, rfl, s, r⟩
    · exact ⟨rfl, rfl, s, r⟩
theorem size_sim (s : Sim x y) (r : RInv K y) : sizeX x = sumV y.V + sumO y.O := by
  unfold sizeX
  congr 1
  · rw [← sum_group s.fN (V := y.V) fun q hq => (s.keys _).2 ⟨q, hq, rfl⟩]
    unfold sumF
    rw [List.map_map]
    congr 1
    exact List.map_congr_left fun p hp => by rw [s.mem_file hp]; rfl
  · have := sum_perm (fun p : Int × (ByteArray × ByteArray) => p.2.2.size) s.so
    unfold sumS sumO
    rw [this]
    unfold oL
    rw [List.map_map]; rfl
theorem write_sim (s : Sim x y) (r : RInv K y) (p : Op1) (sp : Bool) :
    (writeX x p sp).1 = (writeR y p sp).1 ∧ (writeX x p sp).2.1 = (writeR y p sp).2.1 ∧ Sim (writeX x p sp).2.2 (writeR y p sp).2.2 ∧ RInv K (writeR y p sp).2.2 := by
  unfold writeX writeR
  rcases sess_find s r p.n with ⟨h1, h2⟩ | ⟨i, q, h1, h2, h3, h4⟩
  · rw [h1, h2]; exact ⟨rfl, rfl, s, r⟩
  rw [h1, h4]
  dsimp only
  rw [h2]
  dsimp only
  rw [← h3]
  have e1 := size_sim s r
  have e2 := s.qt
  have e3 : (sizeX x : Int) = ((sumV y.V + sumO y.O : Nat) : Int) := by rw [e1]
  by_cases c1 : 8192 - (q.text.size : Int) < p.bytes.length
  · rw [if_pos c1, if_pos (show (q.text.size : Int) + p.bytes.length > 8192 by omega)]; exact ⟨rfl, rfl, s.lost r h2, r.lost i⟩
  rw [if_neg c1, if_neg (show ¬ (q.text.size : Int) + p.bytes.length > 8192 by omega)]
  by_cases c2 : x.quota > 0 ∧ x.quota - (sizeX x : Int) < p.bytes.length
  · rw [if_pos c2, if_pos (show y.quota > 0 ∧ ((sumV y.V + sumO y.O : Nat) : Int) + p.bytes.length > y.quota by omega)]; exact ⟨rfl, rfl, s.lost r h2, r.lost i⟩
  rw [if_neg c2, if_neg (show ¬ (y.quota > 0 ∧ ((sumV y.V + sumO y.O : Nat) : Int) + p.bytes.length > y.quota) by omega)]
  cases sp
  · rw [if_neg (by simp), if_neg (by simp)]
    refine ⟨rfl, rfl, { s with so := ?_ }, { r with os := ?_, ob := ?_, ol := ?_, oz := ?_ }⟩
    · show (aset x.sess q.n (q.name, baApp q.text p.bytes)).Perm (oL (y.O.set i { q with text := baApp q.text p.bytes }))
      have e : oL (y.O.set i { q with text := baApp q.text p.bytes }) = (oL y.O).set i (q.n, (q.name, baApp q.text p.bytes)) := by unfold oL; rw [List.map_set]
      rw [e]
      exact ((adel_perm s.so q.n).append_right _).trans (set_perm (oL_get h2) (oL_nd r.os)).symm
    · show (y.O.set i _).Pairwise _
      have hm : (y.O.set i { q with text := baApp q.text p.bytes }).map (·.n) = y.O.map (·.n) := by
        rw [List.map_set]
        refine List.ext_getElem? fun j => ?_
        rw [List.getElem?_set]
        by_cases hj : i = j
        · subst hj
          have hi := (List.getElem?_eq_some_iff.1 h2).1
          rw [if_pos rfl, if_pos (by rw [List.length_map]; exact hi), List.getElem?_map, h2]; rfl
        · rw [if_neg hj]
      have h5 : ((y.O.set i { q with text := baApp q.text p.bytes }).map (·.n)).Pairwise (· < ·) := by rw [hm, List.pairwise_map]; exact r.os
      rwa [List.pairwise_map] at h5
    · intro z hz
      rcases List.mem_or_eq_of_mem_set hz with hz | rfl
      · exact r.ob z hz
      · exact r.ob q (List.mem_of_getElem? h2)
    · show (y.O.set i _).length ≤ 4
      rw [List.length_set]; exact r.ol
    · intro z hz
      rcases List.mem_or_eq_of_mem_set hz with hz | rfl
      · exact r.oz z hz
      · show (q.text ++ ⟨p.bytes.toArray⟩).size ≤ 8192
        rw [ByteArray.size_append, show (ByteArray.mk p.bytes.toArray).size = p.bytes.length from by simp [ByteArray.size]]
        omega
  · rw [if_pos rfl, if_pos rfl]; exact ⟨rfl, rfl, s.lost r h2, r.lost i⟩
end
end Go.Proofs.YtbffngeameenoaaGreat
end

section
set_option linter.unusedVariables false
set_option linter.unusedSimpArgs false
namespace Go.Proofs.YtbffngeameenoaaGreat
open Go Go.Au

theorem tw_split {α : Type} (p : α → Bool) (l : List α) : l.take (l.takeWhile p).length = l.takeWhile p ∧ l.drop (l.takeWhile p).length = l.dropWhile p := by
  have h := List.takeWhile_append_dropWhile (p := p) (l := l)
  generalize l.takeWhile p = a at *
  generalize l.dropWhile p = b at *
  subst h
  exact ⟨List.take_left, List.drop_left⟩
theorem ofName_append (A B : List RVer) (nm : ByteArray) : ofName (A ++ B) nm = ofName A nm ++ ofName B nm := by unfold ofName; rw [List.filter_append]
theorem insV_eq (V : List RVer) (q : RVer) : insV V q = (V.takeWhile (fun r => bleB r.name q.name) ++ [q]) ++ V.dropWhile fun r => bleB r.name q.name := by
  obtain ⟨h1, h2⟩ := tw_split (fun r : RVer => bleB r.name q.name) V
  unfold insV insI
  rw [h1, h2]
theorem mem_insV (V : List RVer) (q r : RVer) : r ∈ insV V q ↔ r = q ∨ r ∈ V := by
  rw [insV_eq]
  have h := List.takeWhile_append_dropWhile (p := fun r : RVer => bleB r.name q.name) (l := V)
  constructor
  · intro hr
    rcases List.mem_append.1 hr with hr | hr
    · rcases List.mem_append.1 hr with hr | hr
      · exact .inr (by rw [← h]; exact List.mem_append_left _ hr)
      · exact .inl (List.mem_singleton.1 hr)
    · exact .inr (by rw [← h]; exact List.mem_append_right _ hr)
  · rintro (rfl | hr)
    · simp
    · rw [← h] at hr
      rcases List.mem_append.1 hr with hr | hr
      · exact List.mem_append_left _ (List.mem_append_left _ hr)
      · exact List.mem_append_right _ hr
theorem vlt_le {a c : RVer} (h : vlt a c) : bltB a.name c.name = true ∨ a.name = c.name := h.imp id (·.1)
theorem blt_le {a b c : ByteArray} (h : bltB a b = true) (k : bltB b c = true ∨ b = c) : bltB a c = true := k.elim (blt_trans h) fun e => e ▸ h
theorem drop_gt {V : List RVer} (hs : V.Pairwise vlt) (nm : ByteArray) : ∀ r ∈ V.dropWhile (fun r => bleB r.name nm), bltB nm r.name = true := by
  intro r hr
  cases hd : V.dropWhile (fun r => bleB r.name nm) with
  | nil => rw [hd] at hr; cases hr
  | cons a l =>
    have hna : bleB a.name nm = false := by
      have := List.head?_dropWhile_not (fun r : RVer => bleB r.name nm) V
      rw [hd] at this
      simpa using this
    have ha : bltB nm a.name = true := by
      rcases blt_tri nm a.name with h | h | h
      · exact h
      · rw [(ble_iff _ _).2 (.inr h.symm)] at hna; cases hna
      · rw [(ble_iff _ _).2 (.inl h)] at hna; cases hna
    rw [hd] at hr
    rcases List.mem_cons.1 hr with rfl | hr
    · exact ha
    · have hp : (a :: l).Pairwise vlt := by rw [← hd]; exact hs.sublist (List.dropWhile_sublist _)
      rw [List.pairwise_cons] at hp
      exact blt_le ha (vlt_le (hp.1 r hr))
theorem ofName_none {V : List RVer} {nm : ByteArray} (h : ∀ r ∈ V, r.name ≠ nm) : ofName V nm = [] := by
  unfold ofName
  rw [List.filter_eq_nil_iff]
  intro r hr
  simpa using h r hr
theorem ofName_insV {V : List RVer} (hs : V.Pairwise vlt) (q : RVer) (nm : ByteArray) : ofName (insV V q) nm = if q.name = nm then ofName V nm ++ [q] else ofName V nm := by
  have h := List.takeWhile_append_dropWhile (p := fun r : RVer => bleB r.name q.name) (l := V)
  have hV : ofName V nm = ofName (V.takeWhile fun r => bleB r.name q.name) nm ++ ofName (V.dropWhile fun r => bleB r.name q.name) nm := by rw [← ofName_append, h]
  rw [insV_eq, ofName_append, ofName_append, hV]
  by_cases hn : q.name = nm
  · subst hn
    have hdn : ofName (V.dropWhile fun r => bleB r.name q.name) q.name = [] := ofName_none fun r hr e => blt_irrefl q.name (by have := drop_gt hs q.name r hr; rwa [e] at this)
    rw [if_pos rfl, hdn, List.append_nil, List.append_nil]
    simp [ofName]
  · rw [if_neg hn, show ofName [q] nm = [] from ofName_none fun r hr => by cases List.mem_singleton.1 hr; exact hn, List.append_nil]
theorem topG_max {V : List RVer} (hs : V.Pairwise vlt) {q : RVer} (hq : q ∈ V) : q.gen ≤ topG (ofName V q.name) := by
  have h1 := ofName_lt hs q.name
  have h2 : q ∈ ofName V q.name := List.mem_filter.2 ⟨hq, by simp⟩
  unfold topG
  cases hl : (ofName V q.name).getLast? with
  | none => rw [List.getLast?_eq_none_iff.1 hl] at h2; cases h2
  | some z =>
    obtain ⟨ys, e⟩ := List.getLast?_eq_some_iff.1 hl
    rw [e] at h1 h2
    rw [List.pairwise_append] at h1
    rcases List.mem_append.1 h2 with h | h
    · exact Int.le_of_lt (h1.2.2 q h z (List.mem_singleton.2 rfl))
    · cases List.mem_singleton.1 h; exact Int.le_refl _
theorem insV_sorted {V : List RVer} (hs : V.Pairwise vlt) (q : RVer) (hg : topG (ofName V q.name) < q.gen) : (insV V q).Pairwise vlt := by
  have h := List.takeWhile_append_dropWhile (p := fun r : RVer => bleB r.name q.name) (l := V)
  have hs' := hs
  rw [← h, List.pairwise_append] at hs'
  rw [insV_eq, List.pairwise_append, List.pairwise_append]
  have htk : ∀ r ∈ V.takeWhile (fun r => bleB r.name q.name), vlt r q := fun r hr => by
    have h1 : bleB r.name q.name = true := List.all_eq_true.1 List.all_takeWhile r hr
    have h2 : r ∈ V := by rw [← h]; exact List.mem_append_left _ hr
    rcases (ble_iff _ _).1 h1 with h3 | h3
    · exact .inl h3
    · refine .inr ⟨h3, ?_⟩
      have := topG_max hs h2
      rw [h3] at this; omega
  refine ⟨⟨hs'.1, List.pairwise_singleton _ _, fun r hr c hc => by cases List.mem_singleton.1 hc; exact htk r hr⟩, hs'.2.1, fun a ha c hc => ?_⟩
  rcases List.mem_append.1 ha with ha | ha
  · exact hs'.2.2 a ha c hc
  · cases List.mem_singleton.1 ha
    exact .inl (drop_gt hs _ c hc)
section
variable {K : Int} {x : XM} {y : RM}
theorem Sim.known (s : Sim x y) (nm : ByteArray) : (aget x.files nm).isSome = false ↔ (ofName y.V nm).length = 0 := by
  rw [← Bool.not_eq_true, aget_isSome, s.keys]
  constructor
  · intro h
    rw [ofName_none fun r hr e => h ⟨r, hr, e⟩]; rfl
  · rintro h ⟨q, hq, e⟩
    have : q ∈ ofName y.V nm := List.mem_filter.2 ⟨hq, by simpa using e⟩
    rw [List.eq_nil_of_length_eq_zero h] at this; cases this
theorem Sim.nextGen (s : Sim x y) (nm : ByteArray) : nextGen (aget x.files nm) = topG (ofName y.V nm) + 1 := by
  cases hg : aget x.files nm with
  | none =>
    have := (s.known nm).1 (by rw [hg]; rfl)
    rw [List.eq_nil_of_length_eq_zero this]; rfl
  | some l =>
    have h1 : l = vers y.V nm := by
      have := s.ff nm
      unfold filesOf at this
      rw [hg] at this; exact this
    have h2 := s.fe _ (mem_of_aget hg)
    rw [h1] at h2 ⊢
    unfold Proofs.YtbffngeameenoaaGreat.nextGen topG vers
    simp only [List.getLast?_map]
    cases hl : (ofName y.V nm).getLast? with
    | none =>
      have := List.getLast?_eq_none_iff.1 hl
      unfold vers at h2
      rw [this] at h2; exact absurd rfl h2
    | some q => rfl
theorem topG_le' (r : RInv K y) (nm : ByteArray) : 0 ≤ topG (ofName y.V nm) ∧ topG (ofName y.V nm) ≤ K := by
  have h0 := r.b0
  have h1 := r.b1
  unfold topG
  cases hl : (ofName y.V nm).getLast? with
  | none => simp only; omega
  | some q =>
    have := r.vg q (List.mem_filter.1 (List.mem_of_getLast? hl)).1
    simp only; omega
theorem commit_sim (s : Sim x y) (r : RInv K y) (p : Op1) (sp : Bool) :
    (commitX x p sp).1 = (commitR y p sp).1 ∧ (commitX x p sp).2.1 = (commitR y p sp).2.1 ∧ Sim (commitX x p sp).2.2 (commitR y p sp).2.2 ∧ RInv (K + 1) (commitR y p sp).2.2 := by
  have hK : K ≤ K + 1 := by omega
  unfold commitX commitR
  rcases sess_find s r p.n with ⟨h1, h2⟩ | ⟨i, q, h1, h2, h3, h4⟩
  · rw [h1, h2]; exact ⟨rfl, rfl, s, r.mono hK⟩
  rw [h1, h4]
  dsimp only
  rw [h2]
  dsimp only
  rw [← h3]
  have hkn := s.known q.name
  have hfl := s.files_len r
  have hvf := r.vf
  have hvc := r.vc q.name
  have hln : (filesOf x q.name).length = (ofName y.V q.name).length := by rw [s.ff, vers, List.length_map]
  have hng := s.nextGen q.name
  by_cases c1 : ((aget x.files q.name).isSome = false ∧ x.files.length = 64) ∨ (filesOf x q.name).length = 32
  · rw [if_pos c1, if_pos (show ((ofName y.V q.name).length = 0 ∧ 64 ≤ fileC y.V y.V.length) ∨ 32 ≤ (ofName y.V q.name).length from c1.imp (fun h => ⟨hkn.1 h.1, by omega⟩) fun h => by omega)]
    exact ⟨rfl, rfl, s.lost r h2, (r.lost i).mono hK⟩
  have c2 : ¬ (((ofName y.V q.name).length = 0 ∧ 64 ≤ fileC y.V y.V.length) ∨ 32 ≤ (ofName y.V q.name).length) := fun h => c1 (h.imp (fun h => ⟨hkn.2 h.1, by omega⟩) fun h => by omega)
  rw [if_neg c1, if_neg c2]
  cases sp
  rotate_left
  · rw [if_pos rfl, if_pos rfl]; exact ⟨rfl, rfl, s.lost r h2, (r.lost i).mono hK⟩
  rw [if_neg (by simp), if_neg (by simp), hng]
  have htg := topG_le' r q.name
  generalize hgg : topG (ofName y.V q.name) + 1 = g at *
  have hof := fun nm => ofName_insV r.vs (⟨q.name, g, y.now, q.text, false⟩ : RVer) nm
  have hsl := s.lost r h2
  have hrl := r.lost i
  have hqz := r.oz q (List.mem_of_getElem? h2)
  refine ⟨rfl, rfl, { hsl with fN := nodup_aset s.fN _ _, ff := fun nm => ?_, fe := fun z hz => ?_ }, { hrl.mono hK with vs := insV_sorted r.vs _ (by show topG (ofName y.V q.name) < g; omega), vz := fun z hz => ?_, vg := fun z hz => ?_, vt := fun z hz => ?_, vf := ?_, vc := fun nm => ?_, vw := fun z hz hg => ?_, sv := fun t ht h hh => ?_ }⟩
  · show (aget (aset x.files q.name (filesOf x q.name ++ [⟨g, x.now, q.text, false⟩])) nm).getD [] = vers (insV y.V ⟨q.name, g, y.now, q.text, false⟩) nm
    rw [aget_aset]
    unfold vers
    rw [hof]
    by_cases hn : nm = q.name
    · subst hn
      rw [if_pos rfl, if_pos rfl, Option.getD_some, s.ff, s.nw, List.map_append]; rfl
    · rw [if_neg hn, if_neg (show ¬ q.name = nm from fun e => hn e.symm)]
      exact s.ff nm
  · rcases List.mem_append.1 hz with hz | hz
    · exact s.fe z (List.mem_filter.1 hz).1
    · cases List.mem_singleton.1 hz; simp
  · rcases (mem_insV _ _ _).1 hz with rfl | hz
    · exact hqz
    · exact r.vz z hz
  · rcases (mem_insV _ _ _).1 hz with rfl | hz
    · show 1 ≤ g ∧ g ≤ K + 1; omega
    · have := r.vg z hz; omega
  · have h0 := r.n0
    rcases (mem_insV _ _ _).1 hz with rfl | hz
    · show 0 ≤ y.now ∧ y.now ≤ y.now; omega
    · exact r.vt z hz
  · show fileC (insV y.V _) (insV y.V _).length ≤ 64
    obtain ⟨d1, d2, d3⟩ := dnI_ok r.vs (Nat.le_refl _)
    rw [List.take_length] at d3
    have hsrt := insV_sorted r.vs (⟨q.name, g, y.now, q.text, false⟩ : RVer) (by show topG (ofName y.V q.name) < g; omega)
    by_cases hk : q.name ∈ dnI y.V y.V.length
    · rw [fileC_eq hsrt d2 fun nm => ?_, d1]
      · exact hvf
      · rw [d3]
        constructor
        · rintro ⟨z, hz, e⟩; exact ⟨z, (mem_insV _ _ _).2 (.inr hz), e⟩
        · rintro ⟨z, hz, e⟩
          rcases (mem_insV _ _ _).1 hz with rfl | hz
          · obtain ⟨w, hw, ew⟩ := (d3 _).1 hk
            exact ⟨w, hw, ew.trans e⟩
          · exact ⟨z, hz, e⟩
    · have h64 : ¬ 64 ≤ fileC y.V y.V.length := fun h => c2 (.inl ⟨by rw [ofName_none fun z hz e => hk ((d3 _).2 ⟨z, hz, e⟩)]; rfl, h⟩)
      rw [fileC_eq hsrt (L := dnI y.V y.V.length ++ [q.name]) (snoc_nd d2 hk) fun nm => ?_, List.length_append, d1, List.length_singleton]
      · omega
      · rw [List.mem_append, d3, List.mem_singleton]
        constructor
        · rintro (⟨z, hz, e⟩ | rfl)
          · exact ⟨z, (mem_insV _ _ _).2 (.inr hz), e⟩
          · exact ⟨_, (mem_insV _ _ _).2 (.inl rfl), rfl⟩
        · rintro ⟨z, hz, e⟩
          rcases (mem_insV _ _ _).1 hz with rfl | hz
          · exact .inr e.symm
          · exact .inl ⟨z, hz, e⟩
  · show (ofName (insV y.V _) nm).length ≤ 32
    rw [hof]
    have := r.vc nm
    by_cases hn : q.name = nm
    · rw [if_pos hn, List.length_append, List.length_singleton]
      subst hn
      omega
    · rw [if_neg hn]; exact this
  · rcases (mem_insV _ _ _).1 hz with rfl | hz
    · cases hg
    · exact r.vw z hz hg
  · obtain ⟨w, hw, e⟩ := r.sv t ht h hh
    exact ⟨w, (mem_insV _ _ _).2 (.inr hw), e⟩
end
end Go.Proofs.YtbffngeameenoaaGreat
end

section
set_option linter.unusedVariables false
set_option linter.unusedSimpArgs false
namespace Go.Proofs.YtbffngeameenoaaGreat
open Go Go.Au

abbrev ltN (a c : ByteArray × Int) : Prop := bltB a.1 c.1 = true
theorem filter_vers (V : List RVer) (nm : ByteArray) (g : Int) : (vers V nm).filter (liveP g) = (V.filter (rfindP nm g)).map toVer := by
  unfold vers ofName
  rw [List.filter_map, List.filter_filter]
  congr 1
  refine List.filter_congr fun q _ => ?_
  simp only [Function.comp, liveP, rfindP, toVer]
  rw [Bool.and_comm]
def rlast (V : List RVer) (nm : ByteArray) (g : Int) : Option RVer := (V.filter (rfindP nm g)).getLast?
theorem lastI_bind {α : Type} {p : α → Bool} {xs : List α} {o : Option α} (h : (xs.filter p).getLast? = o) : (lastI p xs = none ∧ o = none) ∨ ∃ i q, lastI p xs = some i ∧ xs[i]? = some q ∧ o = some q := by
  rw [← lastI_get] at h
  cases hl : lastI p xs with
  | none => rw [hl] at h; exact .inl ⟨rfl, h.symm⟩
  | some i =>
    obtain ⟨q, hq, _⟩ := lastI_spec hl
    rw [hl] at h
    exact .inr ⟨i, q, rfl, hq, by rw [← h]; exact hq⟩
theorem toldR_of {y : RM} {p : Op1} (h9 : p.do_ ≠ 9) : toldR y p = match (toldI y p).bind (fun i => y.V[i]?) with
  | some q => toldT p q.text
  | none => (9, 0, [], []) := by
  unfold toldR
  rw [if_neg h9]
  cases hi : toldI y p with
  | none => rfl
  | some i =>
    simp only [Option.bind_some]
    cases y.V[i]? <;> rfl
theorem heldOf_eq (s : ByteArray) : ∀ {S : List (ByteArray × List (ByteArray × Int))}, (S.Pairwise fun a c => bltB a.1 c.1 = true) → shotB S s = (aget S s).isSome ∧ heldOf S s = (aget S s).getD []
  | [], _ => ⟨rfl, rfl⟩
  | q :: S, hs => by
    rw [List.pairwise_cons] at hs
    obtain ⟨ih1, ih2⟩ := heldOf_eq s hs.2
    rw [aget_cons]
    by_cases hb : bltB q.1 s = true
    · have hI : shotI (q :: S) s = shotI S s + 1 := by simp [shotI, List.takeWhile_cons, hb]
      have hne : ¬ q.1 = s := fun e => by rw [e] at hb; exact blt_irrefl _ hb
      have h1 : shotB (q :: S) s = shotB S s := by unfold shotB; rw [hI, List.getElem?_cons_succ]
      rw [if_neg hne, h1]
      refine ⟨ih1, ?_⟩
      rw [← ih2]
      unfold heldOf
      rw [h1, hI, List.getElem?_cons_succ]
    · have hI : shotI (q :: S) s = 0 := by simp [shotI, List.takeWhile_cons, hb]
      have h1 : shotB (q :: S) s = decide (q.1 = s) := by unfold shotB; rw [hI]; rfl
      by_cases he : q.1 = s
      · rw [if_pos he]
        refine ⟨by rw [h1, decide_eq_true he]; rfl, ?_⟩
        unfold heldOf
        rw [h1, decide_eq_true he, hI]; rfl
      · rw [if_neg he]
        have hn : aget S s = none := aget_none fun v hv => by
          have h2 := hs.1 _ hv
          rcases blt_tri q.1 s with t | t | t
          · exact hb t
          · exact he t
          · exact blt_asymm h2 t
        rw [hn]
        refine ⟨by rw [h1, decide_eq_false he]; rfl, ?_⟩
        unfold heldOf
        rw [h1, decide_eq_false he]; rfl
theorem showI_eq (V : List RVer) (nm : ByteArray) {l : List (ByteArray × Int)} (hl : (l.map (·.1)).Nodup) : showI V nm l = (aget l nm).bind fun g => lastI (showP nm (nm, g)) V := by
  have key : ∀ (l : List (ByteArray × Int)) (o : Option Nat), (l.map (·.1)).Nodup → l.foldl (fun o h => (lastI (showP nm h) V).or o) o = match aget l nm with
      | some g => (lastI (showP nm (nm, g)) V).or o
      | none => o := by
    intro l
    induction l with
    | nil => exact fun o _ => rfl
    | cons h l ih =>
      intro o hn
      rw [List.map_cons, List.nodup_cons] at hn
      rw [List.foldl_cons, ih _ hn.2, aget_cons]
      by_cases he : h.1 = nm
      · have hno : aget l nm = none := aget_none fun v hv => hn.1 (by rw [he]; exact List.mem_map_of_mem (f := (·.1)) hv)
        rw [if_pos he, hno]
        obtain ⟨a, b⟩ := h
        cases he; rfl
      · have hno : lastI (showP nm h) V = none := lastI_none fun q _ => by simp [showP, he]
        rw [if_neg he, hno]; rfl
  unfold showI
  rw [key l none hl]
  cases aget l nm with
  | none => rfl
  | some g => simp
theorem filter_one {l : List RVer} (h : l.Pairwise fun a c => a.gen < c.gen) (g : Int) : l.filter (fun q => q.gen == g) = (l.find? fun q => q.gen == g).toList := by
  induction l with
  | nil => rfl
  | cons a l ih =>
    rw [List.pairwise_cons] at h
    by_cases e : a.gen = g
    · have : l.filter (fun q => q.gen == g) = [] := by
        rw [List.filter_eq_nil_iff]
        intro q hq
        have := h.1 q hq
        simp only [beq_iff_eq]; omega
      rw [List.filter_cons_of_pos (by simpa using e), this, List.find?_cons_of_pos (by simpa using e)]; rfl
    · rw [List.filter_cons_of_neg (by simpa using e), List.find?_cons_of_neg (by simpa using e)]
      exact ih h.2
section
variable {K : Int} {x : XM} {y : RM}
theorem Sim.text (s : Sim x y) (nm : ByteArray) (g : Int) : textX x nm g = (rlast y.V nm g).map (·.text) := by
  unfold textX
  rw [s.ff]
  have h : ((vers y.V nm).filter (liveP g)).getLast? = (rlast y.V nm g).map toVer := by rw [filter_vers, List.getLast?_map]; rfl
  rcases lastI_bind h with ⟨h1, h2⟩ | ⟨i, v, h1, h2, h3⟩
  · rw [h1]
    cases hr : rlast y.V nm g with
    | none => rfl
    | some q => rw [hr] at h2; cases h2
  · rw [h1]
    dsimp only
    rw [h2]
    cases hr : rlast y.V nm g with
    | none => rw [hr] at h3; cases h3
    | some q => rw [hr] at h3; cases h3; rfl
theorem rtext (y : RM) (p : Op1) (h7 : p.do_ ≠ 7) (h9 : p.do_ ≠ 9) : toldR y p = match (rlast y.V p.name p.gen).map (·.text) with
  | some t => toldT p t
  | none => (9, 0, [], []) := by
  rw [toldR_of h9]
  unfold toldI
  rw [if_neg h7, lastI_get]
  show (match rlast y.V p.name p.gen with | some q => toldT p q.text | none => (9, 0, [], [])) = _
  cases rlast y.V p.name p.gen <;> rfl
theorem shown_sim (s : Sim x y) (r : RInv K y) (p : Op1) (h7 : p.do_ = 7) : shownX x p = toldR y p := by
  rw [toldR_of (by omega)]
  unfold toldI
  rw [if_pos h7, (heldOf_eq p.shot r.ss).2]
  have hnd : (((aget y.S p.shot).getD []).map (·.1)).Nodup := by
    cases hg : aget y.S p.shot with
    | none => exact List.Pairwise.nil
    | some l => exact nd_of_lt (r.sh _ (mem_of_aget hg))
  rw [showI_eq _ _ hnd]
  have hsg : shotGen x p.shot p.name = aget ((aget y.S p.shot).getD []) p.name := by
    cases hg : aget ((aget y.S p.shot).getD []) p.name with
    | some g =>
      refine (s.shotGen r _ _ _).2 ?_
      cases hl : aget y.S p.shot with
      | none => rw [hl] at hg; cases hg
      | some l => rw [hl] at hg; exact ⟨l, rfl, mem_of_aget hg⟩
    | none =>
      cases hsg : shotGen x p.shot p.name with
      | none => rfl
      | some g =>
        obtain ⟨l, hl, hm⟩ := (s.shotGen r _ _ _).1 hsg
        rw [hl] at hg hnd
        rw [aget_of_mem hnd hm] at hg; cases hg
  unfold shownX
  rw [hsg]
  cases hg : aget ((aget y.S p.shot).getD []) p.name with
  | none => rfl
  | some g =>
    simp only [Option.bind_some]
    rw [lastI_get]
    have h1 : y.V.filter (showP p.name (p.name, g)) = ((ofName y.V p.name).find? fun q => q.gen == g).toList := by
      rw [← filter_one (ofName_lt r.vs _)]
      unfold ofName
      rw [List.filter_filter]
      refine List.filter_congr fun q _ => ?_
      simp only [showP, decide_true, Bool.true_and]
      rw [Bool.and_comm]
    have h2 : (filesOf x p.name).find? (fun q => q.gen == g) = ((ofName y.V p.name).find? fun q => q.gen == g).map toVer := by
      rw [s.ff]
      unfold vers
      rw [List.find?_map]; rfl
    rw [h1, h2]
    cases (ofName y.V p.name).find? fun q => q.gen == g with
    | none => rfl
    | some q =>
      show (0, 0, strB q.text, []) = toldT p q.text
      unfold toldT
      rw [if_neg (by omega), if_pos (by omega)]
/-! #### Names -/
theorem sortB_lt {x : XM} (nd : ND x) {ks : List ByteArray} (h : ks.Perm (x.files.map (·.1))) : (sortB ks).Pairwise fun a c => bltB a c = true := by
  have hnd := sortB_nd nd h
  have hle : (sortB ks).Pairwise fun a c => a.data.toList ≤ c.data.toList := by
    unfold sortB
    rw [List.pairwise_map]
    have := List.pairwise_mergeSort (le := fun x y : List UInt8 => decide (x ≤ y)) (fun a b c h1 h2 => by
      simp only [decide_eq_true_eq] at *; exact List.le_trans h1 h2) (fun a b => by
      simp only [Bool.or_eq_true, decide_eq_true_eq]; exact List.le_total a b) (ks.map fun s => s.data.toList)
    exact this.imp fun h => by simpa using h
  rw [List.nodup_iff_pairwise_ne] at hnd
  refine (hle.and hnd).imp fun {a c} h => ?_
  rcases blt_tri a c with t | t | t
  · exact t
  · exact absurd t h.2
  · exact absurd ((blt_iff c a).1 t) (List.not_lt.2 h.1)
theorem name1_eq (s : Sim x y) (nm : ByteArray) : name1 x nm = (rlast y.V nm 0).toList.map fun q => (nm, q.gen) := by
  unfold name1
  rw [s.ff]
  have h : ((vers y.V nm).filter (liveP 0)).getLast? = (rlast y.V nm 0).map toVer := by rw [filter_vers, List.getLast?_map]; rfl
  rcases lastI_bind h with ⟨h1, h2⟩ | ⟨i, v, h1, h2, h3⟩
  · rw [h1]
    cases hr : rlast y.V nm 0 with
    | none => rfl
    | some q => rw [hr] at h2; cases h2
  · rw [h1]
    dsimp only
    rw [h2]
    cases hr : rlast y.V nm 0 with
    | none => rw [hr] at h3; cases h3
    | some q => rw [hr] at h3; cases h3; rfl
theorem rlast_name {V : List RVer} {nm : ByteArray} {g : Int} {q : RVer} (h : rlast V nm g = some q) : q ∈ V ∧ q.name = nm ∧ q.gone = false := by
  have := List.mem_filter.1 (List.mem_of_getLast? h)
  simp [rfindP] at this
  exact ⟨this.1, this.2.1, this.2.2.1⟩
theorem mem_rnamesI {V : List RVer} {h : ByteArray × Int} : ∀ {i : Nat}, h ∈ rnamesI V i ↔ ∃ j q, j < i ∧ V[j]? = some q ∧ lastI (rfindP q.name 0) V = some j ∧ h = (q.name, q.gen)
  | 0 => by simp [rnamesI]
  | i + 1 => by
    unfold rnamesI
    rw [List.mem_append, mem_rnamesI]
    constructor
    · rintro (⟨j, q, h1, h2⟩ | hm)
      · exact ⟨j, q, by omega, h2⟩
      · cases hq : V[i]? with
        | none => rw [hq] at hm; cases hm
        | some q =>
          rw [hq] at hm
          dsimp only at hm
          split at hm
          · exact ⟨i, q, by omega, hq, by assumption, List.mem_singleton.1 hm⟩
          · cases hm
    · rintro ⟨j, q, h1, h2, h3, h4⟩
      rcases Nat.lt_or_ge j i with h5 | h5
      · exact .inl ⟨j, q, h5, h2, h3, h4⟩
      · have : j = i := by omega
        subst this
        rw [h2]
        dsimp only
        rw [if_pos h3]
        exact .inr (List.mem_singleton.2 h4)
theorem rnamesI_lt {V : List RVer} (hs : V.Pairwise vlt) : ∀ i : Nat, (rnamesI V i).Pairwise ltN
  | 0 => List.Pairwise.nil
  | i + 1 => by
    unfold rnamesI
    rw [List.pairwise_append]
    refine ⟨rnamesI_lt hs i, ?_, fun a ha c hc => ?_⟩
    · split
      · split
        · exact List.pairwise_singleton _ _
        · exact List.Pairwise.nil
      · exact List.Pairwise.nil
    · obtain ⟨j, q, h1, h2, h3, rfl⟩ := mem_rnamesI.1 ha
      cases hq : V[i]? with
      | none => rw [hq] at hc; cases hc
      | some z =>
        rw [hq] at hc
        dsimp only at hc
        split at hc
        · rename_i h4
          cases List.mem_singleton.1 hc
          have hj := List.getElem?_eq_some_iff.1 h2
          have hi := List.getElem?_eq_some_iff.1 hq
          have := List.pairwise_iff_getElem.1 hs j i hj.1 hi.1 h1
          rw [hj.2, hi.2] at this
          rcases this with t | t
          · exact t
          · exfalso
            rw [t.1, h4] at h3
            cases h3; omega
        · cases hc
theorem mem_rnames {V : List RVer} {h : ByteArray × Int} : h ∈ rnames V ↔ ∃ q, rlast V h.1 0 = some q ∧ h.2 = q.gen := by
  unfold rnames
  rw [mem_rnamesI]
  constructor
  · rintro ⟨j, q, h1, h2, h3, rfl⟩
    refine ⟨q, ?_, rfl⟩
    show rlast V q.name 0 = some q
    unfold rlast
    rw [← lastI_get, h3]; exact h2
  · rintro ⟨q, h1, h2⟩
    have hn := rlast_name h1
    unfold rlast at h1
    rcases lastI_bind h1 with ⟨_, h4⟩ | ⟨i, z, h4, h5, h6⟩
    · cases h4
    · cases h6
      exact ⟨i, q, (List.getElem?_eq_some_iff.1 h5).1, h5, by rw [hn.2.1]; exact h4, Prod.ext hn.2.1.symm h2⟩
theorem names_sim (s : Sim x y) (r : RInv K y) {ks : List ByteArray} (hk : ks.Perm (x.files.map (·.1))) : namesL x (sortB ks) = rnames y.V := by
  have hlt := sortB_lt s.fN hk
  refine sorted_eq (R := ltN) (fun a => blt_irrefl _) (fun a b h => blt_asymm h) ?_ (rnamesI_lt r.vs _) fun h => ?_
  · unfold namesL
    rw [List.pairwise_flatMap]
    refine ⟨fun nm _ => ?_, hlt.imp fun {a c} hac u hu v hv => ?_⟩
    · rw [name1_eq s]
      cases rlast y.V nm 0 with
      | none => exact List.Pairwise.nil
      | some q => exact List.pairwise_singleton _ _
    · rw [name1_eq s] at hu hv
      obtain ⟨_, _, rfl⟩ := List.mem_map.1 hu
      obtain ⟨_, _, rfl⟩ := List.mem_map.1 hv
      exact hac
  · rw [mem_rnames]
    unfold namesL
    rw [List.mem_flatMap]
    constructor
    · rintro ⟨nm, hn, hm⟩
      rw [name1_eq s] at hm
      obtain ⟨q, hq, rfl⟩ := List.mem_map.1 hm
      exact ⟨q, by simpa using hq, rfl⟩
    · rintro ⟨q, h1, h2⟩
      have hn := rlast_name h1
      refine ⟨h.1, ((sortB_perm ks).trans hk).mem_iff.2 ((s.keys _).2 ⟨q, hn.1, hn.2.1⟩), ?_⟩
      rw [name1_eq s, h1]
      exact List.mem_map.2 ⟨q, by simp, Prod.ext rfl h2.symm⟩
theorem told_sim (s : Sim x y) (r : RInv K y) {p : Op1} {a : Ans} (h : p.do_ = 5 ∨ p.do_ = 6 ∨ p.do_ = 7 ∨ p.do_ = 8 ∨ p.do_ = 9) (ht : ToldX x p a) : a = toldR y p := by
  unfold ToldX at ht
  by_cases h5 : p.do_ = 5
  · rw [if_pos h5] at ht
    rw [ht, rtext y p (by omega) (by omega)]
    unfold readX
    rw [s.text]
    cases (rlast y.V p.name p.gen).map (·.text) with
    | none => rfl
    | some t => show _ = toldT p t; unfold toldT; rw [if_neg (by omega), if_pos (by omega)]
  rw [if_neg h5] at ht
  by_cases h6 : p.do_ = 6
  · rw [if_pos h6] at ht
    rw [ht, rtext y p (by omega) (by omega)]
    unfold cutX
    rw [s.text]
    cases (rlast y.V p.name p.gen).map (·.text) with
    | none => rfl
    | some t => show _ = toldT p t; unfold toldT; rw [if_neg (show ¬ p.do_ = 8 by omega), if_neg (show ¬ p.do_ ≠ 6 by omega)]
  rw [if_neg h6] at ht
  by_cases h7 : p.do_ = 7
  · rw [if_pos h7] at ht
    rw [ht]; exact shown_sim s r p h7
  rw [if_neg h7] at ht
  by_cases h8 : p.do_ = 8
  · rw [if_pos h8] at ht
    rw [ht, rtext y p (by omega) (by omega)]
    unfold statX
    rw [s.text]
    cases (rlast y.V p.name p.gen).map (·.text) with
    | none => rfl
    | some t => show _ = toldT p t; unfold toldT; rw [if_pos h8]
  rw [if_neg h8] at ht
  obtain ⟨ks, hk, rfl⟩ := ht
  rw [names_sim s r hk]
  unfold toldR
  rw [if_pos (by omega)]
end
end Go.Proofs.YtbffngeameenoaaGreat
end

section
set_option linter.unusedVariables false
set_option linter.unusedSimpArgs false
namespace Go.Proofs.YtbffngeameenoaaGreat
open Go Go.Au

def mkX (M : ByteArray → Int → Bool) (n : ByteArray) (v : Ver) : Ver := if M n v.gen then { v with gone := true } else v
def mkR (M : ByteArray → Int → Bool) (q : RVer) : RVer := if M q.name q.gen then { q with gone := true } else q
theorem mkR_name (M : ByteArray → Int → Bool) (q : RVer) : (mkR M q).name = q.name ∧ (mkR M q).gen = q.gen ∧ (mkR M q).time = q.time ∧ (mkR M q).text = q.text := by
  unfold mkR; split <;> exact ⟨rfl, rfl, rfl, rfl⟩
theorem mkX_gen (M : ByteArray → Int → Bool) (n : ByteArray) (v : Ver) : (mkX M n v).gen = v.gen := by unfold mkX; split <;> rfl
theorem toVer_mk (M : ByteArray → Int → Bool) (q : RVer) : toVer (mkR M q) = mkX M q.name (toVer q) := by
  unfold mkR mkX
  by_cases h : M q.name q.gen = true
  · rw [if_pos h, if_pos (by exact h)]; rfl
  · rw [if_neg h, if_neg (by exact h)]
theorem ofName_map (M : ByteArray → Int → Bool) (V : List RVer) (nm : ByteArray) : ofName (V.map (mkR M)) nm = (ofName V nm).map (mkR M) := by
  unfold ofName
  rw [List.filter_map]
  congr 1
  refine List.filter_congr fun q _ => ?_
  simp only [Function.comp, (mkR_name M q).1]
theorem ofName_filter (p : RVer → Bool) (V : List RVer) (nm : ByteArray) : ofName (V.filter p) nm = (ofName V nm).filter p := by
  unfold ofName
  rw [List.filter_filter, List.filter_filter]
  refine List.filter_congr fun q _ => ?_
  rw [Bool.and_comm]
theorem swept_list (M : ByteArray → Int → Bool) (S : List (ByteArray × List (ByteArray × Int))) (nm : ByteArray) : ∀ l : List RVer, (∀ q ∈ l, q.name = nm) →
    ((l.map (mkR M)).filter (keepR S)).map toVer = keepF (fun v => v.gone && !rheldB S nm v.gen) ((l.map toVer).map (mkX M nm))
  | [], _ => rfl
  | q :: l, hn => by
    have ih := swept_list M S nm l fun z hz => hn z (List.mem_cons_of_mem _ hz)
    have hq := hn q List.mem_cons_self
    have e : toVer (mkR M q) = mkX M nm (toVer q) := by rw [toVer_mk, hq]
    have ek : keepR S (mkR M q) = !((mkX M nm (toVer q)).gone && !rheldB S nm (mkX M nm (toVer q)).gen) := by
      rw [← e]
      unfold keepR
      rw [(mkR_name M q).1, hq]
      show _ = !((mkR M q).gone && !rheldB S nm (mkR M q).gen)
      cases rheldB S nm (mkR M q).gen <;> cases (mkR M q).gone <;> rfl
    unfold keepF at ih ⊢
    simp only [List.map_cons, List.filter_cons]
    rw [ek]
    by_cases h : (!((mkX M nm (toVer q)).gone && !rheldB S nm (mkX M nm (toVer q)).gen)) = true
    · rw [if_pos h, if_pos h, List.map_cons, ih, e]
    · rw [if_neg h, if_neg h, ih]
theorem vers_swept (M : ByteArray → Int → Bool) (S : List (ByteArray × List (ByteArray × Int))) (V : List RVer) (nm : ByteArray) :
    vers ((V.map (mkR M)).filter (keepR S)) nm = keepF (fun v => v.gone && !rheldB S nm v.gen) ((vers V nm).map (mkX M nm)) := by
  unfold vers
  rw [ofName_filter, ofName_map]
  exact swept_list M S nm _ fun q hq => by simpa using (List.mem_filter.1 hq).2
section
variable {K : Int} {x x' : XM} {y : RM}
/-- what snapshots hold, on both sides -/
theorem held_eq (sN : (x.shots.map (·.1)).Nodup) {S : List (ByteArray × List (ByteArray × Int))} (s1 : ∀ s m, aget x.shots s = some m → ∃ l, aget S s = some l ∧ m.Perm l) (s2 : ∀ s, aget x.shots s = none → aget S s = none)
    (ss : S.Pairwise fun a c => bltB a.1 c.1 = true) (sh : ∀ s ∈ S, s.2.Pairwise fun a c => bltB a.1 c.1 = true) (nm : ByteArray) {g : Int} (hg : g ≠ 0) : heldX x nm g = rheldB S nm g := by
  have hSn := nd_of_lt ss
  rw [Bool.eq_iff_iff]
  unfold heldX rheldB
  rw [List.any_eq_true, List.any_eq_true]
  constructor
  · rintro ⟨⟨s, m⟩, hm, he⟩
    obtain ⟨l, hl, p⟩ := s1 s m ((mem_iff_aget sN).1 hm)
    have hls := mem_of_aget hl
    refine ⟨(s, l), hls, ?_⟩
    rw [List.any_eq_true]
    dsimp only at he
    rw [beq_iff_eq] at he
    cases ha : aget m nm with
    | none => rw [ha] at he; exact absurd he.symm hg
    | some g' =>
      rw [ha] at he
      have he : g' = g := he
      subst he
      exact ⟨(nm, g'), p.mem_iff.1 (mem_of_aget ha), by simp⟩
  · rintro ⟨⟨s, l⟩, hl, he⟩
    rw [List.any_eq_true] at he
    obtain ⟨h, hh, e⟩ := he
    rw [decide_eq_true_eq] at e
    subst e
    have hl' := (mem_iff_aget hSn).1 hl
    cases hm : aget x.shots s with
    | none => rw [s2 s hm] at hl'; cases hl'
    | some m =>
      obtain ⟨l', h1, p⟩ := s1 s m hm
      rw [hl'] at h1; cases h1
      refine ⟨(s, m), mem_of_aget hm, ?_⟩
      have hmd : (m.map (·.1)).Nodup := (p.map _).nodup_iff.2 (nd_of_lt (sh _ hl))
      dsimp only
      rw [aget_of_mem hmd (p.mem_iff.2 hh)]
      simp
theorem Sim.held (s : Sim x y) (r : RInv K y) (nm : ByteArray) {g : Int} (hg : g ≠ 0) : heldX x nm g = rheldB y.S nm g := held_eq s.sN s.s1 s.s2 r.ss r.sh nm hg
theorem keepF_congr {p q : Ver → Bool} {l : List Ver} (h : ∀ v ∈ l, p v = q v) : keepF p l = keepF q l := List.filter_congr fun v hv => by rw [h v hv]
theorem file_gen (s : Sim x y) (r : RInv K y) {nm : ByteArray} {v : Ver} (h : v ∈ filesOf x nm) : v.gen ≠ 0 := by
  rw [s.ff] at h
  obtain ⟨q, hq, _, rfl⟩ := mem_vers.1 h
  have := r.vg q hq
  show q.gen ≠ 0; omega
/-- Both sides behind a sweep. -/
theorem sweep_sim (s : Sim x y) (r : RInv K y) (M : ByteArray → Int → Bool) (S' : List (ByteArray × List (ByteArray × Int))) (fN : ND x') (ff : ∀ n, filesOf x' n = keepF (fun v => v.gone && !rheldB S' n v.gen) ((filesOf x n).map (mkX M n)))
    (fe : ∀ q ∈ x'.files, q.2 ≠ []) (sN : (x'.shots.map (·.1)).Nodup) (s1 : ∀ s m, aget x'.shots s = some m → ∃ l, aget S' s = some l ∧ m.Perm l) (s2 : ∀ s, aget x'.shots s = none → aget S' s = none)
    (so : x'.sess = x.sess) (bg : x'.began = x.began) (nw : x'.now = x.now) (qt : x'.quota = x.quota) : Sim x' { y with S := S', V := (y.V.map (mkR M)).filter (keepR S') } where
  fN := fN
  ff nm := by
    show _ = vers ((y.V.map (mkR M)).filter (keepR S')) nm
    rw [vers_swept, ff, s.ff]
  fe := fe
  sN := sN
  s1 := s1
  s2 := s2
  so := by rw [so]; exact s.so
  bg := by rw [bg]; exact s.bg
  nw := by rw [nw]; exact s.nw
  qt := by rw [qt]; exact s.qt
theorem mk_vlt (M : ByteArray → Int → Bool) {V : List RVer} (h : V.Pairwise vlt) : (V.map (mkR M)).Pairwise vlt := by
  rw [List.pairwise_map]
  refine h.imp fun {a c} h => ?_
  unfold vlt
  rw [(mkR_name M a).1, (mkR_name M c).1, (mkR_name M a).2.1, (mkR_name M c).2.1]
  exact h
theorem mem_swept {M : ByteArray → Int → Bool} {S' : List (ByteArray × List (ByteArray × Int))} {V : List RVer} {z : RVer} (h : z ∈ (V.map (mkR M)).filter (keepR S')) : ∃ q ∈ V, z = mkR M q ∧ keepR S' z = true := by
  have h1 := List.mem_filter.1 h
  obtain ⟨q, hq, rfl⟩ := List.mem_map.1 h1.1
  exact ⟨q, hq, rfl, h1.2⟩
theorem sweep_inv (r : RInv K y) (M : ByteArray → Int → Bool) (S' : List (ByteArray × List (ByteArray × Int))) (ss : S'.Pairwise fun a c => bltB a.1 c.1 = true) (sl : S'.length ≤ 16) (sh : ∀ s ∈ S', s.2.Pairwise fun a c => bltB a.1 c.1 = true)
    (sv : ∀ s ∈ S', ∀ h ∈ s.2, ∃ q ∈ y.V, q.name = h.1 ∧ q.gen = h.2) : RInv K { y with S := S', V := (y.V.map (mkR M)).filter (keepR S') } :=
  { r with
    vs := (mk_vlt M r.vs).filter _
    vz := fun z hz => by
      obtain ⟨q, hq, rfl, _⟩ := mem_swept hz
      rw [(mkR_name M q).2.2.2]; exact r.vz q hq
    vg := fun z hz => by
      obtain ⟨q, hq, rfl, _⟩ := mem_swept hz
      rw [(mkR_name M q).2.1]; exact r.vg q hq
    vt := fun z hz => by
      obtain ⟨q, hq, rfl, _⟩ := mem_swept hz
      rw [(mkR_name M q).2.2.1]; exact r.vt q hq
    vf := by
      obtain ⟨d1, d2, d3⟩ := dnI_ok r.vs (Nat.le_refl _)
      have hs' := (mk_vlt M r.vs).filter (keepR S')
      obtain ⟨e1, e2, e3⟩ := dnI_ok hs' (Nat.le_refl _)
      rw [List.take_length] at d3 e3
      have h1 := nd_len e2 (m := dnI y.V y.V.length) fun nm hn => by
        obtain ⟨z, hz, e⟩ := (e3 nm).1 hn
        obtain ⟨q, hq, rfl, _⟩ := mem_swept hz
        exact (d3 nm).2 ⟨q, hq, by rw [← e, (mkR_name M q).1]⟩
      have := r.vf
      show fileC ((y.V.map (mkR M)).filter (keepR S')) ((y.V.map (mkR M)).filter (keepR S')).length ≤ 64
      omega
    vc := fun nm => by
      show (ofName ((y.V.map (mkR M)).filter (keepR S')) nm).length ≤ 32
      rw [ofName_filter, ofName_map]
      refine Nat.le_trans (List.length_filter_le _ _) ?_
      rw [List.length_map]; exact r.vc nm
    vw := fun z hz hg => by
      obtain ⟨q, hq, rfl, hk⟩ := mem_swept hz
      unfold keepR at hk
      rw [hg] at hk
      simpa using hk
    ss := ss
    sl := sl
    sh := sh
    sv := fun t ht h hh => by
      obtain ⟨q, hq, e1, e2⟩ := sv t ht h hh
      refine ⟨mkR M q, List.mem_filter.2 ⟨List.mem_map_of_mem hq, ?_⟩, by rw [(mkR_name M q).1]; exact e1, by rw [(mkR_name M q).2.1]; exact e2⟩
      unfold keepR rheldB
      rw [Bool.or_eq_true]
      refine .inl ?_
      rw [List.any_eq_true]
      refine ⟨t, ht, ?_⟩
      rw [List.any_eq_true]
      exact ⟨h, hh, by rw [(mkR_name M q).1, (mkR_name M q).2.1, e1, e2]; simp⟩ }
theorem mkX_none (n : ByteArray) (l : List Ver) : l.map (mkX (fun _ _ => false) n) = l := by
  refine (List.map_congr_left fun v _ => ?_).trans (List.map_id' l)
  unfold mkX; rw [if_neg (by simp)]
theorem mkR_none (l : List RVer) : l.map (mkR fun _ _ => false) = l := by
  refine (List.map_congr_left fun v _ => ?_).trans (List.map_id' l)
  unfold mkR; rw [if_neg (by simp)]
end
end Go.Proofs.YtbffngeameenoaaGreat
end

section
set_option linter.unusedVariables false
set_option linter.unusedSimpArgs false
namespace Go.Proofs.YtbffngeameenoaaGreat
open Go Go.Au

def one (nm : ByteArray) (g : Int) (n : ByteArray) (k : Int) : Bool := decide (n = nm) && decide (k = g)
theorem vkey_nd {V : List RVer} (hs : V.Pairwise vlt) : (V.map fun q => (q.name, q.gen)).Nodup := by
  rw [List.nodup_iff_pairwise_ne, List.pairwise_map]
  refine hs.imp fun {a c} h e => ?_
  simp only [Prod.mk.injEq] at e
  rcases h with h | h
  · rw [e.1] at h; exact blt_irrefl _ h
  · omega
theorem set_mkR {V : List RVer} (hs : V.Pairwise vlt) {i : Nat} {q : RVer} (hq : V[i]? = some q) : V.set i { q with gone := true } = V.map (mkR (one q.name q.gen)) := by
  rw [set_eq_map (fun q : RVer => (q.name, q.gen)) (fun q => { q with gone := true }) (vkey_nd hs) hq]
  refine List.map_congr_left fun a _ => ?_
  unfold mkR one
  by_cases h : (a.name, a.gen) = (q.name, q.gen)
  · simp only [Prod.mk.injEq] at h
    rw [if_pos (by rw [h.1, h.2]), if_pos (by simp [h])]
  · rw [if_neg h, if_neg]
    simp only [Prod.mk.injEq, not_and] at h
    simp only [Bool.and_eq_true, decide_eq_true_eq, not_and]
    exact h
theorem set_mkX {l : List Ver} (hn : (l.map (·.gen)).Nodup) (nm : ByteArray) {i : Nat} {v : Ver} (hv : l[i]? = some v) : l.set i { v with gone := true } = l.map (mkX (one nm v.gen) nm) := by
  rw [set_eq_map (·.gen) (fun v => { v with gone := true }) hn hv]
  refine List.map_congr_left fun a _ => ?_
  unfold mkX one
  by_cases h : a.gen = v.gen
  · rw [if_pos h, if_pos (by simp [h])]
  · rw [if_neg h, if_neg (by simp [h])]
theorem mkX_other {nm n : ByteArray} (h : n ≠ nm) (g : Int) (l : List Ver) : l.map (mkX (one nm g) n) = l := by
  refine (List.map_congr_left fun v _ => ?_).trans (List.map_id' l)
  unfold mkX one; rw [if_neg (by simp [h])]
theorem markG_mk {x : XM} {nm : ByteArray} {i : Nat} {v : Ver} (hn : ((filesOf x nm).map (·.gen)).Nodup) (hv : (filesOf x nm)[i]? = some v) (n : ByteArray) :
    filesOf (markG x nm i) n = (filesOf x n).map (mkX (one nm v.gen) n) := by
  rw [markG_fo hv]
  by_cases h : n = nm
  · subst h; rw [if_pos rfl, set_mkX hn n hv]
  · rw [if_neg h, mkX_other h]
theorem markG_same {x : XM} {nm : ByteArray} {i : Nat} {v : Ver} (hv : (filesOf x nm)[i]? = some v) : (markG x nm i).shots = x.shots ∧ (markG x nm i).sess = x.sess ∧ (markG x nm i).began = x.began ∧ (markG x nm i).now = x.now ∧ (markG x nm i).quota = x.quota := by
  rw [markG_eq hv]; exact ⟨rfl, rfl, rfl, rfl, rfl⟩
section
variable {K : Int} {x x' : XM} {y : RM}
theorem live_find (s : Sim x y) (nm : ByteArray) (g : Int) : (lastI (liveP g) (filesOf x nm) = none ∧ lastI (rfindP nm g) y.V = none) ∨
    ∃ i j q, lastI (liveP g) (filesOf x nm) = some i ∧ (filesOf x nm)[i]? = some (toVer q) ∧ lastI (rfindP nm g) y.V = some j ∧ y.V[j]? = some q ∧ q.name = nm := by
  rw [s.ff]
  have h : ((vers y.V nm).filter (liveP g)).getLast? = (rlast y.V nm g).map toVer := by rw [filter_vers, List.getLast?_map]; rfl
  rcases lastI_bind h with ⟨h1, h2⟩ | ⟨i, v, h1, h2, h3⟩
  · cases hr : rlast y.V nm g with
    | some q => rw [hr] at h2; cases h2
    | none =>
      rcases lastI_bind hr with ⟨h4, _⟩ | ⟨_, _, _, _, h6⟩
      · exact .inl ⟨h1, h4⟩
      · cases h6
  · cases hr : rlast y.V nm g with
    | none => rw [hr] at h3; cases h3
    | some q =>
      rw [hr] at h3; cases h3
      rcases lastI_bind hr with ⟨_, h4⟩ | ⟨j, z, h4, h5, h6⟩
      · cases h4
      · cases h6
        exact .inr ⟨i, j, q, h1, h2, h4, h5, (rlast_name hr).2.1⟩
theorem drop_eq (s : Sim x y) (r : RInv K y) {x1 : XM} (e : x1.shots = x.shots) (n : ByteArray) {l : List Ver} (hl : ∀ v ∈ l, v.gen ≠ 0) : keepF (dropP x1 n) l = keepF (fun v => v.gone && !rheldB y.S n v.gen) l := by
  refine keepF_congr fun v hv => ?_
  rw [dropP_shots e]
  unfold dropP
  rw [s.held r n (hl v hv)]
theorem delete_sim (s : Sim x y) (r : RInv K y) {p : Op1} {e n : Int} (h : RemoveX x p e n x') :
    e = (deleteR y p).1 ∧ n = (deleteR y p).2.1 ∧ Sim x' (deleteR y p).2.2 ∧ RInv K (deleteR y p).2.2 := by
  unfold RemoveX at h
  unfold deleteR
  rcases live_find s p.name p.gen with ⟨h1, h2⟩ | ⟨i, j, q, h1, h2, h3, h4, h5⟩
  · rw [h1] at h
    obtain ⟨rfl, rfl, rfl⟩ := h
    rw [h2]; exact ⟨rfl, rfl, s, r⟩
  · rw [h1] at h
    obtain ⟨rfl, rfl, hsw⟩ := h
    rw [h3]
    dsimp only
    rw [h4]
    dsimp only
    have hv := hsw.view (s.fN.markG _ _)
    obtain ⟨g1, g2, g3, g4, g5⟩ := markG_same h2
    have hmk := markG_mk (by rw [s.ff]; exact vers_nd r.vs _) h2
    rw [set_mkR r.vs h4]
    have hff : ∀ n, filesOf x' n = keepF (fun v => v.gone && !rheldB y.S n v.gen) ((filesOf x n).map (mkX (one q.name q.gen) n)) := fun n => by
      rw [hv.fo, hmk, h5]
      refine drop_eq s r g1 n fun v hv => ?_
      obtain ⟨w, hw, rfl⟩ := List.mem_map.1 hv
      rw [mkX_gen]; exact file_gen s r hw
    exact ⟨rfl, rfl, sweep_sim s r _ y.S hv.nd hff hv.ne (by rw [hv.shots, g1]; exact s.sN) (by rw [hv.shots, g1]; exact s.s1) (by rw [hv.shots, g1]; exact s.s2) (by rw [hv.sess, g2]) (by rw [hv.began, g3]) (by rw [hv.now, g4]) (by rw [hv.quota, g5]),
      sweep_inv r _ y.S r.ss r.sl r.sh r.sv⟩
theorem delS_eq {S : List (ByteArray × List (ByteArray × Int))} (hs : S.Pairwise fun a c => bltB a.1 c.1 = true) {s : ByteArray} (h : shotB S s = true) : delS S (shotI S s) = adel S s := by
  obtain ⟨⟨a, l⟩, hq, _⟩ := shotB_at h
  have hn : a = s := by
    unfold shotB at h
    rw [hq] at h
    simpa using h
  subst hn
  rw [← erase_perm hq (nd_of_lt hs), List.eraseIdx_eq_take_drop_succ]
theorem unsnap_sim (s : Sim x y) (r : RInv K y) {p : Op1} (h12 : p.do_ = 12) (sp : Bool) {e n : Int} (h : UnsnapX x p e n x') :
    e = (shotsR y p sp).1 ∧ n = (shotsR y p sp).2.1 ∧ Sim x' (shotsR y p sp).2.2 ∧ RInv K (shotsR y p sp).2.2 := by
  unfold UnsnapX at h
  unfold shotsR
  by_cases hn : nameOk p.shot = false
  · rw [if_pos hn] at h ⊢
    obtain ⟨rfl, rfl, rfl⟩ := h
    exact ⟨rfl, rfl, s, r⟩
  rw [if_neg hn] at h ⊢
  rw [if_pos h12]
  have hB := (heldOf_eq p.shot r.ss).1
  cases ha : aget x.shots p.shot with
  | none =>
    rw [if_pos ha] at h
    obtain ⟨rfl, rfl, rfl⟩ := h
    rw [s.s2 _ ha] at hB
    replace hB : shotB y.S p.shot = false := hB
    rw [if_pos hB]; exact ⟨rfl, rfl, s, r⟩
  | some m =>
    rw [if_neg (by rw [ha]; simp)] at h
    obtain ⟨rfl, rfl, hsw⟩ := h
    obtain ⟨l, hl, _⟩ := s.s1 _ _ ha
    rw [hl] at hB
    replace hB : shotB y.S p.shot = true := hB
    rw [if_neg (by rw [hB]; simp), delS_eq r.ss hB]
    have hv := hsw.view (show ND { x with shots := adel x.shots p.shot } from s.fN)
    have hsub : (adel y.S p.shot).Sublist y.S := List.filter_sublist
    have hss := r.ss.sublist hsub
    have hsh : ∀ t ∈ adel y.S p.shot, t.2.Pairwise fun a c => bltB a.1 c.1 = true := fun t ht => r.sh t (hsub.subset ht)
    have sN : ((adel x.shots p.shot).map (·.1)).Nodup := nodup_adel s.sN _
    have s1 : ∀ t m, aget (adel x.shots p.shot) t = some m → ∃ l, aget (adel y.S p.shot) t = some l ∧ m.Perm l := fun t m hm => by
      rw [aget_adel] at hm ⊢
      by_cases ht : t = p.shot
      · rw [if_pos ht] at hm; cases hm
      · rw [if_neg ht] at hm ⊢; exact s.s1 t m hm
    have s2 : ∀ t, aget (adel x.shots p.shot) t = none → aget (adel y.S p.shot) t = none := fun t hm => by
      rw [aget_adel] at hm ⊢
      by_cases ht : t = p.shot
      · rw [if_pos ht]
      · rw [if_neg ht] at hm ⊢; exact s.s2 t hm
    have hff : ∀ n, filesOf x' n = keepF (fun v => v.gone && !rheldB (adel y.S p.shot) n v.gen) ((filesOf x n).map (mkX (fun _ _ => false) n)) := fun n => by
      rw [hv.fo, mkX_none]
      refine keepF_congr fun v hv => ?_
      unfold dropP
      rw [held_eq (x := { x with shots := adel x.shots p.shot }) sN s1 s2 hss hsh n (file_gen s r hv)]
    have hS := sweep_sim s r (fun _ _ => false) (adel y.S p.shot) hv.nd hff hv.ne (by rw [hv.shots]; exact sN) (by rw [hv.shots]; exact s1) (by rw [hv.shots]; exact s2) hv.sess hv.began hv.now hv.quota
    have hR := sweep_inv r (fun _ _ => false) (adel y.S p.shot) hss (Nat.le_trans hsub.length_le r.sl) hsh fun t ht => r.sv t (hsub.subset ht)
    rw [mkR_none] at hS hR
    exact ⟨rfl, rfl, hS, hR⟩
theorem shotOf_eq : ∀ (l acc : List (ByteArray × Int)), ((acc ++ l).map (·.1)).Nodup → l.foldl (fun m h => aset m h.1 h.2) acc = acc ++ l
  | [], acc, _ => by rw [List.append_nil]; rfl
  | h :: l, acc, hn => by
    have e : aset acc h.1 h.2 = acc ++ [h] := by
      unfold aset
      rw [adel_of_not fun v hv => ?_]
      rw [List.map_append, List.nodup_append] at hn
      exact hn.2.2 h.1 (List.mem_map_of_mem (f := (·.1)) hv) h.1 (by simp) rfl
    rw [List.foldl_cons, e, shotOf_eq l _ (by rw [List.append_assoc]; exact hn), List.append_assoc]; rfl
theorem shot_split {S : List (ByteArray × List (ByteArray × Int))} (hs : S.Pairwise fun a c => bltB a.1 c.1 = true) (q : ByteArray × List (ByteArray × Int)) (h : shotB S q.1 = false) :
    (insS S (shotI S q.1) q).Pairwise (fun a c => bltB a.1 c.1 = true) ∧ ∀ t, t ∈ insS S (shotI S q.1) q ↔ t = q ∨ t ∈ S := by
  obtain ⟨h1, h2⟩ := tw_split (fun r : ByteArray × List (ByteArray × Int) => bltB r.1 q.1) S
  have e : insS S (shotI S q.1) q = (S.takeWhile (fun r => bltB r.1 q.1) ++ [q]) ++ S.dropWhile fun r => bltB r.1 q.1 := by unfold insS shotI; rw [h1, h2]
  have h3 := List.takeWhile_append_dropWhile (p := fun r : ByteArray × List (ByteArray × Int) => bltB r.1 q.1) (l := S)
  have hs' := hs
  rw [← h3, List.pairwise_append] at hs'
  have hgt : ∀ r ∈ S.dropWhile (fun r => bltB r.1 q.1), bltB q.1 r.1 = true := by
    intro r hr
    cases hd : S.dropWhile (fun r => bltB r.1 q.1) with
    | nil => rw [hd] at hr; cases hr
    | cons a l =>
      have hna : bltB a.1 q.1 = false := by
        have := List.head?_dropWhile_not (fun r : ByteArray × List (ByteArray × Int) => bltB r.1 q.1) S
        rw [hd] at this
        simpa using this
      have hne : a.1 ≠ q.1 := fun e => by
        have h5 : S[shotI S q.1]? = some a := by
          have : (S.drop (shotI S q.1))[0]? = some a := by unfold shotI; rw [h2, hd]; rfl
          rw [List.getElem?_drop] at this; exact this
        unfold shotB at h
        rw [h5] at h
        simp [e] at h
      have ha : bltB q.1 a.1 = true := by
        rcases blt_tri q.1 a.1 with t | t | t
        · exact t
        · exact absurd t.symm hne
        · rw [t] at hna; cases hna
      rw [hd] at hr
      rcases List.mem_cons.1 hr with rfl | hr
      · exact ha
      · have hp := hs'.2.1
        rw [hd, List.pairwise_cons] at hp
        exact blt_trans ha (hp.1 r hr)
  rw [e]
  refine ⟨?_, fun t => ?_⟩
  · rw [List.pairwise_append, List.pairwise_append]
    have htk : ∀ r ∈ S.takeWhile (fun r => bltB r.1 q.1), bltB r.1 q.1 = true := fun r hr => List.all_eq_true.1 List.all_takeWhile r hr
    refine ⟨⟨hs'.1, List.pairwise_singleton _ _, fun r hr c hc => by cases List.mem_singleton.1 hc; exact htk r hr⟩, hs'.2.1, fun a ha c hc => ?_⟩
    rcases List.mem_append.1 ha with ha | ha
    · exact hs'.2.2 a ha c hc
    · cases List.mem_singleton.1 ha; exact hgt c hc
  · constructor
    · intro ht
      rcases List.mem_append.1 ht with ht | ht
      · rcases List.mem_append.1 ht with ht | ht
        · exact .inr (by rw [← h3]; exact List.mem_append_left _ ht)
        · exact .inl (List.mem_singleton.1 ht)
      · exact .inr (by rw [← h3]; exact List.mem_append_right _ ht)
    · rintro (rfl | ht)
      · simp
      · rw [← h3] at ht
        rcases List.mem_append.1 ht with ht | ht
        · exact List.mem_append_left _ (List.mem_append_left _ ht)
        · exact List.mem_append_right _ ht
theorem snap_sim (s : Sim x y) (r : RInv K y) {p : Op1} (h12 : p.do_ ≠ 12) {sp : Bool} {e n : Int} (h : SnapX x p sp e n x') :
    e = (shotsR y p sp).1 ∧ n = (shotsR y p sp).2.1 ∧ Sim x' (shotsR y p sp).2.2 ∧ RInv K (shotsR y p sp).2.2 := by
  unfold SnapX at h
  unfold shotsR
  by_cases hn : nameOk p.shot = false
  · rw [if_pos hn] at h ⊢
    obtain ⟨rfl, rfl, rfl⟩ := h
    exact ⟨rfl, rfl, s, r⟩
  rw [if_neg hn] at h ⊢
  rw [if_neg h12]
  have hB := (heldOf_eq p.shot r.ss).1
  have hlen : x.shots.length = y.S.length := by
    have p1 := perm_of_mem s.sN (nd_of_lt r.ss) fun k => by
      rw [← aget_isSome, ← aget_isSome]
      cases ha : aget x.shots k with
      | none => rw [s.s2 _ ha]
      | some m =>
        obtain ⟨l, hl, _⟩ := s.s1 _ _ ha
        rw [hl]; exact ⟨fun _ => rfl, fun _ => rfl⟩
    have := p1.length_eq
    simpa using this
  cases ha : aget x.shots p.shot with
  | some m =>
    rw [if_pos (by rw [ha]; simp)] at h
    obtain ⟨rfl, rfl, rfl⟩ := h
    obtain ⟨l, hl, _⟩ := s.s1 _ _ ha
    rw [hl] at hB
    replace hB : shotB y.S p.shot = true := hB
    rw [if_pos hB]; exact ⟨rfl, rfl, s, r⟩
  | none =>
    rw [if_neg (by rw [ha]; simp)] at h
    rw [s.s2 _ ha] at hB
    have hB : shotB y.S p.shot = false := hB
    rw [if_neg (by rw [hB]; simp)]
    have hsl := r.sl
    by_cases h16 : x.shots.length = 16
    · rw [if_pos h16] at h
      obtain ⟨rfl, rfl, rfl⟩ := h
      rw [if_pos (by omega)]; exact ⟨rfl, rfl, s, r⟩
    rw [if_neg h16] at h
    rw [if_neg (by omega)]
    cases sp with
    | true =>
      rw [if_pos rfl] at h ⊢
      obtain ⟨rfl, rfl, rfl⟩ := h
      exact ⟨rfl, rfl, s, r⟩
    | false =>
      rw [if_neg (by simp)] at h ⊢
      obtain ⟨rfl, rfl, ks, hk, rfl⟩ := h
      rw [names_sim s r hk]
      have hlt := rnamesI_lt r.vs y.V.length
      have hso : shotOf (rnames y.V) = rnames y.V := shotOf_eq (rnames y.V) [] (nd_of_lt hlt)
      rw [hso]
      obtain ⟨i1, i2⟩ := shot_split r.ss (p.shot, rnames y.V) hB
      have hag : ∀ t, aget (insS y.S (shotI y.S p.shot) (p.shot, rnames y.V)) t = if t = p.shot then some (rnames y.V) else aget y.S t := fun t => by
        by_cases ht : t = p.shot
        · rw [if_pos ht, ht]
          exact aget_of_mem (nd_of_lt i1) ((i2 _).2 (.inl rfl))
        · rw [if_neg ht]
          cases hy : aget y.S t with
          | some l => exact aget_of_mem (nd_of_lt i1) ((i2 _).2 (.inr (mem_of_aget hy)))
          | none =>
            refine aget_none fun l hl => ?_
            rcases (i2 _).1 hl with h | h
            · exact ht (congrArg Prod.fst h)
            · rw [aget_of_mem (nd_of_lt r.ss) h] at hy; cases hy
      refine ⟨rfl, rfl, { s with sN := nodup_aset s.sN _ _, s1 := fun t m hm => ?_, s2 := fun t hm => ?_ }, { r with ss := i1, sl := ?_, sh := fun t ht => ?_, sv := fun t ht h hh => ?_, vw := fun z hz hg => ?_ }⟩
      · replace hm : aget (aset x.shots p.shot (rnames y.V)) t = some m := hm
        show ∃ l, aget (insS y.S (shotI y.S p.shot) (p.shot, rnames y.V)) t = some l ∧ m.Perm l
        rw [aget_aset] at hm
        rw [hag]
        by_cases ht : t = p.shot
        · rw [if_pos ht] at hm ⊢
          cases hm; exact ⟨_, rfl, .refl _⟩
        · rw [if_neg ht] at hm ⊢; exact s.s1 t m hm
      · replace hm : aget (aset x.shots p.shot (rnames y.V)) t = none := hm
        show aget (insS y.S (shotI y.S p.shot) (p.shot, rnames y.V)) t = none
        rw [aget_aset] at hm
        rw [hag]
        by_cases ht : t = p.shot
        · rw [if_pos ht] at hm; cases hm
        · rw [if_neg ht] at hm ⊢; exact s.s2 t hm
      · have h1 := r.vw z hz hg
        unfold rheldB at h1 ⊢
        rw [List.any_eq_true] at h1 ⊢
        obtain ⟨t, ht, e⟩ := h1
        exact ⟨t, (i2 t).2 (.inr ht), e⟩
      · show (insS y.S (shotI y.S p.shot) (p.shot, rnames y.V)).length ≤ 16
        rw [List.length_append, List.length_append, List.length_singleton, List.length_take, List.length_drop]
        have := shotI_le y.S p.shot
        omega
      · rcases (i2 t).1 ht with rfl | ht
        · exact hlt
        · exact r.sh t ht
      · rcases (i2 t).1 ht with rfl | ht
        · obtain ⟨q, hq, e⟩ := mem_rnames.1 hh
          have := rlast_name hq
          exact ⟨q, this.1, this.2.1, e.symm⟩
        · exact r.sv t ht h hh
end
end Go.Proofs.YtbffngeameenoaaGreat
end

section
set_option linter.unusedVariables false
set_option linter.unusedSimpArgs false
namespace Go.Proofs.YtbffngeameenoaaGreat
open Go Go.Au

def memB (l : List (ByteArray × Int)) (n : ByteArray) (g : Int) : Bool := l.any fun h => decide (h = (n, g))
theorem memB_iff (l : List (ByteArray × Int)) (n : ByteArray) (g : Int) : memB l n g = true ↔ (n, g) ∈ l := by
  unfold memB
  rw [List.any_eq_true]
  constructor
  · rintro ⟨h, hm, e⟩; rw [decide_eq_true_eq] at e; exact e ▸ hm
  · exact fun h => ⟨_, h, by simp⟩
theorem memB_snoc (l : List (ByteArray × Int)) (h : ByteArray × Int) (n : ByteArray) (g : Int) : memB (l ++ [h]) n g = (memB l n g || one h.1 h.2 n g) := by
  have e : decide (h = (n, g)) = one h.1 h.2 n g := by
    unfold one
    obtain ⟨a, b⟩ := h
    rw [Bool.eq_iff_iff]
    simp only [decide_eq_true_eq, Bool.and_eq_true, Prod.mk.injEq]
    exact ⟨fun h => ⟨h.1.symm, h.2.symm⟩, fun h => ⟨h.1.symm, h.2.symm⟩⟩
  unfold memB
  rw [List.any_append, List.any_cons, List.any_nil, Bool.or_false, e]
/-- marks and sweeps, one behind the other -/
theorem sweep_twice (n : ByteArray) (M N : ByteArray → Int → Bool) (H : Int → Bool) : ∀ l : List Ver,
    keepF (fun v => v.gone && !H v.gen) ((keepF (fun v => v.gone && !H v.gen) (l.map (mkX M n))).map (mkX N n)) = keepF (fun v => v.gone && !H v.gen) (l.map (mkX (fun n g => M n g || N n g) n))
  | [] => rfl
  | v :: l => by
    have ih := sweep_twice n M N H l
    unfold keepF at ih ⊢
    simp only [List.map_cons, List.filter_cons]
    have hg1 := mkX_gen M n v
    have hg2 := mkX_gen (fun n g => M n g || N n g) n v
    have hmm : mkX N n (mkX M n v) = mkX (fun n g => M n g || N n g) n v := by
      unfold mkX
      by_cases h1 : M n v.gen = true
      · by_cases h2 : N n v.gen = true
        · simp [h1, h2]
        · simp [h1, h2]
      · by_cases h2 : N n v.gen = true
        · simp [h1, h2]
        · simp [h1, h2]
    by_cases hd : (!((mkX M n v).gone && !H (mkX M n v).gen)) = true
    · rw [if_pos hd, List.map_cons, List.filter_cons, hmm, ih]
    · rw [if_neg hd]
      have hd2 : ¬ (!((mkX (fun n g => M n g || N n g) n v).gone && !H (mkX (fun n g => M n g || N n g) n v).gen)) = true := by
        rw [hg1] at hd
        rw [hg2]
        have h3 : (mkX M n v).gone = true → (mkX (fun n g => M n g || N n g) n v).gone = true := by
          unfold mkX
          by_cases h1 : M n v.gen = true
          · simp [h1]
          · by_cases h2 : N n v.gen = true
            · simp [h1, h2]
            · simp [h1, h2]
        cases hh : (mkX M n v).gone with
        | false => rw [hh] at hd; simp at hd
        | true => rw [h3 hh]; rw [hh] at hd; exact hd
      rw [if_neg hd2]; exact ih
section
variable {K : Int} {x x' : XM} {y : RM}
structure DropV (x : XM) (y : RM) (l : List (ByteArray × Int)) (x' : XM) : Prop where
  shots : x'.shots = x.shots
  sess : x'.sess = x.sess
  began : x'.began = x.began
  now : x'.now = x.now
  quota : x'.quota = x.quota
  nd : ND x'
  ff : ∀ n, filesOf x' n = keepF (fun v => v.gone && !rheldB y.S n v.gen) ((filesOf x n).map (mkX (memB l) n))
  ne : ∀ q ∈ x'.files, q.2 ≠ []
theorem swept_id (s : Sim x y) (r : RInv K y) (n : ByteArray) : keepF (fun v => v.gone && !rheldB y.S n v.gen) (filesOf x n) = filesOf x n := by
  unfold keepF
  rw [List.filter_eq_self, s.ff]
  intro v hv
  obtain ⟨q, hq, rfl, rfl⟩ := mem_vers.1 hv
  show (!((toVer q).gone && !rheldB y.S q.name q.gen)) = true
  cases hg : (toVer q).gone with
  | false => rfl
  | true =>
    rw [r.vw q hq hg]; rfl
theorem drops_view (s : Sim x y) (r : RInv K y) : ∀ {gl : List (ByteArray × Int)} {x' : XM}, Drops x gl x' → (∀ h ∈ gl, h.2 ≠ 0) → DropV x y gl x' := by
  intro gl x' h
  induction h with
  | nil => exact fun _ => ⟨rfl, rfl, rfl, rfl, rfl, s.fN, fun n => by rw [show (memB ([] : List (ByteArray × Int))) = fun _ _ => false from rfl, mkX_none, swept_id s r], s.fe⟩
  | @snoc y1 z l h i hd hl hs ih =>
    intro hg
    have d := ih fun q hq => hg q (List.mem_append_left _ hq)
    have hg0 := hg h (List.mem_append_right _ (List.mem_singleton.2 rfl))
    obtain ⟨v, hv, hp⟩ := lastI_spec hl
    have hvg : v.gen = h.2 := by
      simp only [liveP, Bool.and_eq_true, Bool.or_eq_true, beq_iff_eq] at hp
      exact hp.2.resolve_left hg0
    have hnd : ((filesOf y1 h.1).map (·.gen)).Nodup := by
      rw [d.ff]
      refine List.Nodup.sublist (List.filter_sublist.map _) ?_
      rw [List.map_map, show ((·.gen) ∘ mkX (memB l) h.1 : Ver → Int) = (·.gen) from funext fun v => mkX_gen _ _ _, s.ff]
      exact vers_nd r.vs _
    have hV := hs.view (d.nd.markG _ _)
    obtain ⟨g1, g2, g3, g4, g5⟩ := markG_same hv
    have hmk := markG_mk hnd hv
    refine ⟨by rw [hV.shots, g1, d.shots], by rw [hV.sess, g2, d.sess], by rw [hV.began, g3, d.began], by rw [hV.now, g4, d.now], by rw [hV.quota, g5, d.quota], hV.nd, fun n => ?_, hV.ne⟩
    have hgen : ∀ w ∈ (filesOf y1 n).map (mkX (one h.1 h.2) n), w.gen ≠ 0 := fun w hw => by
      obtain ⟨a, ha, rfl⟩ := List.mem_map.1 hw
      rw [mkX_gen]
      rw [d.ff] at ha
      obtain ⟨c, hc, rfl⟩ := List.mem_map.1 (List.mem_filter.1 ha).1
      rw [mkX_gen]; exact file_gen s r hc
    rw [hV.fo, hmk, hvg, drop_eq s r (by rw [g1, d.shots]) n hgen, d.ff, sweep_twice n (memB l) (one h.1 h.2) (rheldB y.S n)]
    congr 2
    funext v
    unfold mkX
    rw [memB_snoc]
/-! #### Which generations do not stay -/
def liveR (V : List RVer) (n : ByteArray) : List RVer := (ofName V n).filter fun q => !q.gone
theorem liveL_eq (s : Sim x y) (n : ByteArray) : liveL x n = (liveR y.V n).map toVer := by
  unfold liveL keepF liveR
  rw [s.ff]
  unfold vers
  rw [List.filter_map]; rfl
theorem liveR_lt (r : RInv K y) (n : ByteArray) : (liveR y.V n).Pairwise fun a c => a.gen < c.gen := (ofName_lt r.vs n).filter _
theorem elig_eq (V : List RVer) (q : RVer) : V.filter (rElig q) = liveR V q.name := by
  unfold liveR ofName
  rw [List.filter_filter]
  refine List.filter_congr fun w _ => ?_
  unfold rElig
  rw [Bool.and_comm]
theorem filter_gt {l : List RVer} (h : l.Pairwise fun a c => a.gen < c.gen) {j : Nat} {q : RVer} (hq : l[j]? = some q) : l.filter (fun w => decide (w.gen > q.gen)) = l.drop (j + 1) := by
  induction l generalizing j with
  | nil => cases hq
  | cons a l ih =>
    rw [List.pairwise_cons] at h
    cases j with
    | zero =>
      cases hq
      rw [List.filter_cons_of_neg (by simp), List.drop_succ_cons, List.drop_zero, List.filter_eq_self]
      intro w hw
      have := h.1 w hw
      simp only [decide_eq_true_eq]; omega
    | succ j =>
      rw [List.getElem?_cons_succ] at hq
      have := h.1 q (List.mem_of_getElem? hq)
      rw [List.filter_cons_of_neg (by simp only [decide_eq_true_eq]; omega), ih h.2 hq, List.drop_succ_cons]
theorem rLater_elig (step : Int) (q : RVer) : ∀ (V : List RVer) (l : List Int), V.foldl (rLater1 step q) l = (V.filter (rElig q)).foldl (rLater1 step q) l
  | [], l => rfl
  | w :: V, l => by
    rw [List.foldl_cons, rLater_elig step q V]
    by_cases h : rElig q w = true
    · rw [List.filter_cons_of_pos h, List.foldl_cons]
    · rw [List.filter_cons_of_neg h]
      have : rLater1 step q l w = l := by unfold rLater1; rw [if_neg (by simp [h])]
      rw [this]
theorem later_mem {step s0 : Int} (q : RVer) (hs0 : s0 = slotX step q.time) : ∀ (L : List RVer) (m : List (Int × Bool)) (l : List Int), (∀ w ∈ L, rElig q w = true) → (m.map (·.1)).Nodup → l.Nodup → (∀ t, t ∈ m.map (·.1) ↔ t ∈ l) →
    ((L.map toVer).foldl (later1 step s0) m).length = (L.foldl (rLater1 step q) l).length
  | [], m, l, _, hm, hl, hml => by
    have := (perm_of_mem hm hl hml).length_eq
    simpa using this
  | w :: L, m, l, he, hm, hl, hml => by
    rw [List.map_cons, List.foldl_cons, List.foldl_cons]
    have hw := he w List.mem_cons_self
    have he' : ∀ z ∈ L, rElig q z = true := fun z hz => he z (List.mem_cons_of_mem _ hz)
    have hany : (l.any fun s => s == slotX step w.time) = true ↔ slotX step w.time ∈ l := by simp
    unfold later1
    show List.length (List.foldl _ (if s0 < slotX step w.time then aset m (slotX step w.time) true else m) _) = _
    by_cases hgt : s0 < slotX step w.time
    · rw [if_pos hgt]
      by_cases hin : slotX step w.time ∈ l
      · have e : rLater1 step q l w = l := by unfold rLater1; rw [if_neg (by rw [hany.2 hin]; simp)]
        rw [e]
        refine later_mem q hs0 L _ l he' (nodup_aset hm _ _) hl fun t => ?_
        rw [keys_aset, hml]
        exact ⟨fun h => h.elim (fun e => e ▸ hin) id, .inr⟩
      · have hna : (l.any fun s => s == slotX step w.time) = false := by
          cases h : (l.any fun s => s == slotX step w.time) with
          | false => rfl
          | true => exact absurd (hany.1 h) hin
        have e : rLater1 step q l w = l ++ [slotX step w.time] := by unfold rLater1; rw [if_pos (by rw [hw, hna]; simp; omega)]
        rw [e]
        refine later_mem q hs0 L _ _ he' (nodup_aset hm _ _) (snoc_nd hl hin) fun t => ?_
        rw [keys_aset, hml, List.mem_append, List.mem_singleton]
        exact Or.comm
    · rw [if_neg hgt]
      have e : rLater1 step q l w = l := by unfold rLater1; rw [if_neg (by simp; omega)]
      rw [e]
      exact later_mem q hs0 L m l he' hm hl hml
theorem stays_sim (s : Sim x y) (r : RInv K y) (k : Kp) {q : RVer} {j : Nat} (hq : (liveR y.V q.name)[j]? = some q) : staysX x.now (liveL x q.name) j (toVer q) k = rstays y.now q k y.V := by
  have hlt := liveR_lt r q.name
  have hj := (List.getElem?_eq_some_iff.1 hq).1
  have hfg := filter_gt hlt hq
  have hel : ∀ w ∈ liveR y.V q.name, rElig q w = true := fun w hw => by
    rw [← elig_eq] at hw; exact (List.mem_filter.1 hw).2
  have hA : rAfter q y.V = (liveR y.V q.name).length - (j + 1) := by
    unfold rAfter
    rw [show (y.V.filter fun w => rElig q w && decide (w.gen > q.gen)) = ((y.V.filter (rElig q)).filter fun w => decide (w.gen > q.gen)) from by rw [List.filter_filter]; exact List.filter_congr fun w _ => Bool.and_comm _ _, elig_eq, hfg, List.length_drop]
  have hS : rSame k.step q y.V = ((liveL x q.name).drop (j + 1)).any fun v => slotX k.step v.time == slotX k.step q.time := by
    rw [liveL_eq s, ← List.map_drop, ← hfg, List.any_map]
    unfold rSame
    rw [← elig_eq, List.filter_filter, List.any_filter]
    congr 1
    funext w
    simp only [Function.comp]
    cases rElig q w <;> cases decide (w.gen > q.gen) <;> rfl
  have hL : (rLater k.step q y.V).length = (laterX k.step (slotX k.step q.time) (liveL x q.name)).length := by
    unfold rLater laterX
    rw [rLater_elig, elig_eq, liveL_eq s]
    exact (later_mem q rfl _ [] [] hel List.Pairwise.nil List.Pairwise.nil (by simp)).symm
  unfold staysX rstays
  rw [hL, hS, hA, s.nw]
  have hlen : (liveL x q.name).length = (liveR y.V q.name).length := by rw [liveL_eq s, List.length_map]
  have e1 : decide (((liveL x q.name).length : Int) - j ≤ k.last) = decide ((((liveR y.V q.name).length - (j + 1) : Nat) : Int) < k.last) := by
    rw [hlen, Bool.eq_iff_iff, decide_eq_true_eq, decide_eq_true_eq]; omega
  rw [e1]; rfl
theorem gone_sim (s : Sim x y) (r : RInv K y) (k : Kp) {ns : List ByteArray} (hns : ∀ n, n ∈ ns ↔ ∃ q ∈ y.V, q.name = n) (n : ByteArray) (g : Int) : (n, g) ∈ goneL x k ns ↔ ∃ q ∈ y.V, q.name = n ∧ q.gen = g ∧ rdrops y k q = true := by
  unfold goneL
  rw [List.mem_flatMap]
  constructor
  · rintro ⟨nm, hn, hm⟩
    obtain ⟨j, v, h1, h2, h3, h4⟩ := goneI_mem hm
    obtain ⟨rfl, rfl⟩ : n = nm ∧ g = v.gen := by cases h3; exact ⟨rfl, rfl⟩
    rw [liveL_eq s, List.getElem?_map] at h2
    cases hq : (liveR y.V n)[j]? with
    | none => rw [hq] at h2; cases h2
    | some q =>
      rw [hq] at h2; cases h2
      have hqm := List.mem_filter.1 (List.mem_of_getElem? hq)
      have hqV := List.mem_filter.1 hqm.1
      have hqn : q.name = n := by simpa using hqV.2
      subst hqn
      refine ⟨q, hqV.1, rfl, rfl, ?_⟩
      rw [stays_sim s r k hq] at h4
      unfold rdrops
      rw [h4]
      simpa using hqm.2
  · rintro ⟨q, hq, rfl, rfl, hd⟩
    have hd' : q.gone = false ∧ rstays y.now q k y.V = false := by
      unfold rdrops at hd; simpa using hd
    have hm : q ∈ liveR y.V q.name := List.mem_filter.2 ⟨List.mem_filter.2 ⟨hq, by simp⟩, by simp [hd'.1]⟩
    obtain ⟨j, hj, e⟩ := List.getElem_of_mem hm
    have hqj : (liveR y.V q.name)[j]? = some q := by rw [List.getElem?_eq_getElem hj, e]
    refine ⟨q.name, (hns _).2 ⟨q, hq, rfl⟩, ?_⟩
    have hlen : (liveL x q.name).length = (liveR y.V q.name).length := by rw [liveL_eq s, List.length_map]
    have key : ∀ i : Nat, j < i → (q.name, q.gen) ∈ goneI x.now (liveL x q.name) k q.name i := by
      intro i
      induction i with
      | zero => omega
      | succ i ih =>
        intro hji
        unfold goneI
        rcases Nat.lt_or_ge j i with h | h
        · exact List.mem_append_left _ (ih h)
        · have : j = i := by omega
          subst this
          refine List.mem_append_right _ ?_
          have h5 : (liveL x q.name)[j]? = some (toVer q) := by rw [liveL_eq s, List.getElem?_map, hqj]; rfl
          rw [h5]
          dsimp only
          rw [stays_sim s r k hqj, hd'.2]
          simp [toVer]
    exact key _ (by omega)
theorem expire_sim (s : Sim x y) (r : RInv K y) (a : XAll x) {p : Op1} {e n : Int} (h : ExpireX x p e n x') :
    e = (expireR y (kpOf p)).1 ∧ n = (expireR y (kpOf p)).2.1 ∧ Sim x' (expireR y (kpOf p)).2.2 ∧ RInv K (expireR y (kpOf p)).2.2 := by
  unfold ExpireX at h
  unfold expireR
  by_cases hb : expOk p = false
  · rw [if_pos hb] at h
    obtain ⟨rfl, rfl, rfl⟩ := h
    rw [if_pos (show expOkK (kpOf p) = false from hb)]; exact ⟨rfl, rfl, s, r⟩
  rw [if_neg hb] at h
  rw [if_neg (show ¬ expOkK (kpOf p) = false from hb)]
  obtain ⟨ks, hk, rfl, rfl, hd⟩ := h
  have hns : ∀ n, n ∈ sortB ks ↔ ∃ q ∈ y.V, q.name = n := fun n => by rw [((sortB_perm ks).trans hk).mem_iff, s.keys]
  have hgs := gone_sim s r (kpOf p) hns
  have hnd := gone_nd a (kpOf p) (sortB_nd s.fN hk)
  have hg0 : ∀ h ∈ goneL x (kpOf p) (sortB ks), h.2 ≠ 0 := fun h hh => (gone_live a _ _ h hh).2
  have d := drops_view s r hd hg0
  have hM : ∀ q ∈ y.V, memB (goneL x (kpOf p) (sortB ks)) q.name q.gen = rdrops y (kpOf p) q := fun q hq => by
    rw [Bool.eq_iff_iff, memB_iff, hgs]
    constructor
    · rintro ⟨z, hz, e1, e2, e3⟩
      obtain ⟨i, hi, ez⟩ := List.getElem_of_mem hz
      obtain ⟨j, hj, eq⟩ := List.getElem_of_mem hq
      have hz' : z = q := by
        have hvn := vkey_nd r.vs
        rw [List.nodup_iff_pairwise_ne, List.pairwise_map] at hvn
        rcases Nat.lt_trichotomy i j with t | t | t
        · exact absurd (by rw [ez, eq, e1, e2]) (List.pairwise_iff_getElem.1 hvn i j hi hj t)
        · subst t; exact ez.symm.trans eq
        · exact absurd (by rw [ez, eq, e1, e2]) (List.pairwise_iff_getElem.1 hvn j i hj hi t)
      exact hz' ▸ e3
    · exact fun e => ⟨q, hq, rfl, rfl, e⟩
  have hmark : y.V.map (rmark y (kpOf p)) = y.V.map (mkR (memB (goneL x (kpOf p) (sortB ks)))) := List.map_congr_left fun q hq => by
    unfold rmark mkR
    rw [hM q hq]
  have hcount : (goneL x (kpOf p) (sortB ks)).length = (y.V.filter (rdrops y (kpOf p))).length := by
    have h1 : ((y.V.filter (rdrops y (kpOf p))).map fun q => (q.name, q.gen)).Nodup := (vkey_nd r.vs).sublist (List.filter_sublist.map _)
    have := (perm_of_mem hnd h1 fun h => by
      obtain ⟨n, g⟩ := h
      rw [hgs, List.mem_map]
      constructor
      · rintro ⟨q, hq, rfl, rfl, e⟩; exact ⟨q, List.mem_filter.2 ⟨hq, e⟩, rfl⟩
      · rintro ⟨q, hq, e⟩
        have := List.mem_filter.1 hq
        cases e
        exact ⟨q, this.1, rfl, rfl, this.2⟩).length_eq
    rwa [List.length_map] at this
  rw [hcount, hmark]
  exact ⟨rfl, rfl, sweep_sim s r _ y.S d.nd d.ff d.ne (by rw [d.shots]; exact s.sN) (by rw [d.shots]; exact s.s1) (by rw [d.shots]; exact s.s2) d.sess d.began d.now d.quota, sweep_inv r _ y.S r.ss r.sl r.sh r.sv⟩
end
end Go.Proofs.YtbffngeameenoaaGreat
end

section
set_option linter.unusedVariables false
set_option linter.unusedSimpArgs false
namespace Go.Proofs.YtbffngeameenoaaGreat
open Go Go.Au

section
variable {K : Int} {x x' : XM} {y : RM}
theorem quota_write (y : RM) (p : Op1) (sp : Bool) : (writeR y p sp).2.2.quota = y.quota := by
  unfold writeR
  split
  · rfl
  · split
    · rfl
    · split
      · rfl
      · split
        · rfl
        · split <;> rfl
theorem quota_commit (y : RM) (p : Op1) (sp : Bool) : (commitR y p sp).2.2.quota = y.quota := by
  unfold commitR
  split
  · rfl
  · split
    · rfl
    · split
      · rfl
      · split <;> rfl
theorem quota_do (y : RM) (p : Op1) (sp : Bool) : (doR y p sp).2.quota = y.quota := by
  have h1 : (beginR y p).2.2.quota = y.quota := by
    unfold beginR
    split
    · rfl
    · split <;> rfl
  have h4 : (abortR y p).2.2.quota = y.quota := by unfold abortR; split <;> rfl
  have h10 : (deleteR y p).2.2.quota = y.quota := by
    unfold deleteR
    split
    · rfl
    · split <;> rfl
  have h11 : (shotsR y p sp).2.2.quota = y.quota := by
    unfold shotsR
    split
    · rfl
    · split
      · split <;> rfl
      · split
        · rfl
        · split
          · rfl
          · split <;> rfl
  have h13 : (tickR y p).2.2.quota = y.quota := by unfold tickR; split <;> rfl
  have h14 : (expireR y (kpOf p)).2.2.quota = y.quota := by unfold expireR; split <;> rfl
  have h15 : (cleanR y p sp).2.2.quota = y.quota := by
    unfold cleanR
    split
    · rfl
    · split <;> rfl
  unfold doR
  by_cases c1 : p.do_ = 1
  · rw [if_pos c1]; exact h1
  rw [if_neg c1]
  by_cases c2 : p.do_ = 2
  · rw [if_pos c2]; exact quota_write y p sp
  rw [if_neg c2]
  by_cases c3 : p.do_ = 3
  · rw [if_pos c3]; exact quota_commit y p sp
  rw [if_neg c3]
  by_cases c4 : p.do_ = 4
  · rw [if_pos c4]; exact h4
  rw [if_neg c4]
  by_cases c5 : p.do_ = 5 ∨ p.do_ = 6 ∨ p.do_ = 7 ∨ p.do_ = 8 ∨ p.do_ = 9
  · rw [if_pos c5]
  rw [if_neg c5]
  by_cases c10 : p.do_ = 10
  · rw [if_pos c10]; exact h10
  rw [if_neg c10]
  by_cases c11 : p.do_ = 11 ∨ p.do_ = 12
  · rw [if_pos c11]; exact h11
  rw [if_neg c11]
  by_cases c13 : p.do_ = 13
  · rw [if_pos c13]; exact h13
  rw [if_neg c13]
  by_cases c14 : p.do_ = 14
  · rw [if_pos c14]; exact h14
  rw [if_neg c14]
  by_cases c15 : p.do_ = 15
  · rw [if_pos c15]; exact h15
  rw [if_neg c15]
  by_cases c16 : p.do_ = 16 ∨ p.do_ = 17 ∨ p.do_ = 18 ∨ p.do_ = 19 ∨ p.do_ = 20 ∨ p.do_ = 21
  · rw [if_pos c16]
  · rw [if_neg c16]
theorem step_sim (s : Sim x y) (r : RInv K y) (a : XAll x) {p : Op1} {sp : Bool} {u : Ans} (h : DoX x p sp u x') :
    u = (doR y p sp).1 ∧ Sim x' (doR y p sp).2 ∧ RInv (K + 1) (doR y p sp).2 := by
  have hK : K ≤ K + 1 := by omega
  have plain : ∀ {t : Int × Int × XM} {t' : Int × Int × RM}, plX t u x' → t.1 = t'.1 ∧ t.2.1 = t'.2.1 ∧ Sim t.2.2 t'.2.2 ∧ RInv (K + 1) t'.2.2 → u = (plR t').1 ∧ Sim x' (plR t').2 ∧ RInv (K + 1) (plR t').2 := by
    rintro t t' ⟨rfl, rfl⟩ ⟨h1, h2, h3, h4⟩
    exact ⟨by unfold plR; rw [h1, h2], h3, h4⟩
  have exi : ∀ {Q : Int → Int → XM → Prop} {t' : Int × Int × RM}, exX Q u x' → (∀ e n, Q e n x' → e = t'.1 ∧ n = t'.2.1 ∧ Sim x' t'.2.2 ∧ RInv K t'.2.2) → u = (plR t').1 ∧ Sim x' (plR t').2 ∧ RInv (K + 1) (plR t').2 := by
    rintro Q t' ⟨e, n, hQ, rfl⟩ hh
    obtain ⟨h1, h2, h3, h4⟩ := hh e n hQ
    exact ⟨by unfold plR; rw [h1, h2], h3, h4.mono hK⟩
  have up : ∀ {t : Int × Int × XM} {t' : Int × Int × RM}, (t.1 = t'.1 ∧ t.2.1 = t'.2.1 ∧ Sim t.2.2 t'.2.2 ∧ RInv K t'.2.2) → t.1 = t'.1 ∧ t.2.1 = t'.2.1 ∧ Sim t.2.2 t'.2.2 ∧ RInv (K + 1) t'.2.2 := fun h => ⟨h.1, h.2.1, h.2.2.1, h.2.2.2.mono hK⟩
  unfold DoX at h
  unfold doR
  by_cases h1 : p.do_ = 1
  · rw [if_pos h1] at h ⊢; exact plain h (begin_sim s r p)
  rw [if_neg h1] at h ⊢
  by_cases h2 : p.do_ = 2
  · rw [if_pos h2] at h ⊢; exact plain h (up (write_sim s r p sp))
  rw [if_neg h2] at h ⊢
  by_cases h3 : p.do_ = 3
  · rw [if_pos h3] at h ⊢; exact plain h (commit_sim s r p sp)
  rw [if_neg h3] at h ⊢
  by_cases h4 : p.do_ = 4
  · rw [if_pos h4] at h ⊢; exact plain h (up (abort_sim s r p))
  rw [if_neg h4] at h ⊢
  by_cases h5 : p.do_ = 5 ∨ p.do_ = 6 ∨ p.do_ = 7 ∨ p.do_ = 8 ∨ p.do_ = 9
  · rw [if_pos h5] at h ⊢
    obtain ⟨ht, rfl⟩ := h
    exact ⟨told_sim s r h5 ht, s, r.mono hK⟩
  rw [if_neg h5] at h ⊢
  by_cases h10 : p.do_ = 10
  · rw [if_pos h10] at h ⊢; exact exi h fun e n hQ => delete_sim s r hQ
  rw [if_neg h10] at h ⊢
  by_cases h11 : p.do_ = 11
  · rw [if_pos h11] at h
    rw [if_pos (.inl h11)]; exact exi h fun e n hQ => snap_sim s r (by omega) hQ
  rw [if_neg h11] at h
  by_cases h12 : p.do_ = 12
  · rw [if_pos h12] at h
    rw [if_pos (.inr h12)]; exact exi h fun e n hQ => unsnap_sim s r h12 sp hQ
  rw [if_neg h12] at h
  rw [if_neg (fun h => h.elim h11 h12)]
  by_cases h13 : p.do_ = 13
  · rw [if_pos h13] at h ⊢; exact plain h (up (tick_sim s r p))
  rw [if_neg h13] at h ⊢
  by_cases h14 : p.do_ = 14
  · rw [if_pos h14] at h ⊢; exact exi h fun e n hQ => expire_sim s r a hQ
  rw [if_neg h14] at h ⊢
  by_cases h15 : p.do_ = 15
  · rw [if_pos h15] at h ⊢; exact plain h (up (clean_sim s r p sp))
  rw [if_neg h15] at h ⊢
  by_cases h16 : p.do_ = 16 ∨ p.do_ = 17 ∨ p.do_ = 18 ∨ p.do_ = 19 ∨ p.do_ = 20 ∨ p.do_ = 21
  · rw [if_pos h16] at h ⊢
    obtain ⟨rfl, rfl⟩ := h
    exact ⟨rfl, s, r.mono hK⟩
  rw [if_neg h16] at h ⊢
  obtain ⟨rfl, rfl⟩ := h
  exact ⟨rfl, s, r.mono hK⟩
end
/-! #### The same -/
theorem eqM_iff {κ β : Type} [DecidableEq κ] {q : β → β → Bool} {m m' : List (κ × β)} (hn : (m.map (·.1)).Nodup) (hn' : (m'.map (·.1)).Nodup) :
    eqM q m m' = true ↔ (∀ k v, aget m k = some v → ∃ v', aget m' k = some v' ∧ q v v' = true) ∧ (∀ k, aget m k = none → aget m' k = none) := by
  unfold eqM
  rw [Bool.and_eq_true, decide_eq_true_eq, List.all_eq_true]
  have hall : (∀ p ∈ m, eqE q m' p = true) ↔ ∀ k v, aget m k = some v → ∃ v', aget m' k = some v' ∧ q v v' = true := by
    constructor
    · intro h k v hk
      have := h _ (mem_of_aget hk)
      unfold eqE at this
      cases ha : aget m' k with
      | none => rw [ha] at this; cases this
      | some v' => rw [ha] at this; exact ⟨v', rfl, this⟩
    · rintro h ⟨k, v⟩ hp
      obtain ⟨v', h1, h2⟩ := h k v ((mem_iff_aget hn).1 hp)
      unfold eqE
      rw [h1]; exact h2
  rw [hall]
  constructor
  · rintro ⟨hl, h⟩
    refine ⟨h, fun k hk => ?_⟩
    -- asz many keys on both sides
    cases hk' : aget m' k with
    | none => rfl
    | some v' =>
      exfalso
      have hsub : ∀ z ∈ m.map (·.1) ++ [k], z ∈ m'.map (·.1) := fun z hz => by
        rcases List.mem_append.1 hz with hz | hz
        · obtain ⟨v, hv⟩ := Option.isSome_iff_exists.1 (aget_isSome.2 hz)
          obtain ⟨w, hw, _⟩ := h z v hv
          exact aget_isSome.1 (by rw [hw]; rfl)
        · cases List.mem_singleton.1 hz
          exact aget_isSome.1 (by rw [hk']; rfl)
      have hnk : k ∉ m.map (·.1) := fun hm => by
        have := aget_isSome.2 hm
        rw [hk] at this; cases this
      have := nd_len (snoc_nd hn hnk) hsub
      rw [List.length_append, List.length_map, List.length_map, List.length_singleton] at this
      omega
  · rintro ⟨h1, h2⟩
    refine ⟨?_, h1⟩
    have p := perm_of_mem hn hn' fun k => by
      rw [← aget_isSome, ← aget_isSome]
      cases ha : aget m k with
      | none => rw [h2 k ha]
      | some v =>
        obtain ⟨v', hv', _⟩ := h1 k v ha
        rw [hv']; exact ⟨fun _ => rfl, fun _ => rfl⟩
    have := p.length_eq
    simpa using this
theorem eqA_iff {m m' : List (ByteArray × Int)} (hn : (m.map (·.1)).Nodup) (hn' : (m'.map (·.1)).Nodup) : eqA m m' = true ↔ m.Perm m' := by
  have h : eqA m m' = eqM (fun a c : Int => decide (a = c)) m m' := by
    unfold eqA eqM
    congr 1
    congr 1
    funext p
    unfold eqE
    cases aget m' p.1 with
    | none => simp
    | some v =>
      rw [Bool.eq_iff_iff]
      simp [eq_comm]
  rw [h, eqM_iff hn hn']
  constructor
  · rintro ⟨h1, h2⟩
    refine perm_of_aget hn hn' fun k => ?_
    cases ha : aget m k with
    | none => exact (h2 k ha).symm
    | some v =>
      obtain ⟨v', e1, e2⟩ := h1 k v ha
      rw [e1, of_decide_eq_true e2]
  · intro p
    have ha := fun k => aget_perm p hn k
    exact ⟨fun k v h => ⟨v, by rw [← ha]; exact h, by simp⟩, fun k h => by rw [← ha]; exact h⟩
theorem sorted_of_names {V V' : List RVer} (h : V.Pairwise vlt) (h' : V'.Pairwise vlt) (e : ∀ nm, ofName V nm = ofName V' nm) : V = V' := by
  refine sorted_eq vlt_irrefl vlt_asymm h h' fun q => ?_
  have m1 : ∀ W : List RVer, q ∈ W ↔ q ∈ ofName W q.name := fun W => ⟨fun h => List.mem_filter.2 ⟨h, by simp⟩, fun h => (List.mem_filter.1 h).1⟩
  rw [m1 V, e]
  exact (m1 V').symm
theorem vers_inj {V V' : List RVer} {nm : ByteArray} (e : vers V nm = vers V' nm) : ofName V nm = ofName V' nm := by
  have key : ∀ l l' : List RVer, (∀ q ∈ l, q.name = nm) → (∀ q ∈ l', q.name = nm) → l.map toVer = l'.map toVer → l = l' := by
    intro l
    induction l with
    | nil => intro l' _ _ h; cases l' with
      | nil => rfl
      | cons a l' => cases h
    | cons a l ih =>
      intro l' h1 h2 h
      cases l' with
      | nil => cases h
      | cons c l' =>
        rw [List.map_cons, List.map_cons, List.cons.injEq] at h
        rw [ih l' (fun q hq => h1 q (List.mem_cons_of_mem _ hq)) (fun q hq => h2 q (List.mem_cons_of_mem _ hq)) h.2]
        congr 1
        have e1 := h1 a List.mem_cons_self
        have e2 := h2 c List.mem_cons_self
        obtain ⟨a1, a2, a3, a4, a5⟩ := a
        obtain ⟨c1, c2, c3, c4, c5⟩ := c
        have h3 := h.1
        simp only [toVer, Ver.mk.injEq] at h3
        simp only at e1 e2
        simp [h3, e1, e2]
  have hm : ∀ (V : List RVer), ∀ q ∈ ofName V nm, q.name = nm := fun V q hq => by simpa using (List.mem_filter.1 hq).2
  exact key _ _ (hm V) (hm V') e
section
variable {K K' : Int} {x x' : XM} {y y' : RM}
theorem same_files (s : Sim x y) (s' : Sim x' y') (r : RInv K y) (r' : RInv K' y') : eqM (fun a c : List Ver => decide (a = c)) x.files x'.files = decide (y.V = y'.V) := by
  rw [Bool.eq_iff_iff, decide_eq_true_eq, eqM_iff s.fN s'.fN]
  have hf : ∀ {x : XM} {y : RM}, Sim x y → ∀ nm, (aget x.files nm).getD [] = vers y.V nm := fun s nm => s.ff nm
  constructor
  · rintro ⟨h1, h2⟩
    refine sorted_of_names r.vs r'.vs fun nm => vers_inj ?_
    rw [← hf s, ← hf s']
    cases ha : aget x.files nm with
    | none => rw [h2 nm ha]
    | some l =>
      obtain ⟨l', e1, e2⟩ := h1 nm l ha
      rw [e1, of_decide_eq_true e2]
  · intro e
    have hh : ∀ nm, (aget x.files nm).getD [] = (aget x'.files nm).getD [] := fun nm => by rw [hf s, hf s', e]
    refine ⟨fun k v hk => ?_, fun k hk => ?_⟩
    · have := hh k
      rw [hk] at this
      cases ha : aget x'.files k with
      | none => rw [ha] at this; exact absurd this (s.fe _ (mem_of_aget hk))
      | some l' =>
        rw [ha] at this
        have this : v = l' := this
        exact ⟨l', rfl, by rw [this]; simp⟩
    · have := hh k
      rw [hk] at this
      cases ha : aget x'.files k with
      | none => rfl
      | some l' =>
        rw [ha] at this
        have this : [] = l' := this
        exact absurd this.symm (s'.fe _ (mem_of_aget ha))
theorem same_shots (s : Sim x y) (s' : Sim x' y') (r : RInv K y) (r' : RInv K' y') : eqM (fun a c : List (ByteArray × Int) => eqA a c) x.shots x'.shots = decide (y.S = y'.S) := by
  rw [Bool.eq_iff_iff, decide_eq_true_eq, eqM_iff s.sN s'.sN]
  have hN := nd_of_lt r.ss
  have hN' := nd_of_lt r'.ss
  constructor
  · rintro ⟨h1, h2⟩
    refine sorted_eq (R := fun a c : ByteArray × List (ByteArray × Int) => bltB a.1 c.1 = true) (fun a => blt_irrefl _) (fun a c h => blt_asymm h) r.ss r'.ss fun t => ?_
    obtain ⟨k, l⟩ := t
    rw [mem_iff_aget hN, mem_iff_aget hN']
    have main : aget y.S k = aget y'.S k := by
      cases ha : aget x.shots k with
      | none => rw [s.s2 k ha, s'.s2 k (h2 k ha)]
      | some m =>
        obtain ⟨m', e1, e2⟩ := h1 k m ha
        obtain ⟨l1, g1, p1⟩ := s.s1 k m ha
        obtain ⟨l2, g2, p2⟩ := s'.s1 k m' e1
        have hl1 := r.sh _ (mem_of_aget g1)
        have hl2 := r'.sh _ (mem_of_aget g2)
        have n1 : (m.map (·.1)).Nodup := (p1.map _).nodup_iff.2 (nd_of_lt hl1)
        have n2 : (m'.map (·.1)).Nodup := (p2.map _).nodup_iff.2 (nd_of_lt hl2)
        have p3 := (eqA_iff n1 n2).1 e2
        have pl : l1.Perm l2 := (p1.symm.trans p3).trans p2
        rw [g1, g2]
        congr 1
        exact sorted_eq (R := ltN) (fun a => blt_irrefl _) (fun a c h => blt_asymm h) hl1 hl2 fun t => pl.mem_iff
    rw [main]
  · intro e
    refine ⟨fun k m hk => ?_, fun k hk => ?_⟩
    · obtain ⟨l, g, p⟩ := s.s1 k m hk
      rw [e] at g
      cases ha : aget x'.shots k with
      | none => rw [s'.s2 k ha] at g; cases g
      | some m' =>
        obtain ⟨l', g', p'⟩ := s'.s1 k m' ha
        rw [g] at g'; cases g'
        have hl := r'.sh _ (mem_of_aget g)
        have n1 : (m.map (·.1)).Nodup := (p.map _).nodup_iff.2 (nd_of_lt hl)
        have n2 : (m'.map (·.1)).Nodup := (p'.map _).nodup_iff.2 (nd_of_lt hl)
        exact ⟨m', rfl, (eqA_iff n1 n2).2 (p.trans p'.symm)⟩
    · have g := s.s2 k hk
      rw [e] at g
      cases ha : aget x'.shots k with
      | none => rfl
      | some m' =>
        obtain ⟨l', g', _⟩ := s'.s1 k m' ha
        rw [g] at g'; cases g'
theorem same_sim (s : Sim x y) (s' : Sim x' y') (r : RInv K y) (r' : RInv K' y') : sameX x x' = rsame y y' := by
  unfold sameX rsame
  rw [same_files s s' r r', same_shots s s' r r', s.nw, s'.nw]
theorem rsame_comm (y y' : RM) : rsame y y' = rsame y' y := by
  unfold rsame
  rw [Bool.eq_iff_iff]
  simp only [Bool.and_eq_true, decide_eq_true_eq]
  exact ⟨fun h => ⟨h.1.symm, h.2.1.symm, h.2.2.symm⟩, fun h => ⟨h.1.symm, h.2.1.symm, h.2.2.symm⟩⟩
theorem rsame_self (y : RM) : rsame y y = true := by unfold rsame; simp
/-- an error changes no file -/
theorem err_same (y : RM) (p : Op1) (sp : Bool) (h : (doR y p sp).1.1 ≠ 0 ∨ (5 ≤ p.do_ ∧ p.do_ ≤ 9)) : rsame (doR y p sp).2 y = true := by
  have key : ∀ {t : Int × Int × RM}, (t.1 ≠ 0 → t.2.2.V = y.V ∧ t.2.2.S = y.S ∧ t.2.2.now = y.now) → t.1 ≠ 0 → rsame t.2.2 y = true := fun ht h0 => by
    obtain ⟨h1, h2, h3⟩ := ht h0
    unfold rsame
    rw [h1, h2, h3]; simp
  by_cases ht : 5 ≤ p.do_ ∧ p.do_ ≤ 9
  · have : doR y p sp = (toldR y p, y) := by
      unfold doR
      rw [if_neg (by omega), if_neg (by omega), if_neg (by omega), if_neg (by omega), if_pos (by omega)]
    rw [this]; exact rsame_self y
  have h0 := h.resolve_right ht
  unfold doR at h0 ⊢
  by_cases h1 : p.do_ = 1
  · rw [if_pos h1] at h0 ⊢
    refine key (fun h => ?_) h0
    revert h
    unfold beginR
    split
    · exact fun _ => ⟨rfl, rfl, rfl⟩
    · split
      · exact fun _ => ⟨rfl, rfl, rfl⟩
      · exact fun h => absurd rfl h
  rw [if_neg h1] at h0 ⊢
  by_cases h2 : p.do_ = 2
  · rw [if_pos h2] at h0 ⊢
    refine key (fun h => ?_) h0
    unfold writeR
    split
    · exact ⟨rfl, rfl, rfl⟩
    · split
      · exact ⟨rfl, rfl, rfl⟩
      · split
        · exact ⟨rfl, rfl, rfl⟩
        · split
          · exact ⟨rfl, rfl, rfl⟩
          · split <;> exact ⟨rfl, rfl, rfl⟩
  rw [if_neg h2] at h0 ⊢
  by_cases h3 : p.do_ = 3
  · rw [if_pos h3] at h0 ⊢
    refine key (fun h => ?_) h0
    revert h
    unfold commitR
    split
    · exact fun _ => ⟨rfl, rfl, rfl⟩
    · split
      · exact fun _ => ⟨rfl, rfl, rfl⟩
      · split
        · exact fun _ => ⟨rfl, rfl, rfl⟩
        · split
          · exact fun _ => ⟨rfl, rfl, rfl⟩
          · exact fun h => absurd rfl h
  rw [if_neg h3] at h0 ⊢
  by_cases h4 : p.do_ = 4
  · rw [if_pos h4] at h0 ⊢
    refine key (fun h => ?_) h0
    unfold abortR
    split <;> exact ⟨rfl, rfl, rfl⟩
  rw [if_neg h4] at h0 ⊢
  rw [if_neg (by omega)] at h0 ⊢
  by_cases h10 : p.do_ = 10
  · rw [if_pos h10] at h0 ⊢
    refine key (fun h => ?_) h0
    revert h
    unfold deleteR
    split
    · exact fun _ => ⟨rfl, rfl, rfl⟩
    · split
      · exact fun _ => ⟨rfl, rfl, rfl⟩
      · exact fun h => absurd rfl h
  rw [if_neg h10] at h0 ⊢
  by_cases h11 : p.do_ = 11 ∨ p.do_ = 12
  · rw [if_pos h11] at h0 ⊢
    refine key (fun h => ?_) h0
    revert h
    unfold shotsR
    split
    · exact fun _ => ⟨rfl, rfl, rfl⟩
    · split
      · split
        · exact fun _ => ⟨rfl, rfl, rfl⟩
        · exact fun h => absurd rfl h
      · split
        · exact fun _ => ⟨rfl, rfl, rfl⟩
        · split
          · exact fun _ => ⟨rfl, rfl, rfl⟩
          · split
            · exact fun _ => ⟨rfl, rfl, rfl⟩
            · exact fun h => absurd rfl h
  rw [if_neg h11] at h0 ⊢
  by_cases h13 : p.do_ = 13
  · rw [if_pos h13] at h0 ⊢
    refine key (fun h => ?_) h0
    revert h
    unfold tickR
    split
    · exact fun _ => ⟨rfl, rfl, rfl⟩
    · exact fun h => absurd rfl h
  rw [if_neg h13] at h0 ⊢
  by_cases h14 : p.do_ = 14
  · rw [if_pos h14] at h0 ⊢
    refine key (fun h => ?_) h0
    revert h
    unfold expireR
    split
    · exact fun _ => ⟨rfl, rfl, rfl⟩
    · exact fun h => absurd rfl h
  rw [if_neg h14] at h0 ⊢
  by_cases h15 : p.do_ = 15
  · rw [if_pos h15] at h0 ⊢
    refine key (fun h => ?_) h0
    unfold cleanR
    split
    · exact ⟨rfl, rfl, rfl⟩
    · split <;> exact ⟨rfl, rfl, rfl⟩
  rw [if_neg h15] at h0 ⊢
  by_cases h16 : p.do_ = 16 ∨ p.do_ = 17 ∨ p.do_ = 18 ∨ p.do_ = 19 ∨ p.do_ = 20 ∨ p.do_ = 21
  · rw [if_pos h16]; exact rsame_self y
  · rw [if_neg h16]; exact rsame_self y
theorem tells_same (y : RM) (p : Op1) (sp : Bool) (h : 5 ≤ p.do_ ∧ p.do_ ≤ 9) : (doR y p sp).2 = y := by
  unfold doR
  rw [if_neg (by omega), if_neg (by omega), if_neg (by omega), if_neg (by omega), if_pos (by omega)]
end
end Go.Proofs.YtbffngeameenoaaGreat
end

section
set_option linter.unusedVariables false
set_option linter.unusedSimpArgs false
namespace Go.Proofs.YtbffngeameenoaaGreat
open Go Go.Au

/-- y' shows what y's snapshots showed -/
structure Keeps (y y' : RM) : Prop where
  k1 : ∀ s l, aget y.S s = some l → aget y'.S s = some l
  k2 : ∀ s, aget y.S s = none → (nameOk s = false ∨ 16 ≤ y.S.length) → aget y'.S s = none
  k3 : y.S.length ≤ y'.S.length
  k4 : ∀ s l, aget y.S s = some l → ∀ h ∈ l, ∀ q ∈ y.V, q.name = h.1 → q.gen = h.2 → ∃ q' ∈ y'.V, q'.name = h.1 ∧ q'.gen = h.2 ∧ q'.text = q.text
theorem Keeps.refl (y : RM) : Keeps y y := ⟨fun _ _ h => h, fun _ h _ => h, Nat.le_refl _, fun _ _ _ _ _ q hq h1 h2 => ⟨q, hq, h1, h2, rfl⟩⟩
theorem Keeps.trans {a b c : RM} (h : Keeps a b) (k : Keeps b c) : Keeps a c :=
  ⟨fun s l e => k.k1 s l (h.k1 s l e), fun s e d => k.k2 s (h.k2 s e d) (d.imp id fun d => Nat.le_trans d h.k3), Nat.le_trans h.k3 k.k3, fun s l e g hg q hq h1 h2 => by
    obtain ⟨q', a1, a2, a3, a4⟩ := h.k4 s l e g hg q hq h1 h2
    obtain ⟨q'', b1, b2, b3, b4⟩ := k.k4 s l (h.k1 s l e) g hg q' a1 a2 a3
    exact ⟨q'', b1, b2, b3, b4.trans a4⟩⟩
theorem keeps_V {y : RM} {V' : List RVer} {O : List RSes} {b n q : Int} (h : ∀ z ∈ y.V, z ∈ V') : Keeps y ⟨V', y.S, O, b, n, q⟩ :=
  ⟨fun _ _ h => h, fun _ h _ => h, Nat.le_refl _, fun _ _ _ _ _ q hq h1 h2 => ⟨q, h q hq, h1, h2, rfl⟩⟩
section
variable {K : Int} {x x' : XM} {y y' : RM}
theorem keeps_sweep (r : RInv K y) (M : ByteArray → Int → Bool) : Keeps y { y with V := (y.V.map (mkR M)).filter (keepR y.S) } :=
  ⟨fun _ _ h => h, fun _ h _ => h, Nat.le_refl _, fun s l e h hh q hq h1 h2 => by
    refine ⟨mkR M q, List.mem_filter.2 ⟨List.mem_map_of_mem hq, ?_⟩, by rw [(mkR_name M q).1]; exact h1, by rw [(mkR_name M q).2.1]; exact h2, (mkR_name M q).2.2.2⟩
    unfold keepR rheldB
    rw [Bool.or_eq_true]
    refine .inl ?_
    rw [List.any_eq_true]
    refine ⟨(s, l), mem_of_aget e, ?_⟩
    rw [List.any_eq_true]
    exact ⟨h, hh, by rw [(mkR_name M q).1, (mkR_name M q).2.1, h1, h2]; simp⟩⟩
def dropM (y : RM) (k : Kp) (n : ByteArray) (g : Int) : Bool := y.V.any fun q => decide (q.name = n) && (decide (q.gen = g) && rdrops y k q)
theorem step_keeps (r : RInv K y) (p : Op1) (sp : Bool) (h12 : p.do_ ≠ 12) : Keeps y (doR y p sp).2 := by
  unfold doR
  by_cases c1 : p.do_ = 1
  · rw [if_pos c1]
    show Keeps y (beginR y p).2.2
    unfold beginR
    split
    · exact .refl y
    · split
      · exact .refl y
      · exact keeps_V fun z hz => hz
  rw [if_neg c1]
  by_cases c2 : p.do_ = 2
  · rw [if_pos c2]
    show Keeps y (writeR y p sp).2.2
    unfold writeR
    split
    · exact .refl y
    · split
      · exact .refl y
      · split
        · exact keeps_V fun z hz => hz
        · split
          · exact keeps_V fun z hz => hz
          · split <;> exact keeps_V fun z hz => hz
  rw [if_neg c2]
  by_cases c3 : p.do_ = 3
  · rw [if_pos c3]
    show Keeps y (commitR y p sp).2.2
    unfold commitR
    split
    · exact .refl y
    · split
      · exact .refl y
      · split
        · exact keeps_V fun z hz => hz
        · split
          · exact keeps_V fun z hz => hz
          · exact keeps_V fun z hz => (mem_insV _ _ _).2 (.inr hz)
  rw [if_neg c3]
  by_cases c4 : p.do_ = 4
  · rw [if_pos c4]
    show Keeps y (abortR y p).2.2
    unfold abortR
    split
    · exact .refl y
    · exact keeps_V fun z hz => hz
  rw [if_neg c4]
  by_cases c5 : p.do_ = 5 ∨ p.do_ = 6 ∨ p.do_ = 7 ∨ p.do_ = 8 ∨ p.do_ = 9
  · rw [if_pos c5]; exact .refl y
  rw [if_neg c5]
  by_cases c10 : p.do_ = 10
  · rw [if_pos c10]
    show Keeps y (deleteR y p).2.2
    unfold deleteR
    cases hl : lastI (rfindP p.name p.gen) y.V with
    | none => exact .refl y
    | some i =>
      dsimp only
      cases hq : y.V[i]? with
      | none => exact .refl y
      | some q =>
        dsimp only
        rw [set_mkR r.vs hq]
        exact keeps_sweep r _
  rw [if_neg c10]
  by_cases c11 : p.do_ = 11 ∨ p.do_ = 12
  · rw [if_pos c11]
    show Keeps y (shotsR y p sp).2.2
    unfold shotsR
    by_cases hn : nameOk p.shot = false
    · rw [if_pos hn]; exact .refl y
    rw [if_neg hn, if_neg h12]
    by_cases hB : shotB y.S p.shot = true
    · rw [if_pos hB]; exact .refl y
    rw [if_neg hB]
    by_cases h16 : 16 ≤ y.S.length
    · rw [if_pos h16]; exact .refl y
    rw [if_neg h16]
    cases sp
    · rw [if_neg (by simp)]
      have hB' : shotB y.S p.shot = false := by simpa using hB
      obtain ⟨i1, i2⟩ := shot_split r.ss (p.shot, rnames y.V) hB'
      have hna : aget y.S p.shot = none := by
        have := (heldOf_eq p.shot r.ss).1
        rw [hB'] at this
        cases ha : aget y.S p.shot with
        | none => rfl
        | some l => rw [ha] at this; cases this
      have k1 : ∀ s l, aget y.S s = some l → aget (insS y.S (shotI y.S p.shot) (p.shot, rnames y.V)) s = some l := fun s l h => aget_of_mem (nd_of_lt i1) ((i2 _).2 (.inr (mem_of_aget h)))
      refine ⟨k1, fun s h d => ?_, ?_, fun s l e h hh q hq h1 h2 => ⟨q, hq, h1, h2, rfl⟩⟩
      · have hsn : s ≠ p.shot := fun e => by
          rcases d with d | d
          · rw [e] at d; exact hn d
          · exact h16 d
        refine aget_none fun l hl => ?_
        rcases (i2 _).1 hl with t | t
        · exact hsn (congrArg Prod.fst t)
        · rw [aget_of_mem (nd_of_lt r.ss) t] at h; cases h
      · show y.S.length ≤ (insS y.S (shotI y.S p.shot) (p.shot, rnames y.V)).length
        rw [List.length_append, List.length_append, List.length_singleton, List.length_take, List.length_drop]
        have := shotI_le y.S p.shot
        omega
    · rw [if_pos rfl]; exact .refl y
  rw [if_neg c11]
  by_cases c13 : p.do_ = 13
  · rw [if_pos c13]
    show Keeps y (tickR y p).2.2
    unfold tickR
    split
    · exact .refl y
    · exact keeps_V fun z hz => hz
  rw [if_neg c13]
  by_cases c14 : p.do_ = 14
  · rw [if_pos c14]
    show Keeps y (expireR y (kpOf p)).2.2
    unfold expireR
    by_cases hb : expOkK (kpOf p) = false
    · rw [if_pos hb]; exact .refl y
    rw [if_neg hb]
    -- the marks by name and number
    have hmark : y.V.map (rmark y (kpOf p)) = y.V.map (mkR (dropM y (kpOf p))) := List.map_congr_left fun q hq => by
      unfold rmark mkR
      have : dropM y (kpOf p) q.name q.gen = rdrops y (kpOf p) q := by
        unfold dropM
        rw [Bool.eq_iff_iff, List.any_eq_true]
        constructor
        · rintro ⟨z, hz, e⟩
          simp only [Bool.and_eq_true, decide_eq_true_eq] at e
          have hz' : z = q := by
            have hvn := vkey_nd r.vs
            rw [List.nodup_iff_pairwise_ne, List.pairwise_map] at hvn
            obtain ⟨i, hi, ez⟩ := List.getElem_of_mem hz
            obtain ⟨j, hj, eq⟩ := List.getElem_of_mem hq
            rcases Nat.lt_trichotomy i j with t | t | t
            · exact absurd (by rw [ez, eq, e.1, e.2.1]) (List.pairwise_iff_getElem.1 hvn i j hi hj t)
            · subst t; exact ez.symm.trans eq
            · exact absurd (by rw [ez, eq, e.1, e.2.1]) (List.pairwise_iff_getElem.1 hvn j i hj hi t)
          exact hz' ▸ e.2.2
        · exact fun e => ⟨q, hq, by simp [e]⟩
      rw [this]
    rw [hmark]
    exact keeps_sweep r _
  rw [if_neg c14]
  by_cases c15 : p.do_ = 15
  · rw [if_pos c15]
    show Keeps y (cleanR y p sp).2.2
    unfold cleanR
    split
    · exact .refl y
    · split <;> exact .refl y
  rw [if_neg c15]
  by_cases c16 : p.do_ = 16 ∨ p.do_ = 17 ∨ p.do_ = 18 ∨ p.do_ = 19 ∨ p.do_ = 20 ∨ p.do_ = 21
  · rw [if_pos c16]; exact .refl y
  · rw [if_neg c16]; exact .refl y
/-- what Shown tells -/
theorem shown_eq (r : RInv K y) (p : Op1) (h7 : p.do_ = 7) : toldR y p = match (aget ((aget y.S p.shot).getD []) p.name).bind fun g => (ofName y.V p.name).find? fun q => q.gen == g with
  | some q => (0, 0, strB q.text, [])
  | none => (9, 0, [], []) := by
  rw [toldR_of (by omega)]
  unfold toldI
  rw [if_pos h7, (heldOf_eq p.shot r.ss).2]
  have hnd : (((aget y.S p.shot).getD []).map (·.1)).Nodup := by
    cases hg : aget y.S p.shot with
    | none => exact List.Pairwise.nil
    | some l => exact nd_of_lt (r.sh _ (mem_of_aget hg))
  rw [showI_eq _ _ hnd]
  cases hg : aget ((aget y.S p.shot).getD []) p.name with
  | none => rfl
  | some g =>
    simp only [Option.bind_some]
    rw [lastI_get]
    have h1 : y.V.filter (showP p.name (p.name, g)) = ((ofName y.V p.name).find? fun q => q.gen == g).toList := by
      rw [← filter_one (ofName_lt r.vs _)]
      unfold ofName
      rw [List.filter_filter]
      refine List.filter_congr fun q _ => ?_
      simp only [showP, decide_true, Bool.true_and]
      rw [Bool.and_comm]
    rw [h1]
    cases (ofName y.V p.name).find? fun q => q.gen == g with
    | none => rfl
    | some q =>
      show toldT p q.text = (0, 0, strB q.text, [])
      unfold toldT
      rw [if_neg (by omega), if_pos (by omega)]
theorem find_key (r : RInv K y) {q : RVer} (hq : q ∈ y.V) : (ofName y.V q.name).find? (fun z => z.gen == q.gen) = some q := by
  have h1 := filter_one (ofName_lt r.vs q.name) q.gen
  have h2 : q ∈ (ofName y.V q.name).filter fun z => z.gen == q.gen := List.mem_filter.2 ⟨List.mem_filter.2 ⟨hq, by simp⟩, by simp⟩
  rw [h1] at h2
  simpa using h2
theorem shown_keeps {K' : Int} (r : RInv K y) (r' : RInv K' y') (k : Keeps y y') {s nm : ByteArray} (h : (aget y.S s).isSome = true ∨ nameOk s = false ∨ 16 ≤ y.S.length) : toldR y' (shownP s nm) = toldR y (shownP s nm) := by
  rw [shown_eq r' _ rfl, shown_eq r _ rfl]
  show (match (aget ((aget y'.S s).getD []) nm).bind fun g => (ofName y'.V nm).find? fun q => q.gen == g with | some q => _ | none => _) = (match (aget ((aget y.S s).getD []) nm).bind fun g => (ofName y.V nm).find? fun q => q.gen == g with | some q => _ | none => _)
  cases ha : aget y.S s with
  | none =>
    rw [k.k2 s ha (h.resolve_left (by rw [ha]; simp))]
    rfl
  | some l =>
    rw [k.k1 s l ha]
    simp only [Option.getD_some]
    cases hg : aget l nm with
    | none => rfl
    | some g =>
      simp only [Option.bind_some]
      have hm := mem_of_aget hg
      obtain ⟨q, hq, e1, e2⟩ := r.sv _ (mem_of_aget ha) _ hm
      obtain ⟨q', hq', f1, f2, f3⟩ := k.k4 s l ha _ hm q hq e1 e2
      dsimp only at e1 e2 f1 f2
      have g1 := find_key r hq
      have g2 := find_key r' hq'
      rw [e1, e2] at g1
      rw [f1, f2] at g2
      rw [g1, g2]
      dsimp only
      rw [f3]
theorem fall_sim (s : Sim x y) : Sim { x with sess := [] } { y with O := [] } := { s with so := List.Perm.nil }
theorem fall_inv (r : RInv K y) : RInv K { y with O := [] } := { r with os := List.Pairwise.nil, ob := by simp, ol := by simp, oz := by simp }
end
end Go.Proofs.YtbffngeameenoaaGreat
end

section
set_option maxRecDepth 100000
set_option linter.unusedVariables false
set_option linter.unusedSimpArgs false
namespace Go.Proofs.YtbffngeameenoaaGreat
open Go Go.Au
attribute [local irreducible] T TO

abbrev lA : ByteArray := ⟨#[97]⟩
abbrev lp1 : Op1 := ⟨1, 0, lA, ⟨#[]⟩, 0, 0, 0, [], 0, 0, 0, 0⟩
abbrev lp2 : Op1 := ⟨2, 1, ⟨#[]⟩, ⟨#[]⟩, 0, 0, 0, [120, 121], 0, 0, 0, 0⟩
abbrev lp3 : Op1 := ⟨3, 1, ⟨#[]⟩, ⟨#[]⟩, 0, 0, 0, [], 0, 0, 0, 0⟩
abbrev lp4 : Op1 := ⟨6, 0, lA, ⟨#[]⟩, 0, 1, 9, [], 0, 0, 0, 0⟩
def ly0 : RM := ⟨[], [], [], 0, 0, 0⟩
def ly1 : RM := (doR ly0 lp1 false).2
def ly2 : RM := (doR ly1 lp2 false).2
def ly3 : RM := (doR ly2 lp3 false).2
theorem la1 : (doR ly0 lp1 false).1 = (0, 1, [], []) := by decide +kernel
theorem la2 : (doR ly1 lp2 false).1 = (0, 0, [], []) := by decide +kernel
theorem la3 : (doR ly2 lp3 false).1 = (0, 1, [], []) := by decide +kernel
theorem la4 : (doR ly3 lp4 false).1 = (0, 0, [121], []) := by decide +kernel
theorem live_sp (F : Frz) : Sp Tryz.prog 10 [] [] F (fun v B F' => v = .bool true ∧ B = []) := by
  have q0 : -9223372036854775808 ≤ (0 : Int) := by omega
  have q1 : (0 : Int) ≤ 9223372036854775807 := by omega
  refine sp_of Tryz.func10 rfl (by kernel_rfl) rfl fun R => ?_
  repeat (first | refine t_seq ?_ | refine t_region ?_ | refine to_nil ?_ | refine to_q rfl rfl rfl ?_)
  refine to_call rfl rfl (new_sp 0 _) fun v B F1 le1 h => ?_
  obtain ⟨b, f, s, o, rfl, rfl⟩ := h
  have s0 : Sim ⟨[], [], [], 0, 0, 0⟩ ly0 := sim_new 0
  have r0 : RInv 0 ly0 := inv_new 0
  repeat (first | refine t_seq ?_ | refine t_region ?_ | refine to_nil ?_ | refine t_skip ?_ | refine to_q rfl rfl rfl ?_ | refine to_bs rfl rfl rfl rfl ?_ | refine to_nilP rfl rfl rfl ?_
                | refine t_cond (t := false) rfl (fun h => nomatch h) (fun _ => ?_))
  refine to_by 5 none 0 ?_
  refine to_call rfl rfl (do_sp b f s o _ lp1 false true nilS nilS (.int .i64 0) (.int .i64 0) _ (s0.xall r0 (by omega) q0 q1) ⟨by decide, by decide, by decide⟩) fun v B F2 le2 h => ?_
  obtain ⟨u1, x1, hd1, bv1, nv1, rfl, hn1, rfl⟩ := h
  obtain ⟨e1, s1, r1⟩ := step_sim s0 r0 (s0.xall r0 (by omega) q0 q1) hd1
  rw [la1] at e1
  subst e1
  replace s1 : Sim x1 ly1 := s1
  replace r1 : RInv 1 ly1 := r1
  have qq1 : ly1.quota = 0 := quota_do ly0 lp1 false
  obtain ⟨na1, nc1, rfl⟩ := slR_len hn1
  refine to_sform bv1 fun a1 c1 e2 => ?_
  subst e2
  repeat (first | refine t_seq ?_ | refine t_region ?_ | refine to_nil ?_ | refine to_q rfl rfl rfl ?_ | refine to_stA rfl rfl rfl rfl rfl rfl ?_ | refine to_alloc rfl fun _ => ?_)
  refine to_bsl (len := 2) rfl rfl rfl rfl fun bb => ?_
  refine to_cvId rfl rfl ?_
  refine to_osl (n := 1) (b := bb) u8R [120, 121] (f2_bytes _) rfl ?_
  repeat (refine to_bs rfl rfl rfl rfl ?_)
  refine to_byO (.slice (some ⟨bb, 0, none⟩) 2 2) ?_
  refine to_call rfl rfl (do_sp b f s o _ lp2 false false (.slice (some ⟨bb, 0, none⟩) 2 2) nilS (.int .i64 0) (.int .i64 0) _ (s1.xall r1 (by omega) (by rw [qq1]; exact q0) (by rw [qq1]; exact q1)) ⟨by decide, by decide, by decide⟩) fun v B F3 le3 h => ?_
  obtain ⟨u2, x2, hd2, bv2, nv2, rfl, hn2, rfl⟩ := h
  obtain ⟨e2, s2, r2⟩ := step_sim s1 r1 (s1.xall r1 (by omega) (by rw [qq1]; exact q0) (by rw [qq1]; exact q1)) hd2
  rw [la2] at e2
  subst e2
  replace s2 : Sim x2 ly2 := s2
  replace r2 : RInv 2 ly2 := r2
  have qq2 : ly2.quota = 0 := (quota_do ly1 lp2 false).trans qq1
  obtain ⟨na2, nc2, rfl⟩ := slR_len hn2
  refine to_sform bv2 fun a2 c2 e2 => ?_
  subst e2
  repeat (first | refine t_seq ?_ | refine t_region ?_ | refine to_nil ?_ | refine to_q rfl rfl rfl ?_ | refine to_stA rfl rfl rfl rfl rfl rfl ?_ | refine to_alloc rfl fun _ => ?_ | refine to_bs rfl rfl rfl rfl ?_)
  refine to_by 5 none 0 ?_
  refine to_call rfl rfl (do_sp b f s o _ lp3 false true nilS nilS (.int .i64 0) (.int .i64 0) _ (s2.xall r2 (by omega) (by rw [qq2]; exact q0) (by rw [qq2]; exact q1)) ⟨by decide, by decide, by decide⟩) fun v B F4 le4 h => ?_
  obtain ⟨u3, x3, hd3, bv3, nv3, rfl, hn3, rfl⟩ := h
  obtain ⟨e3, s3, r3⟩ := step_sim s2 r2 (s2.xall r2 (by omega) (by rw [qq2]; exact q0) (by rw [qq2]; exact q1)) hd3
  rw [la3] at e3
  subst e3
  replace s3 : Sim x3 ly3 := s3
  replace r3 : RInv 3 ly3 := r3
  have qq3 : ly3.quota = 0 := (quota_do ly2 lp3 false).trans qq2
  obtain ⟨na3, nc3, rfl⟩ := slR_len hn3
  refine to_sform bv3 fun a3 c3 e2 => ?_
  subst e2
  repeat (first | refine t_seq ?_ | refine t_region ?_ | refine to_nil ?_ | refine to_q rfl rfl rfl ?_ | refine to_stA rfl rfl rfl rfl rfl rfl ?_ | refine to_alloc rfl fun _ => ?_ | refine to_bs rfl rfl rfl rfl ?_)
  refine to_by 5 none 0 ?_
  refine to_call rfl rfl (do_sp b f s o _ lp4 false true nilS nilS (.int .i64 0) (.int .i64 0) _ (s3.xall r3 (by omega) (by rw [qq3]; exact q0) (by rw [qq3]; exact q1)) ⟨by decide, by decide, by decide⟩) fun v B F5 le5 h => ?_
  obtain ⟨u4, x4, hd4, bv4, nv4, rfl, hn4, rfl⟩ := h
  obtain ⟨e4, s4, r4⟩ := step_sim s3 r3 (s3.xall r3 (by omega) (by rw [qq3]; exact q0) (by rw [qq3]; exact q1)) hd4
  rw [la4] at e4
  subst e4
  obtain ⟨na4, nc4, rfl⟩ := slR_len hn4
  refine to_sform bv4 fun a4 c4 e2 => ?_
  subst e2
  repeat (first | refine t_seq ?_ | refine t_region ?_ | refine to_nil ?_ | refine to_q rfl rfl rfl ?_ | refine to_fa rfl rfl ?_ | refine to_ld rfl rfl rfl ?_ | refine to_stA rfl rfl rfl rfl rfl rfl ?_
                | refine to_alloc rfl fun _ => ?_)
  refine to_cvBSO rfl rfl ?_
  repeat (first | refine to_nil ?_ | refine to_q rfl rfl rfl ?_)
  have e : ((⟨[121].toArray⟩ : ByteArray).toList == (⟨#[121]⟩ : ByteArray).toList) = true := by rw [ba_beq]; simp
  exact t_ret [] Tryz.func10 (.tmp rfl .nil) ⟨congrArg Value.bool e, rfl⟩
end Go.Proofs.YtbffngeameenoaaGreat
end

section
set_option maxRecDepth 100000
set_option linter.unusedVariables false
set_option linter.unusedSimpArgs false
namespace Go.Proofs.YtbffngeameenoaaGreat
open Go Go.Au
attribute [local irreducible] T TO

/-- a step of a script -/
structure StepOk (p : Op1) : Prop where
  ok : OpOk p
  by_ : p.bytes.length ≤ 140737488355328
def stepV (p : Op1) (sp : Bool) (bv cv ct ca : Value) : List Value := opC p bv cv ct ca ++ [.bool sp]
def stepR : Rel (Op1 × Bool) := ⟨fun F x v => StepOk x.1 ∧ ∃ bv cva cvn cvc ct ca, v = .agg (stepV x.1 x.2 bv (.slice cva cvn cvc) (.int .i64 ct) (.int .i64 ca)).toArray ∧ (slR u8R 1).r F x.1.bytes bv,
  fun le ⟨h, bv, cva, cvn, cvc, ct, ca, h1, h2⟩ => ⟨h, bv, cva, cvn, cvc, ct, ca, h1, (slR u8R 1).mono le h2⟩⟩
instance el_step : ElT Tryz.prog 44 stepR 16 176 := ElT.agg rfl (by omega) (by omega) fun F x v h => by
  obtain ⟨_, bv, cva, cvn, cvc, ct, ca, e, h1⟩ := h
  refine ⟨_, e, rfl, fun u hu => ?_⟩
  simp only [stepV, opC, List.cons_append, List.nil_append, List.mem_cons, List.not_mem_nil, or_false] at hu
  rcases hu with rfl | rfl | rfl | rfl | rfl | rfl | rfl | rfl | rfl | rfl | rfl | rfl | rfl | rfl | rfl | rfl
  all_goals first | rfl | exact sl_one h1
theorem sess_sim {K : Int} {x : XM} {y : RM} (s : Sim x y) (r : RInv K y) {ks : List Int} (hk : ks.Perm (x.sess.map (·.1))) : sortI ks = y.O.map (·.n) := by
  have hp : (sortI ks).Perm ks := List.mergeSort_perm _ _
  have ho : (oL y.O).map (·.1) = y.O.map (·.n) := by unfold oL; rw [List.map_map]; rfl
  have hall : (sortI ks).Perm (y.O.map (·.n)) := by rw [← ho]; exact (hp.trans hk).trans (s.so.map _)
  have hO : (y.O.map (·.n)).Pairwise (· < ·) := by rw [List.pairwise_map]; exact r.os
  have hnd : (sortI ks).Nodup := by
    rw [hall.nodup_iff, List.nodup_iff_pairwise_ne]
    exact hO.imp fun h => by omega
  have hle : (sortI ks).Pairwise (· ≤ ·) := by
    have := List.pairwise_mergeSort (le := fun x y : Int => decide (x ≤ y)) (fun a b c h1 h2 => by
      simp only [decide_eq_true_eq] at *; omega) (fun a b => by
      simp only [Bool.or_eq_true, decide_eq_true_eq]; omega) ks
    exact this.imp fun h => by simpa using h
  rw [List.nodup_iff_pairwise_ne] at hnd
  refine sorted_eq (R := fun a c : Int => a < c) (fun a => by omega) (fun a c h => by omega) ((hle.and hnd).imp fun h => by omega) hO fun z => hall.mem_iff
theorem told_len {y : RM} {p : Op1} (ht : ∀ q ∈ y.V, q.text.size ≤ 8192) (hv : y.V.length ≤ 4096) : (toldR y p).2.2.1.length ≤ 8192 ∧ (toldR y p).2.2.2.length ≤ 8192 := by
  unfold toldR
  split
  · exact ⟨by simp, by have := rnamesI_le y.V y.V.length; show (rnames y.V).length ≤ _; unfold rnames; omega⟩
  · split
    · simp
    · split
      · simp
      · rename_i q hq
        have h1 := ht q (List.mem_of_getElem? hq)
        have h2 : (strB q.text).length ≤ 8192 := by unfold strB; rw [ba_len]; exact h1
        unfold toldT
        split
        · simp
        · split
          · exact ⟨h2, by simp⟩
          · split
            · simp
            · refine ⟨?_, by simp⟩
              show (List.take _ (List.drop _ (strB q.text))).length ≤ 8192
              rw [List.length_take, List.length_drop]; omega
theorem ans_len {y : RM} (ht : ∀ q ∈ y.V, q.text.size ≤ 8192) (hv : y.V.length ≤ 4096) (p : Op1) (sp : Bool) : (doR y p sp).1.2.2.1.length ≤ 8192 ∧ (doR y p sp).1.2.2.2.length ≤ 8192 := by
  have pl : ∀ t : Int × Int × RM, (plR t).1.2.2.1.length ≤ 8192 ∧ (plR t).1.2.2.2.length ≤ 8192 := fun t => ⟨Nat.zero_le _, Nat.zero_le _⟩
  unfold doR
  by_cases c0 : p.do_ = 1
  · rw [if_pos c0]; exact pl _
  rw [if_neg c0]
  by_cases c1 : p.do_ = 2
  · rw [if_pos c1]; exact pl _
  rw [if_neg c1]
  by_cases c2 : p.do_ = 3
  · rw [if_pos c2]; exact pl _
  rw [if_neg c2]
  by_cases c3 : p.do_ = 4
  · rw [if_pos c3]; exact pl _
  rw [if_neg c3]
  by_cases c4 : p.do_ = 5 ∨ p.do_ = 6 ∨ p.do_ = 7 ∨ p.do_ = 8 ∨ p.do_ = 9
  · rw [if_pos c4]; exact told_len ht hv
  rw [if_neg c4]
  by_cases c5 : p.do_ = 10
  · rw [if_pos c5]; exact pl _
  rw [if_neg c5]
  by_cases c6 : p.do_ = 11 ∨ p.do_ = 12
  · rw [if_pos c6]; exact pl _
  rw [if_neg c6]
  by_cases c7 : p.do_ = 13
  · rw [if_pos c7]; exact pl _
  rw [if_neg c7]
  by_cases c8 : p.do_ = 14
  · rw [if_pos c8]; exact pl _
  rw [if_neg c8]
  by_cases c9 : p.do_ = 15
  · rw [if_pos c9]; exact pl _
  rw [if_neg c9]
  by_cases c10 : p.do_ = 16 ∨ p.do_ = 17 ∨ p.do_ = 18 ∨ p.do_ = 19 ∨ p.do_ = 20 ∨ p.do_ = 21
  · rw [if_pos c10]; exact ⟨Nat.zero_le _, Nat.zero_le _⟩
  rw [if_neg c10]
  exact ⟨Nat.zero_le _, Nat.zero_le _⟩
/-- the state of both behind a script -/
structure Both (K : Int) (q : Int) (x : XM) (y : RM) : Prop where
  s : Sim x y
  r : RInv K y
  q : y.quota = q
theorem Both.xall {K q : Int} {x : XM} {y : RM} (b : Both K q x y) (hK : K ≤ 1000000) (q0 : -9223372036854775808 ≤ q) (q1 : q ≤ 9223372036854775807) : XAll x := b.s.xall b.r hK (by rw [b.q]; exact q0) (by rw [b.q]; exact q1)
theorem Both.rall {K q : Int} {x : XM} {y : RM} (b : Both K q x y) (hK : K ≤ 1000000) (q0 : -9223372036854775808 ≤ q) (q1 : q ≤ 9223372036854775807) : RAll y := b.r.rall hK (by rw [b.q]; exact q0) (by rw [b.q]; exact q1)
theorem Both.step {K q : Int} {x x' : XM} {y : RM} (b : Both K q x y) (a : XAll x) {p : Op1} {sp : Bool} {u : Ans} (h : DoX x p sp u x') : u = (doR y p sp).1 ∧ Both (K + 1) q x' (doR y p sp).2 := by
  obtain ⟨h1, h2, h3⟩ := step_sim b.s b.r a h
  exact ⟨h1, h2, h3, (quota_do y p sp).trans b.q⟩
theorem Both.mono {K K' q : Int} {x : XM} {y : RM} (b : Both K q x y) (h : K ≤ K') : Both K' q x y := ⟨b.s, b.r.mono h, b.q⟩
def playQ (q : Int) : Fin := fun v B F' => ∃ b f s o x b' u y, v = .tuple #[ptr b, ptr b', .bool true] ∧ Both 120 q x y ∧ RY F' y u ∧ B = XP b f s o x ++ RP b' u y
set_option maxHeartbeats 4000000 in
theorem play_sp (q : Int) (q0 : -9223372036854775808 ≤ q) (q1 : q ≤ 9223372036854775807) (lv : Value) (l : List (Op1 × Bool)) (F : Frz) (hl : (slR stepR 16).r F l lv) :
    Sp Tryz.prog 6 [.int .i64 q, lv] [] F (playQ q) := by
  obtain ⟨la, lc, rfl⟩ := slR_len hl
  refine sp_of Tryz.func6 rfl (by kernel_rfl) rfl fun R => ?_
  repeat (first | refine t_seq ?_ | refine t_region ?_ | refine to_nil ?_ | refine to_q rfl rfl rfl ?_)
  refine to_call rfl rfl (new_sp q _) fun v B F1 le1 h => ?_
  obtain ⟨b, f, s, o, rfl, rfl⟩ := h
  repeat (refine to_q rfl rfl rfl ?_)
  refine to_call rfl rfl (rnew_sp q _) fun v B F2 le2 h => ?_
  obtain ⟨b', u, rfl, hu, rfl⟩ := h
  repeat (first | refine t_seq ?_ | refine t_block ?_ | refine t_region ?_ | refine to_nil ?_ | refine t_skip ?_ | refine to_q rfl rfl rfl ?_ | refine to_nilP rfl rfl rfl ?_
                | refine t_cond (t := false) rfl (fun h => nomatch h) (fun _ => ?_))
  refine t_loopJ (R := R) (fun z : Nat × XM × RM × RU => l.length - z.1) (fun z => XP b f s o z.2.1 ++ RP b' z.2.2.2 z.2.2.1)
    (fun z => [(1, .slice la l.length lc), (7, ptr b), (8, ptr b'), (9, .int .i64 z.1)])
    (fun z G => z.1 ≤ l.length ∧ z.1 ≤ 120 ∧ Both z.1 q z.2.1 z.2.2.1 ∧ RY G z.2.2.1 z.2.2.2) (0, ⟨[], [], [], 0, 0, q⟩, ⟨[], [], [], 0, 0, q⟩, u) (by repeat (first | exact trivial | refine ⟨rfl, ?_⟩)) ⟨Nat.zero_le _, Nat.zero_le _, ⟨sim_new q, inv_new q, rfl⟩, hu⟩ ?_
  rintro ⟨i, x, y, u⟩ F3 le3 hg ih
  dsimp only at hg ih ⊢
  obtain ⟨hi, hi2, hB, hY⟩ := hg
  have hxa := hB.xall (by omega) q0 q1
  have hra := hB.rall (by omega) q0 q1
  repeat (first | refine t_seq ?_ | refine t_region ?_ | refine to_q rfl rfl rfl ?_ | refine to_lenS rfl rfl rfl ?_)
  refine to_gd rfl rfl (fun h1 => ?_) (fun h1 => ?_)
  · simp only [decide_eq_true_eq] at h1
    repeat (first | refine to_nil ?_ | refine to_q rfl rfl rfl ?_)
    refine t_condT rfl (fun h2 => ?_) (fun h2 => ?_)
    · simp only [decide_eq_true_eq] at h2
      have hlt : i < l.length := by omega
      have hc := List.getElem?_eq_getElem hlt
      generalize l[i] = e at hc
      obtain ⟨p, sp⟩ := e
      obtain ⟨b_e, o_e, cap_e, u_e, e_e, hl_e, ⟨hok, bv, cva, cvn, cvc, ct, ca, hv_e, hby⟩, ro_e⟩ := slR_elem (P := Tryz.prog) (t := 44) (by_ := 176) hl hc
      cases e_e
      subst hv_e
      obtain ⟨ba, bc, rfl⟩ := slR_len hby
      repeat (first | refine t_seq ?_ | refine t_block ?_ | refine t_region ?_ | refine t_skip ?_ | refine to_q rfl rfl rfl ?_)
      refine to_ia rfl rfl rfl rfl hl_e ?_
      repeat (refine to_fa rfl rfl ?_)
      refine to_ldRA (F0 := F) (vs := opC p (.slice ba p.bytes.length bc) (.slice cva cvn cvc) (.int .i64 ct) (.int .i64 ca)) rfl rfl (ro_e.take 15) rfl ?_
      repeat (first | refine t_seq ?_ | refine t_region ?_ | refine to_nil ?_ | refine to_q rfl rfl rfl ?_ | refine to_fa rfl rfl ?_ | refine to_ld rfl rfl rfl ?_ | refine to_stA rfl rfl rfl rfl rfl rfl ?_
                    | refine to_alloc rfl fun _ => ?_ | refine to_lenS rfl rfl rfl ?_)
      refine t_condT rfl (fun h3 => ?_) (fun h3 => ?_)
      · repeat (first | refine t_region ?_ | refine to_nil ?_ | refine to_q rfl rfl rfl ?_ | refine to_add rfl rfl rfl (by omega) (by omega) ?_ | refine t_exit rfl ?_)
        refine t_re (A := XP b f s o x ++ RP b' u y) (R := R) (ih (i + 1, x, y, u) F3 ⟨.refl _⟩ (by dsimp only; omega) ⟨by dsimp only; omega, by dsimp only; omega, hB.mono (by dsimp only; omega), hY⟩) (by repeat (first | exact trivial | refine ⟨rfl, ?_⟩))
      simp only [decide_eq_false_iff_not] at h3
      repeat (first | refine t_seq ?_ | refine t_region ?_ | refine t_skip ?_)
      rename_i bop
      refine to_bsl (len := 0) rfl rfl rfl rfl fun b1 => ?_
      refine to_osl (n := 1) (b := b1) u8R [] .nil rfl ?_
      repeat (refine to_q rfl rfl rfl ?_)
      refine to_ia rfl rfl rfl rfl hl_e ?_
      repeat (refine to_fa rfl rfl ?_)
      refine to_ldR (F0 := F) rfl rfl (ro_e.one (j := 7) (v := .slice ba p.bytes.length bc) rfl) ?_
      refine to_appR hby rfl rfl rfl rfl (by have := hok.by_; simp; omega) fun v1 => ?_
      rw [List.nil_append]
      refine to_sform v1 fun a1 c1 e1 => ?_
      subst e1
      repeat (first | refine t_seq ?_ | refine to_nil ?_ | refine to_fa rfl rfl ?_ | refine to_st rfl rfl rfl rfl rfl ?_)
      refine t_drawn (by kernel_rfl) fun s0 hs0 => ?_
      refine to_frees (by assumption) [0,1,2,3,4,5,6] (by kernel_rfl) fun _ _ => ?_
      simp only [List.map_cons, List.map_nil, List.cons_append, List.nil_append, opAt, List.getElem?_cons_zero, List.getElem?_cons_succ, Option.getD_some]
      repeat (first | refine to_q rfl rfl rfl ?_ | refine to_ldA rfl rfl rfl ?_)
      refine to_ia rfl rfl rfl rfl hl_e ?_
      repeat (refine to_fa rfl rfl ?_)
      refine to_ldR (F0 := F) rfl rfl (ro_e.one (j := 15) (v := .bool sp) rfl) ?_
      skip
      refine to_next2 (by assumption) 7 8 rfl rfl (by kernel_rfl) (fun _ _ => ?_) (fun _ _ => ?_)
      focus
        refine to_byO (.slice a1 p.bytes.length c1) ?_
        refine to_call rfl rfl (do_sp b f s o x p sp false (.slice a1 p.bytes.length c1) (.slice cva cvn cvc) (.int .i64 ct) (.int .i64 ca) _ hxa hok.ok) fun v B F4 le4 h4 => ?_
        obtain ⟨r, x', hd, bv2, nv2, rfl, hn2, rfl⟩ := h4
        obtain ⟨na, nc, rfl⟩ := slR_len hn2
        refine to_sform bv2 fun a2 c2 e2 => ?_
        subst e2
        refine to_free (by assumption) 8 rfl (by kernel_rfl) (by kernel_rfl) fun _ _ => ?_
        refine to_alloc rfl fun b11 => ?_
      rotate_left
      focus
        refine to_alloc rfl fun b11 => ?_
        refine to_free (by assumption) 7 rfl (by kernel_rfl) (by kernel_rfl) fun _ _ => ?_
        refine to_byO (.slice a1 p.bytes.length c1) ?_
        refine to_call rfl rfl (do_sp b f s o x p sp false (.slice a1 p.bytes.length c1) (.slice cva cvn cvc) (.int .i64 ct) (.int .i64 ca) _ hxa hok.ok) fun v B F4 le4 h4 => ?_
        obtain ⟨r, x', hd, bv2, nv2, rfl, hn2, rfl⟩ := h4
        obtain ⟨na, nc, rfl⟩ := slR_len hn2
        refine to_sform bv2 fun a2 c2 e2 => ?_
        subst e2
      all_goals
        refine to_free (by assumption) 9 rfl (by kernel_rfl) (by kernel_rfl) fun _ _ => ?_
        repeat (refine to_stA rfl rfl rfl rfl rfl rfl ?_)
        refine to_lin_nil (by assumption) ?_
        refine t_byF (.slice a1 p.bytes.length c1) ?_
        obtain ⟨hu, hB'⟩ := hB.step hxa hd
        have hal := ans_len hra.z.t hra.z.v p sp
        rw [← hu] at hal
        repeat (first | refine t_seq ?_ | refine t_block ?_ | refine t_region ?_ | refine to_nil ?_ | refine to_q rfl rfl rfl ?_)
        refine t_loopJ (R := R) (fun z : Nat × List UInt8 => p.bytes.length - z.1) (fun z => OSl u8R 1 5 (.slice a1 p.bytes.length c1) z.2 :: own bop (opC p (.slice a1 p.bytes.length c1) (.slice cva cvn cvc) (.int .i64 ct) (.int .i64 ca)) 40 :: own b11 [.int .i64 r.1, .int .i64 r.2.1, .slice a2 r.2.2.1.length c2, .slice na r.2.2.2.length nc] 31 :: OSl u8R 1 5 (.slice a2 r.2.2.1.length c2) r.2.2.1 :: XP b f s o x' ++ RP b' u y)
          (fun z => [(1, .slice (some ⟨b_e, o_e, none⟩) l.length lc), (7, ptr b), (8, ptr b'), (9, .int .i64 i), (10, ptr bop), (11, ptr b11), (12, .int .i64 z.1)])
          (fun z _ => z.1 ≤ p.bytes.length ∧ z.2.length = p.bytes.length) (0, p.bytes) (by repeat (first | exact trivial | refine ⟨rfl, ?_⟩)) ⟨Nat.zero_le _, rfl⟩ ?_
        rintro ⟨n1, l1⟩ F5 leF5 hg1 ih1
        dsimp only at hg1 ih1 ⊢
        obtain ⟨hn1, hll1⟩ := hg1
        repeat (first | refine t_seq ?_ | refine t_region ?_ | refine to_nil ?_ | refine to_q rfl rfl rfl ?_ | refine to_fa rfl rfl ?_ | refine to_ld rfl rfl rfl ?_ | refine to_lenS rfl rfl rfl ?_)
        refine t_condT rfl (fun hf1 => ?_) (fun hf1 => ?_)
        · simp only [decide_eq_true_eq] at hf1
          have hf1 : n1 < l1.length := by omega
          have hcf := List.getElem?_eq_getElem hf1
          generalize l1[n1] = cc at hcf
          refine t_lit (.slice a1 p.bytes.length c1) (ρ := u8R) (xs := l1) (List.ne_nil_of_length_pos (by omega)) fun bl cl el => ?_
          simp only [Value.slice.injEq] at el
          obtain ⟨rfl, _, _⟩ := el
          repeat (first | refine t_seq ?_ | refine t_block ?_ | refine t_region ?_ | refine t_skip ?_ | refine to_q rfl rfl rfl ?_ | refine to_fa rfl rfl ?_ | refine to_ld rfl rfl rfl ?_)
          refine to_ia (j := n1) rfl rfl rfl rfl (by omega) ?_
          refine to_ldO (ρ := u8R) (j := n1) (q := cc) rfl rfl rfl hcf fun uu huu => ?_
          cases huu
          refine to_xorB (c := cc) (e := 1) rfl rfl rfl ?_
          refine to_ia (j := n1) rfl rfl rfl rfl (by omega) ?_
          refine to_stO (ρ := u8R) (j := n1) (q' := cc ^^^ 1) rfl rfl rfl rfl (by omega) rfl ?_
          repeat (first | refine t_region ?_ | refine to_nil ?_ | refine t_inBlock ?_ | refine to_q rfl rfl rfl ?_ | refine to_add rfl rfl rfl (by omega) (by omega) ?_)
          refine t_re (A := OSl u8R 1 5 (.slice (some ⟨bl, 0, none⟩) p.bytes.length c1) (l1.set n1 (cc ^^^ 1)) :: own bop (opC p (.slice (some ⟨bl, 0, none⟩) p.bytes.length c1) (.slice cva cvn cvc) (.int .i64 ct) (.int .i64 ca)) 40 :: own b11 [.int .i64 r.1, .int .i64 r.2.1, .slice a2 r.2.2.1.length c2, .slice na r.2.2.2.length nc] 31 :: OSl u8R 1 5 (.slice a2 r.2.2.1.length c2) r.2.2.1 :: XP b f s o x' ++ RP b' u y) (R := R)
            (ih1 (n1 + 1, l1.set n1 (cc ^^^ 1)) F5 ⟨.refl _⟩ (by dsimp only; omega) ⟨by dsimp only; omega, by dsimp only; rw [List.length_set]; exact hll1⟩) (by repeat (first | exact trivial | refine ⟨rfl, ?_⟩))
        simp only [decide_eq_false_iff_not] at hf1
        repeat (first | refine t_seq ?_ | refine t_exit rfl ?_)
        refine t_drawn (by kernel_rfl) fun s0 hs0 => ?_
        refine to_frees (by assumption) [1,2,3,4,5,6,7,8,9,10,11] (by kernel_rfl) fun _ _ => ?_
        simp only [List.map_cons, List.map_nil, List.cons_append, List.nil_append, opAt, List.getElem?_cons_zero, List.getElem?_cons_succ, Option.getD_some]
        repeat (refine to_q rfl rfl rfl ?_)
        refine to_ia rfl rfl rfl rfl hl_e ?_
        repeat (refine to_fa rfl rfl ?_)
        refine to_ldRA (F0 := F) (vs := opC p (.slice ba p.bytes.length bc) (.slice cva cvn cvc) (.int .i64 ct) (.int .i64 ca)) rfl rfl (ro_e.take 15) rfl ?_
        repeat (refine to_q rfl rfl rfl ?_)
        refine to_ia rfl rfl rfl rfl hl_e ?_
        repeat (refine to_fa rfl rfl ?_)
        refine to_ldR (F0 := F) rfl rfl (ro_e.one (j := 15) (v := .bool sp) rfl) ?_
        skip
        refine to_next2 (by assumption) 0 12 rfl rfl (by kernel_rfl) (fun _ _ => ?_) (fun _ _ => ?_)
        focus
          repeat (refine to_ldA rfl rfl rfl ?_)
          refine to_free (by assumption) 12 rfl (by kernel_rfl) (by kernel_rfl) fun _ _ => ?_
          refine to_byR 5 hby ?_
          refine to_call rfl rfl (rdo_sp b' y u p sp true (.slice ba p.bytes.length bc) (.slice cva cvn cvc) (.int .i64 ct) (.int .i64 ca) _ (hY.mono (le4.h.trans leF5.h)) hra hok.ok hok.by_) fun v B F6 le6 h6 => ?_
          obtain ⟨u2, hY2, bv3, nv3, rfl, hn3, rfl⟩ := h6
          obtain ⟨na3, nc3, rfl⟩ := slR_len hn3
        rotate_left
        focus
          refine to_byR 5 hby ?_
          refine to_call rfl rfl (rdo_sp b' y u p sp true (.slice ba p.bytes.length bc) (.slice cva cvn cvc) (.int .i64 ct) (.int .i64 ca) _ (hY.mono (le4.h.trans leF5.h)) hra hok.ok hok.by_) fun v B F6 le6 h6 => ?_
          obtain ⟨u2, hY2, bv3, nv3, rfl, hn3, rfl⟩ := h6
          obtain ⟨na3, nc3, rfl⟩ := slR_len hn3
          refine to_free (by assumption) 0 rfl (by kernel_rfl) (by kernel_rfl) fun _ _ => ?_
          repeat (refine to_ldA rfl rfl rfl ?_)
        all_goals
          refine to_free (by assumption) 13 rfl (by kernel_rfl) (by kernel_rfl) fun _ _ => ?_
          refine to_call rfl rfl (sameAnswer_sp r (doR y p sp).1 _ _ _ _ _ (by first | exact (slR heldR 2).mono (leF5.h.trans le6.h) hn2 | exact hn2) hn3 (by omega)) fun v B F7 le7 h7 => ?_
          obtain ⟨rfl, rfl⟩ := h7
          have hsa : sameA r (doR y p sp).1 = true := by rw [hu]; unfold sameA; simp
          rw [hsa]
          refine to_free (by assumption) 14 rfl (by kernel_rfl) (by kernel_rfl) fun _ _ => ?_
          repeat (refine to_q rfl rfl rfl ?_)
          refine to_lin_nil (by assumption) ?_
          repeat (first | refine t_seq ?_ | refine t_block ?_ | refine t_region ?_ | refine to_nil ?_ | refine t_skip ?_ | refine to_q rfl rfl rfl ?_ | refine t_cond (t := false) rfl (fun h => nomatch h) (fun _ => ?_))
          refine t_loopJ (R := R) (fun z : Nat × List UInt8 => r.2.2.1.length - z.1) (fun z => OSl u8R 1 5 (.slice a2 r.2.2.1.length c2) z.2 :: own b11 [.int .i64 r.1, .int .i64 r.2.1, .slice a2 r.2.2.1.length c2, .slice na r.2.2.2.length nc] 31 :: XP b f s o x' ++ RP b' u2 (doR y p sp).2)
            (fun z => [(1, .slice (some ⟨b_e, o_e, none⟩) l.length lc), (7, ptr b), (8, ptr b'), (9, .int .i64 i), (11, ptr b11), (13, .int .i64 z.1)])
            (fun z _ => z.1 ≤ r.2.2.1.length ∧ z.2.length = r.2.2.1.length) (0, r.2.2.1) (by repeat (first | exact trivial | refine ⟨rfl, ?_⟩)) ⟨Nat.zero_le _, rfl⟩ ?_
          rintro ⟨n2, l2⟩ F8 leF8 hg2 ih2
          dsimp only at hg2 ih2 ⊢
          obtain ⟨hn2, hll2⟩ := hg2
          repeat (first | refine t_seq ?_ | refine t_region ?_ | refine to_nil ?_ | refine to_q rfl rfl rfl ?_ | refine to_fa rfl rfl ?_ | refine to_ld rfl rfl rfl ?_ | refine to_lenS rfl rfl rfl ?_)
          refine t_condT rfl (fun hf2 => ?_) (fun hf2 => ?_)
          · simp only [decide_eq_true_eq] at hf2
            have hf2 : n2 < l2.length := by omega
            have hcf := List.getElem?_eq_getElem hf2
            generalize l2[n2] = cc at hcf
            refine t_lit (.slice a2 r.2.2.1.length c2) (ρ := u8R) (xs := l2) (List.ne_nil_of_length_pos (by omega)) fun bl cl el => ?_
            simp only [Value.slice.injEq] at el
            obtain ⟨rfl, _, _⟩ := el
            repeat (first | refine t_seq ?_ | refine t_block ?_ | refine t_region ?_ | refine t_skip ?_ | refine to_q rfl rfl rfl ?_ | refine to_fa rfl rfl ?_ | refine to_ld rfl rfl rfl ?_)
            refine to_ia (j := n2) rfl rfl rfl rfl (by omega) ?_
            refine to_ldO (ρ := u8R) (j := n2) (q := cc) rfl rfl rfl hcf fun uu huu => ?_
            cases huu
            refine to_xorB (c := cc) (e := 1) rfl rfl rfl ?_
            refine to_ia (j := n2) rfl rfl rfl rfl (by omega) ?_
            refine to_stO (ρ := u8R) (j := n2) (q' := cc ^^^ 1) rfl rfl rfl rfl (by omega) rfl ?_
            repeat (first | refine t_region ?_ | refine to_nil ?_ | refine t_inBlock ?_ | refine to_q rfl rfl rfl ?_ | refine to_add rfl rfl rfl (by omega) (by omega) ?_)
            refine t_re (A := OSl u8R 1 5 (.slice (some ⟨bl, 0, none⟩) r.2.2.1.length c2) (l2.set n2 (cc ^^^ 1)) :: own b11 [.int .i64 r.1, .int .i64 r.2.1, .slice (some ⟨bl, 0, none⟩) r.2.2.1.length c2, .slice na r.2.2.2.length nc] 31 :: XP b f s o x' ++ RP b' u2 (doR y p sp).2) (R := R)
              (ih2 (n2 + 1, l2.set n2 (cc ^^^ 1)) F8 ⟨.refl _⟩ (by dsimp only; omega) ⟨by dsimp only; omega, by dsimp only; rw [List.length_set]; exact hll2⟩) (by repeat (first | exact trivial | refine ⟨rfl, ?_⟩))
          simp only [decide_eq_false_iff_not] at hf2
          repeat (first | refine t_region ?_ | refine to_nil ?_ | refine t_inBlock ?_ | refine to_q rfl rfl rfl ?_ | refine to_add rfl rfl rfl (by omega) (by omega) ?_ | refine t_exit rfl ?_)
          refine t_re (A := XP b f s o x' ++ RP b' u2 (doR y p sp).2) (R := R)
            (ih (i + 1, x', (doR y p sp).2, u2) F8 ⟨((((le4.h.trans leF5.h).trans le6.h).trans le7.h).trans leF8.h)⟩ (by dsimp only; omega) ⟨by dsimp only; omega, by dsimp only; omega, hB', hY2.mono (le7.h.trans leF8.h)⟩) (by repeat (first | exact trivial | refine ⟨rfl, ?_⟩))
    · simp only [decide_eq_false_iff_not] at h2
      repeat (first | refine t_seq ?_ | refine t_region ?_ | refine to_q rfl rfl rfl ?_ | refine t_exit rfl ?_)
      refine to_call rfl rfl (names_sp b f s o x _ hxa.ok) fun v B F4 le4 h4 => ?_
      obtain ⟨ks, hks, hnv, rfl⟩ := h4
      rw [names_sim hB.s hB.r hks] at hnv
      repeat (refine to_q rfl rfl rfl ?_)
      refine to_call rfl rfl (rnames_sp b' y u _ (hY.mono le4.h) hra.z) fun v2 B F5 le5 h5 => ?_
      obtain ⟨hnv2, rfl⟩ := h5
      refine to_call rfl rfl (sameHeld_sp v v2 _ _ _ ((slR heldR 2).mono le5.h hnv) hnv2 (by have := rnamesI_le y.V y.V.length; have := hra.z.v; unfold rnames; omega)) fun v3 B F6 le6 h6 => ?_
      obtain ⟨rfl, rfl⟩ := h6
      rw [show decide (rnames y.V = rnames y.V) = true from by simp]
      repeat (refine to_q rfl rfl rfl ?_)
      refine to_call rfl rfl (sessions_sp b f s o x _ (by have := hxa.ok.sl; omega)) fun w B F7 le7 h7 => ?_
      obtain ⟨js, hjs, hwv, rfl⟩ := h7
      rw [sess_sim hB.s hB.r hjs] at hwv
      repeat (refine to_q rfl rfl rfl ?_)
      refine to_call rfl rfl (rsessions_sp b' y u _ (hY.mono ((le4.h.trans le5.h).trans (le6.h.trans le7.h))) hra.z) fun w2 B F8 le8 h8 => ?_
      obtain ⟨hwv2, rfl⟩ := h8
      refine to_call rfl rfl (ints_sp w w2 _ _ _ ((slR intR 1).mono le8.h hwv) hwv2 (by rw [List.length_map]; have := hra.z.o; omega)) fun w3 B F9 le9 h9 => ?_
      obtain ⟨rfl, rfl⟩ := h9
      rw [show decide (y.O.map (·.n) = y.O.map (·.n)) = true from by simp]
      repeat (first | refine to_nil ?_ | refine to_q rfl rfl rfl ?_)
      exact t_ret (XP b f s o x ++ RP b' u y) Tryz.func6 (.tmp rfl (.tmp rfl (.tmp rfl .nil))) ⟨b, f, s, o, x, b', u, y, rfl, hB.mono (by omega), hY.mono ((le4.h.trans le5.h).trans ((le6.h.trans le7.h).trans (le8.h.trans le9.h))), rfl⟩
  · simp only [decide_eq_false_iff_not] at h1
    repeat (first | refine t_seq ?_ | refine t_region ?_ | refine to_nil ?_ | refine to_no rfl ?_ | refine to_q rfl rfl rfl ?_ | refine t_cond (t := false) rfl (fun h => nomatch h) (fun _ => ?_) | refine t_exit rfl ?_)
    refine to_call rfl rfl (names_sp b f s o x _ hxa.ok) fun v B F4 le4 h4 => ?_
    obtain ⟨ks, hks, hnv, rfl⟩ := h4
    rw [names_sim hB.s hB.r hks] at hnv
    repeat (refine to_q rfl rfl rfl ?_)
    refine to_call rfl rfl (rnames_sp b' y u _ (hY.mono le4.h) hra.z) fun v2 B F5 le5 h5 => ?_
    obtain ⟨hnv2, rfl⟩ := h5
    refine to_call rfl rfl (sameHeld_sp v v2 _ _ _ ((slR heldR 2).mono le5.h hnv) hnv2 (by have := rnamesI_le y.V y.V.length; have := hra.z.v; unfold rnames; omega)) fun v3 B F6 le6 h6 => ?_
    obtain ⟨rfl, rfl⟩ := h6
    rw [show decide (rnames y.V = rnames y.V) = true from by simp]
    repeat (refine to_q rfl rfl rfl ?_)
    refine to_call rfl rfl (sessions_sp b f s o x _ (by have := hxa.ok.sl; omega)) fun w B F7 le7 h7 => ?_
    obtain ⟨js, hjs, hwv, rfl⟩ := h7
    rw [sess_sim hB.s hB.r hjs] at hwv
    repeat (refine to_q rfl rfl rfl ?_)
    refine to_call rfl rfl (rsessions_sp b' y u _ (hY.mono ((le4.h.trans le5.h).trans (le6.h.trans le7.h))) hra.z) fun w2 B F8 le8 h8 => ?_
    obtain ⟨hwv2, rfl⟩ := h8
    refine to_call rfl rfl (ints_sp w w2 _ _ _ ((slR intR 1).mono le8.h hwv) hwv2 (by rw [List.length_map]; have := hra.z.o; omega)) fun w3 B F9 le9 h9 => ?_
    obtain ⟨rfl, rfl⟩ := h9
    rw [show decide (y.O.map (·.n) = y.O.map (·.n)) = true from by simp]
    repeat (first | refine to_nil ?_ | refine to_q rfl rfl rfl ?_)
    exact t_ret (XP b f s o x ++ RP b' u y) Tryz.func6 (.tmp rfl (.tmp rfl (.tmp rfl .nil))) ⟨b, f, s, o, x, b', u, y, rfl, hB.mono (by omega), hY.mono ((le4.h.trans le5.h).trans ((le6.h.trans le7.h).trans (le8.h.trans le9.h))), rfl⟩
end Go.Proofs.YtbffngeameenoaaGreat
end
