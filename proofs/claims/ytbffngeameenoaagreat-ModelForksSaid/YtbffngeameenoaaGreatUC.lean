/- Part 3 of the proof.
  Parts: Writing into a session; copies of versions.; A session becomes a generation.; The keys of a map, in order.; What the library's sorting does to a row of the call's own.; The library sort at this program: its contracts laid out in plain words.; slices.Sort at whole numbers and at texts: the library's contracts, in my words; the sorted keys of maps.; slices.IndexFunc and DeleteFunc at versions.; slices.DeleteFunc at versions.; What snapshots hold; what is gone and not held is taken out.; What is gone and not held is taken out.; Taking a generation away, a snapshot away.; Delete, Unsnap.; The names of live files, with their greatest generations.; Snap.; What a snapshot shows of a file.; Does a live generation stay?; Association lists: what a key stands for, and lists that say the same.; What a sweep comes to, name by name.; Expire.; What a model does.; What a model does, whatever is asked.; == of struct values, field by field.; The same versions, snapshots, models.
-/
import Derived.Test.YtbffngeameenoaaGreatUB
import Derived.Sort.Row
import Derived.Sort.Grow
import Derived.Shelf.Sort.Plain
import Derived.Shelf.Slices.In.SortNone
import Derived.Test.YtbffngeameenoaaGreatProg
import Derived.Ground.NamesProg

section
set_option maxRecDepth 100000
set_option linter.unusedVariables false
set_option linter.unusedSimpArgs false
namespace Go.Proofs.YtbffngeameenoaaGreat
open Go Go.Au
attribute [local irreducible] T TO

theorem clone_sp (sv : Value) (xs : List Ver) (F : Frz) (hs : vsR.r F xs sv) (hl : xs.length ≤ 1048576) :
    Sp Tryz.prog 67 [sv] [] F (fun v B F' => B = [OSl verR 4 85 v xs]) := by
  obtain ⟨a, cap, e⟩ := slR_len hs
  subst e
  refine sp_of Tryz.func67 rfl (by kernel_rfl) rfl fun R => ?_
  repeat (first | refine t_seq ?_ | refine t_region ?_ | refine to_nil ?_ | refine to_q rfl rfl rfl ?_ | refine to_nilS rfl rfl rfl ?_)
  refine t_condT rfl (fun h => ?_) (fun h => ?_)
  · repeat (first | refine t_seq ?_ | refine t_region ?_ | refine to_nil ?_ | refine to_q rfl rfl rfl ?_)
    have hx : xs = [] := by
      rcases hs with ⟨e, _⟩ | ⟨b, o, c, vs, e, _⟩
      · exact e
      · cases e; cases h
    subst hx
    refine t_emp verR 4 85 none ?_
    exact t_ret [OSl verR 4 85 nilS []] Tryz.func67 (.tmp rfl .nil) rfl
  · repeat (first | refine t_seq ?_ | refine t_region ?_ | refine t_skip ?_)
    refine to_bsl (len := 0) rfl rfl rfl rfl fun b1 => ?_
    refine to_osl (n := 4) (b := b1) verR [] .nil rfl ?_
    repeat (refine to_q rfl rfl rfl ?_)
    obtain ⟨us, hf, hsrc⟩ := src_ro (P := Tryz.prog) (et := 85) (by_ := 40) (xt := 77) (e' := 85) (L := OSl verR 4 85 (.slice (some ⟨b1, 0, none⟩) 0 0) [] :: ([] ++ R)) (F := F) hs
    refine to_app (ρ := verR) (xs := []) (ys := xs) rfl rfl rfl rfl hsrc hf (by simp; omega) fun v' => ?_
    repeat (first | refine to_nil ?_ | refine to_q rfl rfl rfl ?_)
    exact t_ret [OSl verR 4 85 v' ([] ++ xs)] Tryz.func67 (.tmp rfl .nil) rfl

def writeX (x : XM) (p : Op1) (sp : Bool) : Int × Int × XM := match aget x.sess p.n with
  | none => (9, 0, x)
  | some (nm, tx) =>
    if 8192 - (tx.size : Int) < p.bytes.length then (6, 0, { x with sess := adel x.sess p.n })
    else if x.quota > 0 ∧ x.quota - sizeX x < p.bytes.length then (11, 0, { x with sess := adel x.sess p.n })
    else if sp then (8, 0, { x with sess := adel x.sess p.n })
    else (0, 0, { x with sess := aset x.sess p.n (nm, tx ++ ⟨p.bytes.toArray⟩) })
theorem write_sp (b f s o : Nat) (x : XM) (p : Op1) (sp : Bool) (c : Bool) (bv cv ct ca : Value) (F : Frz) (ok : XOk x) (hq : x.quota ≤ 9223372036854775807) (hq' : -9223372036854775808 ≤ x.quota) :
    Sp Tryz.prog 28 [ptr b, opV p bv cv ct ca, .bool sp] (byH c 5 bv p.bytes :: XP b f s o x) F
      (fun v B F' => v = ansV (writeX x p sp).1 (writeX x p sp).2.1 nilS nilS ∧ B = byH c 5 bv p.bytes :: XP b f s o (writeX x p sp).2.2) := by
  refine sp_of Tryz.func28 rfl (by kernel_rfl) rfl fun R => ?_
  repeat (first | refine t_seq ?_ | refine t_region ?_ | refine to_nil ?_ | refine to_alloc rfl fun _ => ?_ | refine to_boxA rfl rfl fun _ => ?_)
  refine t_drawn1 (by kernel_rfl) (by kernel_rfl) ?_
  repeat (first | refine to_q rfl rfl rfl ?_ | refine to_fa rfl rfl ?_ | refine to_ld rfl rfl rfl ?_)
  refine to_lkg (key := p.n) rfl rfl rfl (fun v u h1 hr => ?_) (fun h1 => ?_)
  rotate_left
  · have e : writeX x p sp = (9, 0, x) := by simp [writeX, h1]
    repeat (first | refine t_seq ?_ | refine t_block ?_ | refine t_region ?_ | refine to_nil ?_ | refine to_q rfl rfl rfl ?_ | refine to_stA rfl rfl rfl rfl rfl rfl ?_ | refine to_alloc rfl fun _ => ?_
                  | refine t_cond (t := true) rfl (fun _ => ?_) (fun h => nomatch h))
    refine to_call rfl rfl (wrong_sp 9 _) fun v B F2 _ h => ?_
    obtain ⟨rfl, rfl⟩ := h
    repeat (first | refine to_nil ?_ | refine to_stA rfl rfl rfl rfl rfl rfl ?_)
    exact t_ret (byH c 5 bv p.bytes :: XP b f s o x) Tryz.func28 (.cellA rfl rfl .nil) (by rw [e]; exact ⟨rfl, rfl⟩)
  obtain ⟨nm, tx⟩ := v
  obtain rfl : u = .agg #[.string nm, .string tx] := hr
  have htx : tx.size ≤ 8192 := ok.st _ (mem_of_aget h1)
  repeat (first | refine t_seq ?_ | refine t_block ?_ | refine t_region ?_ | refine to_nil ?_ | refine to_q rfl rfl rfl ?_ | refine to_fa rfl rfl ?_ | refine to_ld rfl rfl rfl ?_ | refine to_stA rfl rfl rfl rfl rfl rfl ?_
                | refine to_alloc rfl fun _ => ?_ | refine t_cond (t := false) rfl (fun h => nomatch h) (fun _ => ?_))
  refine to_lenY rfl rfl rfl ?_
  repeat (first | refine to_nil ?_ | refine to_q rfl rfl rfl ?_ | refine to_fa rfl rfl ?_ | refine to_ld rfl rfl rfl ?_ | refine to_sub_ rfl rfl rfl (by omega) (by omega) ?_ | refine to_lenT rfl rfl rfl ?_)
  refine t_condT rfl (fun h => ?_) (fun h => ?_)
  · simp only [decide_eq_true_eq] at h
    have e : writeX x p sp = (6, 0, { x with sess := adel x.sess p.n }) := by simp [writeX, h1]; omega
    repeat (first | refine t_seq ?_ | refine t_region ?_ | refine to_q rfl rfl rfl ?_ | refine to_fa rfl rfl ?_ | refine to_ld rfl rfl rfl ?_)
    refine to_call rfl rfl (lost_sp b f s o x p.n 6 _) fun v B F2 _ h => ?_
    obtain ⟨rfl, rfl⟩ := h
    repeat (first | refine to_nil ?_ | refine to_stA rfl rfl rfl rfl rfl rfl ?_)
    exact t_ret (byH c 5 bv p.bytes :: XP b f s o { x with sess := adel x.sess p.n }) Tryz.func28 (.cellA rfl rfl .nil) (by rw [e]; exact ⟨rfl, rfl⟩)
  simp only [decide_eq_false_iff_not] at h
  rename_i bop ba bse _
  repeat (refine t_seq ?_)
  refine t_drawnT [b, bop] (by kernel_rfl) (by kernel_rfl) ?_
  repeat (first | refine to_q rfl rfl rfl ?_ | refine to_fa rfl rfl ?_ | refine to_ldK rfl rfl rfl ?_)
  have hsz : (sizeX x : Int) ≤ 33554432 := by
    have h5 := sum_le (fun p : ByteArray × List Ver => sumT p.2) 262144 (l := x.files) (fun q hq => sumT_le (ok.fv _ hq) (ok.ft _ hq))
    have h6 := sum_le (fun p : Int × (ByteArray × ByteArray) => p.2.2.size) 8192 (l := x.sess) ok.st
    have := ok.fl
    have := ok.sl
    simp only [sizeX, sumF, sumS]; omega
  refine to_gd rfl rfl (fun hq0 => ?_) (fun hq0 => ?_)
  focus
    simp only [decide_eq_true_eq] at hq0
    repeat (first | refine to_fa rfl rfl ?_ | refine to_ldK rfl rfl rfl ?_)
    refine to_lenY rfl rfl rfl ?_
    repeat (first | refine to_q rfl rfl rfl ?_ | refine to_fa rfl rfl ?_ | refine to_ldK rfl rfl rfl ?_)
    refine to_callK rfl rfl (size_sp b f s o x _ ok) fun v B F2 le_F2 h_F2 => ?_
    obtain ⟨rfl, rfl⟩ := h_F2
    refine ⟨inferInstance, ?_⟩
    repeat (first | refine to_nil ?_ | refine t_out ?_ | refine to_q rfl rfl rfl ?_ | refine to_sub_ rfl rfl rfl (by omega) (by omega) ?_)
    refine t_condT rfl (fun h4 => ?_) (fun h4 => ?_)
    · simp only [decide_eq_true_eq] at h4
      have e : writeX x p sp = (11, 0, { x with sess := adel x.sess p.n }) := by simp only [writeX, h1]; rw [if_neg (by omega), if_pos (by omega)]
      repeat (first | refine t_seq ?_ | refine t_region ?_ | refine to_q rfl rfl rfl ?_ | refine to_fa rfl rfl ?_ | refine to_ld rfl rfl rfl ?_)
      refine to_call rfl rfl (lost_sp b f s o x p.n 11 _) fun v B F3 _ h => ?_
      obtain ⟨rfl, rfl⟩ := h
      repeat (first | refine to_nil ?_ | refine to_stA rfl rfl rfl rfl rfl rfl ?_)
      exact t_ret (byH c 5 bv p.bytes :: XP b f s o { x with sess := adel x.sess p.n }) Tryz.func28 (.cellA rfl rfl .nil) (by rw [e]; exact ⟨rfl, rfl⟩)
    simp only [decide_eq_false_iff_not] at h4
    have hqq : ¬ (x.quota > 0 ∧ x.quota - sizeX x < p.bytes.length) := by omega
    clear h4
  rotate_left
  focus
    simp only [decide_eq_false_iff_not] at hq0
    have hqq : ¬ (x.quota > 0 ∧ x.quota - sizeX x < p.bytes.length) := by omega
  all_goals
    repeat (first | refine t_seq ?_ | refine t_region ?_ | refine to_nil ?_ | refine t_out ?_ | refine to_no rfl ?_ | refine to_q rfl rfl rfl ?_ | refine t_cond (t := false) rfl (fun h => nomatch h) (fun _ => ?_))
    refine t_condT rfl (fun h5 => ?_) (fun h5 => ?_)
    · have e : writeX x p sp = (8, 0, { x with sess := adel x.sess p.n }) := by subst h5; simp only [writeX, h1]; rw [if_neg (by omega), if_neg (by omega), if_pos trivial]
      repeat (first | refine t_seq ?_ | refine t_region ?_ | refine to_q rfl rfl rfl ?_ | refine to_fa rfl rfl ?_ | refine to_ld rfl rfl rfl ?_)
      refine to_call rfl rfl (lost_sp b f s o x p.n 8 _) fun v B F3 _ h => ?_
      obtain ⟨rfl, rfl⟩ := h
      repeat (first | refine to_nil ?_ | refine to_stA rfl rfl rfl rfl rfl rfl ?_)
      exact t_ret (byH c 5 bv p.bytes :: XP b f s o { x with sess := adel x.sess p.n }) Tryz.func28 (.cellA rfl rfl .nil) (by rw [e]; exact ⟨rfl, rfl⟩)
    have e : writeX x p sp = (0, 0, { x with sess := aset x.sess p.n (nm, tx ++ ⟨p.bytes.toArray⟩) }) := by subst h5; simp only [writeX, h1]; rw [if_neg (by omega), if_neg (by omega), if_neg (by simp)]
    have hbl : (ByteArray.mk p.bytes.toArray).size = p.bytes.length := by simp [ByteArray.size]
    repeat (first | refine t_seq ?_ | refine t_region ?_ | refine t_skip ?_ | refine t_inBlock ?_ | refine to_fa rfl rfl ?_ | refine to_ld rfl rfl rfl ?_)
    refine to_cvY rfl rfl ?_
    refine to_cat rfl rfl rfl (by omega) ?_
    repeat (first | refine t_seq ?_ | refine to_nil ?_ | refine to_fa rfl rfl ?_ | refine to_st rfl rfl rfl rfl rfl ?_)
    refine t_drawn1 (by kernel_rfl) (by kernel_rfl) ?_
    repeat (first | refine to_q rfl rfl rfl ?_ | refine to_fa rfl rfl ?_ | refine to_ld rfl rfl rfl ?_ | refine to_ldA rfl rfl rfl ?_)
    refine to_mu (key := p.n) (v' := (nm, tx ++ ⟨p.bytes.toArray⟩)) rfl rfl rfl rfl rfl ?_
    repeat (first | refine t_seq ?_ | refine t_region ?_ | refine to_nil ?_ | refine to_stA rfl rfl rfl rfl rfl rfl ?_ | refine to_bs rfl rfl rfl rfl ?_)
    exact t_ret (byH c 5 bv p.bytes :: XP b f s o { x with sess := aset x.sess p.n (nm, tx ++ ⟨p.bytes.toArray⟩) }) Tryz.func28 (.cellA rfl rfl .nil) (by rw [e]; exact ⟨rfl, rfl⟩)
end Go.Proofs.YtbffngeameenoaaGreat
end

section
set_option maxRecDepth 100000
set_option linter.unusedVariables false
set_option linter.unusedSimpArgs false
namespace Go.Proofs.YtbffngeameenoaaGreat
open Go Go.Au
attribute [local irreducible] T TO

def nextGen (o : Option (List Ver)) : Int := match o with
  | none => 1
  | some l => match l.getLast? with
    | some v => v.gen + 1
    | none => 1
def commitX (x : XM) (p : Op1) (sp : Bool) : Int × Int × XM := match aget x.sess p.n with
  | none => (9, 0, x)
  | some (nm, tx) =>
    if ((aget x.files nm).isSome = false ∧ x.files.length = 64) ∨ (filesOf x nm).length = 32 then (6, 0, { x with sess := adel x.sess p.n })
    else if sp then (8, 0, { x with sess := adel x.sess p.n })
    else (0, nextGen (aget x.files nm), { x with files := aset x.files nm (filesOf x nm ++ [⟨nextGen (aget x.files nm), x.now, tx, false⟩]), sess := adel x.sess p.n })
set_option maxHeartbeats 4000000 in
theorem commit_sp (b f s o : Nat) (x : XM) (p : Op1) (sp : Bool) (bv cv ct ca : Value) (F : Frz) (ok : XOk x) :
    Sp Tryz.prog 29 [ptr b, opV p bv cv ct ca, .bool sp] (XP b f s o x) F
      (fun v B F' => v = ansV (commitX x p sp).1 (commitX x p sp).2.1 nilS nilS ∧ B = XP b f s o (commitX x p sp).2.2) := by
  refine sp_of Tryz.func29 rfl (by kernel_rfl) rfl fun R => ?_
  repeat (first | refine t_seq ?_ | refine t_region ?_ | refine to_nil ?_ | refine to_alloc rfl fun _ => ?_ | refine to_boxA rfl rfl fun _ => ?_)
  refine t_drawn1 (by kernel_rfl) (by kernel_rfl) ?_
  repeat (first | refine to_q rfl rfl rfl ?_ | refine to_fa rfl rfl ?_ | refine to_ld rfl rfl rfl ?_)
  refine to_lkg (key := p.n) rfl rfl rfl (fun v u h1 hr => ?_) (fun h1 => ?_)
  rotate_left
  · have e : commitX x p sp = (9, 0, x) := by simp [commitX, h1]
    repeat (first | refine t_seq ?_ | refine to_nil ?_ | refine to_q rfl rfl rfl ?_ | refine to_stA rfl rfl rfl rfl rfl rfl ?_ | refine to_alloc rfl fun _ => ?_)
    refine t_drawn1 (by kernel_rfl) (by kernel_rfl) ?_
    repeat (first | refine to_q rfl rfl rfl ?_ | refine to_fa rfl rfl ?_ | refine to_ld rfl rfl rfl ?_)
    refine to_lkO (key := ⟨#[]⟩) [] (slR_nil _ _ _ _ _) rfl rfl rfl fun u hu => ?_
    repeat (first | refine t_seq ?_ | refine t_block ?_ | refine t_region ?_ | refine to_nil ?_ | refine to_q rfl rfl rfl ?_ | refine t_cond (t := true) rfl (fun _ => ?_) (fun h => nomatch h))
    refine to_call rfl rfl (wrong_sp 9 _) fun v B F2 _ h => ?_
    obtain ⟨rfl, rfl⟩ := h
    repeat (first | refine to_nil ?_ | refine to_stA rfl rfl rfl rfl rfl rfl ?_)
    exact t_ret (XP b f s o x) Tryz.func29 (.cellA rfl rfl .nil) (by rw [e]; exact ⟨rfl, rfl⟩)
  obtain ⟨nm, tx⟩ := v
  obtain rfl : u = .agg #[.string nm, .string tx] := hr
  repeat (first | refine t_seq ?_ | refine to_nil ?_ | refine to_q rfl rfl rfl ?_ | refine to_stA rfl rfl rfl rfl rfl rfl ?_ | refine to_alloc rfl fun _ => ?_)
  refine t_drawn1 (by kernel_rfl) (by kernel_rfl) ?_
  repeat (first | refine to_q rfl rfl rfl ?_ | refine to_fa rfl rfl ?_ | refine to_ld rfl rfl rfl ?_)
  refine to_lkO (key := nm) [] (slR_nil _ _ _ _ _) rfl rfl rfl fun u hu => ?_
  rename_i bop ba bse
  have hl32 := filesOf_len ok nm
  have hff : vsR.r F (filesOf x nm) u := hu
  clear hu
  have hlen : ∀ (F0 F1 : Frz), vsR.r F0 (filesOf x nm) u → True := fun _ _ _ => trivial
  rcases hfl : aget x.files nm with _ | l
  focus
    have hfo : filesOf x nm = [] := by simp [filesOf, hfl]
    repeat (first | refine t_seq ?_ | refine t_block ?_ | refine t_region ?_ | refine to_nil ?_ | refine to_q rfl rfl rfl ?_ | refine to_fa rfl rfl ?_ | refine to_ld rfl rfl rfl ?_ | refine to_lenM rfl rfl rfl ?_
                  | refine t_cond (t := false) rfl (fun h => nomatch h) (fun _ => ?_))
    refine t_condT rfl (fun hc => ?_) (fun hc => ?_)
    · simp only [beq_iff_eq] at hc
      have e : commitX x p sp = (6, 0, { x with sess := adel x.sess p.n }) := by simp only [commitX, h1, hfl]; rw [if_pos (.inl ⟨rfl, by omega⟩)]
      repeat (first | refine t_seq ?_ | refine t_region ?_ | refine t_skip ?_ | refine to_q rfl rfl rfl ?_ | refine to_fa rfl rfl ?_ | refine to_ld rfl rfl rfl ?_
                    | refine t_cond (t := true) rfl (fun _ => ?_) (fun h => nomatch h))
      refine to_call rfl rfl (lost_sp b f s o x p.n 6 _) fun v B F3 _ h => ?_
      obtain ⟨rfl, rfl⟩ := h
      repeat (first | refine to_nil ?_ | refine to_stA rfl rfl rfl rfl rfl rfl ?_)
      exact t_ret (XP b f s o { x with sess := adel x.sess p.n }) Tryz.func29 (.cellA rfl rfl .nil) (by rw [e]; exact ⟨rfl, rfl⟩)
    simp only [beq_eq_false_iff_ne] at hc
    have hcc : ¬ ((aget x.files nm).isSome = false ∧ x.files.length = 64) := fun h => hc (by have := h.2; omega)
    repeat (first | refine t_region ?_ | refine to_q rfl rfl rfl ?_)
  rotate_left
  focus
    have hcc : ¬ ((aget x.files nm).isSome = false ∧ x.files.length = 64) := fun h => by have := h.1; rw [hfl] at this; cases this
    repeat (first | refine t_seq ?_ | refine t_block ?_ | refine t_region ?_ | refine to_nil ?_ | refine to_no rfl ?_ | refine to_q rfl rfl rfl ?_ | refine t_cond (t := false) rfl (fun h => nomatch h) (fun _ => ?_))
  all_goals
    refine to_lenR (ρ := verR) (n := 4) hff rfl rfl rfl ?_
    repeat (first | refine to_nil ?_ | refine to_q rfl rfl rfl ?_)
    refine t_condT rfl (fun hm => ?_) (fun hm => ?_)
    · simp only [beq_iff_eq] at hm
      have e : commitX x p sp = (6, 0, { x with sess := adel x.sess p.n }) := by simp only [commitX, h1]; rw [if_pos (.inr (by omega))]
      repeat (first | refine t_seq ?_ | refine t_region ?_ | refine to_q rfl rfl rfl ?_ | refine to_fa rfl rfl ?_ | refine to_ld rfl rfl rfl ?_)
      refine to_call rfl rfl (lost_sp b f s o x p.n 6 _) fun v B F3 _ h => ?_
      obtain ⟨rfl, rfl⟩ := h
      repeat (first | refine to_nil ?_ | refine to_stA rfl rfl rfl rfl rfl rfl ?_)
      exact t_ret (XP b f s o { x with sess := adel x.sess p.n }) Tryz.func29 (.cellA rfl rfl .nil) (by rw [e]; exact ⟨rfl, rfl⟩)
    simp only [beq_eq_false_iff_ne] at hm
    have hcm : ¬ (((aget x.files nm).isSome = false ∧ x.files.length = 64) ∨ (filesOf x nm).length = 32) := fun h => h.elim hcc (fun h => hm (by omega))
    repeat (first | refine t_seq ?_ | refine t_region ?_ | refine to_nil ?_ | refine to_q rfl rfl rfl ?_)
    refine t_condT rfl (fun h5 => ?_) (fun h5 => ?_)
    · have e : commitX x p sp = (8, 0, { x with sess := adel x.sess p.n }) := by subst h5; simp only [commitX, h1]; rw [if_neg hcm, if_pos trivial]
      repeat (first | refine t_seq ?_ | refine t_region ?_ | refine to_q rfl rfl rfl ?_ | refine to_fa rfl rfl ?_ | refine to_ld rfl rfl rfl ?_)
      refine to_call rfl rfl (lost_sp b f s o x p.n 8 _) fun v B F3 _ h => ?_
      obtain ⟨rfl, rfl⟩ := h
      repeat (first | refine to_nil ?_ | refine to_stA rfl rfl rfl rfl rfl rfl ?_)
      exact t_ret (XP b f s o { x with sess := adel x.sess p.n }) Tryz.func29 (.cellA rfl rfl .nil) (by rw [e]; exact ⟨rfl, rfl⟩)
    have e : commitX x p sp = (0, nextGen (aget x.files nm), { x with files := aset x.files nm (filesOf x nm ++ [⟨nextGen (aget x.files nm), x.now, tx, false⟩]), sess := adel x.sess p.n }) := by
      subst h5; simp only [commitX, h1]; rw [if_neg hcm, if_neg (by simp)]
    repeat (first | refine t_seq ?_ | refine t_region ?_ | refine to_nil ?_ | refine t_skip ?_ | refine t_inBlock ?_ | refine to_q rfl rfl rfl ?_ | refine t_cond (t := true) rfl (fun _ => ?_) (fun h => nomatch h)
                  | refine t_cond (t := false) rfl (fun h => nomatch h) (fun _ => ?_))
  focus
    obtain ⟨q, hq⟩ : ∃ q, l.getLast? = some q := by
      cases hll : l.getLast? with
      | none => exact absurd (List.getLast?_eq_none_iff.1 hll) (ok.fn _ (mem_of_aget hfl))
      | some q => exact ⟨q, rfl⟩
    have hqm : q ∈ l := List.mem_of_getLast? hq
    have hqg := ok.fg _ (mem_of_aget hfl) _ hqm
    have hng : nextGen (aget x.files nm) = q.gen + 1 := by rw [hfl]; simp [nextGen, hq]
    have hfo : filesOf x nm = l := by simp [filesOf, hfl]
    rw [hng] at e
    refine to_lenR (ρ := verR) (n := 4) hff rfl rfl rfl ?_
    rw [hfo] at hff hl32 ⊢
    have hln : l.length ≠ 0 := fun h => ok.fn _ (mem_of_aget hfl) (List.eq_nil_of_length_eq_zero h)
    have hc : l[l.length - 1]? = some q := by rw [← hq, List.getLast?_eq_getElem?]
    repeat (refine to_sub_ rfl rfl rfl (by omega) (by omega) ?_)
    obtain ⟨b1, o1, cap1, u1, e1, hlt, hr, hro⟩ := slR_elem (P := Tryz.prog) (t := 85) (by_ := 40) hff hc
    refine to_ia (len := l.length) (j := l.length - 1) rfl (by rw [e1]; rfl) rfl (by omega) (by omega) ?_
    repeat (refine to_fa rfl rfl ?_)
    refine to_ldR (F0 := F) rfl rfl (hro.one (j := 0) (v := .int .i64 q.gen) (by cases hr; rfl)) ?_
    repeat (first | refine t_seq ?_ | refine to_nil ?_ | refine to_q rfl rfl rfl ?_ | refine to_add rfl rfl rfl (by omega) (by omega) ?_)
    generalize q.gen + 1 = gv at e hng
    rw [← hfo] at hff hl32
  rotate_left
  focus
    have hng : nextGen (aget x.files nm) = 1 := by rw [hfl]; rfl
    rw [hng] at e
    generalize (1 : Int) = gv at e hng
  all_goals
    skip
    refine t_drawnX [b, bop, bse] (by kernel_rfl) fun s0 hs0 => ?_
    refine to_frees (by assumption) [0,1,2,3,4,5,6,8,9,10,11,12,13,14,15] (by kernel_rfl) fun _ _ => ?_
    simp only [List.map_cons, List.map_nil, List.cons_append, List.nil_append, opAt, List.getElem?_cons_zero, List.getElem?_cons_succ, Option.getD_some]
    repeat (first | refine to_q rfl rfl rfl ?_ | refine to_fa rfl rfl ?_ | refine to_ldK rfl rfl rfl ?_ | refine to_bs rfl rfl rfl rfl ?_)
    refine to_next2 (by assumption) 7 16 rfl rfl (by kernel_rfl) (fun _ _ => ?_) (fun _ _ => ?_)
    focus
      refine to_callK rfl rfl (clone_sp u _ _ hff (by omega)) fun v B F2 le_F2 h_F2 => ?_
      subst h_F2
      refine ⟨inferInstance, ?_⟩
      refine to_free (by assumption) 16 rfl (by kernel_rfl) (by kernel_rfl) fun _ _ => ?_
      refine to_bsl (len := 1) rfl rfl rfl rfl fun b1 => ?_
    rotate_left
    focus
      refine to_bsl (len := 1) rfl rfl rfl rfl fun b1 => ?_
      refine to_free (by assumption) 7 rfl (by kernel_rfl) (by kernel_rfl) fun _ _ => ?_
      refine to_callK rfl rfl (clone_sp u _ _ hff (by omega)) fun v B F2 le_F2 h_F2 => ?_
      subst h_F2
      refine ⟨inferInstance, ?_⟩
    all_goals
      refine to_free (by assumption) 17 rfl (by kernel_rfl) (by kernel_rfl) fun _ _ => ?_
      refine to_app1 (ρ := verR) (q := ⟨gv, x.now, tx, false⟩) (u := verV ⟨gv, x.now, tx, false⟩) rfl rfl rfl rfl rfl rfl (by omega) fun v2 => ?_
      refine to_freeze v2 fun F3 le3 hv3 => ?_
      refine to_free (by assumption) 18 rfl (by kernel_rfl) (by kernel_rfl) fun _ _ => ?_
      refine to_mu (key := nm) (v' := filesOf x nm ++ [⟨gv, x.now, tx, false⟩]) rfl rfl rfl rfl hv3 ?_
      refine to_lin_nil (by assumption) (t_out ?_)
      repeat (refine t_seq ?_)
      refine t_drawn1 (by kernel_rfl) (by kernel_rfl) ?_
      repeat (first | refine to_q rfl rfl rfl ?_ | refine to_fa rfl rfl ?_ | refine to_ld rfl rfl rfl ?_)
      refine to_del rfl rfl rfl (key := p.n) rfl ?_
      repeat (first | refine t_seq ?_ | refine t_region ?_ | refine to_nil ?_ | refine to_q rfl rfl rfl ?_ | refine to_stA rfl rfl rfl rfl rfl rfl ?_ | refine to_bs rfl rfl rfl rfl ?_)
      exact t_ret (XP b f s o { x with files := aset x.files nm (filesOf x nm ++ [⟨gv, x.now, tx, false⟩]), sess := adel x.sess p.n }) Tryz.func29 (.cellA rfl rfl .nil) (by rw [e]; exact ⟨rfl, rfl⟩)
end Go.Proofs.YtbffngeameenoaaGreat
end

section
set_option maxRecDepth 100000
set_option linter.unusedVariables false
set_option linter.unusedSimpArgs false
namespace Go.Proofs.YtbffngeameenoaaGreat
open Go Go.Au
attribute [local irreducible] T TO

def kz {κ β : Type} (φ : MapEntry → κ × β) (d : List MapEntry) : List κ := d.map fun x => (φ x).1
theorem kz_snoc {κ β : Type} (φ : MapEntry → κ × β) (d : List MapEntry) (y : MapEntry) : kz φ (d ++ [y]) = kz φ d ++ [(φ y).1] := by simp [kz]



theorem keysF_sp (y : Value) (pb f : Nat) (m : List (ByteArray × List Ver)) (F : Frz) (J : List ByteArray → HP)
    (hy : ∀ (d : List ByteArray) (q : ByteArray) (F' : Frz), FS F F' → d.length < m.length → CV Tryz.prog y [Value.string q] [J d] F' (fun v B F'' => v = .bool true ∧ B = [J (d ++ [q])])) :
    Sp Tryz.prog 88 [y, ptr pb] [J [], own pb [.map (some f)] 65, mapP (Value.string) vsR f m] F (fun v B F' => ∃ ks, ks.Perm (m.map (·.1)) ∧ B = [J ks, own pb [.map (some f)] 65, mapP (Value.string) vsR f m]) := by
  classical
  refine sp_of Tryz.func88 rfl (by kernel_rfl) rfl fun R => ?_
  refine t_openM f fun es clock φ hm => ?_
  repeat (first | refine t_seq ?_ | refine t_region ?_ | refine to_ld rfl rfl rfl ?_)
  refine to_range (mapAt_own (b := f) (es := es) (clock := clock)) rfl rfl fun r => ?_
  repeat (first | refine t_block ?_ | refine to_nil ?_)
  rw [show J [] = J (kz φ []) from rfl]
  refine t_loopJ (R := R) (fun d : List MapEntry => es.size - d.length) (fun d => [J (kz φ d), iterP r f clock d, at1 f (.map es clock), own pb [.map (some f)] 65])
    (fun d => [(0, y), (1, ptr pb), (5, ptr r)]) (fun d _ => d.Nodup ∧ ∀ z ∈ d, z ∈ es.toList) [] (by repeat (first | exact trivial | refine ⟨rfl, ?_⟩)) ⟨.nil, by simp⟩ ?_
  intro d F1 le1 hg ih
  obtain ⟨hd1, hd2⟩ := hg
  repeat (first | refine t_seq ?_ | refine t_region ?_)
  refine to_next_ (mapAt_own (b := f) (es := es) (clock := clock)) hm.bl hm.nb hd2 rfl rfl (fun hall => ?_) (fun z hz hnz => ?_)
  · repeat (first | refine t_seq ?_ | refine to_nil ?_ | refine to_q rfl rfl rfl ?_ | refine t_cond (t := false) rfl (fun h => nomatch h) (fun _ => ?_) | refine t_exit rfl ?_)
    refine t_shutM f (hm.ok.mono le1.h) ?_
    refine t_end [J (kz φ d), own pb [.map (some f)] 65, mapP (Value.string) vsR f m] Tryz.func88 .nil ⟨kz φ d, ?_, rfl⟩
    have := (((done_perm hm.nd hd1 hd2 hall).map φ).trans hm.perm).map (·.1)
    rwa [List.map_map] at this
  · repeat (first | refine t_seq ?_ | refine t_block ?_ | refine t_region ?_ | refine to_nil ?_ | refine t_skip ?_ | refine to_q rfl rfl rfl ?_ | refine t_cond (t := true) rfl (fun _ => ?_) (fun h => nomatch h))
    refine to_entry (mapAt_own (b := f) (es := es) (clock := clock)) hm.nb hz rfl rfl ?_
    obtain ⟨hk, hv⟩ := hm.rel z hz
    rw [hk]
    repeat (first | refine t_seq ?_ | refine t_region ?_ | refine to_nil ?_ | refine to_q rfl rfl rfl ?_)
    have hlen : (d ++ [z]).length ≤ es.size := nodup_len (snoc_nd hd1 hnz) (snoc_sub hd2 hz)
    rw [List.length_append, List.length_singleton] at hlen
    have hml := hm.perm.length_eq
    rw [List.length_map, Array.length_toList] at hml
    refine to_callv rfl rfl rfl (hy (kz φ d) (φ z).1 F1 inferInstance (by simp only [kz, List.length_map]; omega)) fun v B F2 le2 h2 => ?_
    obtain ⟨rfl, rfl⟩ := h2
    repeat (first | refine to_nil ?_ | refine t_skip ?_ | refine t_inBlock ?_ | refine to_q rfl rfl rfl ?_ | refine t_cond (t := false) rfl (fun h => nomatch h) (fun _ => ?_))
    rw [← kz_snoc]
    refine t_re (A := [J (kz φ (d ++ [z])), iterP r f clock (d ++ [z]), at1 f (.map es clock), own pb [.map (some f)] 65]) (R := R)
      (ih (d ++ [z]) F2 le2 (by rw [List.length_append, List.length_singleton]; omega) ⟨snoc_nd hd1 hnz, snoc_sub hd2 hz⟩) (by repeat (first | exact trivial | refine ⟨rfl, ?_⟩))
theorem appendSeqF_sp (pb f : Nat) (m : List (ByteArray × List Ver)) (F : Frz) (hl : m.length ≤ 1048576) :
    Sp Tryz.prog 98 [nilS, .func (.func 88) #[] #[ptr pb]] [own pb [.map (some f)] 65, mapP (Value.string) vsR f m] F
      (fun v B F' => ∃ ks, ks.Perm (m.map (·.1)) ∧ B = [OSl strR 1 9 v ks, own pb [.map (some f)] 65, mapP (Value.string) vsR f m]) := by
  refine sp_of Tryz.func98 rfl (by kernel_rfl) rfl fun R => ?_
  repeat (first | refine t_seq ?_ | refine t_block ?_ | refine t_region ?_ | refine to_nil ?_ | refine to_q rfl rfl rfl ?_ | refine to_box1 rfl rfl rfl fun _ => ?_)
  rename_i b2
  refine t_emp strR 1 9 none ?_
  refine t_rangeFn (A := [own b2 [nilS] 106, OSl strR 1 9 nilS [], own pb [.map (some f)] 65, mapP (Value.string) vsR f m]) rfl rfl fun l r lo e1 e2 ag e3 e4 e5 => ?_
  refine ⟨fun v B F' => ∃ ks sv, ks.Perm (m.map (·.1)) ∧ B = [at1 l (.loop (loS lo .ready none)), own b2 [sv] 106, OSl strR 1 9 sv ks, own pb [.map (some f)] 65, mapP (Value.string) vsR f m], ?_, ?_⟩
  · have hsp := keysF_sp (yv l) pb f m F (fun ks => exH fun sv => [at1 l (.loop (loS lo .ready none)), own b2 [sv] 106, OSl strR 1 9 sv ks]) (fun d q F1 le1 hdl => ?_)
    · intro RR w st
      have h1 := (hsp.exI (C := [_, _]) nilS) RR w st
      refine Calls.mono' h1 (onRet_mono fun v w' ⟨B, F', le, ⟨ks, hks, hB⟩, s⟩ => ?_)
      subst hB
      obtain ⟨sv, s'⟩ := ex_out (L := [_, _] ++ RR) s
      exact ⟨_, F', le, ⟨ks, sv, hks, rfl⟩, s'⟩
    · refine CV.ex0 fun sv => ?_
      refine CV.out (cv_yieldS (Ψ := fun v B F'' => v = .bool true ∧ ∃ sv', B = [at1 l (.loop (loS lo .ready none)), own b2 [sv'] 106, OSl strR 1 9 sv' (d ++ [q])]) e1 e2 ag (ps := [7]) e3 e4 e5 rfl (by kernel_rfl) fun R => ?_) ?_
      · repeat (first | refine t_block ?_ | refine t_region ?_ | refine to_nil ?_ | refine t_beginRound rfl ?_ | refine to_q rfl rfl rfl ?_ | refine to_ld rfl rfl rfl ?_)
        refine to_bsl (len := 1) rfl rfl rfl rfl fun b1 => ?_
        refine to_app1 (ρ := strR) (q := q) (u := Value.string q) rfl rfl rfl rfl rfl rfl (by omega) fun v2 => ?_
        refine to_sform v2 fun a2 cap2 hv2 => ?_
        subst hv2
        repeat (first | refine to_nil ?_ | refine t_inBlock ?_ | refine to_st rfl rfl rfl rfl rfl ?_)
        refine t_next [at1 l (.loop (loS lo .ready none)), own b2 [.slice a2 (d ++ [q]).length cap2] 106, OSl strR 1 9 (.slice a2 (d ++ [q]).length cap2) (d ++ [q])] ?_; exact ⟨rfl, _, rfl⟩
      · rintro v B F3 le3 ⟨rfl, sv', rfl⟩
        exact ⟨_, ⟨rfl, rfl⟩, fun w R st => ex_in sv' st⟩
  · rintro v B F2 le2 ⟨ks, sv, hks, rfl⟩
    refine ⟨_, _, _, rfl, by simp, rfl, ?_⟩
    repeat (first | refine t_seq ?_ | refine t_region ?_ | refine to_nil ?_ | refine t_inBlock ?_ | refine to_q rfl rfl rfl ?_ | refine to_ld rfl rfl rfl ?_)
    exact t_retM [OSl strR 1 9 sv ks, own pb [.map (some f)] 65, mapP (Value.string) vsR f m] Tryz.func98 (.tmp rfl .nil) ⟨ks, hks, rfl⟩
theorem collectF_sp (pb f : Nat) (m : List (ByteArray × List Ver)) (F : Frz) (hl : m.length ≤ 1048576) :
    Sp Tryz.prog 86 [.func (.func 88) #[] #[ptr pb]] [own pb [.map (some f)] 65, mapP (Value.string) vsR f m] F
      (fun v B F' => ∃ ks, ks.Perm (m.map (·.1)) ∧ B = [OSl strR 1 9 v ks, own pb [.map (some f)] 65, mapP (Value.string) vsR f m]) := by
  refine sp_of Tryz.func86 rfl (by kernel_rfl) rfl fun R => ?_
  repeat (first | refine t_seq ?_ | refine t_region ?_ | refine to_nil ?_ | refine to_q rfl rfl rfl ?_)
  refine to_call rfl rfl (appendSeqF_sp pb f m F hl) fun v B F1 le h => ?_
  obtain ⟨ks, hks, rfl⟩ := h
  repeat (first | refine to_nil ?_ | refine to_q rfl rfl rfl ?_)
  exact t_ret [OSl strR 1 9 v ks, own pb [.map (some f)] 65, mapP (Value.string) vsR f m] Tryz.func86 (.tmp rfl .nil) ⟨ks, hks, rfl⟩
theorem mapsKeysF_sp (f : Nat) (F : Frz) : Sp Tryz.prog 62 [.map (some f)] [] F (fun v B F' => ∃ pb, v = .func (.func 88) #[] #[ptr pb] ∧ B = [own pb [.map (some f)] 65]) := by
  refine sp_of Tryz.func62 rfl (by kernel_rfl) rfl fun R => ?_
  repeat (first | refine t_seq ?_ | refine t_region ?_ | refine to_nil ?_ | refine to_q rfl rfl rfl ?_ | refine to_box1 rfl rfl rfl fun _ => ?_)
  rename_i pb
  exact t_ret [own pb [.map (some f)] 65] Tryz.func62 (.tmp rfl .nil) ⟨pb, rfl, rfl⟩

theorem keysS_sp (y : Value) (pb f : Nat) (m : List (Int × (ByteArray × ByteArray))) (F : Frz) (J : List Int → HP)
    (hy : ∀ (d : List Int) (q : Int) (F' : Frz), FS F F' → d.length < m.length → CV Tryz.prog y [Value.int .i64 q] [J d] F' (fun v B F'' => v = .bool true ∧ B = [J (d ++ [q])])) :
    Sp Tryz.prog 80 [y, ptr pb] [J [], own pb [.map (some f)] 67, mapP (Value.int .i64) sesR f m] F (fun v B F' => ∃ ks, ks.Perm (m.map (·.1)) ∧ B = [J ks, own pb [.map (some f)] 67, mapP (Value.int .i64) sesR f m]) := by
  classical
  refine sp_of Tryz.func80 rfl (by kernel_rfl) rfl fun R => ?_
  refine t_openM f fun es clock φ hm => ?_
  repeat (first | refine t_seq ?_ | refine t_region ?_ | refine to_ld rfl rfl rfl ?_)
  refine to_range (mapAt_own (b := f) (es := es) (clock := clock)) rfl rfl fun r => ?_
  repeat (first | refine t_block ?_ | refine to_nil ?_)
  rw [show J [] = J (kz φ []) from rfl]
  refine t_loopJ (R := R) (fun d : List MapEntry => es.size - d.length) (fun d => [J (kz φ d), iterP r f clock d, at1 f (.map es clock), own pb [.map (some f)] 67])
    (fun d => [(0, y), (1, ptr pb), (5, ptr r)]) (fun d _ => d.Nodup ∧ ∀ z ∈ d, z ∈ es.toList) [] (by repeat (first | exact trivial | refine ⟨rfl, ?_⟩)) ⟨.nil, by simp⟩ ?_
  intro d F1 le1 hg ih
  obtain ⟨hd1, hd2⟩ := hg
  repeat (first | refine t_seq ?_ | refine t_region ?_)
  refine to_next_ (mapAt_own (b := f) (es := es) (clock := clock)) hm.bl hm.nb hd2 rfl rfl (fun hall => ?_) (fun z hz hnz => ?_)
  · repeat (first | refine t_seq ?_ | refine to_nil ?_ | refine to_q rfl rfl rfl ?_ | refine t_cond (t := false) rfl (fun h => nomatch h) (fun _ => ?_) | refine t_exit rfl ?_)
    refine t_shutM f (hm.ok.mono le1.h) ?_
    refine t_end [J (kz φ d), own pb [.map (some f)] 67, mapP (Value.int .i64) sesR f m] Tryz.func80 .nil ⟨kz φ d, ?_, rfl⟩
    have := (((done_perm hm.nd hd1 hd2 hall).map φ).trans hm.perm).map (·.1)
    rwa [List.map_map] at this
  · repeat (first | refine t_seq ?_ | refine t_block ?_ | refine t_region ?_ | refine to_nil ?_ | refine t_skip ?_ | refine to_q rfl rfl rfl ?_ | refine t_cond (t := true) rfl (fun _ => ?_) (fun h => nomatch h))
    refine to_entry (mapAt_own (b := f) (es := es) (clock := clock)) hm.nb hz rfl rfl ?_
    obtain ⟨hk, hv⟩ := hm.rel z hz
    rw [hk]
    repeat (first | refine t_seq ?_ | refine t_region ?_ | refine to_nil ?_ | refine to_q rfl rfl rfl ?_)
    have hlen : (d ++ [z]).length ≤ es.size := nodup_len (snoc_nd hd1 hnz) (snoc_sub hd2 hz)
    rw [List.length_append, List.length_singleton] at hlen
    have hml := hm.perm.length_eq
    rw [List.length_map, Array.length_toList] at hml
    refine to_callv rfl rfl rfl (hy (kz φ d) (φ z).1 F1 inferInstance (by simp only [kz, List.length_map]; omega)) fun v B F2 le2 h2 => ?_
    obtain ⟨rfl, rfl⟩ := h2
    repeat (first | refine to_nil ?_ | refine t_skip ?_ | refine t_inBlock ?_ | refine to_q rfl rfl rfl ?_ | refine t_cond (t := false) rfl (fun h => nomatch h) (fun _ => ?_))
    rw [← kz_snoc]
    refine t_re (A := [J (kz φ (d ++ [z])), iterP r f clock (d ++ [z]), at1 f (.map es clock), own pb [.map (some f)] 67]) (R := R)
      (ih (d ++ [z]) F2 le2 (by rw [List.length_append, List.length_singleton]; omega) ⟨snoc_nd hd1 hnz, snoc_sub hd2 hz⟩) (by repeat (first | exact trivial | refine ⟨rfl, ?_⟩))
theorem appendSeqS_sp (pb f : Nat) (m : List (Int × (ByteArray × ByteArray))) (F : Frz) (hl : m.length ≤ 1048576) :
    Sp Tryz.prog 95 [nilS, .func (.func 80) #[] #[ptr pb]] [own pb [.map (some f)] 67, mapP (Value.int .i64) sesR f m] F
      (fun v B F' => ∃ ks, ks.Perm (m.map (·.1)) ∧ B = [OSl intR 1 3 v ks, own pb [.map (some f)] 67, mapP (Value.int .i64) sesR f m]) := by
  refine sp_of Tryz.func95 rfl (by kernel_rfl) rfl fun R => ?_
  repeat (first | refine t_seq ?_ | refine t_block ?_ | refine t_region ?_ | refine to_nil ?_ | refine to_q rfl rfl rfl ?_ | refine to_box1 rfl rfl rfl fun _ => ?_)
  rename_i b2
  refine t_emp intR 1 3 none ?_
  refine t_rangeFn (A := [own b2 [nilS] 46, OSl intR 1 3 nilS [], own pb [.map (some f)] 67, mapP (Value.int .i64) sesR f m]) rfl rfl fun l r lo e1 e2 ag e3 e4 e5 => ?_
  refine ⟨fun v B F' => ∃ ks sv, ks.Perm (m.map (·.1)) ∧ B = [at1 l (.loop (loS lo .ready none)), own b2 [sv] 46, OSl intR 1 3 sv ks, own pb [.map (some f)] 67, mapP (Value.int .i64) sesR f m], ?_, ?_⟩
  · have hsp := keysS_sp (yv l) pb f m F (fun ks => exH fun sv => [at1 l (.loop (loS lo .ready none)), own b2 [sv] 46, OSl intR 1 3 sv ks]) (fun d q F1 le1 hdl => ?_)
    · intro RR w st
      have h1 := (hsp.exI (C := [_, _]) nilS) RR w st
      refine Calls.mono' h1 (onRet_mono fun v w' ⟨B, F', le, ⟨ks, hks, hB⟩, s⟩ => ?_)
      subst hB
      obtain ⟨sv, s'⟩ := ex_out (L := [_, _] ++ RR) s
      exact ⟨_, F', le, ⟨ks, sv, hks, rfl⟩, s'⟩
    · refine CV.ex0 fun sv => ?_
      refine CV.out (cv_yieldS (Ψ := fun v B F'' => v = .bool true ∧ ∃ sv', B = [at1 l (.loop (loS lo .ready none)), own b2 [sv'] 46, OSl intR 1 3 sv' (d ++ [q])]) e1 e2 ag (ps := [7]) e3 e4 e5 rfl (by kernel_rfl) fun R => ?_) ?_
      · repeat (first | refine t_block ?_ | refine t_region ?_ | refine to_nil ?_ | refine t_beginRound rfl ?_ | refine to_q rfl rfl rfl ?_ | refine to_ld rfl rfl rfl ?_)
        refine to_bsl (len := 1) rfl rfl rfl rfl fun b1 => ?_
        refine to_app1 (ρ := intR) (q := q) (u := Value.int .i64 q) rfl rfl rfl rfl rfl rfl (by omega) fun v2 => ?_
        refine to_sform v2 fun a2 cap2 hv2 => ?_
        subst hv2
        repeat (first | refine to_nil ?_ | refine t_inBlock ?_ | refine to_st rfl rfl rfl rfl rfl ?_)
        refine t_next [at1 l (.loop (loS lo .ready none)), own b2 [.slice a2 (d ++ [q]).length cap2] 46, OSl intR 1 3 (.slice a2 (d ++ [q]).length cap2) (d ++ [q])] ?_; exact ⟨rfl, _, rfl⟩
      · rintro v B F3 le3 ⟨rfl, sv', rfl⟩
        exact ⟨_, ⟨rfl, rfl⟩, fun w R st => ex_in sv' st⟩
  · rintro v B F2 le2 ⟨ks, sv, hks, rfl⟩
    refine ⟨_, _, _, rfl, by simp, rfl, ?_⟩
    repeat (first | refine t_seq ?_ | refine t_region ?_ | refine to_nil ?_ | refine t_inBlock ?_ | refine to_q rfl rfl rfl ?_ | refine to_ld rfl rfl rfl ?_)
    exact t_retM [OSl intR 1 3 sv ks, own pb [.map (some f)] 67, mapP (Value.int .i64) sesR f m] Tryz.func95 (.tmp rfl .nil) ⟨ks, hks, rfl⟩
theorem collectS_sp (pb f : Nat) (m : List (Int × (ByteArray × ByteArray))) (F : Frz) (hl : m.length ≤ 1048576) :
    Sp Tryz.prog 78 [.func (.func 80) #[] #[ptr pb]] [own pb [.map (some f)] 67, mapP (Value.int .i64) sesR f m] F
      (fun v B F' => ∃ ks, ks.Perm (m.map (·.1)) ∧ B = [OSl intR 1 3 v ks, own pb [.map (some f)] 67, mapP (Value.int .i64) sesR f m]) := by
  refine sp_of Tryz.func78 rfl (by kernel_rfl) rfl fun R => ?_
  repeat (first | refine t_seq ?_ | refine t_region ?_ | refine to_nil ?_ | refine to_q rfl rfl rfl ?_)
  refine to_call rfl rfl (appendSeqS_sp pb f m F hl) fun v B F1 le h => ?_
  obtain ⟨ks, hks, rfl⟩ := h
  repeat (first | refine to_nil ?_ | refine to_q rfl rfl rfl ?_)
  exact t_ret [OSl intR 1 3 v ks, own pb [.map (some f)] 67, mapP (Value.int .i64) sesR f m] Tryz.func78 (.tmp rfl .nil) ⟨ks, hks, rfl⟩
theorem mapsKeysS_sp (f : Nat) (F : Frz) : Sp Tryz.prog 39 [.map (some f)] [] F (fun v B F' => ∃ pb, v = .func (.func 80) #[] #[ptr pb] ∧ B = [own pb [.map (some f)] 67]) := by
  refine sp_of Tryz.func39 rfl (by kernel_rfl) rfl fun R => ?_
  repeat (first | refine t_seq ?_ | refine t_region ?_ | refine to_nil ?_ | refine to_q rfl rfl rfl ?_ | refine to_box1 rfl rfl rfl fun _ => ?_)
  rename_i pb
  exact t_ret [own pb [.map (some f)] 67] Tryz.func39 (.tmp rfl .nil) ⟨pb, rfl, rfl⟩
end Go.Proofs.YtbffngeameenoaaGreat
end

section
set_option linter.unusedVariables false
set_option linter.unusedSimpArgs false
namespace Go.Au
open Go

theorem putCells_eq {α : Type} [Inhabited α] (enc : α → Value) (ds : List α) (vs junk : List Value) (h : vs.length = ds.length) :
    Go.Sort.putCells enc 0 ds.toArray (vs ++ junk).toArray = (ds.map enc ++ junk).toArray := by
  apply Array.ext_getElem?
  intro i
  simp only [Go.Sort.putCells, Array.getElem?_mapIdx, List.getElem?_toArray, List.size_toArray]
  by_cases hi : i < ds.length
  · have hv : i < vs.length := by omega
    rw [List.getElem?_append_left hv, List.getElem?_append_left (by simpa using hi), List.getElem?_eq_getElem hv, List.getElem?_map, List.getElem?_eq_getElem hi]
    simp [hi]
  · rw [List.getElem?_append_right (by omega), List.getElem?_append_right (by simp; omega)]
    rw [List.length_map, h]
    cases junk[i - ds.length]? with
    | none => rfl
    | some x => simp [hi]
theorem St.sorted {α : Type} [Inhabited α] {w : World} {b : Nat} {vs junk : List Value} {t : TypeId} {R : List HP} {F : Frz} (s : St w (own b (vs ++ junk) t :: R) F) (enc : α → Value) (ds : List α) (h : vs.length = ds.length) (m : Nat) (os : Array Obj) :
    St (Go.Sort.grow (Go.Sort.putRow enc (Go.Sort.ahead w m) b 0 ds.toArray) os) (own b (ds.map enc ++ junk) t :: R) F := by
  obtain ⟨fr, hf, s1⟩ := s.openOwn
  have hb := s1.at1
  have s2 := (s1.set (.cells (ds.map enc ++ junk).toArray t fr)).shutOwn (by rw [List.length_append, List.length_map, ← h, ← List.length_append]; exact hf)
  have s3 := s2.drawn (w.drawn + m)
  refine St.grown (w := { w with heap := w.heap.setIfInBounds b (.cells (ds.map enc ++ junk).toArray t fr), drawn := w.drawn + m }) s3 ?_
  have e : (Go.Sort.putRow enc (Go.Sort.ahead w m) b 0 ds.toArray) = { w with heap := w.heap.setIfInBounds b (.cells (ds.map enc ++ junk).toArray t fr), drawn := w.drawn + m } := by
    unfold Go.Sort.putRow Go.Sort.mapBlock Go.Sort.ahead
    congr 1
    apply Array.ext_getElem?
    intro i
    simp only [Array.getElem?_modify, Array.getElem?_setIfInBounds]
    by_cases hi : b = i
    · subst hi
      have hlt := lt_of_get hb
      simp only [if_true, hb, Option.map_some, Go.Sort.onCells, putCells_eq enc ds vs junk h, hlt]
    · simp [hi]
  rw [e]
  refine ⟨rfl, rfl, rfl, fun c o hc => ?_⟩
  show (_ ++ os)[c]? = _
  rw [Array.getElem?_append_left (lt_of_get hc)]; exact hc
section
variable {P : Program} {E : Ex} {D : List Deferred} {L L' L1 R : List HP} {F F' F0 : Frz} {k : List Item} {σ σ' : Sg} {Φ Ψ : Fin} {ops : Array Oper} {os : List Oper}
  {ty : TypeId} {pos : String} {af : Array Edge} {d b o : Nat} {g : Option (Nat × Bool)} {t t' et : TypeId} {x y z : Operand} {v u : Value}
  {zs cs : List Value} {n by_ : Nat} {β : Type} {ρ : Rel β} {xs ys : List β} {len cap j : Nat} {q : β}
/-- s[lo:hi] by the values alone. -/
theorem to_slG {lo hi : Option Operand} {l h : Int} {base : Option Addr} [hu : Und P t (.slice et)] [Inf P et zs n by_] (hg : gd σ ops g = some true) (hx : ev σ x = some (.slice base len cap)) (hlen : len ≤ cap)
    (hl : bnd σ lo 0 = some l) (hh : bnd σ hi len = some h) (h0 : 0 ≤ l) (h1 : l ≤ h) (h2 : h ≤ cap)
    (K : TO P E D L F ops os k ((d, .slice (if cap = l.toNat then base else base.map (·.add (l.toNat * n))) (h.toNat - l.toNat) (cap - l.toNat)) :: σ) Φ) :
    TO P E D L F ops (⟨some d, .slice t x lo hi none, ty, pos, af, g⟩ :: os) k σ Φ :=
  to_val hg (fun w ac ag => exec_slice (n := n) (zs := zs) (y := by_) ag hx hlen hl hh h0 h1 h2) K
/-- The length of a slice of the call's own is within its capacity. -/
theorem t_cap [fb : FB b L (OSl ρ n et (.slice (some ⟨b, 0, none⟩) len cap) xs) R] [el : ElT P et ρ n by_] (K : xs.length ≤ cap → T P E D L F k σ Φ) : T P E D L F k σ Φ :=
  t_conv fun w st => ⟨L, F, .refl _, st, K (by
    rcases osl_open (st.perm fb.p) with ⟨rfl, rfl, rfl, _⟩ | ⟨vs, junk, _, h2, h3, _⟩
    · exact Nat.zero_le _
    · have hp := el.pos
      rcases Nat.lt_or_ge cap xs.length with h | h
      · have : cap * n < xs.length * n := Nat.mul_lt_mul_of_pos_right h hp
        omega
      · exact h)⟩
/-- clear(s[i:]): what is left is s[:i]. -/
theorem to_clrT {i c2 : Nat} {tys : Array TypeId} {zv : Value} {dst : Option Tmp} [hu : Und P t (.slice et)] [fb : FB b L (OSl ρ n et (.slice (some ⟨b, 0, none⟩) len cap) xs) R] [el : ElT P et ρ n by_] [hz : Zer P et zv]
    (hzs : ∀ u ∈ cellsL zv, u.oneCell' = true) (hzl : (cellsL zv).length = n) (hg : gd σ ops g = some true) (ht : tys = #[t]) (hx : ev σ x = some (.slice (some ⟨b, i * n, none⟩) (xs.length - i) c2)) (hi : i < xs.length)
    (K : TO P E D (OSl ρ n et (.slice (some ⟨b, 0, none⟩) i cap) (xs.take i) :: R) F ops os k (putd dst (.tuple #[]) σ) Φ) : TO P E D L F ops (⟨dst, .call ⟨.builtin .clear, #[x], tys⟩, ty, pos, af, g⟩ :: os) k σ Φ := by
  subst ht
  refine to_opW rfl hg rfl fun w a ag st => ?_
  rcases osl_open (st.perm fb.p) with ⟨rfl, _⟩ | ⟨vs, junk, hl, h2, h3, s⟩
  · simp at hi
  · have hvl := h2.length_eq
    have hsplit : flat vs ++ junk = flat (vs.take i) ++ (flat (vs.drop i) ++ junk) := by
      rw [← List.append_assoc, ← flat_append, List.take_append_drop]
    have hl1 : (flat (vs.take i)).length = i * n := by
      have := flat_len (P := P) (t := et) (y := by_) (h2.take i)
      rw [this, List.length_take]; congr 1; omega
    have hl2 : (flat (vs.drop i)).length = (xs.length - i) * n := by
      have := flat_len (P := P) (t := et) (y := by_) (h2.drop i)
      rw [this, List.length_drop]
    have hzc : zv.cells.toList = cellsL zv := cells_toList zv
    have hzr : (Builtin.zeroCells zv.cells (xs.length - i)).toList = zrep (cellsL zv) (xs.length - i) := by
      rw [zeroCells_eq hzc (by rw [hzl]; exact el.pos)]
    have hzlen : (zrep (cellsL zv) (xs.length - i)).length = (xs.length - i) * n := by rw [zrep_len, hzl]
    have hone : ∀ u ∈ zrep (cellsL zv) (xs.length - i), u.oneCell' = true := by
      intro u hu
      generalize xs.length - i = m at hu
      induction m with
      | zero => simp [zrep] at hu
      | succ m ih =>
        rw [zrep, List.mem_append] at hu
        exact hu.elim (hzs u) ih
    obtain ⟨w', r1, r2⟩ := St.storeCells (P := P) (b := b) (o := i * n) (t := et) (zrep (cellsL zv) (xs.length - i)) (flat vs ++ junk) 0 w s hone (by
      rw [hsplit, List.length_append, List.length_append, hl1, hl2, hzlen]; omega)
    have hne : xs.length - i ≠ 0 := by omega
    have : (execOp a.eval ⟨dst, .call ⟨.builtin .clear, #[x], #[t]⟩, ty, pos, af, g⟩).run P w = .ok (.value (.tuple #[])) w' := by
      obtain ⟨m, hm⟩ : ∃ m, xs.length - i = m + 1 := ⟨xs.length - i - 1, by omega⟩
      rw [hm] at hx hzr r1
      simp [execOp, resolve, invoke, builtin, Builtin.clear_, ev_eval ag hx, run_und (P := P) (t := t) w, hz.h w, hzr, r1]
    rw [this]
    refine ⟨_, F, .refl _, ?_, K⟩
    rw [Nat.add_zero, hsplit] at r2
    have hmid := setN_mid (zrep (cellsL zv) (xs.length - i)) (flat (vs.take i)) (flat (vs.drop i)) junk (by rw [hl2, hzlen])
    rw [hl1] at hmid
    rw [hmid] at r2
    have r3 := r2.shutSl (ρ := ρ) (n := n) (xs := xs.take i) (cap := cap) (h2.take i) (by
      rw [List.length_append, hzlen, List.length_take, Nat.min_eq_left (by omega)]
      have : (xs.length - i) * n + i * n = xs.length * n := by rw [← Nat.add_mul]; congr 1; omega
      omega)
    rw [List.length_take, Nat.min_eq_left (by omega)] at r3
    exact r3
end
end Go.Au
end

section
namespace Go.Proofs
open Go.Shelf
def Tryz.lays189_ren : Go.Shelf.Ren := ⟨fun | 189 => 79 | 125 => 97 | 257 => 96 | 128 => 110 | 129 => 111 | 294 => 101 | 295 => 102 | 296 => 103 | 297 => 104 | 298 => 105 | 299 => 106 | 216 => 107 | 300 => 108 | 301 => 109 | 328 => 121 | 329 => 122 | 330 => 123 | 331 => 124 | 332 => 125 | 215 => 126 | 343 => 131 | n => n, fun | 28 => 46 | 3 => 3 | 46 => 141 | 0 => 0 | 51 => 154 | 53 => 156 | 4 => 4 | 183 => 147 | 182 => 146 | 131 => 124 | 5 => 5 | 9 => 9 | 218 => 163 | 222 => 167 | 228 => 171 | 229 => 172 | n => n, fun | n => n⟩
theorem Tryz.lays189 : Go.Proofs.Lays.n189 Tryz.prog Tryz.lays189_ren := {
  mixed := by kernel_rfl
  f125 := Tryz.func97.trans (congrArg some (by kernel_rfl))
  f128 := Tryz.func110.trans (congrArg some (by kernel_rfl))
  f129 := Tryz.func111.trans (congrArg some (by kernel_rfl))
  f189 := Tryz.func79.trans (congrArg some (by kernel_rfl))
  f215 := Tryz.func126.trans (congrArg some (by kernel_rfl))
  f216 := Tryz.func107.trans (congrArg some (by kernel_rfl))
  f257 := Tryz.func96.trans (congrArg some (by kernel_rfl))
  f294 := Tryz.func101.trans (congrArg some (by kernel_rfl))
  f295 := Tryz.func102.trans (congrArg some (by kernel_rfl))
  f296 := Tryz.func103.trans (congrArg some (by kernel_rfl))
  f297 := Tryz.func104.trans (congrArg some (by kernel_rfl))
  f298 := Tryz.func105.trans (congrArg some (by kernel_rfl))
  f299 := Tryz.func106.trans (congrArg some (by kernel_rfl))
  f300 := Tryz.func108.trans (congrArg some (by kernel_rfl))
  f301 := Tryz.func109.trans (congrArg some (by kernel_rfl))
  f328 := Tryz.func121.trans (congrArg some (by kernel_rfl))
  f329 := Tryz.func122.trans (congrArg some (by kernel_rfl))
  f330 := Tryz.func123.trans (congrArg some (by kernel_rfl))
  f331 := Tryz.func124.trans (congrArg some (by kernel_rfl))
  f332 := Tryz.func125.trans (congrArg some (by kernel_rfl))
  f343 := Tryz.func131.trans (congrArg some (by kernel_rfl))
  t0 := Tryz.underlying0
  a0 := Tryz.isAgg0
  z0 := Tryz.sizeOf0
  v0 := Tryz.zeroValue0
  t3 := Tryz.underlying3
  a3 := Tryz.isAgg3
  z3 := Tryz.sizeOf3
  v3 := Tryz.zeroValue3
  t4 := Tryz.underlying4
  a4 := Tryz.isAgg4
  z4 := Tryz.sizeOf4
  v4 := Tryz.zeroValue4
  t5 := Tryz.underlying5
  a5 := Tryz.isAgg5
  z5 := Tryz.sizeOf5
  v5 := Tryz.zeroValue5
  t9 := Tryz.underlying9
  a9 := Tryz.isAgg9
  z9 := Tryz.sizeOf9
  v9 := Tryz.zeroValue9
  t28 := Tryz.underlying46
  a28 := Tryz.isAgg46
  z28 := Tryz.sizeOf46
  v28 := Tryz.zeroValue46
  t46 := Tryz.underlying141
  a46 := Tryz.isAgg141
  z46 := Tryz.sizeOf141
  v46 := Tryz.zeroValue141
  t51 := Tryz.underlying154
  a51 := Tryz.isAgg154
  z51 := Tryz.sizeOf154
  v51 := Tryz.zeroValue154
  t53 := Tryz.underlying156
  a53 := Tryz.isAgg156
  z53 := Tryz.sizeOf156
  v53 := Tryz.zeroValue156
  t131 := Tryz.underlying124
  a131 := Tryz.isAgg124
  z131 := Tryz.sizeOf124
  v131 := Tryz.zeroValue124
  t182 := Tryz.underlying146
  a182 := Tryz.isAgg146
  z182 := Tryz.sizeOf146
  v182 := Tryz.zeroValue146
  t183 := Tryz.underlying147
  a183 := Tryz.isAgg147
  z183 := Tryz.sizeOf147
  v183 := Tryz.zeroValue147
  t218 := Tryz.underlying163
  a218 := Tryz.isAgg163
  z218 := Tryz.sizeOf163
  v218 := Tryz.zeroValue163
  t222 := Tryz.underlying167
  a222 := Tryz.isAgg167
  z222 := Tryz.sizeOf167
  v222 := Tryz.zeroValue167
  t228 := Tryz.underlying171
  a228 := Tryz.isAgg171
  z228 := Tryz.sizeOf171
  v228 := Tryz.zeroValue171
  t229 := Tryz.underlying172
  a229 := Tryz.isAgg172
  z229 := Tryz.sizeOf172
  v229 := Tryz.zeroValue172 }
def Tryz.lays190_ren : Go.Shelf.Ren := ⟨fun | 190 => 87 | 125 => 97 | 258 => 99 | 128 => 110 | 129 => 111 | 302 => 112 | 303 => 113 | 304 => 114 | 305 => 115 | 306 => 116 | 307 => 117 | 308 => 118 | 309 => 119 | 310 => 120 | 333 => 127 | 329 => 122 | 330 => 123 | 334 => 128 | 335 => 129 | 336 => 130 | 344 => 132 | n => n, fun | 31 => 106 | 9 => 9 | 3 => 3 | 46 => 141 | 0 => 0 | 51 => 154 | 53 => 156 | 4 => 4 | 183 => 147 | 182 => 146 | 131 => 124 | 5 => 5 | 218 => 163 | 222 => 167 | 228 => 171 | 229 => 172 | n => n, fun | n => n⟩
theorem Tryz.lays190 : Go.Proofs.Lays.n190 Tryz.prog Tryz.lays190_ren := {
  mixed := by kernel_rfl
  f125 := Tryz.func97.trans (congrArg some (by kernel_rfl))
  f128 := Tryz.func110.trans (congrArg some (by kernel_rfl))
  f129 := Tryz.func111.trans (congrArg some (by kernel_rfl))
  f190 := Tryz.func87.trans (congrArg some (by kernel_rfl))
  f258 := Tryz.func99.trans (congrArg some (by kernel_rfl))
  f302 := Tryz.func112.trans (congrArg some (by kernel_rfl))
  f303 := Tryz.func113.trans (congrArg some (by kernel_rfl))
  f304 := Tryz.func114.trans (congrArg some (by kernel_rfl))
  f305 := Tryz.func115.trans (congrArg some (by kernel_rfl))
  f306 := Tryz.func116.trans (congrArg some (by kernel_rfl))
  f307 := Tryz.func117.trans (congrArg some (by kernel_rfl))
  f308 := Tryz.func118.trans (congrArg some (by kernel_rfl))
  f309 := Tryz.func119.trans (congrArg some (by kernel_rfl))
  f310 := Tryz.func120.trans (congrArg some (by kernel_rfl))
  f329 := Tryz.func122.trans (congrArg some (by kernel_rfl))
  f330 := Tryz.func123.trans (congrArg some (by kernel_rfl))
  f333 := Tryz.func127.trans (congrArg some (by kernel_rfl))
  f334 := Tryz.func128.trans (congrArg some (by kernel_rfl))
  f335 := Tryz.func129.trans (congrArg some (by kernel_rfl))
  f336 := Tryz.func130.trans (congrArg some (by kernel_rfl))
  f344 := Tryz.func132.trans (congrArg some (by kernel_rfl))
  t0 := Tryz.underlying0
  a0 := Tryz.isAgg0
  z0 := Tryz.sizeOf0
  v0 := Tryz.zeroValue0
  t3 := Tryz.underlying3
  a3 := Tryz.isAgg3
  z3 := Tryz.sizeOf3
  v3 := Tryz.zeroValue3
  t4 := Tryz.underlying4
  a4 := Tryz.isAgg4
  z4 := Tryz.sizeOf4
  v4 := Tryz.zeroValue4
  t5 := Tryz.underlying5
  a5 := Tryz.isAgg5
  z5 := Tryz.sizeOf5
  v5 := Tryz.zeroValue5
  t9 := Tryz.underlying9
  a9 := Tryz.isAgg9
  z9 := Tryz.sizeOf9
  v9 := Tryz.zeroValue9
  t31 := Tryz.underlying106
  a31 := Tryz.isAgg106
  z31 := Tryz.sizeOf106
  v31 := Tryz.zeroValue106
  t46 := Tryz.underlying141
  a46 := Tryz.isAgg141
  z46 := Tryz.sizeOf141
  v46 := Tryz.zeroValue141
  t51 := Tryz.underlying154
  a51 := Tryz.isAgg154
  z51 := Tryz.sizeOf154
  v51 := Tryz.zeroValue154
  t53 := Tryz.underlying156
  a53 := Tryz.isAgg156
  z53 := Tryz.sizeOf156
  v53 := Tryz.zeroValue156
  t131 := Tryz.underlying124
  a131 := Tryz.isAgg124
  z131 := Tryz.sizeOf124
  v131 := Tryz.zeroValue124
  t182 := Tryz.underlying146
  a182 := Tryz.isAgg146
  z182 := Tryz.sizeOf146
  v182 := Tryz.zeroValue146
  t183 := Tryz.underlying147
  a183 := Tryz.isAgg147
  z183 := Tryz.sizeOf147
  v183 := Tryz.zeroValue147
  t218 := Tryz.underlying163
  a218 := Tryz.isAgg163
  z218 := Tryz.sizeOf163
  v218 := Tryz.zeroValue163
  t222 := Tryz.underlying167
  a222 := Tryz.isAgg167
  z222 := Tryz.sizeOf167
  v222 := Tryz.zeroValue167
  t228 := Tryz.underlying171
  a228 := Tryz.isAgg171
  z228 := Tryz.sizeOf171
  v228 := Tryz.zeroValue171
  t229 := Tryz.underlying172
  a229 := Tryz.isAgg172
  z229 := Tryz.sizeOf172
  v229 := Tryz.zeroValue172 }
end Go.Proofs
end

section
set_option maxRecDepth 100000
set_option linter.unusedVariables false
set_option linter.unusedSimpArgs false
namespace Go.Proofs.YtbffngeameenoaaGreat
open Go Go.Au
attribute [local irreducible] T TO

theorem holds_own {α : Type} [Inhabited α] {w : World} {b : Nat} {junk : List Value} {t : TypeId} {R : List HP} {F : Frz} (enc : α → Value) (zs : List α) (s : St w (own b (zs.map enc ++ junk) t :: R) F) :
    Go.Sort.Holds enc w b 0 zs.toArray ∧ b < w.heap.size := by
  obtain ⟨fr, hf, s1⟩ := s.openOwn
  have hb := s1.at1
  refine ⟨fun j hj => ?_, lt_of_get hb⟩
  have hj' : j < zs.length := by simpa using hj
  rw [Nat.zero_add]
  constructor
  · rw [s.cell, List.getElem?_append_left (by simpa using hj'), List.getElem?_map, List.getElem?_eq_getElem hj']
    simp [hj']
  · have := hf.out j (by rw [List.length_append, List.length_map]; omega)
    simp only [World.frozen?, hb]
    exact this
def sortI (l : List Int) : List Int := l.mergeSort fun x y => decide (x ≤ y)
theorem f2_int {F : Frz} {l : List Int} {vs : List Value} (h : F2 (intR.r F) l vs) : vs = l.map (Value.int .i64) := by
  induction h with
  | nil => rfl
  | cons e _ ih => rw [List.map_cons, ← ih, e]
theorem flat_int (l : List Int) : flat (l.map (Value.int .i64)) = l.map (Value.int .i64) := by
  induction l with
  | nil => rfl
  | cons a l ih => rw [List.map_cons, flat_cons, ih]; rfl
theorem f2_int' (F : Frz) (l : List Int) : F2 (intR.r F) l (l.map (Value.int .i64)) := by
  induction l with
  | nil => exact .nil
  | cons a l ih => exact .cons rfl ih
theorem sortI_sp (v : Value) (ks : List Int) (F : Frz) (hl : ks.length ≤ 1048576) :
    Sp Tryz.prog 79 [v] [OSl intR 1 3 v ks] F (fun u B F' => B = [OSl intR 1 3 v (sortI ks)]) := by
  intro R w st
  rcases St.openSl (L := R) st with ⟨rfl, ⟨a, rfl⟩, s⟩ | ⟨b, cap, vs, junk, rfl, h2, h3, s⟩
  · have h := Any.slices_Sort_int_none Tryz.lays189 a 0 w
    refine Calls.mono' (f := 79) h ?_
    rintro e w' ⟨rfl, rfl⟩
    have e0 : sortI [] = [] := by simp [sortI]
    exact ⟨_, F, .refl _, rfl, by rw [e0]; exact St.shutSl0 (L := R) s a⟩
  · rw [f2_int h2, flat_int] at s
    obtain ⟨hH, hb⟩ := holds_own (Value.int .i64) ks s
    have h := Any.slices_Sort_int Tryz.lays189 b 0 cap ks w hH hb (by omega)
    refine Calls.mono' (f := 79) h ?_
    rintro e w' ⟨rfl, n, os, rfl⟩
    have hlen : (sortI ks).length = ks.length := (List.mergeSort_perm ks _).length_eq
    have s2 := s.sorted (Value.int .i64) (sortI ks) (by rw [List.length_map, hlen]) n os
    rw [← flat_int] at s2
    have s3 := s2.shutSl (ρ := intR) (n := 1) (xs := sortI ks) (cap := cap) (f2_int' F _) (by rw [hlen]; exact h3)
    rw [hlen] at s3
    exact ⟨_, F, .refl _, rfl, s3⟩
def sortB (l : List ByteArray) : List ByteArray := ((l.map fun s => s.data.toList).mergeSort fun x y => decide (x ≤ y)).map fun l => ⟨l.toArray⟩
theorem sortB_perm (l : List ByteArray) : (sortB l).Perm l := by
  have h := (List.mergeSort_perm (l.map fun s => s.data.toList) (fun x y => decide (x ≤ y))).map (fun l => (⟨l.toArray⟩ : ByteArray))
  refine h.trans ?_
  rw [List.map_map]
  have : (fun l => (⟨l.toArray⟩ : ByteArray)) ∘ (fun s : ByteArray => s.data.toList) = id := by funext s; rfl
  rw [this, List.map_id]
theorem f2_str {F : Frz} {l : List ByteArray} {vs : List Value} (h : F2 (strR.r F) l vs) : vs = l.map Value.string := by
  induction h with
  | nil => rfl
  | cons e _ ih => rw [List.map_cons, ← ih, e]
theorem flat_str (l : List ByteArray) : flat (l.map Value.string) = l.map Value.string := by
  induction l with
  | nil => rfl
  | cons a l ih => rw [List.map_cons, flat_cons, ih]; rfl
theorem f2_str' (F : Frz) (l : List ByteArray) : F2 (strR.r F) l (l.map Value.string) := by
  induction l with
  | nil => exact .nil
  | cons a l ih => exact .cons rfl ih
theorem enc_map (l : List ByteArray) : (l.map fun s => s.data.toList).map Go.Proofs.encStr = l.map Value.string := by
  rw [List.map_map]; rfl
theorem enc_map' (l : List (List UInt8)) : l.map Go.Proofs.encStr = (l.map fun l => (⟨l.toArray⟩ : ByteArray)).map Value.string := by
  rw [List.map_map]; rfl
theorem sortF_sp (v : Value) (ks : List ByteArray) (F : Frz) (hl : ks.length ≤ 1048576) :
    Sp Tryz.prog 87 [v] [OSl strR 1 9 v ks] F (fun u B F' => B = [OSl strR 1 9 v (sortB ks)]) := by
  intro R w st
  rcases St.openSl (L := R) st with ⟨rfl, ⟨a, rfl⟩, s⟩ | ⟨b, cap, vs, junk, rfl, h2, h3, s⟩
  · have h := Any.slices_Sort_string_none Tryz.lays190 a 0 w
    refine Calls.mono' (f := 87) h ?_
    rintro e w' ⟨rfl, rfl⟩
    have e0 : sortB [] = [] := by simp [sortB]
    exact ⟨_, F, .refl _, rfl, by rw [e0]; exact St.shutSl0 (L := R) s a⟩
  · rw [f2_str h2, flat_str, ← enc_map] at s
    obtain ⟨hH, hb⟩ := holds_own Go.Proofs.encStr (ks.map fun s => s.data.toList) s
    have h := Any.slices_Sort_string Tryz.lays190 b 0 cap (ks.map fun s => s.data.toList) w hH hb (by rw [List.length_map]; omega)
    rw [List.length_map] at h
    refine Calls.mono' (f := 87) h ?_
    rintro e w' ⟨rfl, n, os, rfl⟩
    have hlen : (sortB ks).length = ks.length := (sortB_perm ks).length_eq
    have hl2 : ((ks.map fun s => s.data.toList).mergeSort fun x y => decide (x ≤ y)).length = ks.length := by rw [(List.mergeSort_perm _ _).length_eq, List.length_map]
    have s2 := s.sorted Go.Proofs.encStr ((ks.map fun s => s.data.toList).mergeSort fun x y => decide (x ≤ y)) (by rw [List.length_map, List.length_map, hl2]) n os
    rw [enc_map', ← flat_str] at s2
    have s3 := s2.shutSl (ρ := strR) (n := 1) (xs := sortB ks) (cap := cap) (f2_str' F _) (by rw [hlen]; exact h3)
    rw [hlen] at s3
    exact ⟨_, F, .refl _, rfl, s3⟩
theorem sortedF_sp (pb f : Nat) (m : List (ByteArray × List Ver)) (F : Frz) (hl : m.length ≤ 1048576) :
    Sp Tryz.prog 61 [.func (.func 88) #[] #[ptr pb]] [own pb [.map (some f)] 65, mapP (Value.string) vsR f m] F
      (fun v B F' => ∃ ks, ks.Perm (m.map (·.1)) ∧ B = [OSl strR 1 9 v (sortB ks), own pb [.map (some f)] 65, mapP (Value.string) vsR f m]) := by
  refine sp_of Tryz.func61 rfl (by kernel_rfl) rfl fun R => ?_
  repeat (first | refine t_seq ?_ | refine t_region ?_ | refine to_nil ?_ | refine to_q rfl rfl rfl ?_)
  refine to_call rfl rfl (collectF_sp pb f m F hl) fun v B F1 le h => ?_
  obtain ⟨ks, hks, rfl⟩ := h
  repeat (first | refine t_seq ?_ | refine t_region ?_ | refine to_nil ?_ | refine to_q rfl rfl rfl ?_)
  have hkl : ks.length ≤ 1048576 := by have := hks.length_eq; rw [List.length_map] at this; omega
  refine to_call rfl rfl (sortF_sp v ks F1 hkl) fun u B F2 le2 h => ?_
  subst h
  repeat (first | refine t_seq ?_ | refine t_region ?_ | refine to_nil ?_ | refine to_q rfl rfl rfl ?_)
  exact t_ret [OSl strR 1 9 v (sortB ks), own pb [.map (some f)] 65, mapP (Value.string) vsR f m] Tryz.func61 (.tmp rfl .nil) ⟨ks, hks, rfl⟩
theorem sortedS_sp (pb f : Nat) (m : List (Int × (ByteArray × ByteArray))) (F : Frz) (hl : m.length ≤ 1048576) :
    Sp Tryz.prog 38 [.func (.func 80) #[] #[ptr pb]] [own pb [.map (some f)] 67, mapP (Value.int .i64) sesR f m] F
      (fun v B F' => ∃ ks, ks.Perm (m.map (·.1)) ∧ B = [OSl intR 1 3 v (sortI ks), own pb [.map (some f)] 67, mapP (Value.int .i64) sesR f m]) := by
  refine sp_of Tryz.func38 rfl (by kernel_rfl) rfl fun R => ?_
  repeat (first | refine t_seq ?_ | refine t_region ?_ | refine to_nil ?_ | refine to_q rfl rfl rfl ?_)
  refine to_call rfl rfl (collectS_sp pb f m F hl) fun v B F1 le h => ?_
  obtain ⟨ks, hks, rfl⟩ := h
  repeat (first | refine t_seq ?_ | refine t_region ?_ | refine to_nil ?_ | refine to_q rfl rfl rfl ?_)
  have hkl : ks.length ≤ 1048576 := by have := hks.length_eq; rw [List.length_map] at this; omega
  refine to_call rfl rfl (sortI_sp v ks F1 hkl) fun u B F2 le2 h => ?_
  subst h
  repeat (first | refine t_seq ?_ | refine t_region ?_ | refine to_nil ?_ | refine to_q rfl rfl rfl ?_)
  exact t_ret [OSl intR 1 3 v (sortI ks), own pb [.map (some f)] 67, mapP (Value.int .i64) sesR f m] Tryz.func38 (.tmp rfl .nil) ⟨ks, hks, rfl⟩
end Go.Proofs.YtbffngeameenoaaGreat
end

section
set_option maxRecDepth 100000
set_option linter.unusedVariables false
set_option linter.unusedSimpArgs false
namespace Go.Proofs.YtbffngeameenoaaGreat
open Go Go.Au
attribute [local irreducible] T TO

def idxI (p : Ver → Bool) (xs : List Ver) : Int := match xs.findIdx? p with
  | some i => i
  | none => -1
theorem idxI_some {p : Ver → Bool} {xs : List Ver} {i : Nat} {q : Ver} (hq : xs[i]? = some q) (hp : p q = true) (hall : ∀ j q', j < i → xs[j]? = some q' → p q' = false) : idxI p xs = i := by
  have : xs.findIdx? p = some i := by
    rw [List.findIdx?_eq_some_iff_getElem]
    have hi : i < xs.length := by
      rcases Nat.lt_or_ge i xs.length with h | h
      · exact h
      · rw [List.getElem?_eq_none h] at hq; cases hq
    rw [List.getElem?_eq_getElem hi] at hq
    cases hq
    refine ⟨hi, hp, fun j hj => ?_⟩
    have := hall j _ hj (List.getElem?_eq_getElem (by omega))
    simpa using this
  simp [idxI, this]
theorem idxI_none {p : Ver → Bool} {xs : List Ver} {i : Nat} (hi : xs.length ≤ i) (hall : ∀ j q', j < i → xs[j]? = some q' → p q' = false) : idxI p xs = -1 := by
  have : xs.findIdx? p = none := by
    rw [List.findIdx?_eq_none_iff]
    intro q hq
    obtain ⟨j, hj, e⟩ := List.getElem_of_mem hq
    exact hall j q (by omega) (by rw [List.getElem?_eq_getElem hj, e])
  simp [idxI, this]
theorem idxR_sp (fv sv : Value) (xs : List Ver) (p : Ver → Bool) (J : HP) (F : Frz) (hs : vsR.r F xs sv) (hn : xs.length ≤ 1048576)
    (hy : ∀ (q : Ver) (F' : Frz), FS F F' → q ∈ xs → CV Tryz.prog fv [verV q] [J] F' (fun v B F'' => v = .bool (p q) ∧ B = [J])) :
    Sp Tryz.prog 91 [sv, fv] [J] F (fun v B F' => v = .int .i64 (idxI p xs) ∧ B = [J]) := by
  refine sp_of Tryz.func91 rfl (by kernel_rfl) rfl fun R => ?_
  repeat (first | refine t_seq ?_ | refine t_region ?_ | refine to_nil ?_ | refine to_q rfl rfl rfl ?_)
  refine to_lenR (ρ := verR) (n := 4) hs rfl rfl rfl ?_
  repeat (first | refine t_block ?_ | refine to_nil ?_ | refine to_q rfl rfl rfl ?_)
  refine t_loopJ (R := R) (fun i : Nat => xs.length - i) (fun _ => [J]) (fun i => [(0, sv), (1, fv), (7, .int .i64 xs.length), (8, .int .i64 i)])
    (fun i _ => i ≤ xs.length ∧ ∀ j q', j < i → xs[j]? = some q' → p q' = false) 0 (by repeat (first | exact trivial | refine ⟨rfl, ?_⟩)) ⟨by omega, by omega⟩ ?_
  intro i F1 le1 hg ih
  obtain ⟨hi, hall⟩ := hg
  repeat (first | refine t_seq ?_ | refine t_region ?_ | refine to_nil ?_ | refine to_q rfl rfl rfl ?_)
  refine t_condT rfl (fun h => ?_) (fun h => ?_)
  · simp only [decide_eq_true_eq] at h
    have hlt : i < xs.length := by omega
    have hc := List.getElem?_eq_getElem hlt
    have hm : xs[i] ∈ xs := List.getElem_mem hlt
    generalize xs[i] = q at hc hm
    repeat (first | refine t_seq ?_ | refine t_block ?_ | refine t_region ?_ | refine to_nil ?_ | refine t_skip ?_ | refine to_q rfl rfl rfl ?_)
    obtain ⟨b, o, cap, u, e1, hl, hr, hro⟩ := slR_elem (P := Tryz.prog) (t := 85) (by_ := 40) hs hc
    subst e1
    cases hr
    refine to_ia rfl rfl rfl rfl hl ?_
    refine to_ldV (F1 := F) (ρ := verR) (q := q) rfl hro rfl rfl ?_
    refine to_callv rfl rfl rfl (hy q F1 inferInstance hm) fun v B F2 le2 h2 => ?_
    obtain ⟨rfl, rfl⟩ := h2
    repeat (refine to_nil ?_)
    refine t_condT rfl (fun hp => ?_) (fun hp => ?_)
    · repeat (first | refine t_seq ?_ | refine t_region ?_ | refine to_nil ?_ | refine to_q rfl rfl rfl ?_)
      exact t_ret [J] Tryz.func91 (.tmp rfl .nil) ⟨by rw [idxI_some hc hp hall]; rfl, rfl⟩
    · repeat (first | refine t_region ?_ | refine to_nil ?_ | refine t_skip ?_ | refine t_inBlock ?_ | refine to_q rfl rfl rfl ?_ | refine to_add rfl rfl rfl (by omega) (by omega) ?_)
      refine t_re (A := [J]) (R := R) (ih (i + 1) F2 le2 (by omega) ⟨by omega, fun j q' hj e => ?_⟩) (by repeat (first | exact trivial | refine ⟨rfl, ?_⟩))
      rcases Nat.lt_or_ge j i with h' | h'
      · exact hall j q' h' e
      · have : j = i := by omega
        subst this
        rw [hc] at e; cases e; exact hp
  · simp only [decide_eq_false_iff_not] at h
    repeat (first | refine t_seq ?_ | refine t_region ?_ | refine to_nil ?_ | refine to_q rfl rfl rfl ?_ | refine t_exit rfl ?_)
    exact t_ret [J] Tryz.func91 (.tmp rfl .nil) ⟨by rw [idxI_none (i := i) (by omega) hall]; rfl, rfl⟩
theorem idxO_sp (fv v : Value) (xs : List Ver) (p : Ver → Bool) (J : HP) (F : Frz) (hn : xs.length ≤ 1048576)
    (hy : ∀ (q : Ver) (F' : Frz), FS F F' → q ∈ xs → CV Tryz.prog fv [verV q] [J] F' (fun v B F'' => v = .bool (p q) ∧ B = [J])) :
    Sp Tryz.prog 91 [v, fv] [J, OSl verR 4 85 v xs] F (fun u B F' => u = .int .i64 (idxI p xs) ∧ B = [J, OSl verR 4 85 v xs]) := by
  refine sp_of Tryz.func91 rfl (by kernel_rfl) rfl fun R => ?_
  repeat (first | refine t_seq ?_ | refine t_block ?_ | refine t_region ?_ | refine to_nil ?_ | refine to_q rfl rfl rfl ?_ | refine to_lenO rfl rfl rfl ?_)
  refine t_loopJ (R := R) (fun i : Nat => xs.length - i) (fun _ => [J, OSl verR 4 85 v xs]) (fun i => [(0, v), (1, fv), (7, .int .i64 xs.length), (8, .int .i64 i)])
    (fun i _ => i ≤ xs.length ∧ ∀ j q', j < i → xs[j]? = some q' → p q' = false) 0 (by repeat (first | exact trivial | refine ⟨rfl, ?_⟩)) ⟨by omega, by omega⟩ ?_
  intro i F1 le1 hg ih
  obtain ⟨hi, hall⟩ := hg
  repeat (first | refine t_seq ?_ | refine t_region ?_ | refine to_nil ?_ | refine to_q rfl rfl rfl ?_)
  refine t_condT rfl (fun h => ?_) (fun h => ?_)
  · simp only [decide_eq_true_eq] at h
    have hlt : i < xs.length := by omega
    have hc := List.getElem?_eq_getElem hlt
    have hm : xs[i] ∈ xs := List.getElem_mem hlt
    generalize xs[i] = q at hc hm
    repeat (first | refine t_seq ?_ | refine t_block ?_ | refine t_region ?_ | refine to_nil ?_ | refine t_skip ?_ | refine to_q rfl rfl rfl ?_)
    refine to_lit v (ρ := verR) (List.ne_nil_of_length_pos (by omega)) fun b cap e1 => ?_
    subst e1
    refine to_ia rfl rfl rfl rfl hlt ?_
    refine to_ldO (ρ := verR) (q := q) (j := i) rfl rfl rfl hc fun u hu => ?_
    cases hu
    refine to_callv rfl rfl rfl (hy q F1 inferInstance hm) fun v B F2 le2 h2 => ?_
    obtain ⟨rfl, rfl⟩ := h2
    repeat (refine to_nil ?_)
    refine t_condT rfl (fun hp => ?_) (fun hp => ?_)
    · repeat (first | refine t_seq ?_ | refine t_region ?_ | refine to_nil ?_ | refine to_q rfl rfl rfl ?_)
      exact t_ret [J, OSl verR 4 85 (.slice (some ⟨b, 0, none⟩) xs.length cap) xs] Tryz.func91 (.tmp rfl .nil) ⟨by rw [idxI_some hc hp hall]; rfl, rfl⟩
    · repeat (first | refine t_region ?_ | refine to_nil ?_ | refine t_skip ?_ | refine t_inBlock ?_ | refine to_q rfl rfl rfl ?_ | refine to_add rfl rfl rfl (by omega) (by omega) ?_)
      refine t_re (A := [J, OSl verR 4 85 (.slice (some ⟨b, 0, none⟩) xs.length cap) xs]) (R := R) (ih (i + 1) F2 le2 (by omega) ⟨by omega, fun j q' hj e => ?_⟩) (by repeat (first | exact trivial | refine ⟨rfl, ?_⟩))
      rcases Nat.lt_or_ge j i with h' | h'
      · exact hall j q' h' e
      · have : j = i := by omega
        subst this
        rw [hc] at e; cases e; exact hp
  · simp only [decide_eq_false_iff_not] at h
    repeat (first | refine t_seq ?_ | refine t_region ?_ | refine to_nil ?_ | refine to_q rfl rfl rfl ?_ | refine t_exit rfl ?_)
    exact t_ret [J, OSl verR 4 85 v xs] Tryz.func91 (.tmp rfl .nil) ⟨by rw [idxI_none (i := i) (by omega) hall]; rfl, rfl⟩
end Go.Proofs.YtbffngeameenoaaGreat
end

section
set_option maxRecDepth 100000
set_option linter.unusedVariables false
set_option linter.unusedSimpArgs false
namespace Go.Proofs.YtbffngeameenoaaGreat
open Go Go.Au
attribute [local irreducible] T TO

instance zr_ver : Zer Tryz.prog 85 (.agg #[.int .i64 0, .int .i64 0, .string ⟨#[]⟩, .bool false]) := Zer.mk' (by kernel_rfl)
def keepF (p : Ver → Bool) (xs : List Ver) : List Ver := xs.filter fun q => !p q
theorem keepF_snoc (p : Ver → Bool) (xs : List Ver) (q : Ver) : keepF p (xs ++ [q]) = if p q then keepF p xs else keepF p xs ++ [q] := by
  cases h : p q <;> simp [keepF, h]
theorem keepF_none {p : Ver → Bool} {xs : List Ver} (h : xs.findIdx? p = none) : keepF p xs = xs := by
  rw [List.findIdx?_eq_none_iff] at h
  exact List.filter_eq_self.2 fun q hq => by simp [h q hq]
theorem take_snoc {xs : List Ver} {j : Nat} {q : Ver} (h : xs[j]? = some q) : xs.take (j + 1) = xs.take j ++ [q] := by
  rw [List.take_add_one, h]; rfl
theorem keep_first {p : Ver → Bool} {xs : List Ver} {i : Nat} (h : xs.findIdx? p = some i) : i < xs.length ∧ keepF p (xs.take (i + 1)) = xs.take i := by
  rw [List.findIdx?_eq_some_iff_getElem] at h
  obtain ⟨hi, hp, hall⟩ := h
  refine ⟨hi, ?_⟩
  rw [take_snoc (List.getElem?_eq_getElem hi), keepF_snoc, if_pos hp]
  refine List.filter_eq_self.2 fun q hq => ?_
  obtain ⟨j, hj, e⟩ := List.getElem_of_mem hq
  rw [List.length_take] at hj
  rw [List.getElem_take] at e
  have := hall j (by omega)
  rw [e] at this
  simpa using this
set_option maxHeartbeats 1000000 in
theorem delete_sp (fv v : Value) (xs : List Ver) (p : Ver → Bool) (J : HP) (F : Frz) (hn : xs.length ≤ 1048576)
    (hy : ∀ (q : Ver) (F' : Frz), FS F F' → q ∈ xs → CV Tryz.prog fv [verV q] [J] F' (fun v B F'' => v = .bool (p q) ∧ B = [J])) :
    Sp Tryz.prog 75 [v, fv] [J, OSl verR 4 85 v xs] F (fun u B F' => B = [J, OSl verR 4 85 u (keepF p xs)]) := by
  refine sp_of Tryz.func75 rfl (by kernel_rfl) rfl fun R => ?_
  repeat (first | refine t_seq ?_ | refine t_region ?_ | refine to_nil ?_ | refine to_q rfl rfl rfl ?_)
  refine to_call rfl rfl (idxO_sp fv v xs p J F hn hy) fun u B F1 le1 h => ?_
  obtain ⟨rfl, rfl⟩ := h
  cases hf : xs.findIdx? p with
  | none =>
    have e1 : idxI p xs = -1 := by simp [idxI, hf]
    rw [e1]
    repeat (first | refine t_seq ?_ | refine t_region ?_ | refine to_nil ?_ | refine to_q rfl rfl rfl ?_ | refine t_cond (t := true) rfl (fun _ => ?_) (fun h => nomatch h))
    exact t_ret [J, OSl verR 4 85 v xs] Tryz.func75 (.tmp rfl .nil) (by rw [keepF_none hf]; rfl)
  | some i0 =>
    have e1 : idxI p xs = (i0 : Int) := by simp [idxI, hf]
    rw [e1]
    obtain ⟨hi0, hk0⟩ := keep_first hf
    repeat (first | refine t_seq ?_ | refine t_block ?_ | refine t_region ?_ | refine to_nil ?_ | refine t_skip ?_ | refine to_q rfl rfl rfl ?_ | refine to_add rfl rfl rfl (by omega) (by omega) ?_
                  | refine t_cond (t := false) rfl (fun h => nomatch h) (fun _ => ?_))
    refine t_lit v (ρ := verR) (List.ne_nil_of_length_pos (by omega)) fun b cap ev => ?_
    subst ev
    refine t_loopJ (R := R) (fun s : Nat × Nat × List Ver => xs.length - s.2.1) (fun s => [J, OSl verR 4 85 (.slice (some ⟨b, 0, none⟩) xs.length cap) s.2.2])
      (fun s => [(0, .slice (some ⟨b, 0, none⟩) xs.length cap), (1, fv), (5, .int .i64 s.1), (6, .int .i64 s.2.1)])
      (fun s _ => s.1 < s.2.1 ∧ s.2.1 ≤ xs.length ∧ s.2.2.length = xs.length ∧ s.2.2.take s.1 = keepF p (xs.take s.2.1) ∧ ∀ j q, s.2.1 ≤ j → xs[j]? = some q → s.2.2[j]? = some q)
      (i0, i0 + 1, xs) (by repeat (first | exact trivial | refine ⟨rfl, ?_⟩)) ⟨Nat.lt_succ_self _, hi0, rfl, hk0.symm, fun j q _ h => h⟩ ?_
    rintro ⟨i, j, ys⟩ F2 le2 hg ih
    dsimp only at hg ih ⊢
    obtain ⟨hij, hj, hyl, htk, hrest⟩ := hg
    repeat (first | refine t_seq ?_ | refine t_region ?_ | refine to_nil ?_ | refine to_q rfl rfl rfl ?_ | refine to_lenS rfl rfl rfl ?_)
    refine t_condT rfl (fun h => ?_) (fun h => ?_)
    · simp only [decide_eq_true_eq] at h
      have hlt : j < xs.length := by omega
      have hc := List.getElem?_eq_getElem hlt
      have hm : xs[j] ∈ xs := List.getElem_mem hlt
      generalize xs[j] = q at hc hm
      have hcy := hrest j q (Nat.le_refl _) hc
      repeat (first | refine t_seq ?_ | refine t_block ?_ | refine t_region ?_ | refine t_skip ?_ | refine to_q rfl rfl rfl ?_)
      refine to_ia (j := j) rfl rfl rfl rfl hlt ?_
      refine to_ldO (ρ := verR) (q := q) (j := j) rfl rfl rfl hcy fun u hu => ?_
      obtain rfl : u = .agg #[.int .i64 q.gen, .int .i64 q.time, .string q.text, .bool q.gone] := hu
      repeat (first | refine t_seq ?_ | refine t_region ?_ | refine to_nil ?_ | refine to_q rfl rfl rfl ?_ | refine to_ldA rfl rfl rfl ?_ | refine to_stA rfl rfl rfl rfl rfl rfl ?_ | refine to_alloc rfl fun _ => ?_)
      refine to_callv rfl rfl rfl (hy q F2 ⟨le1.h.trans le2.h⟩ hm) fun v B F3 le3 h2 => ?_
      obtain ⟨rfl, rfl⟩ := h2
      repeat (first | refine to_nil ?_ | refine to_q rfl rfl rfl ?_)
      refine t_condT rfl (fun hp => ?_) (fun hp => ?_)
      · simp only [Bool.not_eq_true'] at hp
        repeat (first | refine t_seq ?_ | refine t_region ?_ | refine to_q rfl rfl rfl ?_ | refine to_ldA rfl rfl rfl ?_)
        refine to_ia (j := i) rfl rfl rfl rfl (by omega) ?_
        refine to_stO (ρ := verR) (q' := q) (j := i) rfl rfl rfl rfl (by omega) rfl ?_
        repeat (first | refine t_region ?_ | refine to_nil ?_ | refine t_inBlock ?_ | refine to_q rfl rfl rfl ?_ | refine to_add rfl rfl rfl (by omega) (by omega) ?_)
        refine t_re (A := [J, OSl verR 4 85 (.slice (some ⟨b, 0, none⟩) xs.length cap) (ys.set i q)]) (R := R)
          (ih (i + 1, j + 1, ys.set i q) F3 ⟨le3.h⟩ (by dsimp only; omega) ⟨by dsimp only; omega, by dsimp only; omega, by simpa using hyl, ?_, ?_⟩) (by repeat (first | exact trivial | refine ⟨rfl, ?_⟩))
        · dsimp only
          rw [take_snoc hc, keepF_snoc, hp, ← htk]
          have : (ys.set i q)[i]? = some q := List.getElem?_set_self (by omega)
          rw [List.take_add_one, this]
          simp [List.take_set_of_le]
        · dsimp only
          intro j' q' hj' e
          rw [List.getElem?_set_ne (by omega)]
          exact hrest j' q' (by omega) e
      · simp only [Bool.not_eq_false'] at hp
        repeat (first | refine t_region ?_ | refine to_nil ?_ | refine t_skip ?_ | refine t_inBlock ?_ | refine to_q rfl rfl rfl ?_ | refine to_add rfl rfl rfl (by omega) (by omega) ?_)
        refine t_re (A := [J, OSl verR 4 85 (.slice (some ⟨b, 0, none⟩) xs.length cap) ys]) (R := R)
          (ih (i, j + 1, ys) F3 ⟨le3.h⟩ (by dsimp only; omega) ⟨by dsimp only; omega, by dsimp only; omega, hyl, ?_, ?_⟩) (by repeat (first | exact trivial | refine ⟨rfl, ?_⟩))
        · dsimp only
          rw [take_snoc hc, keepF_snoc, if_pos hp, htk]
        · dsimp only
          intro j' q' hj' e
          exact hrest j' q' (by omega) e
    · simp only [decide_eq_false_iff_not] at h
      have hjl : j = xs.length := by omega
      have hfin : ys.take i = keepF p xs := by rw [htk, hjl, List.take_length]
      refine t_cap (b := b) (by_ := 40) (P := Tryz.prog) (xs := ys) (et := 85) fun hcap => ?_
      repeat (first | refine t_seq ?_ | refine t_region ?_ | refine to_q rfl rfl rfl ?_ | refine t_exit rfl ?_)
      refine to_slG rfl rfl (by omega) rfl rfl (by omega) (by omega) (by omega) ?_
      have hb1 : (if cap = ((i : Int)).toNat then (some ⟨b, 0, none⟩ : Option Addr) else (some ⟨b, 0, none⟩ : Option Addr).map (·.add (((i : Int)).toNat * 4))) = some ⟨b, i * 4, none⟩ := by
        rw [if_neg (by omega), Int.toNat_natCast, Option.map_some, Addr.add_none, Nat.zero_add]
      have hb2 : ((xs.length : Int)).toNat - ((i : Int)).toNat = ys.length - i := by rw [Int.toNat_natCast, Int.toNat_natCast, hyl]
      rw [hb1, hb2]
      refine to_clrT (i := i) (n := 4) (ρ := verR) (fun u hu => by simp [cellsL] at hu; rcases hu with rfl | rfl | rfl | rfl <;> rfl) rfl rfl rfl rfl (by omega) ?_
      rw [hfin]
      repeat (first | refine t_seq ?_ | refine t_region ?_ | refine to_nil ?_ | refine to_q rfl rfl rfl ?_)
      refine to_slG rfl rfl (by omega) rfl rfl (by omega) (by omega) (by omega) ?_
      have hb3 : (if cap = (0 : Int).toNat then (some ⟨b, 0, none⟩ : Option Addr) else (some ⟨b, 0, none⟩ : Option Addr).map (·.add ((0 : Int).toNat * 4))) = some ⟨b, 0, none⟩ := by
        rw [if_neg (by simp; omega), Option.map_some, Addr.add_none]; rfl
      have hb4 : ((i : Int)).toNat - (0 : Int).toNat = i := by simp
      have hb5 : cap - (0 : Int).toNat = cap := by simp
      rw [hb3, hb4, hb5]
      repeat (first | refine to_nil ?_ | refine to_q rfl rfl rfl ?_)
      exact t_ret [J, OSl verR 4 85 (.slice (some ⟨b, 0, none⟩) i cap) (keepF p xs)] Tryz.func75 (.tmp rfl .nil) rfl
end Go.Proofs.YtbffngeameenoaaGreat
end

section
set_option maxRecDepth 100000
set_option linter.unusedVariables false
set_option linter.unusedSimpArgs false
namespace Go.Proofs.YtbffngeameenoaaGreat
open Go Go.Au
attribute [local irreducible] T TO

def heldX (x : XM) (name : ByteArray) (gen : Int) : Bool := x.shots.any fun s => (aget s.2 name).getD 0 == gen
theorem held_sp (b f s o : Nat) (x : XM) (name : ByteArray) (gen : Int) (F : Frz) :
    Sp Tryz.prog 94 [ptr b, .string name, .int .i64 gen] (XP b f s o x) F (fun v B F' => v = .bool (heldX x name gen) ∧ B = XP b f s o x) := by
  classical
  refine sp_of Tryz.func94 rfl (by kernel_rfl) rfl fun R => ?_
  refine t_openM s fun es clock φ hm => ?_
  repeat (first | refine t_seq ?_ | refine t_region ?_ | refine to_nil ?_ | refine to_q rfl rfl rfl ?_ | refine to_fa rfl rfl ?_ | refine to_ld rfl rfl rfl ?_)
  refine to_range (mapAt_own (b := s) (es := es) (clock := clock)) rfl rfl fun r => ?_
  repeat (first | refine t_block ?_ | refine to_nil ?_)
  refine t_loopJ (R := R) (fun d : List MapEntry => es.size - d.length) (fun d => [iterP r s clock d, at1 s (.map es clock), own b (XC f s o x.began x.now x.quota) 69, mapP Value.string vsR f x.files, mapP (Value.int .i64) sesR o x.sess])
    (fun d => [(0, ptr b), (1, .string name), (2, .int .i64 gen), (13, ptr r)]) (fun d _ => d.Nodup ∧ (∀ z ∈ d, z ∈ es.toList) ∧ ∀ z ∈ d, ((aget (φ z).2 name).getD 0 == gen) = false) [] (by repeat (first | exact trivial | refine ⟨rfl, ?_⟩)) ⟨.nil, by simp, by simp⟩ ?_
  intro d F1 le1 hg ih
  obtain ⟨hd1, hd2, hd3⟩ := hg
  repeat (first | refine t_seq ?_ | refine t_region ?_)
  refine to_next_ (mapAt_own (b := s) (es := es) (clock := clock)) hm.bl hm.nb hd2 rfl rfl (fun hall => ?_) (fun z hz hnz => ?_)
  · repeat (first | refine t_seq ?_ | refine t_region ?_ | refine to_nil ?_ | refine to_q rfl rfl rfl ?_ | refine t_cond (t := false) rfl (fun h => nomatch h) (fun _ => ?_) | refine t_exit rfl ?_)
    refine t_shutM s (hm.ok.mono le1.h) ?_
    have e : heldX x name gen = false := by
      unfold heldX
      rw [List.any_eq_false]
      intro q hq
      obtain ⟨z, hz, rfl⟩ := List.mem_map.1 (hm.perm.mem_iff.2 hq)
      simpa using hd3 z (hall z hz)
    exact t_ret (XP b f s o x) Tryz.func94 (.tmp rfl .nil) (by rw [e]; exact ⟨rfl, rfl⟩)
  · repeat (first | refine t_seq ?_ | refine t_block ?_ | refine t_region ?_ | refine to_nil ?_ | refine t_skip ?_ | refine to_q rfl rfl rfl ?_ | refine t_cond (t := true) rfl (fun _ => ?_) (fun h => nomatch h))
    refine to_entry (mapAt_own (b := s) (es := es) (clock := clock)) hm.nb hz rfl rfl ?_
    obtain ⟨hk, hv⟩ := hm.rel z hz
    have hmem : φ z ∈ x.shots := hm.perm.mem_iff.1 (List.mem_map_of_mem hz)
    obtain ⟨sb, hzv, hro⟩ := hv
    rw [hzv]
    repeat (first | refine t_seq ?_ | refine t_region ?_ | refine to_nil ?_ | refine to_q rfl rfl rfl ?_)
    refine to_lkRD (F0 := F) (key := name) 0 hro rfl rfl rfl rfl fun u hu => ?_
    cases hu
    repeat (first | refine to_nil ?_ | refine to_q rfl rfl rfl ?_)
    refine t_condT rfl (fun h => ?_) (fun h => ?_)
    · have e : heldX x name gen = true := by
        unfold heldX
        rw [List.any_eq_true]
        exact ⟨φ z, hmem, h⟩
      repeat (first | refine t_seq ?_ | refine t_region ?_ | refine to_nil ?_ | refine to_q rfl rfl rfl ?_)
      refine t_shutM s (hm.ok.mono le1.h) ?_
      exact t_ret (XP b f s o x) Tryz.func94 (.tmp rfl .nil) (by rw [e]; exact ⟨rfl, rfl⟩)
    · have hlen : (d ++ [z]).length ≤ es.size := nodup_len (snoc_nd hd1 hnz) (snoc_sub hd2 hz)
      rw [List.length_append, List.length_singleton] at hlen
      repeat (first | refine t_skip ?_ | refine t_inBlock ?_)
      refine t_re (A := [iterP r s clock (d ++ [z]), at1 s (.map es clock), own b (XC f s o x.began x.now x.quota) 69, mapP Value.string vsR f x.files, mapP (Value.int .i64) sesR o x.sess]) (R := R)
        (ih (d ++ [z]) F1 ⟨.refl _⟩ (by rw [List.length_append, List.length_singleton]; omega) ⟨snoc_nd hd1 hnz, snoc_sub hd2 hz, fun y hy => ?_⟩) (by repeat (first | exact trivial | refine ⟨rfl, ?_⟩))
      rcases List.mem_append.1 hy with hy | hy
      · exact hd3 y hy
      · cases List.mem_singleton.1 hy; exact h
end Go.Proofs.YtbffngeameenoaaGreat
end

section
set_option maxRecDepth 100000
set_option linter.unusedVariables false
set_option linter.unusedSimpArgs false
namespace Go.Proofs.YtbffngeameenoaaGreat
open Go Go.Au
attribute [local irreducible] T TO

def dropP (x : XM) (nm : ByteArray) (q : Ver) : Bool := q.gone && !heldX x nm q.gen
abbrev AS (bm bn b f s o : Nat) (nm : ByteArray) (x : XM) : List HP := own bm [ptr b] 23 :: own bn [.string nm] 9 :: XP b f s o x
theorem sweepC_sp (bm bn b f s o : Nat) (nm : ByteArray) (x : XM) (q : Ver) (F : Frz) :
    Sp Tryz.prog 93 [verV q, ptr bm, ptr bn] (AS bm bn b f s o nm x) F (fun v B F' => v = .bool (dropP x nm q) ∧ B = AS bm bn b f s o nm x) := by
  refine sp_of Tryz.func93 rfl (by kernel_rfl) rfl fun R => ?_
  refine t_seq ?_
  refine t_region ?_
  refine to_boxA (cs := [.int .i64 q.gen, .int .i64 q.time, .string q.text, .bool q.gone]) rfl rfl fun _ => ?_
  repeat (first | refine t_seq ?_ | refine t_region ?_ | refine to_nil ?_ | refine to_q rfl rfl rfl ?_ | refine to_fa rfl rfl ?_ | refine to_ld rfl rfl rfl ?_)
  refine to_gd rfl rfl (fun h => ?_) (fun h => ?_)
  · repeat (first | refine to_fa rfl rfl ?_ | refine to_ld rfl rfl rfl ?_)
    refine to_call rfl rfl (held_sp b f s o x nm q.gen _) fun v B F1 le h1 => ?_
    obtain ⟨rfl, rfl⟩ := h1
    repeat (first | refine to_nil ?_ | refine to_q rfl rfl rfl ?_)
    have e : dropP x nm q = !heldX x nm q.gen := by simp [dropP, h]
    exact t_ret (AS bm bn b f s o nm x) Tryz.func93 (.tmp rfl .nil) (by rw [e]; exact ⟨rfl, rfl⟩)
  · repeat (first | refine to_nil ?_ | refine to_no rfl ?_ | refine to_q rfl rfl rfl ?_)
    have e : dropP x nm q = false := by simp [dropP, h]
    exact t_ret (AS bm bn b f s o nm x) Tryz.func93 (.tmp rfl .nil) (by rw [e]; exact ⟨rfl, rfl⟩)
def sweep1 (x : XM) (nm : ByteArray) : XM :=
  { x with files := if (keepF (dropP x nm) (filesOf x nm)).length = 0 then adel (aset x.files nm (keepF (dropP x nm) (filesOf x nm))) nm else aset x.files nm (keepF (dropP x nm) (filesOf x nm)) }
def XLen (x : XM) : Prop := ∀ q ∈ x.files, q.2.length ≤ 1048576
theorem XLen.of {x : XM} (h : XLen x) (nm : ByteArray) : (filesOf x nm).length ≤ 1048576 := by
  unfold filesOf
  cases hf : aget x.files nm with
  | none => simp
  | some l => exact h _ (mem_of_aget hf)
theorem XLen.sweep1 {x : XM} (h : XLen x) (nm : ByteArray) : XLen (sweep1 x nm) := by
  have hk : (keepF (dropP x nm) (filesOf x nm)).length ≤ 1048576 := Nat.le_trans (List.length_filter_le _ _) (h.of nm)
  have ha : ∀ q ∈ aset x.files nm (keepF (dropP x nm) (filesOf x nm)), q.2.length ≤ 1048576 := by
    intro q hq
    rcases List.mem_append.1 hq with hq | hq
    · exact h q ((List.mem_filter.1 hq).1)
    · cases List.mem_singleton.1 hq; exact hk
  unfold Proofs.YtbffngeameenoaaGreat.sweep1 XLen
  dsimp only
  split
  · exact fun q hq => ha q ((List.mem_filter.1 hq).1)
  · exact ha
theorem delete_spL (fv v : Value) (xs : List Ver) (p : Ver → Bool) (A : List HP) (F : Frz) (hn : xs.length ≤ 1048576)
    (hy : ∀ (q : Ver) (F' : Frz), FS F F' → CV Tryz.prog fv [verV q] A F' (fun v B F'' => v = .bool (p q) ∧ B = A)) :
    Sp Tryz.prog 75 [v, fv] (A ++ [OSl verR 4 85 v xs]) F (fun u B F' => B = A ++ [OSl verR 4 85 u (keepF p xs)]) := by
  refine Sp.out (Sp.sep (delete_sp fv v xs p (sepL A) F hn fun q F' le _ => ?_)) ?_
  · refine CV.out (CV.sep0 (hy q F' le)) ?_
    rintro v B F'' le2 ⟨rfl, rfl⟩
    exact ⟨_, ⟨rfl, rfl⟩, fun w R st => sep_in st⟩
  · rintro u B F' le rfl
    exact ⟨_, rfl, fun w R st => by rw [List.append_assoc]; exact sep_out (L := _ :: R) st⟩
theorem sweepL_sp (b f s o : Nat) (x : XM) (F : Frz) (hx : XLen x) (hl : x.files.length ≤ 1048576) :
    Sp Tryz.prog 73 [ptr b] (XP b f s o x) F (fun v B F' => ∃ ks, ks.Perm (x.files.map (·.1)) ∧ B = XP b f s o ((sortB ks).foldl sweep1 x)) := by
  refine sp_of Tryz.func73 rfl (by kernel_rfl) rfl fun R => ?_
  repeat (first | refine t_seq ?_ | refine t_region ?_ | refine to_nil ?_ | refine to_q rfl rfl rfl ?_ | refine to_fa rfl rfl ?_ | refine to_ld rfl rfl rfl ?_ | refine to_box1 rfl rfl rfl fun _ => ?_)
  rename_i bm
  refine to_call rfl rfl (mapsKeysF_sp f _) fun v B F1 le1 h => ?_
  obtain ⟨pb, rfl, rfl⟩ := h
  refine to_call rfl rfl (sortedF_sp pb f x.files _ hl) fun v B F2 le2 h => ?_
  obtain ⟨ks, hks, rfl⟩ := h
  refine to_freeze v fun F3 le3 hv => ?_
  have hkl : (sortB ks).length ≤ 1048576 := by
    have h1 := (sortB_perm ks).length_eq
    have h2 := hks.length_eq
    rw [List.length_map] at h2
    omega
  generalize hks2 : sortB ks = ns at hv hkl ⊢
  refine to_lenR (ρ := strR) (n := 1) hv rfl rfl rfl ?_
  repeat (first | refine t_block ?_ | refine to_nil ?_ | refine to_q rfl rfl rfl ?_)
  refine t_loopJ (R := R) (fun s : Nat × XM => ns.length - s.1) (fun z => own bm [ptr b] 23 :: XP b f s o z.2)
    (fun z => [(1, ptr bm), (10, v), (11, .int .i64 ns.length), (12, .int .i64 z.1)]) (fun z _ => z.1 ≤ ns.length ∧ z.2 = (ns.take z.1).foldl sweep1 x ∧ XLen z.2) (0, x) (by repeat (first | exact trivial | refine ⟨rfl, ?_⟩)) ⟨Nat.zero_le _, rfl, hx⟩ ?_
  rintro ⟨j, y⟩ F4 le4 hg ih
  dsimp only at hg ih ⊢
  obtain ⟨hj, hy, hxj⟩ := hg
  repeat (first | refine t_seq ?_ | refine t_region ?_ | refine to_nil ?_ | refine to_q rfl rfl rfl ?_)
  refine t_condT rfl (fun h => ?_) (fun h => ?_)
  · simp only [decide_eq_true_eq] at h
    have hlt : j < ns.length := by omega
    have hc := List.getElem?_eq_getElem hlt
    have htk : ns.take (j + 1) = ns.take j ++ [ns[j]] := by rw [List.take_add_one, hc]; rfl
    generalize ns[j] = nm at hc htk
    have hfl : (ns.take (j + 1)).foldl sweep1 x = sweep1 y nm := by rw [htk, List.foldl_append, ← hy]; rfl
    repeat (first | refine t_seq ?_ | refine t_block ?_ | refine t_region ?_ | refine t_skip ?_)
    obtain ⟨b1, o1, cap1, u1, e1, hl1, hr, hro⟩ := slR_elem (P := Tryz.prog) (t := 9) (by_ := 16) hv hc
    subst e1
    cases hr
    refine to_ia rfl rfl rfl rfl hl1 ?_
    refine to_ldV (F1 := F3) (ρ := strR) (q := nm) rfl hro rfl rfl ?_
    repeat (first | refine t_seq ?_ | refine to_nil ?_ | refine to_st rfl rfl rfl rfl rfl ?_ | refine to_alloc rfl fun _ => ?_)
    rename_i bn
    refine t_drawn1 (by kernel_rfl) (by kernel_rfl) ?_
    repeat (first | refine to_q rfl rfl rfl ?_ | refine to_fa rfl rfl ?_ | refine to_ld rfl rfl rfl ?_)
    refine to_lkD (key := nm) [] (slR_nil _ _ _ _ _) rfl rfl rfl fun u hu => ?_
    refine to_call rfl rfl (clone_sp u _ _ hu (hxj.of nm)) fun vc B F5 le5 h5 => ?_
    subst h5
    repeat (refine to_q rfl rfl rfl ?_)
    refine to_call (Ψ := fun u B F' => B = AS bm bn b f s o nm y ++ [OSl verR 4 85 u (keepF (dropP y nm) ((aget y.files nm).getD []))]) rfl rfl (delete_spL _ vc _ (dropP y nm) (AS bm bn b f s o nm y) F5 (hxj.of nm) (fun q F' le => cv_of_sp (cap := [ptr bm, ptr bn]) (sweepC_sp bm bn b f s o nm y q F'))) fun ud B F6 le6 h6 => ?_
    replace h6 : B = [own bm [ptr b] 23, own bn [.string nm] 9, own b (XC f s o y.began y.now y.quota) 69, mapP Value.string vsR f y.files, mapP Value.string shotR s y.shots, mapP (Value.int .i64) sesR o y.sess, OSl verR 4 85 ud (keepF (dropP y nm) ((aget y.files nm).getD []))] := h6
    subst h6
    repeat (first | refine t_seq ?_ | refine to_nil ?_ | refine to_q rfl rfl rfl ?_)
    refine t_freeze ud fun F7 le7 hu7 => ?_
    obtain ⟨ua, ucap, hue⟩ := slR_len hu7
    skip
    refine t_drawn1 (by kernel_rfl) (by kernel_rfl) ?_
    repeat (first | refine to_q rfl rfl rfl ?_ | refine to_fa rfl rfl ?_ | refine to_ld rfl rfl rfl ?_)
    refine to_mu (key := nm) (v' := keepF (dropP y nm) ((aget y.files nm).getD [])) rfl rfl rfl rfl hu7 ?_
    repeat (first | refine t_seq ?_ | refine t_region ?_ | refine to_nil ?_ | refine to_q rfl rfl rfl ?_)
    refine to_lenR (ρ := verR) (n := 4) hu7 rfl rfl rfl ?_
    repeat (first | refine to_nil ?_ | refine to_q rfl rfl rfl ?_)
    refine t_condT rfl (fun hz => ?_) (fun hz => ?_)
    · simp only [beq_iff_eq] at hz
      replace hz : ((keepF (dropP y nm) (filesOf y nm)).length : Int) = 0 := hz
      have e : sweep1 y nm = { y with files := adel (aset y.files nm (keepF (dropP y nm) (filesOf y nm))) nm } := by unfold sweep1; rw [if_pos (by omega)]
      skip
      refine t_drawn1 (by kernel_rfl) (by kernel_rfl) ?_
      repeat (first | refine to_q rfl rfl rfl ?_ | refine to_fa rfl rfl ?_ | refine to_ld rfl rfl rfl ?_)
      refine to_del rfl rfl rfl (key := nm) rfl ?_
      repeat (first | refine t_region ?_ | refine to_nil ?_ | refine t_inBlock ?_ | refine to_q rfl rfl rfl ?_ | refine to_add rfl rfl rfl (by omega) (by omega) ?_)
      refine t_re (A := own bm [ptr b] 23 :: XP b f s o { y with files := adel (aset y.files nm (keepF (dropP y nm) (filesOf y nm))) nm }) (R := R)
        (by
          have := ih (j + 1, sweep1 y nm) F7 ⟨(le5.h.trans le6.h).trans le7.h⟩ (by dsimp only; omega) ⟨by dsimp only; omega, hfl.symm, hxj.sweep1 nm⟩
          rw [e] at this
          exact this) (by repeat (first | exact trivial | refine ⟨rfl, ?_⟩))
    · simp only [beq_eq_false_iff_ne] at hz
      replace hz : ¬ ((keepF (dropP y nm) (filesOf y nm)).length : Int) = 0 := hz
      have e : sweep1 y nm = { y with files := aset y.files nm (keepF (dropP y nm) (filesOf y nm)) } := by unfold sweep1; rw [if_neg (by omega)]
      repeat (first | refine t_region ?_ | refine to_nil ?_ | refine t_skip ?_ | refine t_inBlock ?_ | refine to_q rfl rfl rfl ?_ | refine to_add rfl rfl rfl (by omega) (by omega) ?_)
      refine t_re (A := own bm [ptr b] 23 :: XP b f s o { y with files := aset y.files nm (keepF (dropP y nm) (filesOf y nm)) }) (R := R)
        (by
          have := ih (j + 1, sweep1 y nm) F7 ⟨(le5.h.trans le6.h).trans le7.h⟩ (by dsimp only; omega) ⟨by dsimp only; omega, hfl.symm, hxj.sweep1 nm⟩
          rw [e] at this
          exact this) (by repeat (first | exact trivial | refine ⟨rfl, ?_⟩))
  · simp only [decide_eq_false_iff_not] at h
    have hjl : ns.take j = ns := List.take_of_length_le (by omega)
    repeat (refine t_exit rfl ?_)
    refine t_end (XP b f s o y) Tryz.func73 .nil ⟨ks, hks, by rw [hy, hjl, ← hks2]⟩
end Go.Proofs.YtbffngeameenoaaGreat
end

section
set_option maxRecDepth 100000
set_option linter.unusedVariables false
set_option linter.unusedSimpArgs false
namespace Go.Proofs.YtbffngeameenoaaGreat
open Go Go.Au
attribute [local irreducible] T TO

/-- y is x behind a sweep. -/
def Swept (x y : XM) : Prop := ∃ ks, ks.Perm (x.files.map (·.1)) ∧ y = (sortB ks).foldl sweep1 x
def markG (x : XM) (name : ByteArray) (i : Nat) : XM := match (filesOf x name)[i]? with
  | some q => { x with files := aset x.files name ((filesOf x name).set i { q with gone := true }) }
  | none => x
theorem XLen.markG {x : XM} (h : XLen x) (name : ByteArray) (i : Nat) : XLen (markG x name i) := by
  unfold Proofs.YtbffngeameenoaaGreat.markG
  cases hq : (filesOf x name)[i]? with
  | none => exact h
  | some q =>
    intro z hz
    rcases List.mem_append.1 hz with hz | hz
    · exact h z (List.mem_filter.1 hz).1
    · cases List.mem_singleton.1 hz
      dsimp only
      rw [List.length_set]; exact h.of name
theorem adel_len {κ β : Type} [DecidableEq κ] (m : List (κ × β)) (k : κ) : (adel m k).length ≤ m.length := List.length_filter_le _ _
theorem aset_len {κ β : Type} [DecidableEq κ] (m : List (κ × β)) (k : κ) (v : β) : (aset m k v).length ≤ m.length + 1 := by
  unfold aset; rw [List.length_append, List.length_singleton]; have := adel_len m k; omega
theorem drop_sp (b f s o : Nat) (x : XM) (name : ByteArray) (i : Nat) (q : Ver) (hq : (filesOf x name)[i]? = some q) (F : Frz) (hx : XLen x) (hl : x.files.length < 1048576) :
    Sp Tryz.prog 72 [ptr b, .string name, .int .i64 i] (XP b f s o x) F (fun v B F' => ∃ y, Swept (markG x name i) y ∧ B = XP b f s o y) := by
  have hil : i < (filesOf x name).length := by
    rcases Nat.lt_or_ge i (filesOf x name).length with h | h
    · exact h
    · rw [List.getElem?_eq_none h] at hq; cases hq
  have e : markG x name i = { x with files := aset x.files name ((filesOf x name).set i { q with gone := true }) } := by simp [markG, hq]
  refine sp_of Tryz.func72 rfl (by kernel_rfl) rfl fun R => ?_
  repeat (first | refine t_seq ?_ | refine t_region ?_ | refine to_q rfl rfl rfl ?_ | refine to_fa rfl rfl ?_ | refine to_ld rfl rfl rfl ?_)
  refine to_lkD (key := name) [] (slR_nil _ _ _ _ _) rfl rfl rfl fun u hu => ?_
  refine to_call rfl rfl (clone_sp u _ _ hu (hx.of name)) fun vc B F5 le5 h5 => ?_
  subst h5
  repeat (first | refine t_seq ?_ | refine t_region ?_ | refine to_nil ?_ | refine to_q rfl rfl rfl ?_)
  refine to_lit vc (ρ := verR) (List.ne_nil_of_length_pos (show 0 < (filesOf x name).length by omega)) fun b1 cap1 ev => ?_
  subst ev
  refine to_ia (j := i) rfl rfl rfl rfl hil ?_
  refine to_fa rfl rfl ?_
  refine to_stF (ρ := verR) (j := i) (f := 3) (m := 1) (q := q) (q' := { q with gone := true }) rfl rfl rfl rfl hq rfl (by intro c hc; cases List.mem_singleton.1 hc; rfl) (by omega) (fun u hu => ⟨_, rfl, by cases hu; rfl⟩) ?_
  refine to_freeze (Value.slice (some ⟨b1, 0, none⟩) ((aget x.files name).getD []).length cap1) fun F7 le7 hu7 => ?_
  repeat (first | refine t_seq ?_ | refine t_region ?_ | refine to_nil ?_ | refine to_q rfl rfl rfl ?_ | refine to_fa rfl rfl ?_ | refine to_ld rfl rfl rfl ?_)
  refine to_mu (key := name) (v' := (filesOf x name).set i { q with gone := true }) rfl rfl rfl rfl hu7 ?_
  repeat (first | refine t_region ?_ | refine to_nil ?_ | refine to_q rfl rfl rfl ?_)
  have hl2 : (markG x name i).files.length ≤ 1048576 := by rw [e]; have := aset_len x.files name ((filesOf x name).set i { q with gone := true }); dsimp only; omega
  have hs := sweepL_sp b f s o { x with files := aset x.files name ((filesOf x name).set i { q with gone := true }) } F7 (by rw [← e]; exact hx.markG name i) (by rw [← e]; exact hl2)
  refine to_call rfl rfl hs fun v B F8 le8 h8 => ?_
  obtain ⟨ks, hks, rfl⟩ := h8
  repeat (refine to_nil ?_)
  rw [e]
  exact t_end (XP b f s o ((sortB ks).foldl sweep1 { x with files := aset x.files name ((filesOf x name).set i { q with gone := true }) })) Tryz.func72 .nil ⟨_, ⟨ks, hks, rfl⟩, rfl⟩
end Go.Proofs.YtbffngeameenoaaGreat
end

section
set_option maxRecDepth 100000
set_option linter.unusedVariables false
set_option linter.unusedSimpArgs false
namespace Go.Proofs.YtbffngeameenoaaGreat
open Go Go.Au
attribute [local irreducible] T TO

theorem XOk.len {x : XM} (ok : XOk x) : XLen x := fun q hq => Nat.le_trans (ok.fv q hq) (by omega)
/-- What Delete comes to. -/
def RemoveX (x : XM) (p : Op1) (e n : Int) (y : XM) : Prop := match lastI (liveP p.gen) (filesOf x p.name) with
  | none => e = 9 ∧ n = 0 ∧ y = x
  | some i => e = 0 ∧ n = 0 ∧ Swept (markG x p.name i) y
theorem remove_sp (b f s o : Nat) (x : XM) (p : Op1) (bv cv ct ca : Value) (F : Frz) (ok : XOk x) :
    Sp Tryz.prog 32 [ptr b, opV p bv cv ct ca] (XP b f s o x) F (fun v B F' => ∃ e n y, RemoveX x p e n y ∧ v = ansV e n nilS nilS ∧ B = XP b f s o y) := by
  have hl32 := filesOf_len ok p.name
  refine sp_of Tryz.func32 rfl (by kernel_rfl) rfl fun R => ?_
  repeat (first | refine t_seq ?_ | refine t_region ?_ | refine to_nil ?_ | refine to_q rfl rfl rfl ?_ | refine to_fa rfl rfl ?_ | refine to_ld rfl rfl rfl ?_ | refine to_alloc rfl fun _ => ?_
                | refine to_boxA rfl rfl fun _ => ?_)
  refine to_call rfl rfl (at_sp b f s o x p.name p.gen _ (by omega)) fun v B F1 le1 h => ?_
  obtain ⟨rfl, rfl⟩ := h
  repeat (first | refine t_seq ?_ | refine t_region ?_ | refine to_nil ?_ | refine to_q rfl rfl rfl ?_)
  cases hl : lastI (liveP p.gen) (filesOf x p.name) with
  | none =>
    have e2 : atI x p.name p.gen = -1 := by simp [atI, hl]
    rw [e2]
    repeat (first | refine t_seq ?_ | refine t_region ?_ | refine t_cond (t := true) rfl (fun _ => ?_) (fun h => nomatch h))
    refine to_call rfl rfl (wrong_sp 9 _) fun v B F2 _ h => ?_
    obtain ⟨rfl, rfl⟩ := h
    repeat (first | refine to_nil ?_ | refine to_stA rfl rfl rfl rfl rfl rfl ?_)
    exact t_ret (XP b f s o x) Tryz.func32 (.cellA rfl rfl .nil) ⟨9, 0, x, by simp [RemoveX, hl], rfl, rfl⟩
  | some i =>
    obtain ⟨q, hq, _⟩ := lastI_spec hl
    have e2 : atI x p.name p.gen = i := by simp [atI, hl]
    rw [e2]
    refine t_condT rfl (fun h => ?_) (fun h => ?_)
    · simp only [decide_eq_true_eq] at h; omega
    repeat (first | refine t_seq ?_ | refine t_region ?_ | refine t_skip ?_ | refine to_q rfl rfl rfl ?_ | refine to_fa rfl rfl ?_ | refine to_ld rfl rfl rfl ?_)
    refine to_call rfl rfl (drop_sp b f s o x p.name i q hq _ ok.len (by have := ok.fl; omega)) fun v B F2 le2 h2 => ?_
    obtain ⟨y, hy, rfl⟩ := h2
    repeat (first | refine t_seq ?_ | refine t_region ?_ | refine to_nil ?_ | refine to_stA rfl rfl rfl rfl rfl rfl ?_ | refine to_bs rfl rfl rfl rfl ?_)
    exact t_ret (XP b f s o y) Tryz.func32 (.cellA rfl rfl .nil) ⟨0, 0, y, by simp [RemoveX, hl, hy], rfl, rfl⟩
/-- What Unsnap comes to. -/
def UnsnapX (x : XM) (p : Op1) (e n : Int) (y : XM) : Prop :=
  if nameOk p.shot = false then e = 2 ∧ n = 0 ∧ y = x else if aget x.shots p.shot = none then e = 9 ∧ n = 0 ∧ y = x
  else e = 0 ∧ n = 0 ∧ Swept { x with shots := adel x.shots p.shot } y
theorem unsnap_sp (b f s o : Nat) (x : XM) (p : Op1) (bv cv ct ca : Value) (F : Frz) (ok : XOk x) (h1 : p.shot.size ≤ 9223372036854775807) :
    Sp Tryz.prog 34 [ptr b, opV p bv cv ct ca] (XP b f s o x) F (fun v B F' => ∃ e n y, UnsnapX x p e n y ∧ v = ansV e n nilS nilS ∧ B = XP b f s o y) := by
  refine sp_of Tryz.func34 rfl (by kernel_rfl) rfl fun R => ?_
  repeat (first | refine t_seq ?_ | refine t_region ?_ | refine to_nil ?_ | refine to_alloc rfl fun _ => ?_ | refine to_boxA rfl rfl fun _ => ?_)
  refine t_drawn1 (by kernel_rfl) (by kernel_rfl) ?_
  repeat (first | refine to_q rfl rfl rfl ?_ | refine to_fa rfl rfl ?_ | refine to_ld rfl rfl rfl ?_)
  refine to_lkg (key := p.shot) rfl rfl rfl (fun v u hk hr => ?_) (fun hk => ?_)
  all_goals
    repeat (first | refine t_seq ?_ | refine t_block ?_ | refine t_region ?_ | refine to_nil ?_ | refine to_q rfl rfl rfl ?_ | refine to_fa rfl rfl ?_ | refine to_ld rfl rfl rfl ?_)
    refine to_call rfl rfl (name_sp p.shot h1 _) fun v B F1 le h => ?_
    obtain ⟨rfl, rfl⟩ := h
    repeat (first | refine to_nil ?_ | refine to_q rfl rfl rfl ?_)
    refine t_condT rfl (fun hn => ?_) (fun hn => ?_)
    · simp only [Bool.not_eq_true'] at hn
      repeat (first | refine t_seq ?_ | refine t_region ?_)
      refine to_call rfl rfl (wrong_sp 2 _) fun v B F2 _ h => ?_
      obtain ⟨rfl, rfl⟩ := h
      repeat (first | refine to_nil ?_ | refine to_stA rfl rfl rfl rfl rfl rfl ?_)
      exact t_ret (XP b f s o x) Tryz.func34 (.cellA rfl rfl .nil) ⟨2, 0, x, by simp [UnsnapX, hn], rfl, rfl⟩
    simp only [Bool.not_eq_false'] at hn
    repeat (first | refine t_seq ?_ | refine t_region ?_ | refine to_nil ?_ | refine t_skip ?_ | refine t_inBlock ?_ | refine to_q rfl rfl rfl ?_ | refine t_cond (t := true) rfl (fun _ => ?_) (fun h => nomatch h)
                  | refine t_cond (t := false) rfl (fun h => nomatch h) (fun _ => ?_))
  · refine t_drawn1 (by kernel_rfl) (by kernel_rfl) ?_
    repeat (first | refine to_q rfl rfl rfl ?_ | refine to_fa rfl rfl ?_ | refine to_ld rfl rfl rfl ?_)
    refine to_del rfl rfl rfl (key := p.shot) rfl ?_
    repeat (first | refine t_seq ?_ | refine t_region ?_ | refine to_nil ?_ | refine to_q rfl rfl rfl ?_)
    refine to_call rfl rfl (sweepL_sp b f s o { x with shots := adel x.shots p.shot } _ ok.len (by have := ok.fl; dsimp only; omega)) fun v B F2 le2 h2 => ?_
    obtain ⟨ks, hks, rfl⟩ := h2
    repeat (first | refine t_seq ?_ | refine t_region ?_ | refine to_nil ?_ | refine to_stA rfl rfl rfl rfl rfl rfl ?_ | refine to_bs rfl rfl rfl rfl ?_)
    exact t_ret (XP b f s o ((sortB ks).foldl sweep1 { x with shots := adel x.shots p.shot })) Tryz.func34 (.cellA rfl rfl .nil) ⟨0, 0, _, by simp [UnsnapX, hn, hk]; exact ⟨ks, hks, rfl⟩, rfl, rfl⟩
  · refine to_call rfl rfl (wrong_sp 9 _) fun v B F2 _ h => ?_
    obtain ⟨rfl, rfl⟩ := h
    repeat (first | refine to_nil ?_ | refine to_stA rfl rfl rfl rfl rfl rfl ?_)
    exact t_ret (XP b f s o x) Tryz.func34 (.cellA rfl rfl .nil) ⟨9, 0, x, by simp [UnsnapX, hn, hk], rfl, rfl⟩
end Go.Proofs.YtbffngeameenoaaGreat
end

section
set_option maxRecDepth 100000
set_option linter.unusedVariables false
set_option linter.unusedSimpArgs false
namespace Go.Proofs.YtbffngeameenoaaGreat
open Go Go.Au
attribute [local irreducible] T TO

def name1 (x : XM) (nm : ByteArray) : List (ByteArray × Int) := match lastI (liveP 0) (filesOf x nm) with
  | some i => match (filesOf x nm)[i]? with
    | some q => [(nm, q.gen)]
    | none => []
  | none => []
def namesL (x : XM) (ns : List ByteArray) : List (ByteArray × Int) := ns.flatMap (name1 x)
theorem name1_le (x : XM) (nm : ByteArray) : (name1 x nm).length ≤ 1 := by
  unfold name1
  cases lastI (liveP 0) (filesOf x nm) with
  | none => simp
  | some i =>
    dsimp only
    cases (filesOf x nm)[i]? <;> simp
theorem namesL_le (x : XM) : ∀ ns : List ByteArray, (namesL x ns).length ≤ ns.length
  | [] => by simp [namesL]
  | a :: ns => by
    have h1 := name1_le x a
    have h2 := namesL_le x ns
    simp only [namesL, List.flatMap_cons, List.length_append, List.length_cons] at h2 ⊢
    omega
theorem namesL_snoc (x : XM) (ns : List ByteArray) (a : ByteArray) : namesL x (ns ++ [a]) = namesL x ns ++ name1 x a := by simp [namesL]
/-- v holds the names of x. -/
def NamesQ (x : XM) (ks : List ByteArray) : Prop := ks.Perm (x.files.map (·.1))
theorem names_sp (b f s o : Nat) (x : XM) (F : Frz) (ok : XOk x) :
    Sp Tryz.prog 21 [ptr b] (XP b f s o x) F (fun v B F' => ∃ ks, ks.Perm (x.files.map (·.1)) ∧ (slR heldR 2).r F' (namesL x (sortB ks)) v ∧ B = XP b f s o x) := by
  refine sp_of Tryz.func21 rfl (by kernel_rfl) rfl fun R => ?_
  repeat (first | refine t_seq ?_ | refine t_region ?_ | refine to_nil ?_ | refine t_skip ?_ | refine to_q rfl rfl rfl ?_ | refine to_fa rfl rfl ?_ | refine to_ld rfl rfl rfl ?_ | refine to_nilP rfl rfl rfl ?_
                | refine t_cond (t := false) rfl (fun h => nomatch h) (fun _ => ?_))
  refine to_call rfl rfl (mapsKeysF_sp f _) fun v B F1 le1 h => ?_
  obtain ⟨pb, rfl, rfl⟩ := h
  refine to_call rfl rfl (sortedF_sp pb f x.files _ (by have := ok.fl; omega)) fun v B F2 le2 h => ?_
  obtain ⟨ks, hks, rfl⟩ := h
  refine to_freeze v fun F3 le3 hv => ?_
  have hkl : (sortB ks).length ≤ 64 := by
    have h1 := (sortB_perm ks).length_eq
    have h2 := hks.length_eq
    have := ok.fl
    rw [List.length_map] at h2
    omega
  generalize hks2 : sortB ks = ns at hv hkl
  refine to_lenR (ρ := strR) (n := 1) hv rfl rfl rfl ?_
  refine to_emp heldR 2 105 none ?_
  repeat (first | refine t_block ?_ | refine to_nil ?_ | refine to_q rfl rfl rfl ?_)
  refine t_loopJ (R := R) (fun s : Nat × Value × List (ByteArray × Int) => ns.length - s.1) (fun z => OSl heldR 2 105 z.2.1 z.2.2 :: XP b f s o x)
    (fun z => [(0, ptr b), (3, z.2.1), (14, v), (15, .int .i64 ns.length), (16, .int .i64 z.1)]) (fun z _ => z.1 ≤ ns.length ∧ z.2.2 = namesL x (ns.take z.1)) (0, nilS, []) (by repeat (first | exact trivial | refine ⟨rfl, ?_⟩)) ⟨Nat.zero_le _, rfl⟩ ?_
  rintro ⟨j, w, acc⟩ F4 le4 hg ih
  dsimp only at hg ih ⊢
  obtain ⟨hj, hacc⟩ := hg
  repeat (first | refine t_seq ?_ | refine t_region ?_ | refine to_nil ?_ | refine to_q rfl rfl rfl ?_)
  refine t_condT rfl (fun h => ?_) (fun h => ?_)
  · simp only [decide_eq_true_eq] at h
    have hlt : j < ns.length := by omega
    have hc := List.getElem?_eq_getElem hlt
    have htk : ns.take (j + 1) = ns.take j ++ [ns[j]] := by rw [List.take_add_one, hc]; rfl
    generalize ns[j] = nm at hc htk
    have hlen := namesL_le x (ns.take j)
    rw [List.length_take, ← hacc] at hlen
    repeat (first | refine t_seq ?_ | refine t_block ?_ | refine t_region ?_ | refine t_skip ?_)
    obtain ⟨b1, o1, cap1, u1, e1, hl1, hr, hro⟩ := slR_elem (P := Tryz.prog) (t := 9) (by_ := 16) hv hc
    subst e1
    cases hr
    refine to_ia rfl rfl rfl rfl hl1 ?_
    refine to_ldV (F1 := F3) (ρ := strR) (q := nm) rfl hro rfl rfl ?_
    repeat (first | refine t_seq ?_ | refine t_region ?_ | refine to_nil ?_ | refine to_q rfl rfl rfl ?_)
    have hl32 := filesOf_len ok nm
    refine to_call rfl rfl (at_sp b f s o x nm 0 _ (by omega)) fun v B F5 le5 h5 => ?_
    obtain ⟨rfl, rfl⟩ := h5
    repeat (first | refine t_seq ?_ | refine t_region ?_ | refine to_nil ?_ | refine to_q rfl rfl rfl ?_)
    cases hl : lastI (liveP 0) (filesOf x nm) with
    | none =>
      have e2 : atI x nm 0 = -1 := by simp [atI, hl]
      have e3 : name1 x nm = [] := by simp [name1, hl]
      rw [e2]
      repeat (first | refine t_region ?_ | refine to_nil ?_ | refine t_skip ?_ | refine t_inBlock ?_ | refine to_q rfl rfl rfl ?_ | refine to_add rfl rfl rfl (by omega) (by omega) ?_
                    | refine t_cond (t := false) rfl (fun h => nomatch h) (fun _ => ?_))
      refine t_re (A := OSl heldR 2 105 w acc :: XP b f s o x) (R := R)
        (ih (j + 1, w, acc) F5 le5 (by dsimp only; omega) ⟨by dsimp only; omega, by dsimp only; rw [htk, namesL_snoc, e3, List.append_nil, hacc]⟩) (by repeat (first | exact trivial | refine ⟨rfl, ?_⟩))
    | some i =>
      obtain ⟨q, hq, _⟩ := lastI_spec hl
      have e2 : atI x nm 0 = i := by simp [atI, hl]
      have e3 : name1 x nm = [(nm, q.gen)] := by simp [name1, hl, hq]
      rw [e2]
      repeat (first | refine t_region ?_ | refine to_q rfl rfl rfl ?_ | refine to_fa rfl rfl ?_ | refine to_ld rfl rfl rfl ?_ | refine t_cond (t := true) rfl (fun _ => ?_) (fun h => nomatch h))
      refine to_lkD (key := nm) [] (slR_nil _ _ _ _ _) rfl rfl rfl fun u hu => ?_
      obtain ⟨b2, o2, cap2, u2, e4, hlt2, hr2, hro2⟩ := slR_elem (P := Tryz.prog) (t := 85) (by_ := 40) hu hq
      subst e4
      repeat (refine to_q rfl rfl rfl ?_)
      refine to_ia rfl rfl rfl rfl hlt2 ?_
      repeat (refine to_fa rfl rfl ?_)
      refine to_ldR (F0 := F5) rfl rfl (hro2.one (j := 0) (v := .int .i64 q.gen) (by cases hr2; rfl)) ?_
      repeat (refine to_bs rfl rfl rfl rfl ?_)
      refine to_bsl (len := 1) rfl rfl rfl rfl fun b3 => ?_
      refine to_app1 (ρ := heldR) (q := (nm, q.gen)) (u := .agg #[.string nm, .int .i64 q.gen]) rfl rfl rfl rfl rfl rfl (by omega) fun w2 => ?_
      repeat (first | refine t_region ?_ | refine to_nil ?_ | refine t_inBlock ?_ | refine to_q rfl rfl rfl ?_ | refine to_add rfl rfl rfl (by omega) (by omega) ?_)
      refine t_re (A := OSl heldR 2 105 w2 (acc ++ [(nm, q.gen)]) :: XP b f s o x) (R := R)
        (ih (j + 1, w2, acc ++ [(nm, q.gen)]) F5 le5 (by dsimp only; omega) ⟨by dsimp only; omega, by dsimp only; rw [htk, namesL_snoc, e3, hacc]⟩) (by repeat (first | exact trivial | refine ⟨rfl, ?_⟩))
  · simp only [decide_eq_false_iff_not] at h
    have hjl : ns.take j = ns := List.take_of_length_le (by omega)
    repeat (first | refine t_seq ?_ | refine t_region ?_ | refine to_nil ?_ | refine to_q rfl rfl rfl ?_ | refine t_exit rfl ?_)
    refine t_freeze w fun F9 le9 hw => ?_
    exact t_ret (XP b f s o x) Tryz.func21 (.tmp rfl .nil) ⟨ks, hks, by rw [hks2, ← hjl, ← hacc]; exact hw, rfl⟩
end Go.Proofs.YtbffngeameenoaaGreat
end

section
set_option maxRecDepth 100000
set_option linter.unusedVariables false
set_option linter.unusedSimpArgs false
namespace Go.Proofs.YtbffngeameenoaaGreat
open Go Go.Au
attribute [local irreducible] T TO

def shotOf (l : List (ByteArray × Int)) : List (ByteArray × Int) := l.foldl (fun m h => aset m h.1 h.2) []
/-- What Snap comes to. -/
def SnapX (x : XM) (p : Op1) (sp : Bool) (e n : Int) (y : XM) : Prop :=
  if nameOk p.shot = false then e = 2 ∧ n = 0 ∧ y = x else if aget x.shots p.shot ≠ none then e = 10 ∧ n = 0 ∧ y = x
  else if x.shots.length = 16 then e = 6 ∧ n = 0 ∧ y = x else if sp then e = 8 ∧ n = 0 ∧ y = x
  else e = 0 ∧ n = 0 ∧ ∃ ks, ks.Perm (x.files.map (·.1)) ∧ y = { x with shots := aset x.shots p.shot (shotOf (namesL x (sortB ks))) }
theorem snap_sp (b f s o : Nat) (x : XM) (p : Op1) (sp : Bool) (bv cv ct ca : Value) (F : Frz) (ok : XOk x) (h1 : p.shot.size ≤ 9223372036854775807) :
    Sp Tryz.prog 33 [ptr b, opV p bv cv ct ca, .bool sp] (XP b f s o x) F (fun v B F' => ∃ e n y, SnapX x p sp e n y ∧ v = ansV e n nilS nilS ∧ B = XP b f s o y) := by
  refine sp_of Tryz.func33 rfl (by kernel_rfl) rfl fun R => ?_
  repeat (first | refine t_seq ?_ | refine t_region ?_ | refine to_nil ?_ | refine to_alloc rfl fun _ => ?_ | refine to_boxA rfl rfl fun _ => ?_)
  refine t_drawn1 (by kernel_rfl) (by kernel_rfl) ?_
  repeat (first | refine to_q rfl rfl rfl ?_ | refine to_fa rfl rfl ?_ | refine to_ld rfl rfl rfl ?_)
  refine to_lkg (key := p.shot) rfl rfl rfl (fun v u hk hr => ?_) (fun hk => ?_)
  all_goals
    repeat (first | refine t_seq ?_ | refine t_block ?_ | refine t_region ?_ | refine to_nil ?_ | refine to_q rfl rfl rfl ?_ | refine to_fa rfl rfl ?_ | refine to_ld rfl rfl rfl ?_)
    refine to_call rfl rfl (name_sp p.shot h1 _) fun v B F1 le h => ?_
    obtain ⟨rfl, rfl⟩ := h
    repeat (first | refine to_nil ?_ | refine to_q rfl rfl rfl ?_)
    refine t_condT rfl (fun hn => ?_) (fun hn => ?_)
    · simp only [Bool.not_eq_true'] at hn
      repeat (first | refine t_seq ?_ | refine t_region ?_)
      refine to_call rfl rfl (wrong_sp 2 _) fun v B F2 _ h => ?_
      obtain ⟨rfl, rfl⟩ := h
      repeat (first | refine to_nil ?_ | refine to_stA rfl rfl rfl rfl rfl rfl ?_)
      exact t_ret (XP b f s o x) Tryz.func33 (.cellA rfl rfl .nil) ⟨2, 0, x, by simp [SnapX, hn], rfl, rfl⟩
    simp only [Bool.not_eq_false'] at hn
    repeat (first | refine t_seq ?_ | refine t_region ?_ | refine to_nil ?_ | refine to_q rfl rfl rfl ?_ | refine to_fa rfl rfl ?_ | refine to_ld rfl rfl rfl ?_ | refine to_lenM rfl rfl rfl ?_
                  | refine t_cond (t := true) rfl (fun _ => ?_) (fun h => nomatch h) | refine t_cond (t := false) rfl (fun h => nomatch h) (fun _ => ?_))
  · refine to_call rfl rfl (wrong_sp 10 _) fun v B F2 _ h => ?_
    obtain ⟨rfl, rfl⟩ := h
    repeat (first | refine to_nil ?_ | refine to_stA rfl rfl rfl rfl rfl rfl ?_)
    exact t_ret (XP b f s o x) Tryz.func33 (.cellA rfl rfl .nil) ⟨10, 0, x, by simp [SnapX, hn, hk], rfl, rfl⟩
  · refine t_condT rfl (fun hl => ?_) (fun hl => ?_)
    · simp only [beq_iff_eq] at hl
      repeat (first | refine t_seq ?_ | refine t_region ?_)
      refine to_call rfl rfl (wrong_sp 6 _) fun v B F2 _ h => ?_
      obtain ⟨rfl, rfl⟩ := h
      repeat (first | refine to_nil ?_ | refine to_stA rfl rfl rfl rfl rfl rfl ?_)
      exact t_ret (XP b f s o x) Tryz.func33 (.cellA rfl rfl .nil) ⟨6, 0, x, by simp [SnapX, hn, hk]; omega, rfl, rfl⟩
    simp only [beq_eq_false_iff_ne] at hl
    repeat (first | refine t_seq ?_ | refine t_region ?_ | refine to_nil ?_ | refine to_q rfl rfl rfl ?_)
    refine t_condT rfl (fun h5 => ?_) (fun h5 => ?_)
    · subst h5
      repeat (first | refine t_seq ?_ | refine t_region ?_)
      refine to_call rfl rfl (wrong_sp 8 _) fun v B F2 _ h => ?_
      obtain ⟨rfl, rfl⟩ := h
      repeat (first | refine to_nil ?_ | refine to_stA rfl rfl rfl rfl rfl rfl ?_)
      exact t_ret (XP b f s o x) Tryz.func33 (.cellA rfl rfl .nil) ⟨8, 0, x, by simp [SnapX, hn, hk]; omega, rfl, rfl⟩
    subst h5
    repeat (first | refine t_seq ?_ | refine t_region ?_ | refine t_skip ?_ | refine t_inBlock ?_)
    refine to_mkM Value.string intR rfl fun sb => ?_
    repeat (first | refine t_seq ?_ | refine t_region ?_ | refine to_nil ?_ | refine to_q rfl rfl rfl ?_)
    refine to_call rfl rfl (names_sp b f s o x _ ok) fun v B F2 le2 h2 => ?_
    obtain ⟨ks, hks, hv, rfl⟩ := h2
    generalize hnl : namesL x (sortB ks) = nl at hv
    refine to_lenR (ρ := heldR) (n := 2) hv rfl rfl rfl ?_
    repeat (first | refine t_block ?_ | refine to_nil ?_ | refine to_q rfl rfl rfl ?_)
    rename_i bop ba _
    have hlen : nl.length ≤ 64 := by
      have h1 := namesL_le x (sortB ks)
      have h2 := (sortB_perm ks).length_eq
      have h3 := hks.length_eq
      have := ok.fl
      rw [List.length_map] at h3
      rw [← hnl]; omega
    refine t_loopJ (R := R) (fun z : Nat × List (ByteArray × Int) => nl.length - z.1) (fun z => mapP Value.string intR sb z.2 :: own ba [.int .i64 0, .int .i64 0, nilS, nilS] 31 :: own bop (opC p bv cv ct ca) 40 :: XP b f s o x)
      (fun z => [(0, ptr b), (4, ptr bop), (6, ptr ba), (9, .map (some sb)), (44, v), (45, .int .i64 nl.length), (46, .int .i64 z.1)]) (fun z _ => z.1 ≤ nl.length ∧ z.2 = shotOf (nl.take z.1)) (0, []) (by repeat (first | exact trivial | refine ⟨rfl, ?_⟩)) ⟨Nat.zero_le _, rfl⟩ ?_
    rintro ⟨j, acc⟩ F4 le4 hg ih
    dsimp only at hg ih ⊢
    obtain ⟨hj, hacc⟩ := hg
    repeat (first | refine t_seq ?_ | refine t_region ?_ | refine to_nil ?_ | refine to_q rfl rfl rfl ?_)
    refine t_condT rfl (fun h => ?_) (fun h => ?_)
    · simp only [decide_eq_true_eq] at h
      have hlt : j < nl.length := by omega
      have hc := List.getElem?_eq_getElem hlt
      have htk : nl.take (j + 1) = nl.take j ++ [nl[j]] := by rw [List.take_add_one, hc]; rfl
      generalize nl[j] = q at hc htk
      have hsn : shotOf (nl.take (j + 1)) = aset acc q.1 q.2 := by rw [htk, shotOf, List.foldl_append, hacc]; rfl
      repeat (first | refine t_seq ?_ | refine t_block ?_ | refine t_region ?_ | refine t_skip ?_)
      obtain ⟨b1, o1, cap1, u1, e1, hl1, hr, hro⟩ := slR_elem (P := Tryz.prog) (t := 105) (by_ := 24) hv hc
      subst e1
      cases hr
      refine to_ia rfl rfl rfl rfl hl1 ?_
      refine to_ldV (F1 := F2) (ρ := heldR) (q := q) rfl hro rfl rfl ?_
      repeat (first | refine t_region ?_ | refine to_nil ?_ | refine to_q rfl rfl rfl ?_ | refine to_fa rfl rfl ?_ | refine to_ld rfl rfl rfl ?_ | refine to_stA rfl rfl rfl rfl rfl rfl ?_ | refine to_alloc rfl fun _ => ?_)
      refine to_mu (key := q.1) (v' := q.2) rfl rfl rfl rfl rfl ?_
      repeat (first | refine t_region ?_ | refine to_nil ?_ | refine t_inBlock ?_ | refine to_q rfl rfl rfl ?_ | refine to_add rfl rfl rfl (by omega) (by omega) ?_)
      refine t_re (A := mapP Value.string intR sb (aset acc q.1 q.2) :: own ba [.int .i64 0, .int .i64 0, nilS, nilS] 31 :: own bop (opC p bv cv ct ca) 40 :: XP b f s o x) (R := R)
        (ih (j + 1, aset acc q.1 q.2) F4 ⟨.refl _⟩ (by dsimp only; omega) ⟨by dsimp only; omega, by dsimp only; rw [hsn]⟩) (by repeat (first | exact trivial | refine ⟨rfl, ?_⟩))
    · simp only [decide_eq_false_iff_not] at h
      have hjl : nl.take j = nl := List.take_of_length_le (by omega)
      repeat (first | refine t_seq ?_ | refine t_exit rfl ?_)
      refine t_freezeM sb fun F5 le5 hm => ?_
      refine t_drawn1 (by kernel_rfl) (by kernel_rfl) ?_
      repeat (first | refine to_q rfl rfl rfl ?_ | refine to_fa rfl rfl ?_ | refine to_ld rfl rfl rfl ?_)
      refine to_mu (key := p.shot) (v' := acc) rfl rfl rfl rfl (show shotR.r F5 acc (.map (some sb)) from ⟨sb, rfl, hm⟩) ?_
      repeat (first | refine t_seq ?_ | refine t_region ?_ | refine to_nil ?_ | refine to_stA rfl rfl rfl rfl rfl rfl ?_ | refine to_bs rfl rfl rfl rfl ?_)
      exact t_ret (XP b f s o { x with shots := aset x.shots p.shot acc }) Tryz.func33 (.cellA rfl rfl .nil) ⟨0, 0, _, by simp [SnapX, hn, hk]; exact ⟨by omega, ks, hks, by rw [hnl, ← hjl, ← hacc]⟩, rfl, rfl⟩
end Go.Proofs.YtbffngeameenoaaGreat
end

section
set_option maxRecDepth 100000
set_option linter.unusedVariables false
set_option linter.unusedSimpArgs false
namespace Go.Proofs.YtbffngeameenoaaGreat
open Go Go.Au
attribute [local irreducible] T TO

theorem shownC_sp (bg : Nat) (gen : Int) (q : Ver) (F : Frz) :
    Sp Tryz.prog 92 [verV q, ptr bg] [own bg [.int .i64 gen] 3] F (fun v B F' => v = .bool (q.gen == gen) ∧ B = [own bg [.int .i64 gen] 3]) := by
  refine sp_of Tryz.func92 rfl (by kernel_rfl) rfl fun R => ?_
  refine t_seq ?_
  refine t_region ?_
  refine to_boxA (cs := [.int .i64 q.gen, .int .i64 q.time, .string q.text, .bool q.gone]) rfl rfl fun _ => ?_
  repeat (first | refine t_seq ?_ | refine t_region ?_ | refine to_nil ?_ | refine to_q rfl rfl rfl ?_ | refine to_fa rfl rfl ?_ | refine to_ld rfl rfl rfl ?_)
  exact t_ret [own bg [.int .i64 gen] 3] Tryz.func92 (.tmp rfl .nil) ⟨rfl, rfl⟩
def shotGen (x : XM) (shot name : ByteArray) : Option Int := (aget x.shots shot).bind fun m => aget m name
def shownX (x : XM) (p : Op1) : Ans := match shotGen x p.shot p.name with
  | some g => match (filesOf x p.name).find? fun q => q.gen == g with
    | some q => (0, 0, strB q.text, [])
    | none => (9, 0, [], [])
  | none => (9, 0, [], [])
theorem idx_find {xs : List Ver} {P : Ver → Bool} {q : Ver} (h : xs.find? P = some q) : ∃ i : Nat, idxI P xs = i ∧ xs[i]? = some q := by
  induction xs with
  | nil => cases h
  | cons a xs ih =>
    rw [List.find?_cons] at h
    cases ha : P a with
    | true =>
      rw [ha] at h; cases h
      exact ⟨0, by simp [idxI, List.findIdx?_cons, ha], rfl⟩
    | false =>
      rw [ha] at h
      obtain ⟨i, h1, h2⟩ := ih h
      refine ⟨i + 1, ?_, by simpa using h2⟩
      unfold idxI at h1 ⊢
      rw [List.findIdx?_cons, ha]
      cases hf : xs.findIdx? P with
      | none => rw [hf] at h1; simp at h1
      | some j => rw [hf] at h1; simp at h1 ⊢; omega
theorem shown_sp (b f s o : Nat) (x : XM) (p : Op1) (bv cv ct ca : Value) (F : Frz) (ok : XOk x)
    (sh : ∀ g, shotGen x p.shot p.name = some g → ∃ q, (filesOf x p.name).find? (fun q => q.gen == g) = some q) :
    Sp Tryz.prog 70 [ptr b, opV p bv cv ct ca] (XP b f s o x) F (ansQ (XP b f s o x) (shownX x p)) := by
  have none_ : shotGen x p.shot p.name = none → shownX x p = (9, 0, [], []) := fun h => by simp [shownX, h]
  refine sp_of Tryz.func70 rfl (by kernel_rfl) rfl fun R => ?_
  repeat (first | refine t_seq ?_ | refine t_region ?_ | refine to_nil ?_ | refine to_alloc rfl fun _ => ?_ | refine to_boxA rfl rfl fun _ => ?_)
  refine t_drawn1 (by kernel_rfl) (by kernel_rfl) ?_
  repeat (first | refine to_q rfl rfl rfl ?_ | refine to_fa rfl rfl ?_ | refine to_ld rfl rfl rfl ?_)
  refine to_lkg (key := p.shot) rfl rfl rfl (fun m u hk hr => ?_) (fun hk => ?_)
  · obtain ⟨bm, rfl, hro⟩ := hr
    repeat (first | refine to_fa rfl rfl ?_ | refine to_ld rfl rfl rfl ?_)
    refine to_lkRg (e := Value.string) (key := p.name) hro rfl rfl rfl (fun g u hg hr => ?_) (fun hg => ?_)
    · cases hr
      have hsg : shotGen x p.shot p.name = some g := by simp [shotGen, hk, hg]
      obtain ⟨q, hq⟩ := sh g hsg
      have e : shownX x p = (0, 0, strB q.text, []) := by simp [shownX, hsg, hq]
      repeat (first | refine t_seq ?_ | refine t_region ?_ | refine to_nil ?_ | refine t_skip ?_ | refine to_q rfl rfl rfl ?_ | refine to_st rfl rfl rfl rfl rfl ?_ | refine to_alloc rfl fun _ => ?_
                    | refine t_cond (t := false) rfl (fun h => nomatch h) (fun _ => ?_))
      rename_i bg _
      refine t_drawn1 (by kernel_rfl) (by kernel_rfl) ?_
      repeat (first | refine to_q rfl rfl rfl ?_ | refine to_fa rfl rfl ?_ | refine to_ld rfl rfl rfl ?_)
      refine to_lkD (key := p.name) [] (slR_nil _ _ _ _ _) rfl rfl rfl fun u hu => ?_
      repeat (refine to_q rfl rfl rfl ?_)
      have hl32 := filesOf_len ok p.name
      refine to_call rfl rfl (idxR_sp _ u (filesOf x p.name) (fun q => q.gen == g) (own bg [.int .i64 g] 3) _ hu (by omega) fun q F' le _ => cv_of_sp (cap := [ptr bg]) (shownC_sp bg g q F')) fun v B F1 le1 h1 => ?_
      obtain ⟨rfl, rfl⟩ := h1
      obtain ⟨i, hi, hqi⟩ := idx_find hq
      rw [hi]
      repeat (first | refine t_seq ?_ | refine to_nil ?_ | refine to_q rfl rfl rfl ?_)
      refine t_drawn1 (by kernel_rfl) (by kernel_rfl) ?_
      repeat (first | refine to_q rfl rfl rfl ?_ | refine to_fa rfl rfl ?_ | refine to_ld rfl rfl rfl ?_)
      refine to_lkD (key := p.name) [] (slR_nil _ _ _ _ _) rfl rfl rfl fun u2 hu2 => ?_
      obtain ⟨b1, o1, cap1, u1, e1, hlt, hr, hro⟩ := slR_elem (P := Tryz.prog) (t := 85) (by_ := 40) hu2 hqi
      subst e1
      repeat (refine to_q rfl rfl rfl ?_)
      refine to_ia rfl rfl rfl rfl hlt ?_
      repeat (refine to_fa rfl rfl ?_)
      refine to_ldR (F0 := F1) rfl rfl (hro.one (j := 2) (v := .string q.text) (by cases hr; rfl)) ?_
      skip
      refine to_cvSB rfl rfl fun bb cc => ?_
      repeat (first | refine to_nil ?_ | refine to_stA rfl rfl rfl rfl rfl rfl ?_ | refine to_bs rfl rfl rfl rfl ?_)
      exact t_ret (OSl u8R 1 5 (.slice (some ⟨bb, 0, none⟩) q.text.data.toList.length cc) q.text.data.toList :: XP b f s o x) Tryz.func70 (.cellA rfl rfl .nil) (by rw [e]; exact ⟨_, _, rfl, slR_nil _ _ _ _ _, rfl⟩)
    · have e := none_ (by simp [shotGen, hk, hg])
      repeat (first | refine t_seq ?_ | refine t_region ?_ | refine to_nil ?_ | refine to_q rfl rfl rfl ?_ | refine to_st rfl rfl rfl rfl rfl ?_ | refine to_alloc rfl fun _ => ?_
                    | refine t_cond (t := true) rfl (fun _ => ?_) (fun h => nomatch h))
      refine to_call rfl rfl (wrong_sp 9 _) fun v B F2 _ h => ?_
      obtain ⟨rfl, rfl⟩ := h
      repeat (first | refine to_nil ?_ | refine to_stA rfl rfl rfl rfl rfl rfl ?_)
      refine t_emp u8R 1 5 none ?_
      exact t_ret (OSl u8R 1 5 nilS [] :: XP b f s o x) Tryz.func70 (.cellA rfl rfl .nil) (by rw [e]; exact ansQ_plain _ _ _ _)
  · have e := none_ (by simp [shotGen, hk])
    repeat (first | refine to_fa rfl rfl ?_ | refine to_ld rfl rfl rfl ?_)
    refine to_lkN (e := Value.string) (key := p.name) rfl rfl rfl ?_
    repeat (first | refine t_seq ?_ | refine t_region ?_ | refine to_nil ?_ | refine to_q rfl rfl rfl ?_ | refine to_st rfl rfl rfl rfl rfl ?_ | refine to_alloc rfl fun _ => ?_
                  | refine t_cond (t := true) rfl (fun _ => ?_) (fun h => nomatch h))
    refine to_call rfl rfl (wrong_sp 9 _) fun v B F2 _ h => ?_
    obtain ⟨rfl, rfl⟩ := h
    repeat (first | refine to_nil ?_ | refine to_stA rfl rfl rfl rfl rfl rfl ?_)
    refine t_emp u8R 1 5 none ?_
    exact t_ret (OSl u8R 1 5 nilS [] :: XP b f s o x) Tryz.func70 (.cellA rfl rfl .nil) (by rw [e]; exact ansQ_plain _ _ _ _)
end Go.Proofs.YtbffngeameenoaaGreat
end

section
set_option maxRecDepth 100000
set_option linter.unusedVariables false
set_option linter.unusedSimpArgs false
namespace Go.Proofs.YtbffngeameenoaaGreat
open Go Go.Au
attribute [local irreducible] T TO

instance zr_b : Zer Tryz.prog 4 (.bool false) := zr_bool
structure Kp where
  last : Int
  young : Int
  step : Int
  count : Int
/-- what is asked of a rule -/
structure KpOk (k : Kp) : Prop where
  l0 : 0 ≤ k.last
  l1 : k.last ≤ 9007199254740991
  y0 : 0 ≤ k.young
  y1 : k.young ≤ 9007199254740991
  s0 : 1 ≤ k.step
  s1 : k.step ≤ 9007199254740991
  c0 : 0 ≤ k.count
  c1 : k.count ≤ 9007199254740991
abbrev kpV (k : Kp) : Value := .agg #[.int .i64 k.last, .int .i64 k.young, .int .i64 k.step, .int .i64 k.count]
def slotX (step t : Int) : Int := t.tdiv step
def later1 (step s0 : Int) (m : List (Int × Bool)) (v : Ver) : List (Int × Bool) := if s0 < slotX step v.time then aset m (slotX step v.time) true else m
def laterX (step s0 : Int) (l : List Ver) : List (Int × Bool) := l.foldl (later1 step s0) []
def staysX (now : Int) (l : List Ver) (i : Nat) (q : Ver) (k : Kp) : Bool :=
  decide ((l.length : Int) - i ≤ k.last) || (decide (q.time > now - k.young) ||
    (!((l.drop (i + 1)).any fun v => slotX k.step v.time == slotX k.step q.time) && decide (((laterX k.step (slotX k.step q.time) l).length : Int) < k.count)))
theorem slot_wrap {t step : Int} (h0 : 0 ≤ t) (h1 : t ≤ 9007199254740991) (hs : 1 ≤ step) : IntKind.i64.wrap (t.tdiv step) = slotX step t := by
  have h2 : 0 ≤ t.tdiv step := Int.tdiv_nonneg h0 (by omega)
  have h3 : t.tdiv step ≤ t := by
    rw [Int.tdiv_eq_ediv_of_nonneg h0]
    exact Int.ediv_le_self _ h0
  exact wrap_i64 (by omega) (by omega)
theorem laterX_snoc (step s0 : Int) (l : List Ver) (v : Ver) : laterX step s0 (l ++ [v]) = later1 step s0 (laterX step s0 l) v := by simp [laterX]
theorem later_len' (step s0 : Int) : ∀ (l : List Ver) (m : List (Int × Bool)), (l.foldl (later1 step s0) m).length ≤ m.length + l.length
  | [], m => by simp
  | v :: l, m => by
    have h1 := later_len' step s0 l (later1 step s0 m v)
    have h2 : (later1 step s0 m v).length ≤ m.length + 1 := by
      unfold later1
      have := aset_len m (slotX step v.time) true
      split <;> omega
    simp only [List.foldl_cons, List.length_cons]; omega
theorem later_len (step s0 : Int) (l : List Ver) : (laterX step s0 l).length ≤ l.length := by
  have := later_len' step s0 l []
  simpa [laterX] using this
theorem stays_sp (b f s o : Nat) (x : XM) (lv : Value) (l : List Ver) (i : Nat) (q : Ver) (k : Kp) (F : Frz) (hk : KpOk k) (h1 : 0 ≤ x.now) (h2 : x.now ≤ 9007199254740991) (hl : vsR.r F l lv) (hq : l[i]? = some q) (hn : l.length ≤ 1048576)
    (ht : ∀ q ∈ l, 0 ≤ q.time ∧ q.time ≤ 9007199254740991) :
    Sp Tryz.prog 77 [ptr b, lv, .int .i64 i, kpV k] (XP b f s o x) F (fun v B F' => v = .bool (staysX x.now l i q k) ∧ B = XP b f s o x) := by
  have hi : i < l.length := by
    rcases Nat.lt_or_ge i l.length with h | h
    · exact h
    · rw [List.getElem?_eq_none h] at hq; cases hq
  have hqt := ht q (List.mem_of_getElem? hq)
  obtain ⟨bl, ol, capl, ul, el, hll, hrl, hrol⟩ := slR_elem (P := Tryz.prog) (t := 85) (by_ := 40) hl hq
  cases hrl
  subst el
  obtain ⟨k0, k1, k2, k3, k4, k5, k6, k7⟩ := hk
  refine sp_of Tryz.func77 rfl (by kernel_rfl) rfl fun R => ?_
  refine t_seq ?_
  refine t_region ?_
  refine to_boxA (cs := [.int .i64 k.last, .int .i64 k.young, .int .i64 k.step, .int .i64 k.count]) rfl rfl fun bk => ?_
  repeat (first | refine t_seq ?_ | refine to_nil ?_ | refine to_q rfl rfl rfl ?_)
  refine t_drawn1 (by kernel_rfl) (by kernel_rfl) ?_
  repeat (first | refine to_q rfl rfl rfl ?_ | refine to_fa rfl rfl ?_ | refine to_ld rfl rfl rfl ?_ | refine to_sub_ rfl rfl rfl (by omega) (by omega) ?_ | refine to_lenS rfl rfl rfl ?_)
  refine to_gd rfl rfl (fun h => ?_) (fun h => ?_)
  · simp only [decide_eq_true_eq] at h
    repeat (first | refine t_seq ?_ | refine t_region ?_ | refine to_nil ?_ | refine to_no rfl ?_ | refine to_q rfl rfl rfl ?_ | refine t_cond (t := true) rfl (fun _ => ?_) (fun h => nomatch h))
    have e : staysX x.now l i q k = true := by simp [staysX, h]
    exact t_ret (XP b f s o x) Tryz.func77 (.tmp rfl .nil) (by rw [e]; exact ⟨rfl, rfl⟩)
  simp only [decide_eq_false_iff_not] at h
  repeat (refine to_q rfl rfl rfl ?_)
  refine to_ia rfl rfl rfl rfl hll ?_
  repeat (refine to_fa rfl rfl ?_)
  refine to_ldR (F0 := F) rfl rfl (hrol.one (j := 1) (v := .int .i64 q.time) rfl) ?_
  repeat (first | refine to_nil ?_ | refine to_q rfl rfl rfl ?_ | refine to_fa rfl rfl ?_ | refine to_ld rfl rfl rfl ?_ | refine to_sub_ rfl rfl rfl (by omega) (by omega) ?_)
  refine t_condT rfl (fun h' => ?_) (fun h' => ?_)
  · simp only [decide_eq_true_eq] at h'
    repeat (first | refine t_seq ?_ | refine t_region ?_ | refine to_nil ?_ | refine to_q rfl rfl rfl ?_)
    have e : staysX x.now l i q k = true := by simp [staysX, h']
    exact t_ret (XP b f s o x) Tryz.func77 (.tmp rfl .nil) (by rw [e]; exact ⟨rfl, rfl⟩)
  simp only [decide_eq_false_iff_not] at h'
  refine t_skip ?_
  refine t_seq ?_
  refine t_region ?_
  refine to_mkM (Value.int .i64) boolR rfl fun mb => ?_
  repeat (first | refine t_seq ?_ | refine t_block ?_ | refine t_region ?_ | refine to_nil ?_ | refine to_q rfl rfl rfl ?_ | refine to_lenS rfl rfl rfl ?_)
  refine t_loopJ (R := R) (fun z : Nat × List (Int × Bool) => l.length - z.1)
    (fun z => mapP (Value.int .i64) boolR mb z.2 :: own bk [.int .i64 k.last, .int .i64 k.young, .int .i64 k.step, .int .i64 k.count] 35 :: XP b f s o x)
    (fun z => [(1, .slice (some ⟨bl, ol, none⟩) l.length capl), (2, .int .i64 i), (7, ptr bk), (9, .map (some mb)), (36, .slice (some ⟨bl, ol, none⟩) l.length capl), (37, .int .i64 l.length), (38, .int .i64 z.1)])
    (fun z _ => z.1 ≤ l.length ∧ z.2 = laterX k.step (slotX k.step q.time) (l.take z.1) ∧ ∀ j q', i < j → j < z.1 → l[j]? = some q' → slotX k.step q'.time ≠ slotX k.step q.time) (0, []) (by repeat (first | exact trivial | refine ⟨rfl, ?_⟩)) ⟨Nat.zero_le _, rfl, by intros; omega⟩ ?_
  rintro ⟨j, m⟩ F1 le1 hg ih
  dsimp only at hg ih ⊢
  obtain ⟨hj, hm, hno⟩ := hg
  have hml : m.length ≤ l.length := by
    have := later_len k.step (slotX k.step q.time) (l.take j)
    rw [← hm, List.length_take] at this; omega
  repeat (first | refine t_seq ?_ | refine t_region ?_ | refine to_nil ?_ | refine to_q rfl rfl rfl ?_)
  refine t_condT rfl (fun hlt => ?_) (fun hlt => ?_)
  · simp only [decide_eq_true_eq] at hlt
    have hlt : j < l.length := by omega
    have hc := List.getElem?_eq_getElem hlt
    have htk : l.take (j + 1) = l.take j ++ [l[j]] := by rw [List.take_add_one, hc]; rfl
    generalize l[j] = r at hc htk
    have hrt := ht r (List.mem_of_getElem? hc)
    have hsn : laterX k.step (slotX k.step q.time) (l.take (j + 1)) = later1 k.step (slotX k.step q.time) m r := by rw [htk, laterX_snoc, ← hm]
    obtain ⟨b1, o1, cap1, u1, e1, hl1, hr1, hro1⟩ := slR_elem (P := Tryz.prog) (t := 85) (by_ := 40) hl hc
    cases e1
    cases hr1
    repeat (first | refine t_seq ?_ | refine t_block ?_ | refine t_region ?_ | refine t_skip ?_ | refine to_q rfl rfl rfl ?_)
    refine to_ia rfl rfl rfl rfl hl1 ?_
    refine to_ldV (F1 := F) (ρ := verR) (q := r) rfl hro1 rfl rfl ?_
    repeat (first | refine t_seq ?_ | refine t_region ?_ | refine to_nil ?_ | refine to_q rfl rfl rfl ?_ | refine to_fa rfl rfl ?_ | refine to_ld rfl rfl rfl ?_ | refine to_stA rfl rfl rfl rfl rfl rfl ?_
                  | refine to_alloc rfl fun _ => ?_)
    refine to_quo rfl rfl rfl (by omega) ?_
    rw [slot_wrap hrt.1 hrt.2 k4]
    repeat (first | refine t_seq ?_ | refine to_nil ?_ | refine to_q rfl rfl rfl ?_)
    refine t_drawn1 (by kernel_rfl) (by kernel_rfl) ?_
    repeat (refine to_q rfl rfl rfl ?_)
    refine to_ia rfl rfl rfl rfl hll ?_
    repeat (refine to_fa rfl rfl ?_)
    refine to_ldR (F0 := F) rfl rfl (hrol.one (j := 1) (v := .int .i64 q.time) rfl) ?_
    repeat (first | refine to_fa rfl rfl ?_ | refine to_ld rfl rfl rfl ?_)
    refine to_quo rfl rfl rfl (by omega) ?_
    rw [slot_wrap hqt.1 hqt.2 k4]
    repeat (refine to_q rfl rfl rfl ?_)
    refine to_gd rfl rfl (fun hs => ?_) (fun hs => ?_)
    · simp only [beq_iff_eq] at hs
      repeat (first | refine to_nil ?_ | refine to_q rfl rfl rfl ?_)
      refine t_condT rfl (fun hji => ?_) (fun hji => ?_)
      · simp only [decide_eq_true_eq] at hji
        have e : staysX x.now l i q k = false := by
          have : ((l.drop (i + 1)).any fun v => slotX k.step v.time == slotX k.step q.time) = true := by
            rw [List.any_eq_true]
            refine ⟨r, ?_, by simp [hs]⟩
            have : (l.drop (i + 1))[j - (i + 1)]? = some r := by rw [List.getElem?_drop, show i + 1 + (j - (i + 1)) = j by omega]; exact hc
            exact List.mem_of_getElem? this
          simp [staysX, h, this]; omega
        repeat (first | refine t_seq ?_ | refine t_region ?_ | refine to_nil ?_ | refine to_q rfl rfl rfl ?_)
        exact t_ret (XP b f s o x) Tryz.func77 (.tmp rfl .nil) (by rw [e]; exact ⟨rfl, rfl⟩)
      simp only [decide_eq_false_iff_not] at hji
      repeat (first | refine t_seq ?_ | refine t_skip ?_)
      refine t_drawn1 (by kernel_rfl) (by kernel_rfl) ?_
      repeat (refine to_q rfl rfl rfl ?_)
      refine to_ia rfl rfl rfl rfl hll ?_
      repeat (refine to_fa rfl rfl ?_)
      refine to_ldR (F0 := F) rfl rfl (hrol.one (j := 1) (v := .int .i64 q.time) rfl) ?_
      repeat (first | refine to_fa rfl rfl ?_ | refine to_ld rfl rfl rfl ?_)
      refine to_quo rfl rfl rfl (by omega) ?_
      rw [slot_wrap hqt.1 hqt.2 k4]
      repeat (first | refine to_nil ?_ | refine to_q rfl rfl rfl ?_)
      refine t_condT rfl (fun hgt => ?_) (fun hgt => ?_)
      · simp only [decide_eq_true_eq] at hgt; omega
      repeat (first | refine t_region ?_ | refine to_nil ?_ | refine t_skip ?_ | refine t_inBlock ?_ | refine to_q rfl rfl rfl ?_ | refine to_add rfl rfl rfl (by omega) (by omega) ?_)
      have e2 : later1 k.step (slotX k.step q.time) m r = m := by rw [later1, if_neg (by omega)]
      refine t_re (A := mapP (Value.int .i64) boolR mb m :: own bk [.int .i64 k.last, .int .i64 k.young, .int .i64 k.step, .int .i64 k.count] 35 :: XP b f s o x) (R := R)
        (ih (j + 1, m) F1 ⟨.refl _⟩ (by dsimp only; omega) ⟨by dsimp only; omega, by dsimp only; rw [hsn, e2], fun a q' h3 h4 h5 => by
          rcases Nat.lt_or_ge a j with h6 | h6
          · exact hno a q' h3 h6 h5
          · dsimp only at h4; omega⟩) (by repeat (first | exact trivial | refine ⟨rfl, ?_⟩))
    simp only [beq_eq_false_iff_ne] at hs
    repeat (first | refine t_seq ?_ | refine to_nil ?_ | refine t_skip ?_ | refine to_no rfl ?_ | refine to_q rfl rfl rfl ?_ | refine t_cond (t := false) rfl (fun h => nomatch h) (fun _ => ?_))
    refine t_drawn1 (by kernel_rfl) (by kernel_rfl) ?_
    repeat (refine to_q rfl rfl rfl ?_)
    refine to_ia rfl rfl rfl rfl hll ?_
    repeat (refine to_fa rfl rfl ?_)
    refine to_ldR (F0 := F) rfl rfl (hrol.one (j := 1) (v := .int .i64 q.time) rfl) ?_
    repeat (first | refine to_fa rfl rfl ?_ | refine to_ld rfl rfl rfl ?_)
    refine to_quo rfl rfl rfl (by omega) ?_
    rw [slot_wrap hqt.1 hqt.2 k4]
    repeat (first | refine to_nil ?_ | refine to_q rfl rfl rfl ?_)
    have hno' : ∀ a q', i < a → a < j + 1 → l[a]? = some q' → slotX k.step q'.time ≠ slotX k.step q.time := fun a q' h3 h4 h5 => by
      rcases Nat.lt_or_ge a j with h6 | h6
      · exact hno a q' h3 h6 h5
      · have : a = j := by omega
        subst this
        rw [hc] at h5; cases h5; exact hs
    refine t_condT rfl (fun hgt => ?_) (fun hgt => ?_)
    · simp only [decide_eq_true_eq] at hgt
      repeat (first | refine t_region ?_ | refine to_q rfl rfl rfl ?_)
      refine to_mu (key := slotX k.step r.time) (v' := true) rfl rfl rfl rfl rfl ?_
      repeat (first | refine t_region ?_ | refine to_nil ?_ | refine t_inBlock ?_ | refine to_q rfl rfl rfl ?_ | refine to_add rfl rfl rfl (by omega) (by omega) ?_)
      have e2 : later1 k.step (slotX k.step q.time) m r = aset m (slotX k.step r.time) true := by rw [later1, if_pos (by omega)]
      refine t_re (A := mapP (Value.int .i64) boolR mb (aset m (slotX k.step r.time) true) :: own bk [.int .i64 k.last, .int .i64 k.young, .int .i64 k.step, .int .i64 k.count] 35 :: XP b f s o x) (R := R)
        (ih (j + 1, aset m (slotX k.step r.time) true) F1 ⟨.refl _⟩ (by dsimp only; omega) ⟨by dsimp only; omega, by dsimp only; rw [hsn, e2], hno'⟩) (by repeat (first | exact trivial | refine ⟨rfl, ?_⟩))
    · simp only [decide_eq_false_iff_not] at hgt
      repeat (first | refine t_region ?_ | refine to_nil ?_ | refine t_skip ?_ | refine t_inBlock ?_ | refine to_q rfl rfl rfl ?_ | refine to_add rfl rfl rfl (by omega) (by omega) ?_)
      have e2 : later1 k.step (slotX k.step q.time) m r = m := by rw [later1, if_neg (by omega)]
      refine t_re (A := mapP (Value.int .i64) boolR mb m :: own bk [.int .i64 k.last, .int .i64 k.young, .int .i64 k.step, .int .i64 k.count] 35 :: XP b f s o x) (R := R)
        (ih (j + 1, m) F1 ⟨.refl _⟩ (by dsimp only; omega) ⟨by dsimp only; omega, by dsimp only; rw [hsn, e2], hno'⟩) (by repeat (first | exact trivial | refine ⟨rfl, ?_⟩))
  · simp only [decide_eq_false_iff_not] at hlt
    have hjl : l.take j = l := List.take_of_length_le (by omega)
    rw [hjl] at hm
    have e : staysX x.now l i q k = decide ((m.length : Int) < k.count) := by
      have h3 : ((l.drop (i + 1)).any fun v => slotX k.step v.time == slotX k.step q.time) = false := by
        rw [List.any_eq_false]
        intro r hr
        obtain ⟨a, ha, e⟩ := List.getElem_of_mem hr
        rw [List.length_drop] at ha
        rw [List.getElem_drop] at e
        simp only [beq_iff_eq]
        exact hno (i + 1 + a) r (by omega) (by omega) (by rw [List.getElem?_eq_getElem (by omega), e])
      unfold staysX; rw [h3, ← hm, decide_eq_false h, decide_eq_false h']; rfl
    repeat (first | refine t_seq ?_ | refine t_region ?_ | refine to_nil ?_ | refine to_q rfl rfl rfl ?_ | refine to_fa rfl rfl ?_ | refine to_ld rfl rfl rfl ?_ | refine to_lenM rfl rfl rfl ?_ | refine t_exit rfl ?_)
    exact t_ret (XP b f s o x) Tryz.func77 (.tmp rfl .nil) (by rw [e]; exact ⟨rfl, rfl⟩)
end Go.Proofs.YtbffngeameenoaaGreat
end

section
set_option linter.unusedVariables false
set_option linter.unusedSimpArgs false
namespace Go.Au
section
variable {κ β : Type} [DecidableEq κ]

theorem aget_cons (k : κ) (v : β) (m : List (κ × β)) (k' : κ) : aget ((k, v) :: m) k' = if k = k' then some v else aget m k' := by
  unfold aget
  rw [List.find?_cons]
  by_cases h : k = k'
  · simp [h]
  · simp [h]
theorem aget_nil (k : κ) : aget ([] : List (κ × β)) k = none := rfl
theorem aget_append (m m' : List (κ × β)) (k : κ) : aget (m ++ m') k = (aget m k).or (aget m' k) := by
  induction m with
  | nil => simp [aget_nil]
  | cons p m ih =>
    obtain ⟨a, v⟩ := p
    rw [List.cons_append, aget_cons, aget_cons, ih]
    by_cases h : a = k
    · simp [h]
    · simp [h]
theorem aget_adel (m : List (κ × β)) (k k' : κ) : aget (adel m k) k' = if k' = k then none else aget m k' := by
  induction m with
  | nil => simp [adel, aget_nil]
  | cons p m ih =>
    obtain ⟨a, v⟩ := p
    unfold adel at ih ⊢
    rw [List.filter_cons]
    by_cases h : a = k
    · subst h
      rw [if_neg (by simp), ih, aget_cons]
      by_cases h2 : k' = a
      · simp [h2]
      · rw [if_neg h2, if_neg h2, if_neg (Ne.symm h2)]
    · rw [if_pos (by simpa using h), aget_cons, aget_cons, ih]
      by_cases h2 : k' = k
      · subst h2
        rw [if_neg h, if_pos rfl, if_pos rfl]
      · rw [if_neg h2, if_neg h2]
theorem aget_aset (m : List (κ × β)) (k : κ) (v : β) (k' : κ) : aget (aset m k v) k' = if k' = k then some v else aget m k' := by
  unfold aset
  rw [aget_append, aget_adel, aget_cons, aget_nil]
  by_cases h : k' = k
  · simp [h]
  · rw [if_neg h, if_neg (Ne.symm h), if_neg h]; simp
theorem aget_isSome {m : List (κ × β)} {k : κ} : (aget m k).isSome = true ↔ k ∈ m.map (·.1) := by
  constructor
  · intro h
    obtain ⟨v, hv⟩ := Option.isSome_iff_exists.1 h
    exact List.mem_map.2 ⟨_, mem_of_aget hv, rfl⟩
  · intro h
    obtain ⟨⟨a, v⟩, hm, rfl⟩ := List.mem_map.1 h
    cases hg : aget m a with
    | some _ => rfl
    | none =>
      exfalso
      unfold aget at hg
      simp only [Option.map_eq_none_iff, List.find?_eq_none] at hg
      exact hg _ hm (by simp)
theorem keys_adel (m : List (κ × β)) (k k' : κ) : k' ∈ (adel m k).map (·.1) ↔ k' ∈ m.map (·.1) ∧ k' ≠ k := by
  rw [← aget_isSome, ← aget_isSome, aget_adel]
  by_cases h : k' = k
  · simp [h]
  · simp [h]
theorem keys_aset (m : List (κ × β)) (k : κ) (v : β) (k' : κ) : k' ∈ (aset m k v).map (·.1) ↔ k' = k ∨ k' ∈ m.map (·.1) := by
  rw [← aget_isSome, ← aget_isSome, aget_aset]
  by_cases h : k' = k
  · simp [h]
  · simp [h]
omit [DecidableEq κ] in
theorem nodup_of_keys {m : List (κ × β)} (h : (m.map (·.1)).Nodup) : m.Nodup := by
  induction m with
  | nil => exact .nil
  | cons p m ih =>
    rw [List.map_cons, List.nodup_cons] at h
    rw [List.nodup_cons]
    exact ⟨fun hm => h.1 (List.mem_map_of_mem hm), ih h.2⟩
theorem mem_iff_aget {m : List (κ × β)} (h : (m.map (·.1)).Nodup) {k : κ} {v : β} : (k, v) ∈ m ↔ aget m k = some v := ⟨aget_of_mem h, mem_of_aget⟩
theorem perm_of_mem {α : Type} : ∀ {l m : List α}, l.Nodup → m.Nodup → (∀ x, x ∈ l ↔ x ∈ m) → l.Perm m := fun h1 h2 h => (List.perm_ext_iff_of_nodup h1 h2).2 h
/-- Lists that say the same of each key. -/
theorem perm_of_aget {m m' : List (κ × β)} (h : (m.map (·.1)).Nodup) (h' : (m'.map (·.1)).Nodup) (e : ∀ k, aget m k = aget m' k) : m.Perm m' :=
  perm_of_mem (nodup_of_keys h) (nodup_of_keys h') fun ⟨k, v⟩ => by rw [mem_iff_aget h, mem_iff_aget h', e]
theorem aget_perm {m m' : List (κ × β)} (p : m.Perm m') (h : (m.map (·.1)).Nodup) (k : κ) : aget m k = aget m' k := by
  have h' : (m'.map (·.1)).Nodup := (p.map _).nodup_iff.1 h
  cases hv : aget m k with
  | some v => exact ((mem_iff_aget h').1 (p.mem_iff.1 ((mem_iff_aget h).2 hv))).symm
  | none =>
    cases hv' : aget m' k with
    | none => rfl
    | some v =>
      have := (mem_iff_aget h).1 (p.mem_iff.2 ((mem_iff_aget h').2 hv'))
      rw [hv] at this; cases this
theorem len_aset_new {m : List (κ × β)} {k : κ} (h : aget m k = none) (v : β) : (aset m k v).length = m.length + 1 := by
  unfold aset
  rw [adel_of_not fun v hm => by
    have := aget_isSome.2 (List.mem_map_of_mem (f := (·.1)) hm)
    simp only at this
    rw [h] at this; cases this]
  simp
theorem len_aset_old {m : List (κ × β)} {k : κ} (nd : (m.map (·.1)).Nodup) (h : k ∈ m.map (·.1)) (v : β) : (aset m k v).length = m.length := by
  have h1 := nodup_aset nd k v
  have p : ((aset m k v).map (·.1)).Perm (m.map (·.1)) := perm_of_mem h1 nd fun x => by
    rw [keys_aset]
    exact ⟨fun e => e.elim (fun e => e ▸ h) id, .inr⟩
  have := p.length_eq
  simpa using this
theorem nd_len {α : Type} [DecidableEq α] : ∀ {l m : List α}, l.Nodup → (∀ x ∈ l, x ∈ m) → l.length ≤ m.length
  | [], m, _, _ => Nat.zero_le _
  | a :: l, m, nd, h => by
    rw [List.nodup_cons] at nd
    have h1 : l.length ≤ (m.erase a).length := nd_len nd.2 fun x hx => (List.mem_erase_of_ne (by rintro rfl; exact nd.1 hx)).2 (h x (List.mem_cons_of_mem _ hx))
    have h2 := List.length_erase_of_mem (h a List.mem_cons_self)
    have h3 : 0 < m.length := List.length_pos_of_mem (h a List.mem_cons_self)
    simp only [List.length_cons]; omega
theorem len_of_keys_sub {γ : Type} {m : List (κ × β)} {m' : List (κ × γ)} (nd : (m.map (·.1)).Nodup) (h : ∀ k ∈ m.map (·.1), k ∈ m'.map (·.1)) : m.length ≤ m'.length := by
  have := nd_len nd h
  simpa using this
end
end Go.Au
end

section
set_option maxRecDepth 100000
set_option linter.unusedVariables false
set_option linter.unusedSimpArgs false
namespace Go.Proofs.YtbffngeameenoaaGreat
open Go Go.Au

def ND (x : XM) : Prop := (x.files.map (·.1)).Nodup
structure SwI (x y : XM) (done : List ByteArray) : Prop where
  shots : y.shots = x.shots
  sess : y.sess = x.sess
  began : y.began = x.began
  now : y.now = x.now
  quota : y.quota = x.quota
  nd : ND y
  fo : ∀ nm, (nm ∈ done → filesOf y nm = keepF (dropP x nm) (filesOf x nm)) ∧ (nm ∉ done → filesOf y nm = filesOf x nm)
  ne : ∀ q ∈ y.files, q.1 ∈ done → q.2 ≠ []
  ks : ∀ k ∈ y.files.map (·.1), k ∈ x.files.map (·.1)
theorem heldX_shots {x y : XM} (h : y.shots = x.shots) (nm : ByteArray) (g : Int) : heldX y nm g = heldX x nm g := by unfold heldX; rw [h]
theorem dropP_shots {x y : XM} (h : y.shots = x.shots) (nm : ByteArray) : dropP y nm = dropP x nm := by
  funext q; unfold dropP; rw [heldX_shots h]
theorem keepF_keepF (p : Ver → Bool) (l : List Ver) : keepF p (keepF p l) = keepF p l := by simp [keepF]
theorem filesOf_nil {x : XM} {nm : ByteArray} (h : nm ∉ x.files.map (·.1)) : filesOf x nm = [] := by
  unfold filesOf
  cases hg : aget x.files nm with
  | none => rfl
  | some v => exact absurd (aget_isSome.1 (by rw [hg]; rfl)) h
theorem sweep1_view {x y : XM} {done : List ByteArray} (h : SwI x y done) (nm : ByteArray) : SwI x (sweep1 y nm) (done ++ [nm]) := by
  have hd := dropP_shots h.shots
  have hK : keepF (dropP y nm) (filesOf y nm) = keepF (dropP x nm) (filesOf x nm) := by
    rw [hd]
    by_cases hm : nm ∈ done
    · rw [(h.fo nm).1 hm, keepF_keepF]
    · rw [(h.fo nm).2 hm]
  have hmem : ∀ n, n ∈ done ++ [nm] ↔ n = nm ∨ n ∈ done := fun n => by simp [or_comm]
  by_cases hz : (keepF (dropP y nm) (filesOf y nm)).length = 0
  · have e : sweep1 y nm = { y with files := adel (aset y.files nm (keepF (dropP y nm) (filesOf y nm))) nm } := by unfold sweep1; rw [if_pos hz]
    have hag : ∀ k, aget (sweep1 y nm).files k = if k = nm then none else aget y.files k := fun k => by
      rw [e]
      rw [aget_adel, aget_aset]
      by_cases hk : k = nm
      · simp [hk]
      · simp [hk]
    refine ⟨by rw [e]; exact h.shots, by rw [e]; exact h.sess, by rw [e]; exact h.began, by rw [e]; exact h.now, by rw [e]; exact h.quota, by rw [e]; exact nodup_adel (nodup_aset h.nd _ _) _, fun n => ?_, fun q hq hqd => ?_, fun k hk => ?_⟩
    · have hf : n ≠ nm → filesOf (sweep1 y nm) n = filesOf y n := fun hn => by unfold filesOf; rw [hag, if_neg hn]
      refine ⟨fun hin => ?_, fun hout => ?_⟩
      · by_cases hn : n = nm
        · subst hn
          rw [← hK, List.eq_nil_of_length_eq_zero hz]
          unfold filesOf
          rw [hag, if_pos rfl]; rfl
        · rw [hf hn, (h.fo n).1 (((hmem n).1 hin).resolve_left hn)]
      · rw [hf fun e => hout ((hmem n).2 (.inl e)), (h.fo n).2 fun e => hout ((hmem n).2 (.inr e))]
    · rw [e] at hq
      have h1 := List.mem_filter.1 hq
      have hne : q.1 ≠ nm := by simpa using h1.2
      rcases List.mem_append.1 h1.1 with h2 | h2
      · exact h.ne q (List.mem_filter.1 h2).1 (((hmem _).1 hqd).elim (fun h => absurd h hne) id)
      · cases List.mem_singleton.1 h2; exact absurd rfl hne
    · have := aget_isSome.2 hk
      rw [hag] at this
      by_cases hn : k = nm
      · rw [if_pos hn] at this; cases this
      · rw [if_neg hn] at this; exact h.ks k (aget_isSome.1 this)
  · have e : sweep1 y nm = { y with files := aset y.files nm (keepF (dropP y nm) (filesOf y nm)) } := by unfold sweep1; rw [if_neg hz]
    have hag : ∀ k, aget (sweep1 y nm).files k = if k = nm then some (keepF (dropP y nm) (filesOf y nm)) else aget y.files k := fun k => by
      rw [e]
      rw [aget_aset]
    refine ⟨by rw [e]; exact h.shots, by rw [e]; exact h.sess, by rw [e]; exact h.began, by rw [e]; exact h.now, by rw [e]; exact h.quota, by rw [e]; exact nodup_aset h.nd _ _, fun n => ?_, fun q hq hqd => ?_, fun k hk => ?_⟩
    · have hf : n ≠ nm → filesOf (sweep1 y nm) n = filesOf y n := fun hn => by unfold filesOf; rw [hag, if_neg hn]
      refine ⟨fun hin => ?_, fun hout => ?_⟩
      · by_cases hn : n = nm
        · subst hn
          rw [← hK]
          show filesOf (sweep1 y n) n = _
          have := hag n
          rw [if_pos rfl] at this
          unfold filesOf at this ⊢
          rw [this]; rfl
        · rw [hf hn, (h.fo n).1 (((hmem n).1 hin).resolve_left hn)]
      · rw [hf fun e => hout ((hmem n).2 (.inl e)), (h.fo n).2 fun e => hout ((hmem n).2 (.inr e))]
    · rw [e] at hq
      rcases List.mem_append.1 hq with h2 | h2
      · have h3 := List.mem_filter.1 h2
        have hne : q.1 ≠ nm := by simpa using h3.2
        exact h.ne q h3.1 (((hmem _).1 hqd).elim (fun h => absurd h hne) id)
      · cases List.mem_singleton.1 h2
        exact fun h => hz (by simp only at h; rw [h]; rfl)
    · have hs := aget_isSome.2 hk
      rw [hag] at hs
      by_cases hn : k = nm
      · subst hn
        refine h.ks k ?_
        refine Classical.byContradiction fun hno => hz ?_
        rw [filesOf_nil hno]; rfl
      · rw [if_neg hn] at hs; exact h.ks k (aget_isSome.1 hs)
theorem sweep_fold {x : XM} : ∀ (ns done : List ByteArray) {y : XM}, SwI x y done → SwI x (ns.foldl sweep1 y) (done ++ ns)
  | [], done, y, h => by rw [List.append_nil]; exact h
  | n :: ns, done, y, h => by
    have := sweep_fold ns (done ++ [n]) (sweep1_view h n)
    rw [List.append_assoc] at this
    exact this
/-- y is x behind a sweep, name by name. -/
structure SwV (x y : XM) : Prop where
  shots : y.shots = x.shots
  sess : y.sess = x.sess
  began : y.began = x.began
  now : y.now = x.now
  quota : y.quota = x.quota
  nd : ND y
  fo : ∀ nm, filesOf y nm = keepF (dropP x nm) (filesOf x nm)
  ne : ∀ q ∈ y.files, q.2 ≠ []
  ks : ∀ k ∈ y.files.map (·.1), k ∈ x.files.map (·.1)
theorem Swept.view {x y : XM} (nd : ND x) (h : Swept x y) : SwV x y := by
  obtain ⟨ks, hk, rfl⟩ := h
  have h1 := sweep_fold (x := x) (sortB ks) [] (y := x) ⟨rfl, rfl, rfl, rfl, rfl, nd, fun _ => ⟨by simp, fun _ => rfl⟩, by simp, fun _ h => h⟩
  rw [List.nil_append] at h1
  have hm : ∀ k, k ∈ sortB ks ↔ k ∈ x.files.map (·.1) := fun k => ((sortB_perm ks).trans hk).mem_iff
  refine ⟨h1.shots, h1.sess, h1.began, h1.now, h1.quota, h1.nd, fun nm => ?_, fun q hq => h1.ne q hq ((hm _).2 (h1.ks _ (List.mem_map_of_mem hq))), h1.ks⟩
  by_cases hn : nm ∈ x.files.map (·.1)
  · rw [(h1.fo nm).1 ((hm _).2 hn)]
  · rw [(h1.fo nm).2 fun h => hn ((hm _).1 h), filesOf_nil hn]; rfl
/-! #### A generation is gone -/
theorem markG_eq {x : XM} {nm : ByteArray} {i : Nat} {q : Ver} (hq : (filesOf x nm)[i]? = some q) :
    markG x nm i = { x with files := aset x.files nm ((filesOf x nm).set i { q with gone := true }) } := by simp [markG, hq]
theorem markG_fo {x : XM} {nm : ByteArray} {i : Nat} {q : Ver} (hq : (filesOf x nm)[i]? = some q) (n : ByteArray) :
    filesOf (markG x nm i) n = if n = nm then (filesOf x nm).set i { q with gone := true } else filesOf x n := by
  rw [markG_eq hq]
  unfold filesOf
  dsimp only
  rw [aget_aset]
  by_cases h : n = nm
  · simp [h]
  · simp [h]
theorem ND.markG {x : XM} (h : ND x) (nm : ByteArray) (i : Nat) : ND (markG x nm i) := by
  unfold Proofs.YtbffngeameenoaaGreat.markG
  cases hq : (filesOf x nm)[i]? with
  | none => exact h
  | some q => exact nodup_aset h _ _
theorem markG_keys {x : XM} {nm : ByteArray} {i : Nat} {q : Ver} (hq : (filesOf x nm)[i]? = some q) : ∀ k ∈ (markG x nm i).files.map (·.1), k ∈ x.files.map (·.1) := by
  intro k hk
  rw [markG_eq hq] at hk
  rcases (keys_aset _ _ _ _).1 hk with rfl | h
  · refine Classical.byContradiction fun hno => ?_
    rw [filesOf_nil hno] at hq; cases hq
  · exact h
/-- A live generation. -/
def LiveIn (x : XM) (nm : ByteArray) (g : Int) : Prop := ∃ q ∈ filesOf x nm, q.gone = false ∧ q.gen = g
theorem lastI_of {α : Type} {p : α → Bool} : ∀ {xs : List α} {q : α}, q ∈ xs → p q = true → ∃ i, lastI p xs = some i
  | a :: xs, q, hq, hp => by
    unfold lastI
    cases h : lastI p xs with
    | some i => exact ⟨_, rfl⟩
    | none =>
      rcases List.mem_cons.1 hq with rfl | hq
      · simp [hp]
      · obtain ⟨i, hi⟩ := lastI_of hq hp
        rw [h] at hi; cases hi
theorem LiveIn.at {x : XM} {nm : ByteArray} {g : Int} (h : LiveIn x nm g) (hg : g ≠ 0) : ∃ i q, lastI (liveP g) (filesOf x nm) = some i ∧ (filesOf x nm)[i]? = some q ∧ q.gone = false ∧ q.gen = g := by
  obtain ⟨q, hq, h1, h2⟩ := h
  obtain ⟨i, hi⟩ := lastI_of (p := liveP g) hq (by simp [liveP, h1, h2])
  obtain ⟨q', hq', hp⟩ := lastI_spec hi
  simp [liveP, hg] at hp
  exact ⟨i, q', hi, hq', hp.1, hp.2⟩
theorem LiveIn.drop {x y : XM} {nm : ByteArray} {i : Nat} {q : Ver} (hq : (filesOf x nm)[i]? = some q) (hs : SwV (markG x nm i) y) {n : ByteArray} {g : Int} (h : LiveIn x n g) (hne : ¬ (n = nm ∧ g = q.gen)) : LiveIn y n g := by
  obtain ⟨r, hr, h1, h2⟩ := h
  refine ⟨r, ?_, h1, h2⟩
  rw [hs.fo n, keepF, List.mem_filter]
  refine ⟨?_, by simp [dropP, h1]⟩
  rw [markG_fo hq]
  by_cases hn : n = nm
  · subst hn
    rw [if_pos rfl]
    obtain ⟨j, hj, e⟩ := List.getElem_of_mem hr
    have hji : i ≠ j := by
      rintro rfl
      rw [List.getElem?_eq_getElem hj, e] at hq
      cases hq; exact hne ⟨rfl, h2.symm⟩
    exact List.mem_of_getElem? (i := j) (by rw [List.getElem?_set_ne hji, List.getElem?_eq_getElem hj, e])
  · rw [if_neg hn]; exact hr
theorem filesOf_of_mem {x : XM} (nd : ND x) {q : ByteArray × List Ver} (h : q ∈ x.files) : filesOf x q.1 = q.2 := by
  unfold filesOf
  rw [aget_of_mem nd (v := q.2) h]; rfl
theorem SwV.xlen {x y : XM} (h : SwV x y) (hx : XLen x) : XLen y := fun q hq => by
  rw [← filesOf_of_mem h.nd hq, h.fo]
  exact Nat.le_trans (List.length_filter_le _ _) (hx.of q.1)
theorem SwV.flen {x y : XM} (h : SwV x y) : y.files.length ≤ x.files.length := len_of_keys_sub h.nd h.ks
theorem markG_flen {x : XM} (nd : ND x) {nm : ByteArray} {i : Nat} {q : Ver} (hq : (filesOf x nm)[i]? = some q) : (markG x nm i).files.length ≤ x.files.length :=
  len_of_keys_sub (nd.markG nm i) (markG_keys hq)
end Go.Proofs.YtbffngeameenoaaGreat
end

section
set_option maxRecDepth 100000
set_option linter.unusedVariables false
set_option linter.unusedSimpArgs false
namespace Go.Proofs.YtbffngeameenoaaGreat
open Go Go.Au
attribute [local irreducible] T TO

def numOk (e : Int) : Bool := decide (0 ≤ e) && decide (e ≤ 9007199254740991)
theorem number_sp (e : Int) (F : Frz) : Sp Tryz.prog 74 [.int .i64 e] [] F (fun v B F' => v = .bool (numOk e) ∧ B = []) := by
  refine sp_of Tryz.func74 rfl (by kernel_rfl) rfl fun R => ?_
  repeat (first | refine t_seq ?_ | refine t_region ?_ | refine to_nil ?_ | refine to_q rfl rfl rfl ?_)
  refine to_gd rfl rfl (fun h => ?_) (fun h => ?_)
  · simp only [decide_eq_true_eq] at h
    repeat (first | refine to_nil ?_ | refine to_q rfl rfl rfl ?_)
    have e2 : numOk e = decide (e ≤ 9007199254740991) := by simp [numOk]; omega
    exact t_ret [] Tryz.func74 (.tmp rfl .nil) (by rw [e2]; exact ⟨rfl, rfl⟩)
  · simp only [decide_eq_false_iff_not] at h
    repeat (first | refine to_nil ?_ | refine to_no rfl ?_ | refine to_q rfl rfl rfl ?_)
    have e2 : numOk e = false := by simp [numOk]; omega
    exact t_ret [] Tryz.func74 (.tmp rfl .nil) (by rw [e2]; exact ⟨rfl, rfl⟩)
theorem goneC_sp (q : Ver) (F : Frz) : Sp Tryz.prog 76 [verV q] [] F (fun v B F' => v = .bool q.gone ∧ B = []) := by
  refine sp_of Tryz.func76 rfl (by kernel_rfl) rfl fun R => ?_
  refine t_seq ?_
  refine t_region ?_
  refine to_boxA (cs := [.int .i64 q.gen, .int .i64 q.time, .string q.text, .bool q.gone]) rfl rfl fun _ => ?_
  repeat (first | refine t_seq ?_ | refine t_region ?_ | refine to_nil ?_ | refine to_q rfl rfl rfl ?_ | refine to_fa rfl rfl ?_ | refine to_ld rfl rfl rfl ?_)
  exact t_ret [] Tryz.func76 (.tmp rfl .nil) ⟨rfl, rfl⟩
def kpOf (p : Op1) : Kp := ⟨p.last, p.young, p.step, p.count⟩
def liveL (x : XM) (nm : ByteArray) : List Ver := keepF (·.gone) (filesOf x nm)
def goneI (now : Int) (l : List Ver) (k : Kp) (nm : ByteArray) : Nat → List (ByteArray × Int)
  | 0 => []
  | i + 1 => goneI now l k nm i ++ (match l[i]? with
    | some q => if staysX now l i q k then [] else [(nm, q.gen)]
    | none => [])
theorem goneI_len (now : Int) (l : List Ver) (k : Kp) (nm : ByteArray) : ∀ i, (goneI now l k nm i).length ≤ i
  | 0 => by simp [goneI]
  | i + 1 => by
    have := goneI_len now l k nm i
    unfold goneI
    rw [List.length_append]
    split
    · split <;> simp <;> omega
    · simp; omega
def goneF (x : XM) (k : Kp) (nm : ByteArray) : List (ByteArray × Int) := goneI x.now (liveL x nm) k nm (liveL x nm).length
def goneL (x : XM) (k : Kp) (ns : List ByteArray) : List (ByteArray × Int) := ns.flatMap (goneF x k)
theorem goneL_snoc (x : XM) (k : Kp) (ns : List ByteArray) (a : ByteArray) : goneL x k (ns ++ [a]) = goneL x k ns ++ goneF x k a := by simp [goneL]
theorem liveL_len {x : XM} (ok : XOk x) (nm : ByteArray) : (liveL x nm).length ≤ 32 := Nat.le_trans (List.length_filter_le _ _) (filesOf_len ok nm)
theorem goneL_len {x : XM} (ok : XOk x) (k : Kp) : ∀ ns : List ByteArray, (goneL x k ns).length ≤ 32 * ns.length
  | [] => by simp [goneL]
  | a :: ns => by
    have h1 := goneI_len x.now (liveL x a) k a (liveL x a).length
    have h2 := goneL_len ok k ns
    have h3 := liveL_len ok a
    simp only [goneL, goneF, List.flatMap_cons, List.length_append, List.length_cons] at h2 ⊢
    omega
/-- y is x behind these having been dropped, one by one. -/
inductive Drops : XM → List (ByteArray × Int) → XM → Prop
  | nil (x : XM) : Drops x [] x
  | snoc {x y z : XM} {l : List (ByteArray × Int)} {h : ByteArray × Int} {i : Nat} : Drops x l y → lastI (liveP h.2) (filesOf y h.1) = some i → Swept (markG y h.1 i) z → Drops x (l ++ [h]) z
def expOk (p : Op1) : Bool := numOk p.last && (numOk p.young && (numOk p.step && (decide (1 ≤ p.step) && numOk p.count)))
def ExpireX (x : XM) (p : Op1) (e n : Int) (y : XM) : Prop :=
  if expOk p = false then e = 2 ∧ n = 0 ∧ y = x
  else ∃ ks, ks.Perm (x.files.map (·.1)) ∧ e = 0 ∧ n = (goneL x (kpOf p) (sortB ks)).length ∧ Drops x (goneL x (kpOf p) (sortB ks)) y
/-- more that a model is held within -/
structure XTm (x : XM) : Prop where
  n0 : 0 ≤ x.now
  n1 : x.now ≤ 9007199254740991
  tm : ∀ q ∈ x.files, ∀ v ∈ q.2, 0 ≤ v.time ∧ v.time ≤ x.now
theorem filesOf_mem {x : XM} {nm : ByteArray} {v : Ver} (h : v ∈ filesOf x nm) : ∃ q ∈ x.files, v ∈ q.2 := by
  unfold filesOf at h
  cases hg : aget x.files nm with
  | none => rw [hg] at h; cases h
  | some l => rw [hg] at h; exact ⟨_, mem_of_aget hg, h⟩
theorem expire_sp (b f s o : Nat) (x : XM) (p : Op1) (bv cv ct ca : Value) (F : Frz) (ok : XOk x) (tm : XTm x)
    (hlive : ∀ ks, ks.Perm (x.files.map (·.1)) → ∀ h ∈ goneL x (kpOf p) (sortB ks), LiveIn x h.1 h.2 ∧ h.2 ≠ 0)
    (hnd : ∀ ks, ks.Perm (x.files.map (·.1)) → (goneL x (kpOf p) (sortB ks)).Nodup) (nd : ND x) :
    Sp Tryz.prog 36 [ptr b, opV p bv cv ct ca] (XP b f s o x) F (fun v B F' => ∃ e n y, ExpireX x p e n y ∧ v = ansV e n nilS nilS ∧ B = XP b f s o y) := by
  have bad : expOk p = false → ∃ e n y, ExpireX x p e n y ∧ ansV 2 0 nilS nilS = ansV e n nilS nilS ∧ XP b f s o x = XP b f s o y := fun h => ⟨2, 0, x, by unfold ExpireX; rw [if_pos h]; exact ⟨rfl, rfl, rfl⟩, rfl, rfl⟩
  refine sp_of Tryz.func36 rfl (by kernel_rfl) rfl fun R => ?_
  repeat (first | refine t_seq ?_ | refine t_region ?_ | refine to_nil ?_ | refine to_fa rfl rfl ?_ | refine to_ld rfl rfl rfl ?_ | refine to_ldA rfl rfl rfl ?_ | refine to_stA rfl rfl rfl rfl rfl rfl ?_
                | refine to_alloc rfl fun _ => ?_ | refine to_boxA rfl rfl fun _ => ?_)
  rename_i bop ba bk
  refine to_call rfl rfl (number_sp p.last _) fun v B F1 le h => ?_
  obtain ⟨rfl, rfl⟩ := h
  cases c1 : numOk p.last
  · repeat (first | refine t_seq ?_ | refine t_region ?_ | refine to_nil ?_ | refine to_no rfl ?_ | refine to_q rfl rfl rfl ?_ | refine t_cond (t := true) rfl (fun _ => ?_) (fun h => nomatch h))
    refine to_call rfl rfl (wrong_sp 2 _) fun v B F2 _ h => ?_
    obtain ⟨rfl, rfl⟩ := h
    repeat (first | refine to_nil ?_ | refine to_stA rfl rfl rfl rfl rfl rfl ?_)
    exact t_ret (XP b f s o x) Tryz.func36 (.cellA rfl rfl .nil) (bad (by simp [expOk, c1]))
  repeat (first | refine to_q rfl rfl rfl ?_ | refine to_fa rfl rfl ?_ | refine to_ld rfl rfl rfl ?_)
  refine to_call rfl rfl (number_sp p.young _) fun v B F2 le h => ?_
  obtain ⟨rfl, rfl⟩ := h
  cases c2 : numOk p.young
  · repeat (first | refine t_seq ?_ | refine t_region ?_ | refine to_nil ?_ | refine to_no rfl ?_ | refine to_q rfl rfl rfl ?_ | refine t_cond (t := true) rfl (fun _ => ?_) (fun h => nomatch h))
    refine to_call rfl rfl (wrong_sp 2 _) fun v B F2 _ h => ?_
    obtain ⟨rfl, rfl⟩ := h
    repeat (first | refine to_nil ?_ | refine to_stA rfl rfl rfl rfl rfl rfl ?_)
    exact t_ret (XP b f s o x) Tryz.func36 (.cellA rfl rfl .nil) (bad (by simp [expOk, c2]))
  repeat (first | refine to_q rfl rfl rfl ?_ | refine to_fa rfl rfl ?_ | refine to_ld rfl rfl rfl ?_)
  refine to_call rfl rfl (number_sp p.step _) fun v B F3 le h => ?_
  obtain ⟨rfl, rfl⟩ := h
  cases c3 : numOk p.step
  · repeat (first | refine t_seq ?_ | refine t_region ?_ | refine to_nil ?_ | refine to_no rfl ?_ | refine to_q rfl rfl rfl ?_ | refine t_cond (t := true) rfl (fun _ => ?_) (fun h => nomatch h))
    refine to_call rfl rfl (wrong_sp 2 _) fun v B F2 _ h => ?_
    obtain ⟨rfl, rfl⟩ := h
    repeat (first | refine to_nil ?_ | refine to_stA rfl rfl rfl rfl rfl rfl ?_)
    exact t_ret (XP b f s o x) Tryz.func36 (.cellA rfl rfl .nil) (bad (by simp [expOk, c3]))
  repeat (first | refine to_q rfl rfl rfl ?_ | refine to_fa rfl rfl ?_ | refine to_ld rfl rfl rfl ?_)
  refine to_gd rfl rfl (fun c4 => ?_) (fun c4 => ?_)
  · simp only [decide_eq_true_eq] at c4
    repeat (first | refine t_seq ?_ | refine t_region ?_ | refine to_nil ?_ | refine to_no rfl ?_ | refine to_q rfl rfl rfl ?_ | refine t_cond (t := true) rfl (fun _ => ?_) (fun h => nomatch h))
    refine to_call rfl rfl (wrong_sp 2 _) fun v B F2 _ h => ?_
    obtain ⟨rfl, rfl⟩ := h
    repeat (first | refine to_nil ?_ | refine to_stA rfl rfl rfl rfl rfl rfl ?_)
    exact t_ret (XP b f s o x) Tryz.func36 (.cellA rfl rfl .nil) (bad (by simp [expOk]; omega))
  simp only [decide_eq_false_iff_not] at c4
  repeat (first | refine to_fa rfl rfl ?_ | refine to_ld rfl rfl rfl ?_)
  refine to_call rfl rfl (number_sp p.count _) fun v B F4 le h => ?_
  obtain ⟨rfl, rfl⟩ := h
  cases c5 : numOk p.count
  · repeat (first | refine t_seq ?_ | refine t_region ?_ | refine to_nil ?_ | refine to_q rfl rfl rfl ?_ | refine t_cond (t := true) rfl (fun _ => ?_) (fun h => nomatch h))
    refine to_call rfl rfl (wrong_sp 2 _) fun v B F2 _ h => ?_
    obtain ⟨rfl, rfl⟩ := h
    repeat (first | refine to_nil ?_ | refine to_stA rfl rfl rfl rfl rfl rfl ?_)
    exact t_ret (XP b f s o x) Tryz.func36 (.cellA rfl rfl .nil) (bad (by simp [expOk, c5]))
  have hgood : expOk p = true := by simp [expOk, c1, c2, c3, c5]; omega
  have hkp : KpOk (kpOf p) := by
    simp only [numOk, Bool.and_eq_true, decide_eq_true_eq] at c1 c2 c3 c5
    exact ⟨c1.1, c1.2, c2.1, c2.2, by show 1 ≤ p.step; omega, c3.2, c5.1, c5.2⟩
  repeat (first | refine t_seq ?_ | refine t_region ?_ | refine to_nil ?_ | refine t_skip ?_ | refine to_q rfl rfl rfl ?_ | refine to_fa rfl rfl ?_ | refine to_ld rfl rfl rfl ?_
                | refine t_cond (t := false) rfl (fun h => nomatch h) (fun _ => ?_))
  refine to_call rfl rfl (mapsKeysF_sp f _) fun v B F5 le1 h => ?_
  obtain ⟨pb, rfl, rfl⟩ := h
  refine to_call rfl rfl (sortedF_sp pb f x.files _ (by have := ok.fl; omega)) fun v B F6 le2 h => ?_
  obtain ⟨ks, hks, rfl⟩ := h
  refine to_freeze v fun F7 le3 hv => ?_
  have hkl : (sortB ks).length ≤ 64 := by
    have h1 := (sortB_perm ks).length_eq
    have h2 := hks.length_eq
    have := ok.fl
    rw [List.length_map] at h2
    omega
  have hlv := hlive ks hks
  have hdd := hnd ks hks
  have good : ∀ y, Drops x (goneL x (kpOf p) (sortB ks)) y → ExpireX x p 0 (goneL x (kpOf p) (sortB ks)).length y := fun y h => by unfold ExpireX; rw [if_neg (by simp [hgood])]; exact ⟨ks, hks, rfl, rfl, h⟩
  generalize hks2 : sortB ks = ns at hv hkl hlv hdd good
  refine to_lenR (ρ := strR) (n := 1) hv rfl rfl rfl ?_
  refine to_emp heldR 2 105 none ?_
  repeat (first | refine t_block ?_ | refine to_nil ?_ | refine to_q rfl rfl rfl ?_)
  refine t_loopJ (R := R) (fun s : Nat × Value × List (ByteArray × Int) => ns.length - s.1) (fun z => OSl heldR 2 105 z.2.1 z.2.2 :: own bk [.int .i64 p.last, .int .i64 p.young, .int .i64 p.step, .int .i64 p.count] 35 :: own ba [.int .i64 0, .int .i64 0, nilS, nilS] 31 :: XP b f s o x)
    (fun z => [(0, ptr b), (4, ptr ba), (5, ptr bk), (6, z.2.1), (49, v), (50, .int .i64 ns.length), (51, .int .i64 z.1)]) (fun z _ => z.1 ≤ ns.length ∧ z.2.2 = goneL x (kpOf p) (ns.take z.1)) (0, nilS, []) (by repeat (first | exact trivial | refine ⟨rfl, ?_⟩)) ⟨Nat.zero_le _, rfl⟩ ?_
  rintro ⟨j, w, acc⟩ F8 le4 hg ih
  dsimp only at hg ih ⊢
  obtain ⟨hj, hacc⟩ := hg
  repeat (first | refine t_seq ?_ | refine t_region ?_ | refine to_nil ?_ | refine to_q rfl rfl rfl ?_)
  refine t_condT rfl (fun h => ?_) (fun h => ?_)
  · simp only [decide_eq_true_eq] at h
    have hlt : j < ns.length := by omega
    have hc := List.getElem?_eq_getElem hlt
    have htk : ns.take (j + 1) = ns.take j ++ [ns[j]] := by rw [List.take_add_one, hc]; rfl
    generalize ns[j] = nm at hc htk
    have hlen := goneL_len ok (kpOf p) (ns.take j)
    rw [List.length_take, ← hacc] at hlen
    repeat (first | refine t_seq ?_ | refine t_block ?_ | refine t_region ?_ | refine t_skip ?_)
    obtain ⟨b1, o1, cap1, u1, e1, hl1, hr, hro⟩ := slR_elem (P := Tryz.prog) (t := 9) (by_ := 16) hv hc
    subst e1
    cases hr
    refine to_ia rfl rfl rfl rfl hl1 ?_
    refine to_ldV (F1 := F7) (ρ := strR) (q := nm) rfl hro rfl rfl ?_
    repeat (first | refine t_seq ?_ | refine t_region ?_ | refine to_nil ?_ | refine to_q rfl rfl rfl ?_ | refine to_fa rfl rfl ?_ | refine to_ld rfl rfl rfl ?_)
    refine to_lkD (key := nm) [] (slR_nil _ _ _ _ _) rfl rfl rfl fun u hu => ?_
    refine to_call rfl rfl (clone_sp u _ _ hu (ok.len.of nm)) fun vc B F9 le5 h5 => ?_
    subst h5
    refine to_call (Ψ := fun u B F' => B = [] ++ [OSl verR 4 85 u (liveL x nm)]) rfl rfl (delete_spL _ vc _ (·.gone) [] F9 (ok.len.of nm) (fun q F' le => cv_of_sp0 (goneC_sp q F'))) fun ud B F10 le6 h6 => ?_
    replace h6 : B = [OSl verR 4 85 ud (liveL x nm)] := h6
    subst h6
    repeat (first | refine t_seq ?_ | refine t_block ?_ | refine t_region ?_ | refine to_nil ?_ | refine to_q rfl rfl rfl ?_ | refine to_lenO rfl rfl rfl ?_)
    refine t_freeze ud fun F11 le7 hu7 => ?_
    obtain ⟨ua, ucap, hue⟩ := slR_len hu7
    have hll := liveL_len ok nm
    skip
    clear hue
    have htime : ∀ q ∈ liveL x nm, 0 ≤ q.time ∧ q.time ≤ 9007199254740991 := fun q hq => by
      obtain ⟨r, hr, hm⟩ := filesOf_mem (List.mem_filter.1 hq).1
      have := tm.tm r hr q hm
      have := tm.n1
      omega
    refine t_loopJ (R := R) (fun z : Nat × Value × List (ByteArray × Int) => (liveL x nm).length - z.1) (fun z => OSl heldR 2 105 z.2.1 z.2.2 :: own bk [.int .i64 p.last, .int .i64 p.young, .int .i64 p.step, .int .i64 p.count] 35 :: own ba [.int .i64 0, .int .i64 0, nilS, nilS] 31 :: XP b f s o x)
      (fun z => [(0, ptr b), (4, ptr ba), (5, ptr bk), (6, z.2.1), (8, .string nm), (9, ud), (63, ud), (64, .int .i64 (liveL x nm).length), (65, .int .i64 z.1), (49, .slice (some ⟨b1, o1, none⟩) ns.length cap1), (50, .int .i64 ns.length), (51, .int .i64 j)])
      (fun z _ => z.1 ≤ (liveL x nm).length ∧ z.2.2 = acc ++ goneI x.now (liveL x nm) (kpOf p) nm z.1) (0, w, acc) (by repeat (first | exact trivial | refine ⟨rfl, ?_⟩)) ⟨Nat.zero_le _, by simp [goneI]⟩ ?_
    rintro ⟨i, w2, acc2⟩ F12 le8 hg2 ih2
    dsimp only at hg2 ih2 ⊢
    obtain ⟨hi, hacc2⟩ := hg2
    repeat (first | refine t_seq ?_ | refine t_region ?_ | refine to_nil ?_ | refine to_q rfl rfl rfl ?_)
    refine t_condT rfl (fun h2 => ?_) (fun h2 => ?_)
    · simp only [decide_eq_true_eq] at h2
      have hlt2 : i < (liveL x nm).length := by omega
      have hc2 := List.getElem?_eq_getElem hlt2
      generalize (liveL x nm)[i] = q at hc2
      have hgi : goneI x.now (liveL x nm) (kpOf p) nm (i + 1) = goneI x.now (liveL x nm) (kpOf p) nm i ++ (if staysX x.now (liveL x nm) i q (kpOf p) then [] else [(nm, q.gen)]) := by rw [goneI, hc2]
      have hgl := goneI_len x.now (liveL x nm) (kpOf p) nm i
      have hal : acc2.length ≤ 4096 := by rw [hacc2, List.length_append]; omega
      obtain ⟨b2, o2, cap2, u2, e4, hl2, hr2, hro2⟩ := slR_elem (P := Tryz.prog) (t := 85) (by_ := 40) hu7 hc2
      subst e4
      cases hr2
      repeat (first | refine t_seq ?_ | refine t_block ?_ | refine t_region ?_ | refine t_skip ?_ | refine to_q rfl rfl rfl ?_)
      refine to_ia rfl rfl rfl rfl hl2 ?_
      refine to_ldV (F1 := F11) (ρ := verR) (q := q) rfl hro2 rfl rfl ?_
      repeat (first | refine t_seq ?_ | refine t_region ?_ | refine to_nil ?_ | refine to_q rfl rfl rfl ?_ | refine to_ldA rfl rfl rfl ?_ | refine to_stA rfl rfl rfl rfl rfl rfl ?_ | refine to_alloc rfl fun _ => ?_)
      refine to_call rfl rfl (stays_sp b f s o x _ (liveL x nm) i q (kpOf p) _ hkp tm.n0 tm.n1 (vsR.mono le8.h hu7) hc2 (by omega) htime) fun v3 B F13 le9 h9 => ?_
      obtain ⟨rfl, rfl⟩ := h9
      repeat (first | refine to_nil ?_ | refine to_q rfl rfl rfl ?_)
      refine t_condT rfl (fun h3 => ?_) (fun h3 => ?_)
      · simp only [Bool.not_eq_true'] at h3
        repeat (first | refine t_region ?_ | refine to_q rfl rfl rfl ?_ | refine to_fa rfl rfl ?_ | refine to_ld rfl rfl rfl ?_ | refine to_bs rfl rfl rfl rfl ?_)
        refine to_bsl (len := 1) rfl rfl rfl rfl fun b3 => ?_
        refine to_app1 (ρ := heldR) (q := (nm, q.gen)) (u := .agg #[.string nm, .int .i64 q.gen]) rfl rfl rfl rfl rfl rfl (by omega) fun w3 => ?_
        repeat (first | refine t_region ?_ | refine to_nil ?_ | refine t_inBlock ?_ | refine to_q rfl rfl rfl ?_ | refine to_add rfl rfl rfl (by omega) (by omega) ?_)
        refine t_re (A := OSl heldR 2 105 w3 (acc2 ++ [(nm, q.gen)]) :: own bk [.int .i64 p.last, .int .i64 p.young, .int .i64 p.step, .int .i64 p.count] 35 :: own ba [.int .i64 0, .int .i64 0, nilS, nilS] 31 :: XP b f s o x) (R := R)
          (ih2 (i + 1, w3, acc2 ++ [(nm, q.gen)]) F13 le9 (by dsimp only; omega) ⟨by dsimp only; omega, by dsimp only; rw [hgi, h3, hacc2, List.append_assoc]; rfl⟩) (by repeat (first | exact trivial | refine ⟨rfl, ?_⟩))
      · simp only [Bool.not_eq_false'] at h3
        repeat (first | refine t_region ?_ | refine to_nil ?_ | refine t_skip ?_ | refine t_inBlock ?_ | refine to_q rfl rfl rfl ?_ | refine to_add rfl rfl rfl (by omega) (by omega) ?_)
        refine t_re (A := OSl heldR 2 105 w2 acc2 :: own bk [.int .i64 p.last, .int .i64 p.young, .int .i64 p.step, .int .i64 p.count] 35 :: own ba [.int .i64 0, .int .i64 0, nilS, nilS] 31 :: XP b f s o x) (R := R)
          (ih2 (i + 1, w2, acc2) F13 le9 (by dsimp only; omega) ⟨by dsimp only; omega, by dsimp only; rw [hgi, h3, hacc2]; simp⟩) (by repeat (first | exact trivial | refine ⟨rfl, ?_⟩))
    · simp only [decide_eq_false_iff_not] at h2
      have hie : i = (liveL x nm).length := by omega
      repeat (first | refine t_region ?_ | refine to_nil ?_ | refine t_inBlock ?_ | refine to_q rfl rfl rfl ?_ | refine to_add rfl rfl rfl (by omega) (by omega) ?_ | refine t_exit rfl ?_)
      refine t_re (A := OSl heldR 2 105 w2 acc2 :: own bk [.int .i64 p.last, .int .i64 p.young, .int .i64 p.step, .int .i64 p.count] 35 :: own ba [.int .i64 0, .int .i64 0, nilS, nilS] 31 :: XP b f s o x) (R := R)
        (ih (j + 1, w2, acc2) F12 ⟨(((le5.h.trans le6.h).trans le7.h).trans le8.h)⟩ (by dsimp only; omega) ⟨by dsimp only; omega, by dsimp only; rw [htk, goneL_snoc, hacc2, hacc, hie]; rfl⟩) (by repeat (first | exact trivial | refine ⟨rfl, ?_⟩))
  · simp only [decide_eq_false_iff_not] at h
    have hjl : ns.take j = ns := List.take_of_length_le (by omega)
    rw [hjl] at hacc
    have hgl := goneL_len ok (kpOf p) ns
    repeat (first | refine t_seq ?_ | refine t_block ?_ | refine t_region ?_ | refine to_nil ?_ | refine to_q rfl rfl rfl ?_ | refine to_lenO rfl rfl rfl ?_ | refine t_exit rfl ?_)
    rw [hacc]
    generalize hgg : goneL x (kpOf p) ns = gl at hlv hdd good hgl
    refine t_freeze w fun F9 le5 hw => ?_
    refine t_loopJ (R := R) (fun z : Nat × XM => gl.length - z.1) (fun z => own bk [.int .i64 p.last, .int .i64 p.young, .int .i64 p.step, .int .i64 p.count] 35 :: own ba [.int .i64 0, .int .i64 0, nilS, nilS] 31 :: XP b f s o z.2)
      (fun z => [(0, ptr b), (4, ptr ba), (6, w), (85, w), (86, .int .i64 gl.length), (87, .int .i64 z.1)])
      (fun z _ => z.1 ≤ gl.length ∧ Drops x (gl.take z.1) z.2 ∧ XLen z.2 ∧ z.2.files.length ≤ 64 ∧ ND z.2 ∧ ∀ h ∈ gl.drop z.1, LiveIn z.2 h.1 h.2) (0, x) (by repeat (first | exact trivial | refine ⟨rfl, ?_⟩)) ⟨Nat.zero_le _, .nil x, ok.len, ok.fl, nd, fun h hh => (hlv h hh).1⟩ ?_
    rintro ⟨i, y⟩ F10 le6 hg2 ih2
    dsimp only at hg2 ih2 ⊢
    obtain ⟨hi, hdr, hxl, hfl, hndy, hlvy⟩ := hg2
    repeat (first | refine t_seq ?_ | refine t_region ?_ | refine to_nil ?_ | refine to_q rfl rfl rfl ?_)
    refine t_condT rfl (fun h2 => ?_) (fun h2 => ?_)
    · simp only [decide_eq_true_eq] at h2
      have hlt2 : i < gl.length := by omega
      have hc2 := List.getElem?_eq_getElem hlt2
      have htk2 : gl.take (i + 1) = gl.take i ++ [gl[i]] := by rw [List.take_add_one, hc2]; rfl
      have hdp2 : gl.drop i = gl[i] :: gl.drop (i + 1) := List.drop_eq_getElem_cons hlt2
      generalize gl[i] = g at hc2 htk2 hdp2
      have hnd2 : (g :: gl.drop (i + 1)).Nodup := by rw [← hdp2]; exact hdd.sublist (List.drop_sublist _ _)
      rw [List.nodup_cons] at hnd2
      obtain ⟨ix, q, hla, hqx, hgo, hge⟩ := (hlvy g (by rw [hdp2]; exact List.mem_cons_self)).at (hlv g (List.mem_of_getElem? hc2)).2
      have hat : atI y g.1 g.2 = ix := by simp [atI, hla]
      obtain ⟨b2, o2, cap2, u2, e4, hl2, hr2, hro2⟩ := slR_elem (P := Tryz.prog) (t := 105) (by_ := 24) hw hc2
      subst e4
      cases hr2
      repeat (first | refine t_seq ?_ | refine t_block ?_ | refine t_region ?_ | refine t_skip ?_)
      refine to_ia rfl rfl rfl rfl hl2 ?_
      refine to_ldV (F1 := F9) (ρ := heldR) (q := g) rfl hro2 rfl rfl ?_
      repeat (first | refine to_nil ?_ | refine to_stA rfl rfl rfl rfl rfl rfl ?_ | refine to_alloc rfl fun _ => ?_)
      rename_i bh
      refine t_drawnT [bh] (by kernel_rfl) (by kernel_rfl) ?_
      repeat (first | refine to_q rfl rfl rfl ?_ | refine to_fa rfl rfl ?_ | refine to_ldK rfl rfl rfl ?_)
      refine to_callK rfl rfl (at_sp b f s o y g.1 g.2 _ (by have := hxl.of g.1; omega)) fun v2 B F11 le_F11 h_F11 => ?_
      obtain ⟨rfl, rfl⟩ := h_F11
      refine ⟨inferInstance, ?_⟩
      rw [hat]
      refine to_callK rfl rfl (drop_sp b f s o y g.1 ix q hqx _ hxl (by omega)) fun v3 B F12 le_F12 h_F12 => ?_
      obtain ⟨z, hz, rfl⟩ := h_F12
      refine ⟨inferInstance, ?_⟩
      have hv := hz.view (hndy.markG _ _)
      have hl3 := markG_flen hndy hqx
      have hl4 := hv.flen
      repeat (first | refine t_region ?_ | refine to_nil ?_ | refine t_inBlock ?_ | refine t_out ?_ | refine to_q rfl rfl rfl ?_ | refine to_add rfl rfl rfl (by omega) (by omega) ?_)
      refine t_re (A := own bk [.int .i64 p.last, .int .i64 p.young, .int .i64 p.step, .int .i64 p.count] 35 :: own ba [.int .i64 0, .int .i64 0, nilS, nilS] 31 :: XP b f s o z) (R := R)
        (ih2 (i + 1, z) F12 ⟨le_F11.h.trans le_F12.h⟩ (by dsimp only; omega) ⟨by dsimp only; omega, by dsimp only; rw [htk2]; exact hdr.snoc hla hz, hv.xlen (hxl.markG _ _), by dsimp only; omega, hv.nd, fun h hh => LiveIn.drop hqx hv (hlvy h (by rw [hdp2]; exact List.mem_cons_of_mem _ hh)) fun e => hnd2.1 (by
          have : g = h := Prod.ext e.1.symm (hge.symm.trans e.2.symm)
          rw [this]; exact hh)⟩) (by repeat (first | exact trivial | refine ⟨rfl, ?_⟩))
    · simp only [decide_eq_false_iff_not] at h2
      have hil : gl.take i = gl := List.take_of_length_le (by omega)
      rw [hil] at hdr
      repeat (first | refine t_seq ?_ | refine t_region ?_ | refine to_q rfl rfl rfl ?_ | refine t_exit rfl ?_)
      refine to_lenR (ρ := heldR) (n := 2) hw rfl rfl rfl ?_
      repeat (first | refine to_nil ?_ | refine to_stA rfl rfl rfl rfl rfl rfl ?_ | refine to_bs rfl rfl rfl rfl ?_)
      exact t_ret (XP b f s o y) Tryz.func36 (.cellA rfl rfl .nil) ⟨0, gl.length, y, good y hdr, rfl, rfl⟩
end Go.Proofs.YtbffngeameenoaaGreat
end

section
set_option maxRecDepth 100000
set_option linter.unusedVariables false
set_option linter.unusedSimpArgs false
namespace Go.Proofs.YtbffngeameenoaaGreat
open Go Go.Au
attribute [local irreducible] T TO

def ToldX (x : XM) (p : Op1) (r : Ans) : Prop :=
  if p.do_ = 5 then r = readX x p else if p.do_ = 6 then r = cutX x p else if p.do_ = 7 then r = shownX x p else if p.do_ = 8 then r = ((statX x p).1, (statX x p).2, [], [])
  else ∃ ks, ks.Perm (x.files.map (·.1)) ∧ r = (0, 0, [], namesL x (sortB ks))
/-- what a snapshot shows is there -/
def ShOk (x : XM) : Prop := ∀ s nm g, shotGen x s nm = some g → ∃ q, (filesOf x nm).find? (fun q => q.gen == g) = some q
theorem told_sp (b f s o : Nat) (x : XM) (p : Op1) (bv cv ct ca : Value) (F : Frz) (ok : XOk x) (sh : ShOk x) :
    Sp Tryz.prog 31 [ptr b, opV p bv cv ct ca] (XP b f s o x) F (fun v B F' => ∃ r, ToldX x p r ∧ ansQ (XP b f s o x) r v B F') := by
  refine sp_of Tryz.func31 rfl (by kernel_rfl) rfl fun R => ?_
  repeat (first | refine t_seq ?_ | refine t_block ?_ | refine t_region ?_ | refine to_nil ?_ | refine to_q rfl rfl rfl ?_ | refine to_fa rfl rfl ?_ | refine to_ld rfl rfl rfl ?_ | refine to_alloc rfl fun _ => ?_
                | refine to_boxA rfl rfl fun _ => ?_)
  refine t_condT rfl (fun h5 => ?_) (fun h5 => ?_)
  · simp only [beq_iff_eq] at h5
    repeat (first | refine t_seq ?_ | refine t_region ?_ | refine to_q rfl rfl rfl ?_ | refine to_ldA rfl rfl rfl ?_)
    refine to_call rfl rfl (read_sp b f s o x p bv cv ct ca _ ok) fun v B F2 le h => ?_
    obtain ⟨bv2, nv2, rfl, hn2, rfl⟩ := h
    obtain ⟨na, ncap, rfl⟩ := slR_len hn2
    refine to_sform bv2 fun a2 c2 e2 => ?_
    subst e2
    repeat (first | refine to_nil ?_ | refine to_stA rfl rfl rfl rfl rfl rfl ?_)
    exact t_ret (OSl u8R 1 5 (.slice a2 (readX x p).2.2.1.length c2) (readX x p).2.2.1 :: XP b f s o x) Tryz.func31 (.cellA rfl rfl .nil) ⟨readX x p, by simp [ToldX, h5], _, _, rfl, hn2, rfl⟩
  simp only [beq_eq_false_iff_ne] at h5
  repeat (first | refine t_seq ?_ | refine t_region ?_ | refine to_nil ?_ | refine to_q rfl rfl rfl ?_)
  refine t_condT rfl (fun h6 => ?_) (fun h6 => ?_)
  · simp only [beq_iff_eq] at h6
    repeat (first | refine t_seq ?_ | refine t_region ?_ | refine to_q rfl rfl rfl ?_ | refine to_ldA rfl rfl rfl ?_)
    refine to_call rfl rfl (cut_sp b f s o x p bv cv ct ca _ ok) fun v B F2 le h => ?_
    obtain ⟨bv2, nv2, rfl, hn2, rfl⟩ := h
    obtain ⟨na, ncap, rfl⟩ := slR_len hn2
    refine to_sform bv2 fun a2 c2 e2 => ?_
    subst e2
    repeat (first | refine to_nil ?_ | refine to_stA rfl rfl rfl rfl rfl rfl ?_)
    exact t_ret (OSl u8R 1 5 (.slice a2 (cutX x p).2.2.1.length c2) (cutX x p).2.2.1 :: XP b f s o x) Tryz.func31 (.cellA rfl rfl .nil) ⟨cutX x p, by simp [ToldX, h6], _, _, rfl, hn2, rfl⟩
  simp only [beq_eq_false_iff_ne] at h6
  repeat (first | refine t_seq ?_ | refine t_region ?_ | refine to_nil ?_ | refine to_q rfl rfl rfl ?_)
  refine t_condT rfl (fun h7 => ?_) (fun h7 => ?_)
  · simp only [beq_iff_eq] at h7
    repeat (first | refine t_seq ?_ | refine t_region ?_ | refine to_q rfl rfl rfl ?_ | refine to_ldA rfl rfl rfl ?_)
    refine to_call rfl rfl (shown_sp b f s o x p bv cv ct ca _ ok (sh _ _)) fun v B F2 le h => ?_
    obtain ⟨bv2, nv2, rfl, hn2, rfl⟩ := h
    obtain ⟨na, ncap, rfl⟩ := slR_len hn2
    refine to_sform bv2 fun a2 c2 e2 => ?_
    subst e2
    repeat (first | refine to_nil ?_ | refine to_stA rfl rfl rfl rfl rfl rfl ?_)
    exact t_ret (OSl u8R 1 5 (.slice a2 (shownX x p).2.2.1.length c2) (shownX x p).2.2.1 :: XP b f s o x) Tryz.func31 (.cellA rfl rfl .nil) ⟨shownX x p, by simp [ToldX, h7], _, _, rfl, hn2, rfl⟩
  simp only [beq_eq_false_iff_ne] at h7
  repeat (first | refine t_seq ?_ | refine t_region ?_ | refine to_nil ?_ | refine to_q rfl rfl rfl ?_)
  refine t_condT rfl (fun h8 => ?_) (fun h8 => ?_)
  · simp only [beq_iff_eq] at h8
    repeat (first | refine t_seq ?_ | refine t_region ?_ | refine to_q rfl rfl rfl ?_ | refine to_ldA rfl rfl rfl ?_)
    refine to_call rfl rfl (stat_sp b f s o x p bv cv ct ca _ ok) fun v B F2 le h => ?_
    obtain ⟨rfl, rfl⟩ := h
    repeat (first | refine to_nil ?_ | refine to_stA rfl rfl rfl rfl rfl rfl ?_)
    refine t_emp u8R 1 5 none ?_
    exact t_ret (OSl u8R 1 5 nilS [] :: XP b f s o x) Tryz.func31 (.cellA rfl rfl .nil) ⟨((statX x p).1, (statX x p).2, [], []), by simp [ToldX, h8], ansQ_plain _ _ _ _⟩
  simp only [beq_eq_false_iff_ne] at h8
  repeat (first | refine t_seq ?_ | refine t_region ?_ | refine t_skip ?_ | refine t_inBlock ?_ | refine to_q rfl rfl rfl ?_)
  refine to_call rfl rfl (names_sp b f s o x _ ok) fun v B F2 le h => ?_
  obtain ⟨ks, hks, hv, rfl⟩ := h
  obtain ⟨na, ncap, hve⟩ := slR_len hv
  subst hve
  repeat (first | refine to_nil ?_ | refine to_stA rfl rfl rfl rfl rfl rfl ?_ | refine to_bs rfl rfl rfl rfl ?_)
  refine t_emp u8R 1 5 none ?_
  exact t_ret (OSl u8R 1 5 nilS [] :: XP b f s o x) Tryz.func31 (.cellA rfl rfl .nil) ⟨(0, 0, [], namesL x (sortB ks)), by simp only [ToldX, h5, h6, h7, h8, if_false]; exact ⟨ks, hks, rfl⟩, _, _, rfl, hv, rfl⟩
end Go.Proofs.YtbffngeameenoaaGreat
end

section
set_option maxRecDepth 100000
set_option linter.unusedVariables false
set_option linter.unusedSimpArgs false
namespace Go.Proofs.YtbffngeameenoaaGreat
open Go Go.Au
attribute [local irreducible] T TO

/-- What a model is held within, altogether. -/
structure XAll (x : XM) : Prop where
  ok : XOk x
  tm : XTm x
  sh : ShOk x
  nd : ND x
  gn : ∀ nm, ((filesOf x nm).map (·.gen)).Nodup
  q0 : -9223372036854775808 ≤ x.quota
  q1 : x.quota ≤ 9223372036854775807
  b0 : 0 ≤ x.began
  b1 : x.began ≤ 4611686018427387904
structure OpOk (p : Op1) : Prop where
  nm : p.name.size ≤ 9223372036854775807
  sh : p.shot.size ≤ 9223372036854775807
  n1 : p.n ≤ 9223372036854775807
theorem goneI_mem {now : Int} {l : List Ver} {k : Kp} {nm : ByteArray} {h : ByteArray × Int} : ∀ {i : Nat}, h ∈ goneI now l k nm i → ∃ j q, j < i ∧ l[j]? = some q ∧ h = (nm, q.gen) ∧ staysX now l j q k = false
  | 0, hm => by simp [goneI] at hm
  | i + 1, hm => by
    unfold goneI at hm
    rcases List.mem_append.1 hm with hm | hm
    · obtain ⟨j, q, h1, h2, h3⟩ := goneI_mem hm
      exact ⟨j, q, by omega, h2, h3⟩
    · cases hq : l[i]? with
      | none => rw [hq] at hm; simp at hm
      | some q =>
        rw [hq] at hm
        cases hs : staysX now l i q k with
        | true => simp [hs] at hm
        | false =>
          simp [hs] at hm
          exact ⟨i, q, by omega, hq, hm, hs⟩
theorem goneI_nd {now : Int} {l : List Ver} {k : Kp} {nm : ByteArray} (nd : (l.map (·.gen)).Nodup) : ∀ i : Nat, (goneI now l k nm i).Nodup
  | 0 => by simp [goneI]
  | i + 1 => by
    have ih := goneI_nd (now := now) (k := k) (nm := nm) nd i
    unfold goneI
    cases hq : l[i]? with
    | none => simpa using ih
    | some q =>
      cases hs : staysX now l i q k with
      | true => simpa [hs] using ih
      | false =>
        simp only [hs, Bool.false_eq_true, if_false]
        refine snoc_nd ih fun hm => ?_
        obtain ⟨j, q', h1, h2, h3, _⟩ := goneI_mem hm
        have hg : q.gen = q'.gen := congrArg Prod.snd h3
        have hj : (l.map (·.gen))[j]? = some q'.gen := by rw [List.getElem?_map, h2]; rfl
        have hi : (l.map (·.gen))[i]? = some q'.gen := by rw [List.getElem?_map, hq, ← hg]; rfl
        have hjl := (List.getElem?_eq_some_iff.1 hj).1
        have hil := (List.getElem?_eq_some_iff.1 hi).1
        exact List.pairwise_iff_getElem.1 nd j i hjl hil h1 (by rw [(List.getElem?_eq_some_iff.1 hj).2, (List.getElem?_eq_some_iff.1 hi).2])
theorem liveL_nd {x : XM} (a : XAll x) (nm : ByteArray) : ((liveL x nm).map (·.gen)).Nodup := (a.gn nm).sublist (List.filter_sublist.map _)
theorem gone_live {x : XM} (a : XAll x) (k : Kp) (ns : List ByteArray) : ∀ h ∈ goneL x k ns, LiveIn x h.1 h.2 ∧ h.2 ≠ 0 := by
  intro h hm
  obtain ⟨nm, hn, hm⟩ := List.mem_flatMap.1 hm
  obtain ⟨j, q, h1, h2, rfl, _⟩ := goneI_mem hm
  have hq := List.mem_filter.1 (List.mem_of_getElem? h2)
  obtain ⟨r, hr, hv⟩ := filesOf_mem hq.1
  have := a.ok.fg r hr q hv
  exact ⟨⟨q, hq.1, by simpa using hq.2, rfl⟩, by show q.gen ≠ 0; omega⟩
theorem gone_nd {x : XM} (a : XAll x) (k : Kp) : ∀ {ns : List ByteArray}, ns.Nodup → (goneL x k ns).Nodup
  | [], _ => by simp [goneL]
  | n :: ns, nd => by
    rw [List.nodup_cons] at nd
    have ih := gone_nd a k nd.2
    unfold goneL at ih ⊢
    rw [List.flatMap_cons, List.nodup_append]
    refine ⟨goneI_nd (liveL_nd a n) _, ih, fun g hg h hh e => ?_⟩
    obtain ⟨j, q, _, _, rfl, _⟩ := goneI_mem hg
    obtain ⟨nm, hn, hm⟩ := List.mem_flatMap.1 hh
    obtain ⟨j2, q2, _, _, rfl, _⟩ := goneI_mem hm
    have : n = nm := congrArg Prod.fst e
    exact nd.1 (by rw [this]; exact hn)
theorem sortB_nd {x : XM} (nd : ND x) {ks : List ByteArray} (h : ks.Perm (x.files.map (·.1))) : (sortB ks).Nodup := ((sortB_perm ks).trans h).nodup_iff.2 nd
def plX (t : Int × Int × XM) (r : Ans) (y : XM) : Prop := r = (t.1, t.2.1, [], []) ∧ y = t.2.2
def exX (Q : Int → Int → XM → Prop) (r : Ans) (y : XM) : Prop := ∃ e n, Q e n y ∧ r = (e, n, [], [])
def DoX (x : XM) (p : Op1) (sp : Bool) (r : Ans) (y : XM) : Prop :=
  if p.do_ = 1 then plX (beginX x p) r y else if p.do_ = 2 then plX (writeX x p sp) r y else if p.do_ = 3 then plX (commitX x p sp) r y else if p.do_ = 4 then plX (abortX x p) r y
  else if p.do_ = 5 ∨ p.do_ = 6 ∨ p.do_ = 7 ∨ p.do_ = 8 ∨ p.do_ = 9 then ToldX x p r ∧ y = x
  else if p.do_ = 10 then exX (RemoveX x p) r y else if p.do_ = 11 then exX (SnapX x p sp) r y else if p.do_ = 12 then exX (UnsnapX x p) r y
  else if p.do_ = 13 then plX (tickX x p) r y else if p.do_ = 14 then exX (ExpireX x p) r y else if p.do_ = 15 then plX (cleanX x p sp) r y
  else if p.do_ = 16 ∨ p.do_ = 17 ∨ p.do_ = 18 ∨ p.do_ = 19 ∨ p.do_ = 20 ∨ p.do_ = 21 then r = (0, 0, [], []) ∧ y = x
  else r = (4, 0, [], []) ∧ y = x
def doQ (b f s o : Nat) (x : XM) (p : Op1) (sp c : Bool) (bv : Value) : Fin := fun v B F' => ∃ r y, DoX x p sp r y ∧ ansQ (byH c 5 bv p.bytes :: XP b f s o y) r v B F'
theorem do_nil (p : Op1) (sp : Bool) (bv cv ct ca : Value) (F : Frz) :
    Sp Tryz.prog 7 [.pointer none, opV p bv cv ct ca, .bool sp] [] F (fun v B F' => v = ansV 1 0 nilS nilS ∧ B = []) := by
  refine sp_of Tryz.func7 rfl (by kernel_rfl) rfl fun R => ?_
  repeat (first | refine t_seq ?_ | refine t_region ?_ | refine to_nil ?_ | refine to_q rfl rfl rfl ?_ | refine to_alloc rfl fun _ => ?_ | refine to_boxA rfl rfl fun _ => ?_ | refine to_nilP rfl rfl rfl ?_
                | refine t_cond (t := true) rfl (fun _ => ?_) (fun h => nomatch h))
  refine to_call rfl rfl (wrong_sp 1 _) fun v B F2 _ h => ?_
  obtain ⟨rfl, rfl⟩ := h
  repeat (first | refine to_nil ?_ | refine to_stA rfl rfl rfl rfl rfl rfl ?_)
  exact t_ret [] Tryz.func7 (.cellA rfl rfl .nil) ⟨rfl, rfl⟩
set_option maxHeartbeats 2000000 in
theorem do_sp (b f s o : Nat) (x : XM) (p : Op1) (sp c : Bool) (bv cv ct ca : Value) (F : Frz) (a : XAll x) (po : OpOk p) :
    Sp Tryz.prog 7 [ptr b, opV p bv cv ct ca, .bool sp] (byH c 5 bv p.bytes :: XP b f s o x) F (doQ b f s o x p sp c bv) := by
  refine sp_of Tryz.func7 rfl (by kernel_rfl) rfl fun R => ?_
  repeat (first | refine t_seq ?_ | refine t_block ?_ | refine t_region ?_ | refine to_nil ?_ | refine t_skip ?_ | refine to_q rfl rfl rfl ?_ | refine to_fa rfl rfl ?_ | refine to_ld rfl rfl rfl ?_
                | refine to_alloc rfl fun _ => ?_ | refine to_boxA rfl rfl fun _ => ?_ | refine to_nilP rfl rfl rfl ?_ | refine t_cond (t := false) rfl (fun h => nomatch h) (fun _ => ?_))
  refine t_condT rfl (fun h1 => ?_) (fun h1 => ?_)
  · simp only [beq_iff_eq] at h1
    repeat (first | refine t_seq ?_ | refine t_region ?_ | refine to_q rfl rfl rfl ?_ | refine to_ldA rfl rfl rfl ?_)
    refine to_call rfl rfl (begin_sp b f s o x p bv cv ct ca _ po.nm a.b0 a.b1) fun v B F2 le h => ?_
    obtain ⟨rfl, rfl⟩ := h
    repeat (first | refine to_nil ?_ | refine to_stA rfl rfl rfl rfl rfl rfl ?_)
    refine t_emp u8R 1 5 none ?_
    exact t_ret (OSl u8R 1 5 nilS [] :: byH c 5 bv p.bytes :: XP b f s o (beginX x p).2.2) Tryz.func7 (.cellA rfl rfl .nil) ⟨_, _, by simp [DoX, h1]; exact ⟨rfl, rfl⟩, ansQ_plain _ _ _ _⟩
  simp only [beq_eq_false_iff_ne] at h1
  repeat (first | refine t_seq ?_ | refine t_region ?_ | refine to_nil ?_ | refine to_q rfl rfl rfl ?_)
  refine t_condT rfl (fun h2 => ?_) (fun h2 => ?_)
  · simp only [beq_iff_eq] at h2
    repeat (first | refine t_seq ?_ | refine t_region ?_ | refine to_q rfl rfl rfl ?_ | refine to_ldA rfl rfl rfl ?_)
    refine to_call rfl rfl (write_sp b f s o x p sp c bv cv ct ca _ a.ok a.q1 a.q0) fun v B F2 le h => ?_
    obtain ⟨rfl, rfl⟩ := h
    repeat (first | refine to_nil ?_ | refine to_stA rfl rfl rfl rfl rfl rfl ?_)
    refine t_emp u8R 1 5 none ?_
    exact t_ret (OSl u8R 1 5 nilS [] :: byH c 5 bv p.bytes :: XP b f s o (writeX x p sp).2.2) Tryz.func7 (.cellA rfl rfl .nil) ⟨_, _, by simp [DoX, h2]; exact ⟨rfl, rfl⟩, ansQ_plain _ _ _ _⟩
  simp only [beq_eq_false_iff_ne] at h2
  repeat (first | refine t_seq ?_ | refine t_region ?_ | refine to_nil ?_ | refine to_q rfl rfl rfl ?_)
  refine t_condT rfl (fun h3 => ?_) (fun h3 => ?_)
  · simp only [beq_iff_eq] at h3
    repeat (first | refine t_seq ?_ | refine t_region ?_ | refine to_q rfl rfl rfl ?_ | refine to_ldA rfl rfl rfl ?_)
    refine to_call rfl rfl (commit_sp b f s o x p sp bv cv ct ca _ a.ok) fun v B F2 le h => ?_
    obtain ⟨rfl, rfl⟩ := h
    repeat (first | refine to_nil ?_ | refine to_stA rfl rfl rfl rfl rfl rfl ?_)
    refine t_emp u8R 1 5 none ?_
    exact t_ret (OSl u8R 1 5 nilS [] :: byH c 5 bv p.bytes :: XP b f s o (commitX x p sp).2.2) Tryz.func7 (.cellA rfl rfl .nil) ⟨_, _, by simp [DoX, h3]; exact ⟨rfl, rfl⟩, ansQ_plain _ _ _ _⟩
  simp only [beq_eq_false_iff_ne] at h3
  repeat (first | refine t_seq ?_ | refine t_region ?_ | refine to_nil ?_ | refine to_q rfl rfl rfl ?_)
  refine t_condT rfl (fun h4 => ?_) (fun h4 => ?_)
  · simp only [beq_iff_eq] at h4
    repeat (first | refine t_seq ?_ | refine t_region ?_ | refine to_q rfl rfl rfl ?_ | refine to_ldA rfl rfl rfl ?_)
    refine to_call rfl rfl (abort_sp b f s o x p bv cv ct ca _) fun v B F2 le h => ?_
    obtain ⟨rfl, rfl⟩ := h
    repeat (first | refine to_nil ?_ | refine to_stA rfl rfl rfl rfl rfl rfl ?_)
    refine t_emp u8R 1 5 none ?_
    exact t_ret (OSl u8R 1 5 nilS [] :: byH c 5 bv p.bytes :: XP b f s o (abortX x p).2.2) Tryz.func7 (.cellA rfl rfl .nil) ⟨_, _, by simp [DoX, h4]; exact ⟨rfl, rfl⟩, ansQ_plain _ _ _ _⟩
  simp only [beq_eq_false_iff_ne] at h4
  repeat (first | refine t_seq ?_ | refine t_region ?_ | refine to_nil ?_ | refine to_q rfl rfl rfl ?_)
  refine t_condT rfl (fun h5 => ?_) (fun h5 => ?_)
  · simp only [beq_iff_eq] at h5
    repeat (first | refine t_seq ?_ | refine t_region ?_ | refine t_skip ?_ | refine to_q rfl rfl rfl ?_ | refine to_ldA rfl rfl rfl ?_ | refine t_cond (t := true) rfl (fun _ => ?_) (fun h => nomatch h))
    refine to_call rfl rfl (told_sp b f s o x p bv cv ct ca _ a.ok a.sh) fun v B F2 le h => ?_
    obtain ⟨r, hr, bv2, nv2, rfl, hn2, rfl⟩ := h
    obtain ⟨na, ncap, rfl⟩ := slR_len hn2
    refine to_sform bv2 fun a2 c2 e2 => ?_
    subst e2
    repeat (first | refine to_nil ?_ | refine to_stA rfl rfl rfl rfl rfl rfl ?_)
    exact t_ret (OSl u8R 1 5 (.slice a2 r.2.2.1.length c2) r.2.2.1 :: byH c 5 bv p.bytes :: XP b f s o x) Tryz.func7 (.cellA rfl rfl .nil) ⟨r, x, by simp [DoX, h5]; exact hr, _, _, rfl, hn2, rfl⟩
  simp only [beq_eq_false_iff_ne] at h5
  repeat (first | refine t_seq ?_ | refine t_region ?_ | refine to_nil ?_ | refine to_q rfl rfl rfl ?_)
  refine t_condT rfl (fun h6 => ?_) (fun h6 => ?_)
  · simp only [beq_iff_eq] at h6
    repeat (first | refine t_seq ?_ | refine t_region ?_ | refine t_skip ?_ | refine to_q rfl rfl rfl ?_ | refine to_ldA rfl rfl rfl ?_ | refine t_cond (t := true) rfl (fun _ => ?_) (fun h => nomatch h))
    refine to_call rfl rfl (told_sp b f s o x p bv cv ct ca _ a.ok a.sh) fun v B F2 le h => ?_
    obtain ⟨r, hr, bv2, nv2, rfl, hn2, rfl⟩ := h
    obtain ⟨na, ncap, rfl⟩ := slR_len hn2
    refine to_sform bv2 fun a2 c2 e2 => ?_
    subst e2
    repeat (first | refine to_nil ?_ | refine to_stA rfl rfl rfl rfl rfl rfl ?_)
    exact t_ret (OSl u8R 1 5 (.slice a2 r.2.2.1.length c2) r.2.2.1 :: byH c 5 bv p.bytes :: XP b f s o x) Tryz.func7 (.cellA rfl rfl .nil) ⟨r, x, by simp [DoX, h6]; exact hr, _, _, rfl, hn2, rfl⟩
  simp only [beq_eq_false_iff_ne] at h6
  repeat (first | refine t_seq ?_ | refine t_region ?_ | refine to_nil ?_ | refine to_q rfl rfl rfl ?_)
  refine t_condT rfl (fun h7 => ?_) (fun h7 => ?_)
  · simp only [beq_iff_eq] at h7
    repeat (first | refine t_seq ?_ | refine t_region ?_ | refine t_skip ?_ | refine to_q rfl rfl rfl ?_ | refine to_ldA rfl rfl rfl ?_ | refine t_cond (t := true) rfl (fun _ => ?_) (fun h => nomatch h))
    refine to_call rfl rfl (told_sp b f s o x p bv cv ct ca _ a.ok a.sh) fun v B F2 le h => ?_
    obtain ⟨r, hr, bv2, nv2, rfl, hn2, rfl⟩ := h
    obtain ⟨na, ncap, rfl⟩ := slR_len hn2
    refine to_sform bv2 fun a2 c2 e2 => ?_
    subst e2
    repeat (first | refine to_nil ?_ | refine to_stA rfl rfl rfl rfl rfl rfl ?_)
    exact t_ret (OSl u8R 1 5 (.slice a2 r.2.2.1.length c2) r.2.2.1 :: byH c 5 bv p.bytes :: XP b f s o x) Tryz.func7 (.cellA rfl rfl .nil) ⟨r, x, by simp [DoX, h7]; exact hr, _, _, rfl, hn2, rfl⟩
  simp only [beq_eq_false_iff_ne] at h7
  repeat (first | refine t_seq ?_ | refine t_region ?_ | refine to_nil ?_ | refine to_q rfl rfl rfl ?_)
  refine t_condT rfl (fun h8 => ?_) (fun h8 => ?_)
  · simp only [beq_iff_eq] at h8
    repeat (first | refine t_seq ?_ | refine t_region ?_ | refine t_skip ?_ | refine to_q rfl rfl rfl ?_ | refine to_ldA rfl rfl rfl ?_ | refine t_cond (t := true) rfl (fun _ => ?_) (fun h => nomatch h))
    refine to_call rfl rfl (told_sp b f s o x p bv cv ct ca _ a.ok a.sh) fun v B F2 le h => ?_
    obtain ⟨r, hr, bv2, nv2, rfl, hn2, rfl⟩ := h
    obtain ⟨na, ncap, rfl⟩ := slR_len hn2
    refine to_sform bv2 fun a2 c2 e2 => ?_
    subst e2
    repeat (first | refine to_nil ?_ | refine to_stA rfl rfl rfl rfl rfl rfl ?_)
    exact t_ret (OSl u8R 1 5 (.slice a2 r.2.2.1.length c2) r.2.2.1 :: byH c 5 bv p.bytes :: XP b f s o x) Tryz.func7 (.cellA rfl rfl .nil) ⟨r, x, by simp [DoX, h8]; exact hr, _, _, rfl, hn2, rfl⟩
  simp only [beq_eq_false_iff_ne] at h8
  repeat (first | refine t_region ?_ | refine to_nil ?_ | refine to_q rfl rfl rfl ?_)
  refine t_condT rfl (fun h9 => ?_) (fun h9 => ?_)
  · simp only [beq_iff_eq] at h9
    repeat (first | refine t_seq ?_ | refine t_region ?_ | refine to_q rfl rfl rfl ?_ | refine to_ldA rfl rfl rfl ?_)
    refine to_call rfl rfl (told_sp b f s o x p bv cv ct ca _ a.ok a.sh) fun v B F2 le h => ?_
    obtain ⟨r, hr, bv2, nv2, rfl, hn2, rfl⟩ := h
    obtain ⟨na, ncap, rfl⟩ := slR_len hn2
    refine to_sform bv2 fun a2 c2 e2 => ?_
    subst e2
    repeat (first | refine to_nil ?_ | refine to_stA rfl rfl rfl rfl rfl rfl ?_)
    exact t_ret (OSl u8R 1 5 (.slice a2 r.2.2.1.length c2) r.2.2.1 :: byH c 5 bv p.bytes :: XP b f s o x) Tryz.func7 (.cellA rfl rfl .nil) ⟨r, x, by simp [DoX, h9]; exact hr, _, _, rfl, hn2, rfl⟩
  simp only [beq_eq_false_iff_ne] at h9
  repeat (first | refine t_seq ?_ | refine t_region ?_ | refine to_nil ?_ | refine to_q rfl rfl rfl ?_)
  refine t_condT rfl (fun h10 => ?_) (fun h10 => ?_)
  · simp only [beq_iff_eq] at h10
    repeat (first | refine t_seq ?_ | refine t_region ?_ | refine to_q rfl rfl rfl ?_ | refine to_ldA rfl rfl rfl ?_)
    refine to_call rfl rfl (remove_sp b f s o x p bv cv ct ca _ a.ok) fun v B F2 le h => ?_
    obtain ⟨e, n, y, hy, rfl, rfl⟩ := h
    repeat (first | refine to_nil ?_ | refine to_stA rfl rfl rfl rfl rfl rfl ?_)
    refine t_emp u8R 1 5 none ?_
    exact t_ret (OSl u8R 1 5 nilS [] :: byH c 5 bv p.bytes :: XP b f s o y) Tryz.func7 (.cellA rfl rfl .nil) ⟨_, y, by simp [DoX, h10]; exact ⟨e, n, hy, rfl⟩, ansQ_plain _ _ _ _⟩
  simp only [beq_eq_false_iff_ne] at h10
  repeat (first | refine t_seq ?_ | refine t_region ?_ | refine to_nil ?_ | refine to_q rfl rfl rfl ?_)
  refine t_condT rfl (fun h11 => ?_) (fun h11 => ?_)
  · simp only [beq_iff_eq] at h11
    repeat (first | refine t_seq ?_ | refine t_region ?_ | refine to_q rfl rfl rfl ?_ | refine to_ldA rfl rfl rfl ?_)
    refine to_call rfl rfl (snap_sp b f s o x p sp bv cv ct ca _ a.ok po.sh) fun v B F2 le h => ?_
    obtain ⟨e, n, y, hy, rfl, rfl⟩ := h
    repeat (first | refine to_nil ?_ | refine to_stA rfl rfl rfl rfl rfl rfl ?_)
    refine t_emp u8R 1 5 none ?_
    exact t_ret (OSl u8R 1 5 nilS [] :: byH c 5 bv p.bytes :: XP b f s o y) Tryz.func7 (.cellA rfl rfl .nil) ⟨_, y, by simp [DoX, h11]; exact ⟨e, n, hy, rfl⟩, ansQ_plain _ _ _ _⟩
  simp only [beq_eq_false_iff_ne] at h11
  repeat (first | refine t_seq ?_ | refine t_region ?_ | refine to_nil ?_ | refine to_q rfl rfl rfl ?_)
  refine t_condT rfl (fun h12 => ?_) (fun h12 => ?_)
  · simp only [beq_iff_eq] at h12
    repeat (first | refine t_seq ?_ | refine t_region ?_ | refine to_q rfl rfl rfl ?_ | refine to_ldA rfl rfl rfl ?_)
    refine to_call rfl rfl (unsnap_sp b f s o x p bv cv ct ca _ a.ok po.sh) fun v B F2 le h => ?_
    obtain ⟨e, n, y, hy, rfl, rfl⟩ := h
    repeat (first | refine to_nil ?_ | refine to_stA rfl rfl rfl rfl rfl rfl ?_)
    refine t_emp u8R 1 5 none ?_
    exact t_ret (OSl u8R 1 5 nilS [] :: byH c 5 bv p.bytes :: XP b f s o y) Tryz.func7 (.cellA rfl rfl .nil) ⟨_, y, by simp [DoX, h12]; exact ⟨e, n, hy, rfl⟩, ansQ_plain _ _ _ _⟩
  simp only [beq_eq_false_iff_ne] at h12
  repeat (first | refine t_seq ?_ | refine t_region ?_ | refine to_nil ?_ | refine to_q rfl rfl rfl ?_)
  refine t_condT rfl (fun h13 => ?_) (fun h13 => ?_)
  · simp only [beq_iff_eq] at h13
    repeat (first | refine t_seq ?_ | refine t_region ?_ | refine to_q rfl rfl rfl ?_ | refine to_ldA rfl rfl rfl ?_)
    refine to_call rfl rfl (tick_sp b f s o x p bv cv ct ca _ a.tm.n0 a.tm.n1 po.n1) fun v B F2 le h => ?_
    obtain ⟨rfl, rfl⟩ := h
    repeat (first | refine to_nil ?_ | refine to_stA rfl rfl rfl rfl rfl rfl ?_)
    refine t_emp u8R 1 5 none ?_
    exact t_ret (OSl u8R 1 5 nilS [] :: byH c 5 bv p.bytes :: XP b f s o (tickX x p).2.2) Tryz.func7 (.cellA rfl rfl .nil) ⟨_, _, by simp [DoX, h13]; exact ⟨rfl, rfl⟩, ansQ_plain _ _ _ _⟩
  simp only [beq_eq_false_iff_ne] at h13
  repeat (first | refine t_seq ?_ | refine t_region ?_ | refine to_nil ?_ | refine to_q rfl rfl rfl ?_)
  refine t_condT rfl (fun h14 => ?_) (fun h14 => ?_)
  · simp only [beq_iff_eq] at h14
    repeat (first | refine t_seq ?_ | refine t_region ?_ | refine to_q rfl rfl rfl ?_ | refine to_ldA rfl rfl rfl ?_)
    refine to_call rfl rfl (expire_sp b f s o x p bv cv ct ca _ a.ok a.tm (fun ks _ => gone_live a _ _) (fun ks h => gone_nd a _ (sortB_nd a.nd h)) a.nd) fun v B F2 le h => ?_
    obtain ⟨e, n, y, hy, rfl, rfl⟩ := h
    repeat (first | refine to_nil ?_ | refine to_stA rfl rfl rfl rfl rfl rfl ?_)
    refine t_emp u8R 1 5 none ?_
    exact t_ret (OSl u8R 1 5 nilS [] :: byH c 5 bv p.bytes :: XP b f s o y) Tryz.func7 (.cellA rfl rfl .nil) ⟨_, y, by simp [DoX, h14]; exact ⟨e, n, hy, rfl⟩, ansQ_plain _ _ _ _⟩
  simp only [beq_eq_false_iff_ne] at h14
  repeat (first | refine t_seq ?_ | refine t_region ?_ | refine to_nil ?_ | refine to_q rfl rfl rfl ?_)
  refine t_condT rfl (fun h15 => ?_) (fun h15 => ?_)
  · simp only [beq_iff_eq] at h15
    repeat (first | refine t_seq ?_ | refine t_region ?_ | refine to_q rfl rfl rfl ?_ | refine to_ldA rfl rfl rfl ?_)
    refine to_call rfl rfl (clean_sp b f s o x p sp bv cv ct ca _) fun v B F2 le h => ?_
    obtain ⟨rfl, rfl⟩ := h
    repeat (first | refine to_nil ?_ | refine to_stA rfl rfl rfl rfl rfl rfl ?_)
    refine t_emp u8R 1 5 none ?_
    exact t_ret (OSl u8R 1 5 nilS [] :: byH c 5 bv p.bytes :: XP b f s o (cleanX x p sp).2.2) Tryz.func7 (.cellA rfl rfl .nil) ⟨_, _, by simp [DoX, h15]; exact ⟨rfl, rfl⟩, ansQ_plain _ _ _ _⟩
  simp only [beq_eq_false_iff_ne] at h15
  repeat (first | refine t_seq ?_ | refine t_region ?_ | refine to_nil ?_ | refine to_q rfl rfl rfl ?_)
  refine t_condT rfl (fun h16 => ?_) (fun h16 => ?_)
  · simp only [beq_iff_eq] at h16
    repeat (first | refine t_seq ?_ | refine t_region ?_ | refine to_nil ?_ | refine t_skip ?_ | refine to_stA rfl rfl rfl rfl rfl rfl ?_ | refine to_bs rfl rfl rfl rfl ?_
                  | refine t_cond (t := true) rfl (fun _ => ?_) (fun h => nomatch h))
    refine t_emp u8R 1 5 none ?_
    exact t_ret (OSl u8R 1 5 nilS [] :: byH c 5 bv p.bytes :: XP b f s o x) Tryz.func7 (.cellA rfl rfl .nil) ⟨(0, 0, [], []), x, by simp [DoX, h16], ansQ_plain _ _ _ _⟩
  simp only [beq_eq_false_iff_ne] at h16
  repeat (first | refine t_seq ?_ | refine t_region ?_ | refine to_nil ?_ | refine to_q rfl rfl rfl ?_)
  refine t_condT rfl (fun h17 => ?_) (fun h17 => ?_)
  · simp only [beq_iff_eq] at h17
    repeat (first | refine t_seq ?_ | refine t_region ?_ | refine to_nil ?_ | refine t_skip ?_ | refine to_stA rfl rfl rfl rfl rfl rfl ?_ | refine to_bs rfl rfl rfl rfl ?_
                  | refine t_cond (t := true) rfl (fun _ => ?_) (fun h => nomatch h))
    refine t_emp u8R 1 5 none ?_
    exact t_ret (OSl u8R 1 5 nilS [] :: byH c 5 bv p.bytes :: XP b f s o x) Tryz.func7 (.cellA rfl rfl .nil) ⟨(0, 0, [], []), x, by simp [DoX, h17], ansQ_plain _ _ _ _⟩
  simp only [beq_eq_false_iff_ne] at h17
  repeat (first | refine t_seq ?_ | refine t_region ?_ | refine to_nil ?_ | refine to_q rfl rfl rfl ?_)
  refine t_condT rfl (fun h18 => ?_) (fun h18 => ?_)
  · simp only [beq_iff_eq] at h18
    repeat (first | refine t_seq ?_ | refine t_region ?_ | refine to_nil ?_ | refine t_skip ?_ | refine to_stA rfl rfl rfl rfl rfl rfl ?_ | refine to_bs rfl rfl rfl rfl ?_
                  | refine t_cond (t := true) rfl (fun _ => ?_) (fun h => nomatch h))
    refine t_emp u8R 1 5 none ?_
    exact t_ret (OSl u8R 1 5 nilS [] :: byH c 5 bv p.bytes :: XP b f s o x) Tryz.func7 (.cellA rfl rfl .nil) ⟨(0, 0, [], []), x, by simp [DoX, h18], ansQ_plain _ _ _ _⟩
  simp only [beq_eq_false_iff_ne] at h18
  repeat (first | refine t_seq ?_ | refine t_region ?_ | refine to_nil ?_ | refine to_q rfl rfl rfl ?_)
  refine t_condT rfl (fun h19 => ?_) (fun h19 => ?_)
  · simp only [beq_iff_eq] at h19
    repeat (first | refine t_seq ?_ | refine t_region ?_ | refine to_nil ?_ | refine t_skip ?_ | refine to_stA rfl rfl rfl rfl rfl rfl ?_ | refine to_bs rfl rfl rfl rfl ?_
                  | refine t_cond (t := true) rfl (fun _ => ?_) (fun h => nomatch h))
    refine t_emp u8R 1 5 none ?_
    exact t_ret (OSl u8R 1 5 nilS [] :: byH c 5 bv p.bytes :: XP b f s o x) Tryz.func7 (.cellA rfl rfl .nil) ⟨(0, 0, [], []), x, by simp [DoX, h19], ansQ_plain _ _ _ _⟩
  simp only [beq_eq_false_iff_ne] at h19
  repeat (first | refine t_seq ?_ | refine t_region ?_ | refine to_nil ?_ | refine to_q rfl rfl rfl ?_)
  refine t_condT rfl (fun h20 => ?_) (fun h20 => ?_)
  · simp only [beq_iff_eq] at h20
    repeat (first | refine t_seq ?_ | refine t_region ?_ | refine to_nil ?_ | refine t_skip ?_ | refine to_stA rfl rfl rfl rfl rfl rfl ?_ | refine to_bs rfl rfl rfl rfl ?_
                  | refine t_cond (t := true) rfl (fun _ => ?_) (fun h => nomatch h))
    refine t_emp u8R 1 5 none ?_
    exact t_ret (OSl u8R 1 5 nilS [] :: byH c 5 bv p.bytes :: XP b f s o x) Tryz.func7 (.cellA rfl rfl .nil) ⟨(0, 0, [], []), x, by simp [DoX, h20], ansQ_plain _ _ _ _⟩
  simp only [beq_eq_false_iff_ne] at h20
  repeat (first | refine t_region ?_ | refine to_nil ?_ | refine to_q rfl rfl rfl ?_)
  refine t_condT rfl (fun h21 => ?_) (fun h21 => ?_)
  · simp only [beq_iff_eq] at h21
    repeat (first | refine t_seq ?_ | refine t_region ?_ | refine to_nil ?_ | refine to_stA rfl rfl rfl rfl rfl rfl ?_ | refine to_bs rfl rfl rfl rfl ?_)
    refine t_emp u8R 1 5 none ?_
    exact t_ret (OSl u8R 1 5 nilS [] :: byH c 5 bv p.bytes :: XP b f s o x) Tryz.func7 (.cellA rfl rfl .nil) ⟨(0, 0, [], []), x, by simp [DoX, h21], ansQ_plain _ _ _ _⟩
  simp only [beq_eq_false_iff_ne] at h21
  repeat (first | refine t_seq ?_ | refine t_region ?_ | refine t_skip ?_ | refine t_inBlock ?_)
  refine to_call rfl rfl (wrong_sp 4 _) fun v B F2 _ h => ?_
  obtain ⟨rfl, rfl⟩ := h
  repeat (first | refine to_nil ?_ | refine to_stA rfl rfl rfl rfl rfl rfl ?_)
  refine t_emp u8R 1 5 none ?_
  exact t_ret (OSl u8R 1 5 nilS [] :: byH c 5 bv p.bytes :: XP b f s o x) Tryz.func7 (.cellA rfl rfl .nil) ⟨(4, 0, [], []), x, by simp [DoX, h1, h2, h3, h4, h5, h6, h7, h8, h9, h10, h11, h12, h13, h14, h15, h16, h17, h18, h19, h20, h21], ansQ_plain _ _ _ _⟩
end Go.Proofs.YtbffngeameenoaaGreat
end

section
set_option linter.unusedVariables false
set_option linter.unusedSimpArgs false
namespace Go.Au
open Go
section
variable {P : Program}
theorem eqf_nil {d : Nat} {xs ys : Array Value} (w : World) : (Op.eqFields d xs ys []).run P w = .ok true w := by simp [Op.eqFields]
theorem eqf_cons {d : Nat} {f : Field} {fs : List Field} {cs cs' : List Value} {u v : Value} {r c : Bool} {w : World} [hs : ScaT P f.type] (hn : (f.name == "_") = false)
    (hx : nth cs f.offset = some u) (hy : nth cs' f.offset = some v) (he : ∀ w, (Op.equalIn d f.type u v).run P w = .ok r w) (hr : (Op.eqFields d cs.toArray cs'.toArray fs).run P w = .ok c w) :
    (Op.eqFields d cs.toArray cs'.toArray (f :: fs)).run P w = .ok (r && c) w := by
  have hn' : f.name ≠ "_" := fun e => by rw [e] at hn; simp at hn
  have p1 : (part f.type cs.toArray f.offset).run P w = .ok u w := by
    rw [nth_eq] at hx
    simp [part, run_isAgg_f (P := P) (t := f.type) w, hx]
  have p2 : (part f.type cs'.toArray f.offset).run P w = .ok v w := by
    rw [nth_eq] at hy
    simp [part, run_isAgg_f (P := P) (t := f.type) w, hy]
  simp only [Op.eqFields, hn', ne_eq, not_false_eq_true, if_true, Sem.run_bind, p1, p2, he, Result.andThen_ok]
  cases r
  · simp
  · simpa using hr
theorem eqi_int {d : Nat} {t : TypeId} {k k' : IntKind} [h : Und P t (.int k')] (a b : Int) (w : World) : (Op.equalIn (d + 1) t (.int k a) (.int k b)).run P w = .ok (a == b) w := run_equalIn_int w d t k k' a b h.h
theorem eqi_bool {d : Nat} {t : TypeId} [h : Und P t .bool] (a b : Bool) (w : World) : (Op.equalIn (d + 1) t (.bool a) (.bool b)).run P w = .ok (a == b) w := run_equalIn_bool' w d t a b h.h
theorem eqi_str {d : Nat} {t : TypeId} [h : Und P t .string] (a b : ByteArray) (w : World) : (Op.equalIn (d + 1) t (.string a) (.string b)).run P w = .ok (decide (a = b)) w := by
  rw [run_equalIn_string w d t a b h.h, ByteArray.toList_eq, ByteArray.toList_eq]
  obtain ⟨⟨a⟩⟩ := a
  obtain ⟨⟨b⟩⟩ := b
  by_cases e : a = b
  · simp [e]
  · simp [e]
/-- A struct's == is its fields'. -/
theorem eqs {t : TypeId} {fs : List Field} {cs cs' : List Value} {c : Bool} (w : World) (hu : P.underlying t = some (.struct fs.toArray)) (hp : P.stoodInHeld t = false)
    (h : (Op.eqFields 9999 cs.toArray cs'.toArray fs).run P w = .ok c w) : (Op.equalIn 10000 t (.agg cs.toArray) (.agg cs'.toArray)).run P w = .ok c w := by
  have hf : P.fieldsOf t = fs.toArray := by unfold Program.fieldsOf; rw [hu]
  rw [run_equalIn_struct w 9999 t _ _ (by rw [hf]; exact hu) hp, hf]
  exact h
end
section
variable {P : Program} {E : Ex} {D : List Deferred} {L R : List HP} {F F0 : Frz} {k : List Item} {σ : Sg} {Φ : Fin} {ops : Array Oper} {os : List Oper}
  {ty : TypeId} {pos : String} {af : Array Edge} {d b : Nat} {g : Option (Nat × Bool)} {t kt et : TypeId} {x : Operand} {κ β : Type} {e : κ → Value} {ρ : Rel β} {m : List (κ × β)}
/-- len of a frozen map -/
theorem to_lenRM [nm : NM E] {tys : Array TypeId} (hro : RoM e ρ F0 b m) [le : FLe F0 F] [Und P t (.map kt et)] (hg : gd σ ops g = some true) (ht : tys = #[t]) (hx : ev σ x = some (.map (some b)))
    (K : TO P E D L F ops os k ((d, .int .i64 m.length) :: σ) Φ) : TO P E D L F ops (⟨some d, .call ⟨.builtin .len, #[x], tys⟩, ty, pos, af, g⟩ :: os) k σ Φ := by
  subst ht
  refine to_rd hg ?_ (fun w a ag st => ?_) K
  · have hu := (inferInstance : Und P t (.map kt et)).h
    left; simp [lvl, hu]
  · obtain ⟨es, clock, h1, hm⟩ := hro
    have hg := run_getMap (P := P) (st.ro (le.ro _ _ h1))
    simp [execOp, resolve, invoke, builtin, Builtin.len_, ev_eval ag hx, run_und (P := P) (t := t) w, hg, goInt, hm.length]
theorem RoM.open [Nonempty (κ × β)] {F : Frz} (h : RoM e ρ F b m) : ∃ es clock φ, F.ro b = some (.map es clock) ∧ MOp e ρ F es clock m φ := by
  obtain ⟨es, clock, h1, hm⟩ := h
  rcases hm.op with ⟨rfl, rfl⟩ | ⟨φ, h⟩
  · exact ⟨_, _, fun _ => Classical.choice inferInstance, h1, by simp, by simp, by simp, by simp, by simp, by simp, hm⟩
  · exact ⟨_, _, φ, h1, h⟩
end
section
variable {A B C L R : List HP} {b : Nat} {X : HP} {v : Value}
instance fnd_app [h : Fnd X (A ++ (B ++ C)) R] : Fnd X ((A ++ B) ++ C) R := ⟨by rw [List.append_assoc]; exact h.p⟩
instance fb_app [h : FB b (A ++ (B ++ C)) X R] : FB b ((A ++ B) ++ C) X R := ⟨by rw [List.append_assoc]; exact h.p⟩
instance fv_app [h : FV v (A ++ (B ++ C)) X R] : FV v ((A ++ B) ++ C) X R := ⟨by rw [List.append_assoc]; exact h.p⟩
instance fy_app [h : FY v (A ++ (B ++ C)) X R] : FY v ((A ++ B) ++ C) X R := ⟨by rw [List.append_assoc]; exact h.p⟩
instance drp_app2 [h : Drp (A ++ (B ++ C)) R] : Drp ((A ++ B) ++ C) R := ⟨by rw [List.append_assoc]; exact h.h⟩
end
end Go.Au
namespace Go.Au
open Go
/-- the first place at which p holds, or -1 -/
def idxG {α : Type} (p : α → Bool) (xs : List α) : Int := match xs.findIdx? p with
  | some i => i
  | none => -1
theorem idxG_some {α : Type} {p : α → Bool} {xs : List α} {i : Nat} {q : α} (hq : xs[i]? = some q) (hp : p q = true) (hall : ∀ j q', j < i → xs[j]? = some q' → p q' = false) : idxG p xs = i := by
  have hi := (List.getElem?_eq_some_iff.1 hq).1
  have : xs.findIdx? p = some i := by
    rw [List.findIdx?_eq_some_iff_getElem]
    refine ⟨hi, by rw [(List.getElem?_eq_some_iff.1 hq).2]; exact hp, fun j hj => ?_⟩
    have := hall j xs[j] hj (List.getElem?_eq_getElem (by omega))
    simpa using this
  simp [idxG, this]
theorem idxG_none {α : Type} {p : α → Bool} {xs : List α} {i : Nat} (hi : xs.length ≤ i) (hall : ∀ j q', j < i → xs[j]? = some q' → p q' = false) : idxG p xs = -1 := by
  have : xs.findIdx? p = none := by
    rw [List.findIdx?_eq_none_iff]
    intro q hq
    obtain ⟨j, hj, e⟩ := List.getElem_of_mem hq
    exact hall j q (by omega) (by rw [List.getElem?_eq_getElem hj, e])
  simp [idxG, this]
theorem all_snoc {α : Type} {P : α → Prop} {xs : List α} {i : Nat} {q : α} (hq : xs[i]? = some q) (h : ∀ j q', j < i → xs[j]? = some q' → P q') (hp : P q) : ∀ j q', j < i + 1 → xs[j]? = some q' → P q' := by
  intro j q' hj e
  rcases Nat.lt_or_ge j i with h' | h'
  · exact h j q' h' e
  · have : j = i := by omega
    subst this
    rw [hq] at e; cases e; exact hp
end Go.Au
namespace Go.Au
open Go
section
variable {P : Program} {E : Ex} {D : List Deferred} {L R : List HP} {F F0 : Frz} {k : List Item} {σ : Sg} {Φ : Fin} {ops : Array Oper} {os : List Oper}
  {ty : TypeId} {pos : String} {af : Array Edge} {d : Nat} {g : Option (Nat × Bool)} {et e' : TypeId} {x y : Operand} {v : Value} {n by_ : Nat} {β : Type} {ρ : Rel β} {xs ys : List β}
/-- append(v, src..): a source that is frozen -/
theorem to_appR {st xt : TypeId} {tys : Array TypeId} {src : Value} [hu : Und P st (.slice et)] [hk : Und P xt (.slice e')] [fv : FV v L (OSl ρ n et v xs) R] [el : ElT P et ρ n by_] [le : FLe F0 F] (hs : (slR ρ n).r F0 ys src) (hg : gd σ ops g = some true) (ht : tys = #[st, xt])
    (hx : ev σ x = some v) (hy : ev σ y = some src) (hb : (xs.length + ys.length) * by_ ≤ 140737488355328) [kc : ∀ v', KpC E.ks L (OSl ρ n et v' (xs ++ ys) :: R)]
    (K : ∀ v', TO P E D (OSl ρ n et v' (xs ++ ys) :: R) F ops os k ((d, v') :: σ) Φ) : TO P E D L F ops (⟨some d, .call ⟨.builtin .append, #[x, y], tys⟩, ty, pos, af, g⟩ :: os) k σ Φ := by
  obtain ⟨us, hf, hsrc⟩ := src_ro (P := P) (et := et) (by_ := by_) (xt := xt) (e' := e') (L := L) (F := F) hs
  exact to_app hg ht hx hy hsrc (hf.imp fun _ _ h => ρ.mono le h) hb K
end
end Go.Au
namespace Go.Au
open Go
theorem lastI_snoc {α : Type} (p : α → Bool) (a : α) : ∀ xs : List α, lastI p (xs ++ [a]) = if p a then some xs.length else lastI p xs
  | [] => by simp [lastI]
  | x :: xs => by
    rw [List.cons_append]
    unfold lastI
    rw [lastI_snoc p a xs]
    by_cases h : p a = true
    · simp [h]
    · simp [h]
/-- a place, or -1 -/
def ixO : Option Nat → Int
  | some i => i
  | none => -1
theorem take_snoc' {α : Type} {xs : List α} {i : Nat} {q : α} (h : xs[i]? = some q) : xs.take (i + 1) = xs.take i ++ [q] := by rw [List.take_add_one, h]; rfl
end Go.Au
namespace Go.Au
open Go
section
variable {P : Program} {E : Ex} {D : List Deferred} {L R : List HP} {F : Frz} {k : List Item} {σ : Sg} {Φ : Fin}
/-- What stands behind an item is walked once. -/
theorem t_cutJ {c : Code} {ι : Type} (R : List HP) (AA : ι → List HP) (SS : ι → Sg) (GG : ι → Frz → Prop)
    (tail : ∀ i F', FS F F' → GG i F' → T P E D (AA i ++ R) F' k (SS i) Φ)
    (body : (∀ i F', FS F F' → GG i F' → T P E D (AA i ++ R) F' k (SS i) Φ) → T P E D L F (.code c :: k) σ Φ) : T P E D L F (.code c :: k) σ Φ := body tail
/-- The same, where what stands behind is not seen. -/
theorem t_cutK {c : Code} {ι : Type} (R : List HP) (AA : ι → List HP) (SS : ι → Sg) (GG : ι → Frz → Prop)
    (tail : ∀ i F', FS F F' → GG i F' → T P E D (AA i ++ R) F' k (SS i) Φ)
    (body : ∀ k', (∀ i F', FS F F' → GG i F' → T P E D (AA i ++ R) F' k' (SS i) Φ) → T P E D L F (.code c :: k') σ Φ) : T P E D L F (.code c :: k) σ Φ := body k tail
end
end Go.Au
namespace Go.Au
open Go
section
variable {P : Program} {E : Ex} {D : List Deferred} {L R : List HP} {F F0 : Frz} {k : List Item} {σ : Sg} {Φ : Fin} {ops : Array Oper} {os : List Oper} {et : TypeId} {l : List UInt8} {v : Value}
/-- bytes of our own, asz bytes that are frozen or ours -/
theorem to_byO (v : Value) {et : TypeId} {l : List UInt8} [fv : FV v L (OSl u8R 1 et v l) R] (K : TO P E D (byH false et v l :: R) F ops os k σ Φ) : TO P E D L F ops os k σ Φ :=
  to_conv fun w st => ⟨_, F, .refl _, st.perm fv.p, K⟩
/-- and back -/
theorem t_byF (v : Value) {et : TypeId} {l : List UInt8} [fy : FY v L (byH false et v l) R] (K : T P E D (OSl u8R 1 et v l :: R) F k σ Φ) : T P E D L F k σ Φ :=
  t_conv fun w st => ⟨_, F, .refl _, st.perm fy.p, K⟩
theorem to_byF (v : Value) {et : TypeId} {l : List UInt8} [fy : FY v L (byH false et v l) R] (K : TO P E D (OSl u8R 1 et v l :: R) F ops os k σ Φ) : TO P E D L F ops os k σ Φ :=
  to_conv fun w st => ⟨_, F, .refl _, st.perm fy.p, K⟩
/-- frozen bytes -/
theorem to_byR (et : TypeId) (h : (slR u8R 1).r F0 l v) [le : FLe F0 F] (K : TO P E D (byH true et v l :: L) F ops os k σ Φ) : TO P E D L F ops os k σ Φ :=
  to_conv fun w st => ⟨_, F, .refl _, by_of_true ((slR u8R 1).mono le h) st, K⟩
end
end Go.Au
namespace Go.Au
open Go
theorem modify_set {α : Type} {a : Array α} {b : Nat} {o : α} (h : a[b]? = some o) (f : α → α) : a.modify b f = a.setIfInBounds b (f o) := by
  apply Array.ext_getElem?
  intro i
  rw [Array.getElem?_modify, Array.getElem?_setIfInBounds]
  by_cases hi : b = i
  · subst hi
    rw [if_pos rfl, h, if_pos rfl, if_pos (lt_of_get h)]; rfl
  · rw [if_neg hi, if_neg hi]
section
variable {P : Program} {E : Ex} {D : List Deferred} {L R : List HP} {F F0 : Frz} {k : List Item} {σ : Sg} {Φ : Fin} {ops : Array Oper} {os : List Oper}
  {ty : TypeId} {pos : String} {af : Array Edge} {d b n c : Nat} {g : Option (Nat × Bool)} {t t' et : TypeId} {x : Operand} {cs : List Value}
/-- []byte of a constant text: the row that was built is marked behind its end. -/
theorem to_cvId [nm : NM E] [fb : FB b L (own b cs t') R] [hs : Und P t (.slice et)] [he : Und P et (.int .u8)] (hg : gd σ ops g = some true) (hx : ev σ x = some (.slice (some ⟨b, 0, none⟩) n c))
    (K : TO P E D L F ops os k ((d, .slice (some ⟨b, 0, none⟩) n c) :: σ) Φ) : TO P E D L F ops (⟨some d, .convert t t x, ty, pos, af, g⟩ :: os) k σ Φ := by
  refine to_op hg (by simp [lvl, hs.h]) fun w a ag st => ?_
  obtain ⟨⟨lo, hi⟩, hfr, s1⟩ := (st.perm fb.p).openOwn
  have hb := s1.at1
  have hsh : w.shape? b = some (t', cs.length) := by unfold World.shape?; rw [hb]; simp
  have h1 : (convert t t (.slice (some ⟨b, 0, none⟩) n c)).run P w = .ok (.slice (some ⟨b, 0, none⟩) n c) (w.freeze ⟨b, cs.length, none⟩ 1) := by
    simp [convert, run_underlying hs.h, run_underlying he.h, markStringish, hsh]
  have h2 : (execOp a.eval ⟨some d, .convert t t x, ty, pos, af, g⟩).run P w = .ok (.value (.slice (some ⟨b, 0, none⟩) n c)) (w.freeze ⟨b, cs.length, none⟩ 1) := by
    simp only [execOp, ev_eval ag hx]
    rw [Sem.run_bind, h1, Result.andThen_ok, Sem.run_pure]
  rw [h2]
  refine ⟨L, F, .refl _, ?_, K⟩
  have hw : w.freeze ⟨b, cs.length, none⟩ 1 = { w with heap := w.heap.setIfInBounds b (.cells cs.toArray t' (if lo == hi then (cs.length, cs.length + 1) else (min lo cs.length, max hi (cs.length + 1)))) } := by
    unfold World.freeze
    rw [if_neg (by decide), modify_set hb]
  rw [hw]
  refine St.unperm fb.p (St.shutOwn ?_ (s1.set _))
  rcases hfr with e | e
  · dsimp only at e
    subst e
    right; simp
  · dsimp only at e
    by_cases h : lo = hi
    · subst h
      right; simp
    · have hne : (lo == hi) = false := by simpa using h
      rw [hne]
      right
      simp only [Bool.false_eq_true, if_false]
      omega
end
end Go.Au
namespace Go.Au
open Go
section
variable {P : Program} {E : Ex} {D : List Deferred} {L : List HP} {F : Frz} {k : List Item} {σ : Sg} {Φ : Fin} {l : List Oper}
/-- Three may be next. -/
theorem to_next3 {rem s : List Nat} (hs : Lin l rem s) (i j m : Nat) {oi oj om : Oper} (hoi : l[i]? = some oi) (hoj : l[j]? = some oj) (hom : l[m]? = some om)
    (hc : (rem.filter fun i => (dep l i).all fun m => !rem.contains m) = [i, j, m])
    (K1 : ∀ s', Lin l (rem.erase i) s' → TO P E D L F l.toArray (oi :: s'.map (opAt l)) k σ Φ) (K2 : ∀ s', Lin l (rem.erase j) s' → TO P E D L F l.toArray (oj :: s'.map (opAt l)) k σ Φ)
    (K3 : ∀ s', Lin l (rem.erase m) s' → TO P E D L F l.toArray (om :: s'.map (opAt l)) k σ Φ) :
    TO P E D L F l.toArray (s.map (opAt l)) k σ Φ := by
  have hne : rem.isEmpty = false := by
    cases rem with
    | nil => simp at hc
    | cons _ _ => rfl
  refine to_next hs hne fun q hq s' hs' => ?_
  rw [hc] at hq
  simp only [List.mem_cons, List.not_mem_nil, or_false] at hq
  rcases hq with rfl | rfl | rfl
  · rw [opAt, hoi]; exact K1 s' hs'
  · rw [opAt, hoj]; exact K2 s' hs'
  · rw [opAt, hom]; exact K3 s' hs'
end
end Go.Au
end

section
set_option maxRecDepth 100000
set_option linter.unusedVariables false
set_option linter.unusedSimpArgs false
namespace Go.Proofs.YtbffngeameenoaaGreat
open Go Go.Au
attribute [local irreducible] T TO

theorem eq_ver (a c : Ver) (w : World) : (Op.equalIn 10000 85 (.agg #[.int .i64 a.gen, .int .i64 a.time, .string a.text, .bool a.gone]) (.agg #[.int .i64 c.gen, .int .i64 c.time, .string c.text, .bool c.gone])).run Tryz.prog w = .ok (decide (a = c)) w := by
  refine (eqs w Tryz.underlying85 (by kernel_rfl) (eqf_cons rfl rfl rfl (eqi_int _ _) (eqf_cons rfl rfl rfl (eqi_int _ _) (eqf_cons rfl rfl rfl (eqi_str _ _) (eqf_cons rfl rfl rfl (eqi_bool _ _) (eqf_nil w)))))).trans ?_
  congr 1
  rw [Bool.eq_iff_iff]
  obtain ⟨a1, a2, a3, a4⟩ := a
  obtain ⟨c1, c2, c3, c4⟩ := c
  simp
theorem eq_rver (a c : RVer) (w : World) : (Op.equalIn 10000 101 (.agg #[.string a.name, .int .i64 a.gen, .int .i64 a.time, .string a.text, .bool a.gone]) (.agg #[.string c.name, .int .i64 c.gen, .int .i64 c.time, .string c.text, .bool c.gone])).run Tryz.prog w = .ok (decide (a = c)) w := by
  refine (eqs w Tryz.underlying101 (by kernel_rfl) (eqf_cons rfl rfl rfl (eqi_str _ _) (eqf_cons rfl rfl rfl (eqi_int _ _) (eqf_cons rfl rfl rfl (eqi_int _ _) (eqf_cons rfl rfl rfl (eqi_str _ _) (eqf_cons rfl rfl rfl (eqi_bool _ _) (eqf_nil w))))))).trans ?_
  congr 1
  rw [Bool.eq_iff_iff]
  obtain ⟨a1, a2, a3, a4, a5⟩ := a
  obtain ⟨c1, c2, c3, c4, c5⟩ := c
  simp
theorem eq_held (a c : ByteArray × Int) (w : World) : (Op.equalIn 10000 105 (.agg #[.string a.1, .int .i64 a.2]) (.agg #[.string c.1, .int .i64 c.2])).run Tryz.prog w = .ok (decide (a = c)) w := by
  refine (eqs w Tryz.underlying105 (by kernel_rfl) (eqf_cons rfl rfl rfl (eqi_str _ _) (eqf_cons rfl rfl rfl (eqi_int _ _) (eqf_nil w)))).trans ?_
  congr 1
  rw [Bool.eq_iff_iff]
  obtain ⟨a1, a2⟩ := a
  obtain ⟨c1, c2⟩ := c
  simp
/-- slices.Equal of versions -/
theorem equalV_sp (v1 v2 : Value) (l1 l2 : List Ver) (F : Frz) (h1 : vsR.r F l1 v1) (h2 : vsR.r F l2 v2) (hn : l1.length ≤ 1048576) :
    Sp Tryz.prog 45 [v1, v2] [] F (fun v B F' => v = .bool (decide (l1 = l2)) ∧ B = []) := by
  obtain ⟨a1, c1, e1⟩ := slR_len h1
  obtain ⟨a2, c2, e2⟩ := slR_len h2
  subst e1
  subst e2
  refine sp_of Tryz.func45 rfl (by kernel_rfl) rfl fun R => ?_
  repeat (first | refine t_seq ?_ | refine t_region ?_ | refine to_nil ?_ | refine to_q rfl rfl rfl ?_ | refine to_lenS rfl rfl rfl ?_)
  refine t_condT rfl (fun h => ?_) (fun h => ?_)
  · simp only [bne_iff_ne, ne_eq] at h
    have e : decide (l1 = l2) = false := decide_eq_false fun e => h (by rw [e])
    repeat (first | refine t_seq ?_ | refine t_region ?_ | refine to_nil ?_ | refine to_q rfl rfl rfl ?_)
    exact t_ret [] Tryz.func45 (.tmp rfl .nil) (by rw [e]; exact ⟨rfl, rfl⟩)
  have hle : l1.length = l2.length := by simp only [bne_eq_false_iff_eq] at h; omega
  repeat (first | refine t_seq ?_ | refine t_block ?_ | refine t_region ?_ | refine to_nil ?_ | refine t_skip ?_ | refine to_q rfl rfl rfl ?_ | refine to_lenS rfl rfl rfl ?_)
  refine t_loopJ (R := R) (fun i : Nat => l1.length - i) (fun _ => []) (fun i => [(0, .slice a1 l1.length c1), (1, .slice a2 l2.length c2), (12, .int .i64 l1.length), (13, .int .i64 i)])
    (fun i _ => i ≤ l1.length ∧ l1.take i = l2.take i) 0 (by repeat (first | exact trivial | refine ⟨rfl, ?_⟩)) ⟨Nat.zero_le _, rfl⟩ ?_
  intro i F1 le1 hg ih
  obtain ⟨hi, heq⟩ := hg
  repeat (first | refine t_seq ?_ | refine t_region ?_ | refine to_nil ?_ | refine to_q rfl rfl rfl ?_)
  refine t_condT rfl (fun hlt => ?_) (fun hlt => ?_)
  · simp only [decide_eq_true_eq] at hlt
    have hlt1 : i < l1.length := by omega
    have hlt2 : i < l2.length := by omega
    have hc1 := List.getElem?_eq_getElem hlt1
    have hc2 := List.getElem?_eq_getElem hlt2
    have ht1 : l1.take (i + 1) = l1.take i ++ [l1[i]] := by rw [List.take_add_one, hc1]; rfl
    have ht2 : l2.take (i + 1) = l2.take i ++ [l2[i]] := by rw [List.take_add_one, hc2]; rfl
    generalize l1[i] = q1 at hc1 ht1
    generalize l2[i] = q2 at hc2 ht2
    obtain ⟨b1, o1, cap1, u1, e1, hl1, hr1, hro1⟩ := slR_elem (P := Tryz.prog) (t := 85) (by_ := 40) h1 hc1
    obtain ⟨b2, o2, cap2, u2, e2, hl2, hr2, hro2⟩ := slR_elem (P := Tryz.prog) (t := 85) (by_ := 40) h2 hc2
    cases e1
    cases e2
    cases hr1
    cases hr2
    repeat (first | refine t_seq ?_ | refine t_block ?_ | refine t_region ?_ | refine to_nil ?_ | refine t_skip ?_ | refine to_q rfl rfl rfl ?_)
    refine t_drawn1 (by kernel_rfl) (by kernel_rfl) ?_
    repeat (refine to_q rfl rfl rfl ?_)
    refine to_ia rfl rfl rfl rfl hl1 ?_
    refine to_ldV (F1 := F) (ρ := verR) (q := q1) rfl hro1 rfl rfl ?_
    repeat (refine to_q rfl rfl rfl ?_)
    refine to_ia rfl rfl rfl rfl hl2 ?_
    refine to_ldV (F1 := F) (ρ := verR) (q := q2) rfl hro2 rfl rfl ?_
    refine to_neA (by kernel_rfl) rfl rfl rfl (eq_ver q1 q2) ?_
    repeat (refine to_nil ?_)
    refine t_condT rfl (fun hq => ?_) (fun hq => ?_)
    · simp only [Bool.not_eq_true', decide_eq_false_iff_not] at hq
      have e : decide (l1 = l2) = false := decide_eq_false fun e => hq (by rw [e, hc2] at hc1; exact (Option.some.inj hc1).symm)
      repeat (first | refine t_seq ?_ | refine t_region ?_ | refine to_nil ?_ | refine to_q rfl rfl rfl ?_)
      exact t_ret [] Tryz.func45 (.tmp rfl .nil) (by rw [e]; exact ⟨rfl, rfl⟩)
    · simp only [Bool.not_eq_false', decide_eq_true_eq] at hq
      repeat (first | refine t_region ?_ | refine to_nil ?_ | refine t_skip ?_ | refine t_inBlock ?_ | refine to_q rfl rfl rfl ?_ | refine to_add rfl rfl rfl (by omega) (by omega) ?_)
      refine t_re (A := []) (R := R) (ih (i + 1) F1 ⟨.refl _⟩ (by omega) ⟨by omega, by rw [ht1, ht2, heq, hq]⟩) (by repeat (first | exact trivial | refine ⟨rfl, ?_⟩))
  · simp only [decide_eq_false_iff_not] at hlt
    have e : decide (l1 = l2) = true := decide_eq_true (by rw [List.take_of_length_le (by omega), List.take_of_length_le (by omega)] at heq; exact heq)
    repeat (first | refine t_seq ?_ | refine t_region ?_ | refine to_nil ?_ | refine to_q rfl rfl rfl ?_ | refine t_exit rfl ?_)
    exact t_ret [] Tryz.func45 (.tmp rfl .nil) (by rw [e]; exact ⟨rfl, rfl⟩)
theorem sameV_sp (v1 v2 : Value) (l1 l2 : List Ver) (F : Frz) (h1 : vsR.r F l1 v1) (h2 : vsR.r F l2 v2) (hn : l1.length ≤ 1048576) :
    Sp Tryz.prog 44 [v1, v2] [] F (fun v B F' => v = .bool (decide (l1 = l2)) ∧ B = []) := by
  refine sp_of Tryz.func44 rfl (by kernel_rfl) rfl fun R => ?_
  repeat (first | refine t_seq ?_ | refine t_region ?_ | refine to_nil ?_ | refine to_q rfl rfl rfl ?_)
  refine to_call rfl rfl (equalV_sp v1 v2 l1 l2 _ h1 h2 hn) fun v B F1 le h => ?_
  obtain ⟨rfl, rfl⟩ := h
  repeat (first | refine to_nil ?_ | refine to_q rfl rfl rfl ?_)
  exact t_ret [] Tryz.func44 (.tmp rfl .nil) ⟨rfl, rfl⟩
end Go.Proofs.YtbffngeameenoaaGreat
end
