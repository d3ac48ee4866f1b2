/- Part 1 of the proof.
  Parts: Core of a separation logic over the Go machine: states, judgements T (frames) and TO (regions), control rules.; Operations of a region: the judgement TO, pure operations, cells, calls.; Operations on memory: variables, cells, addresses, calls.; The tables of the program as instances: types, fields, functions with a body.; Regions that draw their order.
-/
import Derived.AtR
import Derived.KernelRfl
import Derived.Laws.Cells
import Derived.Laws.Entries
import Derived.Test.YtbffngeameenoaaGreatProg

section
set_option linter.unusedVariables false
set_option linter.unusedSimpArgs false
namespace Go.Au
open Go

/-! ### Frozen part, heaplets, assertions -/
structure Frz where
  os : Os
  tape : Nat → Question → Nat
  output : Array (Nat × ByteArray)
  ro : Nat → Option Obj

class FLe (F G : Frz) : Prop where
  os : G.os = F.os
  tape : G.tape = F.tape
  output : G.output = F.output
  ro : ∀ b o, F.ro b = some o → G.ro b = some o

theorem FLe.refl (F : Frz) : FLe F F := ⟨rfl, rfl, rfl, fun _ _ h => h⟩
theorem FLe.trans {F G H : Frz} (h : FLe F G) (k : FLe G H) : FLe F H :=
  ⟨k.os.trans h.os, k.tape.trans h.tape, k.output.trans h.output, fun b o e => k.ro b o (h.ro b o e)⟩

abbrev HL := List (Nat × Obj)

structure HP where
  P : Frz → HL → Prop
  mono : ∀ {F G : Frz} {h : HL}, FLe F G → P F h → P G h

def Sat (F : Frz) : List HP → HL → Prop
  | [], h => h = []
  | A :: L, h => ∃ h1 h2, h = h1 ++ h2 ∧ A.P F h1 ∧ Sat F L h2

theorem Sat.mono {F G : Frz} (le : FLe F G) : ∀ {L : List HP} {h : HL}, Sat F L h → Sat G L h
  | [], _, s => s
  | A :: _, _, ⟨h1, h2, e, a, s⟩ => ⟨h1, h2, e, A.mono le a, Sat.mono le s⟩

theorem Sat.append {F : Frz} : ∀ {A B : List HP} {h : HL}, Sat F (A ++ B) h ↔ ∃ h1 h2, h = h1 ++ h2 ∧ Sat F A h1 ∧ Sat F B h2
  | [], B, h => ⟨fun s => ⟨[], h, rfl, rfl, s⟩, fun ⟨h1, h2, e, a, s⟩ => by cases (show h1 = [] from a); simpa [e] using s⟩
  | X :: A, B, h => by
    constructor
    · rintro ⟨h1, h2, rfl, x, s⟩
      obtain ⟨h3, h4, rfl, a, b⟩ := Sat.append.1 s
      exact ⟨h1 ++ h3, h4, by simp, ⟨h1, h3, rfl, x, a⟩, b⟩
    · rintro ⟨h1, h2, rfl, ⟨h3, h4, rfl, x, a⟩, b⟩
      exact ⟨h3, h4 ++ h2, by simp, x, Sat.append.2 ⟨h4, h2, rfl, a, b⟩⟩

theorem Sat.perm {F : Frz} {L L' : List HP} (p : L.Perm L') : ∀ {h : HL}, Sat F L h → ∃ h', h'.Perm h ∧ Sat F L' h' := by
  induction p with
  | nil => exact fun s => ⟨_, .refl _, s⟩
  | cons A _ ih =>
    rintro h ⟨h1, h2, rfl, a, s⟩
    obtain ⟨h3, q, s'⟩ := ih s
    exact ⟨h1 ++ h3, q.append_left h1, h1, h3, rfl, a, s'⟩
  | swap A B L =>
    rintro h ⟨h1, h2, rfl, b, h3, h4, rfl, a, s⟩
    refine ⟨h3 ++ (h1 ++ h4), ?_, h3, _, rfl, a, h1, h4, rfl, b, s⟩
    rw [← List.append_assoc, ← List.append_assoc]
    exact (List.perm_append_comm).append_right _
  | trans _ _ ih1 ih2 =>
    intro h s
    obtain ⟨h1, q1, s1⟩ := ih1 s
    obtain ⟨h2, q2, s2⟩ := ih2 s1
    exact ⟨h2, q2.trans q1, s2⟩

structure Own (w : World) (h : HL) (F : Frz) : Prop where
  os : w.os = F.os
  tape : w.tape = F.tape
  output : w.output = F.output
  nodup : (h.map (·.1)).Nodup
  own : ∀ b o, (b, o) ∈ h → w.heap[b]? = some o
  ro : ∀ b o, F.ro b = some o → w.heap[b]? = some o ∧ ∀ o', (b, o') ∉ h

theorem Own.perm {w : World} {h h' : HL} {F : Frz} (p : h'.Perm h) (o : Own w h F) : Own w h' F :=
  ⟨o.os, o.tape, o.output, (p.map _).nodup_iff.2 o.nodup, fun b x m => o.own b x (p.mem_iff.1 m),
   fun b x e => ⟨(o.ro b x e).1, fun x' m => (o.ro b x e).2 x' (p.mem_iff.1 m)⟩⟩

def St (w : World) (L : List HP) (F : Frz) : Prop := ∃ h, Sat F L h ∧ Own w h F

theorem St.perm {w : World} {L L' : List HP} {F : Frz} (p : L.Perm L') (s : St w L F) : St w L' F := by
  obtain ⟨h, a, o⟩ := s
  obtain ⟨h', q, a'⟩ := a.perm p
  exact ⟨h', a', o.perm q⟩

/-- A draw. -/
theorem Own.drawn {w : World} {h : HL} {F : Frz} (o : Own w h F) (n : Nat) : Own { w with drawn := n } h F :=
  ⟨o.os, o.tape, o.output, o.nodup, o.own, o.ro⟩
theorem St.drawn {w : World} {L : List HP} {F : Frz} (s : St w L F) (n : Nat) : St { w with drawn := n } L F :=
  let ⟨h, a, o⟩ := s; ⟨h, a, o.drawn n⟩

theorem lt_of_get {α : Type} {a : Array α} {b : Nat} {o : α} (h : a[b]? = some o) : b < a.size := by
  rcases Nat.lt_or_ge b a.size with h' | h'
  · exact h'
  · rw [Array.getElem?_eq_none h'] at h; cases h

/-- A new block. -/
theorem Own.new {w : World} {h : HL} {F : Frz} (s : Own w h F) (o : Obj) :
    Own { w with heap := w.heap.push o } ((w.heap.size, o) :: h) F := by
  have hlt : ∀ b x, (b, x) ∈ h → b < w.heap.size := fun b x m => lt_of_get (s.own b x m)
  have old : ∀ b x, w.heap[b]? = some x → (w.heap.push o)[b]? = some x := fun b x e => by
    rw [Array.getElem?_push, if_neg (by have := lt_of_get e; omega)]; exact e
  refine ⟨s.os, s.tape, s.output, ?_, ?_, ?_⟩
  · rw [List.map_cons, List.nodup_cons]
    refine ⟨fun m => ?_, s.nodup⟩
    obtain ⟨⟨b, x⟩, m, e⟩ := List.mem_map.1 m
    have := hlt b x m; simp only at e; omega
  · intro b x m
    rcases List.mem_cons.1 m with e | m
    · cases e; simp
    · exact old b x (s.own b x m)
  · intro b x e
    have h0 := s.ro b x e
    refine ⟨old b x h0.1, fun x' m => ?_⟩
    rcases List.mem_cons.1 m with e' | m
    · cases e'; have := lt_of_get h0.1; omega
    · exact h0.2 x' m

/-- A block that is owned is set. -/
theorem Own.set {w : World} {b : Nat} {o : Obj} {h : HL} {F : Frz} (s : Own w ((b, o) :: h) F) (o' : Obj) :
    Own { w with heap := w.heap.setIfInBounds b o' } ((b, o') :: h) F := by
  have hb : w.heap[b]? = some o := s.own b o List.mem_cons_self
  have hlt := lt_of_get hb
  have hn := s.nodup
  rw [List.map_cons, List.nodup_cons] at hn
  have ne : ∀ c x, (c, x) ∈ h → c ≠ b := fun c x m e => hn.1 (List.mem_map.2 ⟨(c, x), m, e⟩)
  refine ⟨s.os, s.tape, s.output, by simpa using s.nodup, ?_, ?_⟩
  · intro c x m
    rcases List.mem_cons.1 m with e | m
    · cases e; simp [hlt]
    · have := ne c x m
      show (w.heap.setIfInBounds b o')[c]? = _
      rw [Array.getElem?_setIfInBounds_ne (Ne.symm this)]
      exact s.own c x (List.mem_cons_of_mem _ m)
  · intro c x e
    have h0 := s.ro c x e
    have hne : c ≠ b := fun e' => h0.2 o (by subst e'; exact List.mem_cons_self)
    refine ⟨?_, fun x' m => ?_⟩
    · show (w.heap.setIfInBounds b o')[c]? = _
      rw [Array.getElem?_setIfInBounds_ne (Ne.symm hne)]; exact h0.1
    · rcases List.mem_cons.1 m with e' | m
      · cases e'; exact hne rfl
      · exact h0.2 x' (List.mem_cons_of_mem _ m)

theorem Own.drop {w : World} {x : Nat × Obj} {h : HL} {F : Frz} (s : Own w (x :: h) F) : Own w h F :=
  ⟨s.os, s.tape, s.output, by have := s.nodup; rw [List.map_cons, List.nodup_cons] at this; exact this.2,
   fun b o m => s.own b o (List.mem_cons_of_mem _ m), fun b o e => ⟨(s.ro b o e).1, fun o' m => (s.ro b o e).2 o' (List.mem_cons_of_mem _ m)⟩⟩

theorem Own.dropl {w : World} {F : Frz} : ∀ {h1 h2 : HL}, Own w (h1 ++ h2) F → Own w h2 F
  | [], _, s => s
  | _ :: _, _, s => Own.dropl (Own.drop s)

def Frz.add (F : Frz) (b : Nat) (o : Obj) : Frz := { F with ro := fun c => if c = b then some o else F.ro c }

/-- A block that is owned is frozen. -/
theorem Own.freeze {w : World} {b : Nat} {o : Obj} {h : HL} {F : Frz} (s : Own w ((b, o) :: h) F) : FLe F (F.add b o) ∧ Own w h (F.add b o) := by
  have hn := s.nodup
  rw [List.map_cons, List.nodup_cons] at hn
  refine ⟨⟨rfl, rfl, rfl, fun c x e => ?_⟩, ⟨s.os, s.tape, s.output, hn.2, fun c x m => s.own c x (List.mem_cons_of_mem _ m), fun c x e => ?_⟩⟩
  · have hne : c ≠ b := fun e' => (s.ro c x e).2 o (by subst e'; exact List.mem_cons_self)
    show (if c = b then some o else F.ro c) = _
    rw [if_neg hne]; exact e
  · change (if c = b then some o else F.ro c) = some x at e
    by_cases hc : c = b
    · subst hc
      rw [if_pos rfl] at e; cases e
      exact ⟨s.own _ _ List.mem_cons_self, fun o' m => hn.1 (List.mem_map.2 ⟨_, m, rfl⟩)⟩
    · rw [if_neg hc] at e
      exact ⟨(s.ro c x e).1, fun o' m => (s.ro c x e).2 o' (List.mem_cons_of_mem _ m)⟩

/-! ### Slots -/
abbrev Sg := List (Nat × Value)
def look : Sg → Nat → Option Value
  | [], _ => none
  | (d, v) :: r, t => bif Nat.beq d t then some v else look r t

def Agree (σ : Sg) (tmps : Array Value) : Prop := ∀ t v, look σ t = some v → tmps[t]? = some v

theorem Agree.nil (tmps : Array Value) : Agree [] tmps := fun _ _ h => by cases h
theorem Agree.put {σ : Sg} {tmps : Array Value} (h : Agree σ tmps) {d : Nat} (hd : d < tmps.size) (v : Value) : Agree ((d, v) :: σ) (tmps.setIfInBounds d v) := by
  intro t u e
  unfold look at e
  by_cases c : d = t
  · subst c
    simp only [Nat.beq_refl, cond_true, Option.some.injEq] at e
    subst e; simp [hd]
  · have : Nat.beq d t = false := by
      cases hb : Nat.beq d t
      · rfl
      · exact absurd (Nat.eq_of_beq_eq_true hb) c
    rw [this, cond_false] at e
    rw [Array.getElem?_setIfInBounds_ne c]; exact h t u e
/-- A slot that was not known is overwritten by a value that we do not want to know. -/
def forget (σ : Sg) (d : Nat) : Sg := σ.filter fun p => !Nat.beq p.1 d
theorem look_forget {d : Nat} : ∀ {σ : Sg} {t : Nat} {v : Value}, look (forget σ d) t = some v → look σ t = some v ∧ t ≠ d
  | [], _, _, h => by cases h
  | (e, u) :: σ, t, v, h => by
    unfold forget at h
    rw [List.filter_cons] at h
    cases hb : Nat.beq e d
    · simp only [hb, Bool.not_false, if_true] at h
      unfold look at h ⊢
      cases hc : Nat.beq e t
      · rw [hc, cond_false] at h
        rw [cond_false]; exact look_forget (σ := σ) h
      · rw [hc, cond_true] at h
        refine ⟨by rw [cond_true]; exact h, fun x => ?_⟩
        have := Nat.eq_of_beq_eq_true hc
        subst this; subst x
        simp at hb
    · simp only [hb, Bool.not_true, Bool.false_eq_true, if_false] at h
      have := look_forget (σ := σ) h
      refine ⟨?_, this.2⟩
      unfold look
      have hc : Nat.beq e t = false := by
        cases hc : Nat.beq e t
        · rfl
        · have e1 := Nat.eq_of_beq_eq_true hc; have e2 := Nat.eq_of_beq_eq_true hb; subst e1; exact absurd e2 this.2
      rw [hc, cond_false]; exact this.1

def Sub : Sg → Sg → Prop
  | [], _ => True
  | (t, v) :: r, σ => look σ t = some v ∧ Sub r σ
theorem Sub.look {σ : Sg} : ∀ {σ0 : Sg}, Sub σ0 σ → ∀ t v, look σ0 t = some v → look σ t = some v
  | [], _, _, _, h => by cases h
  | (d, u) :: r, ⟨h1, h2⟩, t, v, h => by
    unfold Au.look at h
    cases hb : Nat.beq d t
    · rw [hb, cond_false] at h; exact Sub.look h2 t v h
    · rw [hb, cond_true] at h
      cases h; cases Nat.eq_of_beq_eq_true hb; exact h1

def ev (σ : Sg) : Operand → Option Value
  | .tmp t => look σ t
  | .const v => some v
  | .global g => some (.pointer (some ⟨g, 0, none⟩))
  | .func f => some (.func (.func f) #[] #[])
def evs (σ : Sg) : List Operand → Option (List Value)
  | [] => some []
  | x :: xs => match ev σ x, evs σ xs with
    | some v, some vs => some (v :: vs)
    | _, _ => none

theorem ev_eval {σ : Sg} {a : Act} (h : Agree σ a.tmps) {x : Operand} {v : Value} (e : ev σ x = some v) : a.eval x = v := by
  cases x with
  | tmp t =>
    have := h t v e
    simp [Act.eval, Array.getD_eq_getD_getElem?, this]
  | const u => cases e; rfl
  | global g => cases e; rfl
  | func f => cases e; rfl
theorem evs_map {σ : Sg} {a : Act} (h : Agree σ a.tmps) : ∀ {xs : List Operand} {vs : List Value}, evs σ xs = some vs → xs.map a.eval = vs
  | [], _, e => by cases e; rfl
  | x :: xs, vs, e => by
    unfold evs at e
    cases h1 : ev σ x with
    | none => rw [h1] at e; cases e
    | some v =>
      cases h2 : evs σ xs with
      | none => rw [h1, h2] at e; cases e
      | some ws => rw [h1, h2] at e; cases e; rw [List.map_cons, ev_eval h h1, evs_map h h2]

/-! ### The code's slots are in range -/
def opOk (n : Nat) (o : Oper) : Bool := match o.dst with | none => true | some d => Nat.blt d n
def codeOk (n : Nat) : Code → Bool
  | .region _ ops _ => ops.toList.all (opOk n)
  | .seq a b => codeOk n a && codeOk n b
  | .cond _ a b => codeOk n a && codeOk n b
  | .block _ c => codeOk n c
  | .loop c => codeOk n c
  | .scope c => codeOk n c
  | .rangeFunc _ ps a b => ps.toList.all (Nat.blt · n) && (codeOk n a && codeOk n b)
  | _ => true
def itemOk (n : Nat) : Item → Bool
  | .code c => codeOk n c
  | .inLoop c => codeOk n c
  | .inRegion ops _ => ops.toList.all (opOk n)
  | _ => true
def itemsOk (n : Nat) : List Item → Bool
  | [] => true
  | x :: k => itemOk n x && itemsOk n k

/-! ### What a step's outcome comes to -/
def RoundRuns (P : Program) (l : Nat) (f : FuncId) (tmps : Array Value) (assign body : Code) (w : World) (R : Value → World → Prop) : Prop :=
  ∀ (c : Frame) (cs : List Frame), ∃ v w', R v w' ∧ Steps P (lone (Frame.round l f tmps assign body .normal) (c :: cs) w) (lone (c.finish v) cs w')

def onRet (R : Value → World → Prop) : Ending → World → Prop
  | .returned v, w => R v w
  | _, _ => False

def Meets (P : Program) (r : Result Next) (R : Value → World → Prop) : Prop :=
  match r with
  | .ok (.value v) w => R v w
  | .ok .skip w => R undef w
  | .ok (.enter f args) w => Calls P f args w (onRet R)
  | .ok (.round l f tmps assign body) w => RoundRuns P l f tmps assign body w R
  | .ok (.row row args) w => Rows P row args w R
  | _ => False

theorem Calls.mono' {P : Program} {f : FuncId} {args : Array Value} {w : World} {R R' : Ending → World → Prop} (h : Calls P f args w R) (hr : ∀ e w', R e w' → R' e w') : Calls P f args w R' :=
  fun cs => let ⟨e, w', fr, r, s⟩ := h cs; ⟨e, w', fr, hr _ _ r, s⟩

theorem onRet_mono {R R' : Value → World → Prop} (hr : ∀ v w, R v w → R' v w) : ∀ e w, onRet R e w → onRet R' e w
  | .returned v, w, h => hr v w h
  | .panicked _, _, h => h
  | .outgrown, _, h => h

theorem Meets.mono {P : Program} {r : Result Next} {R R' : Value → World → Prop} (h : Meets P r R) (hr : ∀ v w, R v w → R' v w) : Meets P r R' := by
  unfold Meets at *
  split at h
  · exact hr _ _ h
  · exact hr _ _ h
  · exact Calls.mono' h (onRet_mono hr)
  · exact fun c cs => let ⟨v, w', r, s⟩ := h c cs; ⟨v, w', hr _ _ r, s⟩
  · exact Rows.mono h hr
  · exact h.elim

/-- At an operation of a region: what the operation meets, the machine comes to. -/
theorem Meets.steps {P : Program} {b : Frame} {a : Act} {k : List Item} {cs : List Frame} {w : World} {ops : Array Oper} {i : Nat} {rest : List Nat} {o : Oper}
    (ho : ops[i]? = some o) (hw : Region.wanted o (yielded ops a.tmps) = true) (hnd : ∀ c, o.op ≠ .defer c) {R : Value → World → Prop}
    (h : Meets P ((execOp a.eval o).run P w) R) :
    ∃ v w', R v w' ∧ Steps P (lone (b.atR a (.inRegion ops (i :: rest) :: k)) cs w) (lone (b.atR (a.put o.dst v) (.inRegion ops rest :: k)) cs w') := by
  have hg := stepGR_op (P := P) (b := b) (k := k) (cs := cs) (w := w) (rest := rest) ho hw
  rw [Oper.semAt_eq _ _ _ hnd] at hg
  have hfin : ∀ v, (b.atR a (.inRegion ops (i :: rest) :: k)).finish v = b.atR (a.put o.dst v) (.inRegion ops rest :: k) := by
    intro v; rw [Frame.finish_atR, ho]; rfl
  have hnocall : ∀ d s1 s2, (b.atR a (.inRegion ops (i :: rest) :: k)).todo ≠ .call d true s1 s2 :: [] := by simp [Frame.atR]
  unfold Meets at h
  split at h
  · rename_i v w' hr
    exact ⟨v, w', h, .one (step_lone_go (by rw [hg, ← hfin]; simp [stepG.apply, hr]))⟩
  · rename_i w' hr
    exact ⟨undef, w', h, .one (step_lone_go (by rw [hg, ← hfin]; simp [stepG.apply, hr]))⟩
  · rename_i f args w' hr
    obtain ⟨e, w'', fr, hR, hsteps, _, hleave⟩ := h (b.atR a (.inRegion ops (i :: rest) :: k) :: cs)
    have henter : step P (lone (b.atR a (.inRegion ops (i :: rest) :: k)) cs w) =
        .next (lone (Frame.enter P f args .normal) (b.atR a (.inRegion ops (i :: rest) :: k) :: cs) w') :=
      step_lone_go (by rw [hg]; simp [stepG.apply, hr, Frame.atR])
    cases e with
    | returned v => exact ⟨v, w'', hR, .head henter (Steps.trans hsteps (.one (by rw [← hfin]; exact step_leave_returned hleave)))⟩
    | panicked _ => exact hR.elim
    | outgrown => exact hR.elim
  · rename_i l f tmps assign body w' hr
    obtain ⟨v, w'', hR, hsteps⟩ := h (b.atR a (.inRegion ops (i :: rest) :: k)) cs
    have henter : step P (lone (b.atR a (.inRegion ops (i :: rest) :: k)) cs w) =
        .next (lone (Frame.round l f tmps assign body .normal) (b.atR a (.inRegion ops (i :: rest) :: k) :: cs) w') :=
      step_lone_go (by rw [hg]; simp [stepG.apply, hr, Frame.atR])
    exact ⟨v, w'', hR, .head henter (by rw [← hfin]; exact hsteps)⟩
  · rename_i row args w' hr
    obtain ⟨v, w'', hR, hsteps⟩ := h (b.atR a (.inRegion ops (i :: rest) :: k)) cs
    have henter : step P (lone (b.atR a (.inRegion ops (i :: rest) :: k)) cs w) =
        .next (lone (Frame.ofRow P row args .normal) (b.atR a (.inRegion ops (i :: rest) :: k) :: cs) w') :=
      step_lone_go (by rw [hg]; simp [stepG.apply, hr, Frame.atR])
    exact ⟨v, w'', hR, .head henter (by rw [← hfin]; exact hsteps)⟩
  · exact h.elim

/-! ### The judgement -/
structure Ex where
  f : FuncId
  n : Nat
  ro : Option Nat
  /-- blocks that keep their cells through a region: none asked for, or these -/
  ks : Option (List Nat) := none
class NM (E : Ex) : Prop where
  h : E.ks = none
instance nm_mk {f : FuncId} {n : Nat} {ro : Option Nat} : NM ⟨f, n, ro, none⟩ := ⟨rfl⟩

abbrev Fin := Value → List HP → Frz → Prop

def Ends (P : Program) (E : Ex) (m : Machine) (cs : List Frame) (F : Frz) (Φ : Fin) : Prop :=
  match E.ro with
  | none => ∃ fr w' v L' F', Steps P m (lone fr cs w') ∧ fr.leaving P w' (.returned v) ∧ fr.fn = E.f ∧ FLe F F' ∧ Φ v L' F' ∧ St w' L' F'
  | some _ => ∀ c cs', cs = c :: cs' → ∃ w' v L' F', Steps P m (lone (c.finish v) cs' w') ∧ FLe F F' ∧ Φ v L' F' ∧ St w' L' F'

theorem Ends.of_steps {P : Program} {E : Ex} {m m₁ : Machine} {cs : List Frame} {F F₁ : Frz} {Φ : Fin} (h : Steps P m m₁) (le : FLe F F₁) (h' : Ends P E m₁ cs F₁ Φ) : Ends P E m cs F Φ := by
  unfold Ends at *
  split
  · rename_i hro
    rw [hro] at h'
    obtain ⟨fr, w', v, L', F', s, r⟩ := h'
    exact ⟨fr, w', v, L', F', h.trans s, r.1, r.2.1, le.trans r.2.2.1, r.2.2.2⟩
  · rename_i l hro
    rw [hro] at h'
    intro c cs' e
    obtain ⟨w', v, L', F', s, r⟩ := h' c cs' e
    exact ⟨w', v, L', F', h.trans s, le.trans r.1, r.2⟩

def T (P : Program) (E : Ex) (D : List Deferred) (L : List HP) (F : Frz) (k : List Item) (σ : Sg) (Φ : Fin) : Prop :=
  itemsOk E.n k = true → ∀ (w : World) (b : Frame) (a : Act) (cs : List Frame), b.fn = E.f → b.kind = .normal → b.roundOf = E.ro →
    a.tmps.size = E.n → a.defers = D → Agree σ a.tmps → St w L F → Ends P E (lone (b.atR a k) cs w) cs F Φ

section
variable {P : Program} {E : Ex} {D : List Deferred} {L L' : List HP} {F F' : Frz} {k k' : List Item} {σ σ' : Sg} {Φ : Fin}

theorem t_weak (h : T P E D L F k σ' Φ) (hs : Sub σ' σ) : T P E D L F k σ Φ :=
  fun ok w b a cs h1 h2 h3 h4 h5 ag st => h ok w b a cs h1 h2 h3 h4 h5 (fun t v e => ag t v (hs.look t v e)) st

/-- A change of the assertion alone. -/
theorem t_conv (hc : ∀ w, St w L F → ∃ L' F', FLe F F' ∧ St w L' F' ∧ T P E D L' F' k σ Φ) : T P E D L F k σ Φ := by
  intro ok w b a cs h1 h2 h3 h4 h5 ag st
  obtain ⟨L', F', le, st', h⟩ := hc w st
  exact .of_steps (.refl _ _) le (h ok w b a cs h1 h2 h3 h4 h5 ag st')

theorem t_perm (p : L.Perm L') (h : T P E D L' F k σ Φ) : T P E D L F k σ Φ :=
  t_conv fun _ st => ⟨L', F, .refl _, st.perm p, h⟩

theorem t_step (hok : itemsOk E.n k = true → itemsOk E.n k' = true) (hs : ∀ b a cs w, step P (lone (Frame.atR b a k) cs w) = .next (lone (b.atR a k') cs w))
    (h : T P E D L F k' σ Φ) : T P E D L F k σ Φ :=
  fun ok w b a cs h1 h2 h3 h4 h5 ag st => .of_steps (.one (hs b a cs w)) (.refl _) (h (hok ok) w b a cs h1 h2 h3 h4 h5 ag st)

theorem t_skip (h : T P E D L F k σ Φ) : T P E D L F (.code .skip :: k) σ Φ :=
  t_step (fun ok => by simpa [itemsOk, itemOk, codeOk] using ok) (fun _ _ _ _ => stepR_skip) h
theorem t_label {l : Nat} (h : T P E D L F k σ Φ) : T P E D L F (.code (.label l) :: k) σ Φ :=
  t_step (fun ok => by simpa [itemsOk, itemOk, codeOk] using ok) (fun _ _ _ _ => stepR_label) h
theorem t_inBlock {i : Nat} (h : T P E D L F k σ Φ) : T P E D L F (.inBlock i :: k) σ Φ :=
  t_step (fun ok => by simpa [itemsOk, itemOk, codeOk] using ok) (fun _ _ _ _ => stepR_inBlock) h
theorem t_seq {x y : Code} (h : T P E D L F (.code x :: .code y :: k) σ Φ) : T P E D L F (.code (.seq x y) :: k) σ Φ :=
  t_step (fun ok => by simpa [itemsOk, itemOk, codeOk, and_assoc] using ok) (fun _ _ _ _ => stepR_seq) h
theorem t_block {i : Nat} {c : Code} (h : T P E D L F (.code c :: .inBlock i :: k) σ Φ) : T P E D L F (.code (.block i c) :: k) σ Φ :=
  t_step (fun ok => by simpa [itemsOk, itemOk, codeOk] using ok) (fun _ _ _ _ => stepR_block) h
theorem t_loop1 {c : Code} (h : T P E D L F (.code c :: .inLoop c :: k) σ Φ) : T P E D L F (.code (.loop c) :: k) σ Φ :=
  t_step (fun ok => by simp [itemsOk, itemOk, codeOk] at ok ⊢; exact ok) (fun _ _ _ _ => stepR_loop) h
theorem t_inLoop1 {c : Code} (h : T P E D L F (.code c :: .inLoop c :: k) σ Φ) : T P E D L F (.inLoop c :: k) σ Φ :=
  t_step (fun ok => by simp [itemsOk, itemOk] at ok ⊢; exact ok) (fun _ _ _ _ => stepR_inLoop) h

theorem exitTo_ok {n i : Nat} : ∀ {k k' : List Item}, exitTo i k = some k' → itemsOk n k = true → itemsOk n k' = true
  | [], _, h, _ => by cases h
  | x :: k, k', h, ok => by
    have ok' : itemsOk n k = true := by simp [itemsOk] at ok; exact ok.2
    unfold exitTo at h
    split at h
    · rename_i heq
      cases heq
      split at h
      · cases h; exact ok'
      · exact exitTo_ok h ok'
    · rename_i heq
      cases heq
      exact exitTo_ok h ok'
    · cases h
theorem t_exit {i : Nat} (hk : exitTo i k = some k') (h : T P E D L F k' σ Φ) : T P E D L F (.code (.exit i) :: k) σ Φ :=
  t_step (fun ok => exitTo_ok hk (by simpa [itemsOk, itemOk, codeOk] using ok)) (fun _ _ _ _ => stepR_exit hk) h

/-- A test: both ways, under what the test says. -/
theorem t_cond {c : Operand} {x y : Code} {t : Bool} (hc : ev σ c = some (.bool t)) (ht : t = true → T P E D L F (.code x :: k) σ Φ)
    (hf : t = false → T P E D L F (.code y :: k) σ Φ) : T P E D L F (.code (.cond c x y) :: k) σ Φ := by
  intro ok w b a cs h1 h2 h3 h4 h5 ag st
  have ok' : itemsOk E.n (.code x :: k) = true ∧ itemsOk E.n (.code y :: k) = true := by
    simp [itemsOk, itemOk, codeOk] at ok ⊢; exact ⟨⟨ok.1.1, ok.2⟩, ok.1.2, ok.2⟩
  have hs := stepR_cond (P := P) (b := b) (k := k) (cs := cs) (w := w) (x := x) (y := y) (ev_eval ag hc)
  cases t
  · exact .of_steps (.one hs) (.refl _) (hf rfl ok'.2 w b a cs h1 h2 h3 h4 h5 ag st)
  · exact .of_steps (.one hs) (.refl _) (ht rfl ok'.1 w b a cs h1 h2 h3 h4 h5 ag st)

/-- A loop: by a measure. -/
theorem t_loop {c : Code} (Inv : Nat → List HP → Frz → Sg → Prop) (n : Nat) (h0 : Inv n L F σ)
    (round : ∀ n L F σ, Inv n L F σ → (∀ m L' F' σ', m < n → Inv m L' F' σ' → T P E D L' F' (.inLoop c :: k) σ' Φ) → T P E D L F (.code c :: .inLoop c :: k) σ Φ) :
    T P E D L F (.code (.loop c) :: k) σ Φ := by
  have key : ∀ n L F σ, Inv n L F σ → T P E D L F (.code c :: .inLoop c :: k) σ Φ := by
    intro n
    induction n using Nat.strongRecOn with
    | _ n ih => exact fun L F σ h => round n L F σ h fun m L' F' σ' hm h' => t_inLoop1 (ih m hm L' F' σ' h')
  exact t_loop1 (key n L F σ h0)

/-! ### Leaving -/
def resv (σ : Sg) : List ResultVar → Option (List Value)
  | [] => some []
  | .tmp t :: r => match look σ t, resv σ r with
    | some v, some vs => some (v :: vs)
    | _, _ => none
  | .cell _ _ :: _ => none
def packed : List Value → Value
  | [v] => v
  | vs => .tuple vs.toArray

theorem mapM_tmp {σ : Sg} {tmps : Array Value} {g : ResultVar → Sem Value} (hg : ∀ t, g (.tmp t) = pure (tmps.getD t undef)) (ag : Agree σ tmps) (P : Program) (w : World) :
    ∀ {rs : List ResultVar} {vs : List Value}, resv σ rs = some vs → (rs.mapM g).run P w = .ok vs w
  | [], _, e => by cases e; simp [List.mapM_nil]
  | .tmp t :: r, vs, e => by
    unfold resv at e
    cases h1 : look σ t with
    | none => rw [h1] at e; cases e
    | some v =>
      cases h2 : resv σ r with
      | none => rw [h1, h2] at e; cases e
      | some ws =>
        rw [h1, h2] at e; cases e
        have := mapM_tmp hg ag P w h2
        rw [List.mapM_cons, Sem.run_bind, hg, Sem.run_pure, Result.andThen_ok, Sem.run_bind, this]
        simp [Array.getD_eq_getD_getElem?, ag t v h1]
  | .cell _ _ :: _, _, e => by cases e

theorem results_of {σ : Sg} {a : Act} {fn : Func} {w : World} {vs : List Value} (ag : Agree σ a.tmps) (h : resv σ fn.results.toList = some vs) :
    (results fn a.tmps).run P w = .ok (packed vs) w := by
  unfold results
  rw [Array.mapM_eq_mapM_toList]
  simp only [Sem.run_bind, Sem.run_map]
  rw [mapM_tmp (fun _ => rfl) ag P w h]
  simp only [Result.andThen_ok, Sem.run_pure]
  congr 1
  match vs with
  | [] => rfl
  | [v] => rfl
  | u :: v :: r => simp [packed]

theorem leave_of {b : Frame} {a : Act} {todo : List Item} {fn : Func} {w : World} {v : Value} (hk : b.kind = .normal) (hd : a.defers = []) (hf : P.funcs[b.fn]? = some fn)
    (hr : (results fn a.tmps).run P w = .ok v w) : ({ b.atR a todo with mode := .returning } : Frame).leaving P w (.returned v) :=
  ⟨rfl, hd, hk, fn, hf, hr⟩

/-! ### A function's contract -/
def Sp (P : Program) (f : FuncId) (args : List Value) (A : List HP) (F : Frz) (Ψ : Fin) : Prop :=
  ∀ (R : List HP) (w : World), St w (A ++ R) F → Calls P f args.toArray w (onRet fun v w' => ∃ B F', FLe F F' ∧ Ψ v B F' ∧ St w' (B ++ R) F')

theorem Sp.mono {f : FuncId} {args : List Value} {A : List HP} {Ψ Ψ' : Fin} (h : Sp P f args A F Ψ) (hq : ∀ v B F', FLe F F' → Ψ v B F' → Ψ' v B F') : Sp P f args A F Ψ' :=
  fun R w st => Calls.mono' (h R w st) (onRet_mono fun v w' ⟨B, F', le, q, s⟩ => ⟨B, F', le, hq v B F' le q, s⟩)

def argS : Nat → List Value → Sg
  | _, [] => []
  | i, v :: vs => (i, v) :: argS (i + 1) vs
theorem look_argS {t : Nat} {v : Value} : ∀ {i : Nat} {vs : List Value}, look (argS i vs) t = some v → i ≤ t ∧ vs[t - i]? = some v
  | _, [], h => by cases h
  | i, u :: vs, h => by
    unfold argS look at h
    cases hb : Nat.beq i t
    · rw [hb, cond_false] at h
      have := look_argS h
      have hne : i ≠ t := fun e => by subst e; simp at hb
      refine ⟨by omega, ?_⟩
      have e : t - i = (t - (i + 1)) + 1 := by omega
      rw [e, List.getElem?_cons_succ]; exact this.2
    · rw [hb, cond_true] at h
      cases h; cases Nat.eq_of_beq_eq_true hb
      simp

theorem sp_of {f : FuncId} {fn : Func} {c : Code} {args : List Value} {A : List HP} {Ψ : Fin} (hf : P.funcs[f]? = some fn) (hb : fn.body = some c)
    (hok : codeOk fn.ntmps c = true) (hn' : Nat.ble args.length fn.ntmps = true)
    (h : ∀ R, T P ⟨f, fn.ntmps, none, none⟩ [] (A ++ R) F [.code c] (argS 0 args) (fun v L' F' => ∃ B, L' = B ++ R ∧ Ψ v B F')) : Sp P f args A F Ψ := by
  intro R w st cs
  have hn : args.length ≤ fn.ntmps := Nat.le_of_ble_eq_true hn'
  have hfr : Frame.enter P f args.toArray .normal = Frame.atR { (default : Frame) with fn := f, kind := .normal, roundOf := none }
      { tmps := args.toArray ++ Array.replicate (fn.ntmps - args.length) undef, defers := [] } [.code c] := by
    simp [Frame.enter, Frame.atR, hf, hb]
  have := h R (by simp [itemsOk, itemOk, hok]) w { (default : Frame) with fn := f, kind := .normal, roundOf := none }
    { tmps := args.toArray ++ Array.replicate (fn.ntmps - args.length) undef, defers := [] } cs rfl rfl rfl (by simp; omega) rfl
    (fun t v e => by
      have := look_argS e
      have h2 : args[t]? = some v := this.2
      have hlt : t < args.length := by
        rcases Nat.lt_or_ge t args.length with x | x
        · exact x
        · rw [List.getElem?_eq_none x] at h2; cases h2
      rw [Array.getElem?_append_left (by simpa using hlt)]; simpa using h2) st
  obtain ⟨fr, w', v, L', F', s, hl, hfn, le, ⟨B, rfl, q⟩, st'⟩ := this
  exact ⟨.returned v, w', fr, ⟨B, F', le, q, st'⟩, by rw [hfr]; exact s, hfn, hl⟩

/-- The call of a value: a function, a closure, yield. -/
def callSem (fv : Value) (args : List Value) : Sem Next := do let d ← Deferred.ofValue fv args.toArray; invoke d.target d.args
def CV (P : Program) (fv : Value) (args : List Value) (A : List HP) (F : Frz) (Ψ : Fin) : Prop :=
  ∀ (R : List HP) (w : World), St w (A ++ R) F → Meets P ((callSem fv args).run P w) fun v w' => ∃ B F', FLe F F' ∧ Ψ v B F' ∧ St w' (B ++ R) F'

class HasBody (P : Program) (f : FuncId) : Prop where
  ex : ∃ fn c, P.funcs[f]? = some fn ∧ fn.body = some c ∧ (fn.name == "runtime.NumGoroutine") = false
theorem HasBody.mk' {f : FuncId} {fn : Func} (h : P.funcs[f]? = some fn) (hb : fn.body.isSome = true) (hn : (fn.name == "runtime.NumGoroutine") = false) : HasBody P f := by
  obtain ⟨c, hc⟩ := Option.isSome_iff_exists.1 hb
  exact ⟨fn, c, h, hc, hn⟩
theorem callFunc_enter {f : FuncId} [h : HasBody P f] (args : Array Value) (w : World) : (callFunc f args).run P w = .ok (.enter f args) w := by
  obtain ⟨fn, c, h1, h2, h3⟩ := h.ex
  simp [callFunc, h1, h2, beq_eq_false_iff_ne.1 h3]

theorem run_call_func {f : FuncId} [HasBody P f] (first cap : Array Value) (args : List Value) (w : World) :
    (callSem (.func (.func f) first cap) args).run P w = .ok (.enter f (first ++ args.toArray ++ cap)) w := by
  simp [callSem, Deferred.ofValue, invoke, callFunc_enter]

theorem cv_of_sp {f : FuncId} [HasBody P f] {cap : List Value} {args : List Value} {A : List HP} {Ψ : Fin} (h : Sp P f (args ++ cap) A F Ψ) :
    CV P (.func (.func f) #[] cap.toArray) args A F Ψ := by
  intro R w st
  rw [run_call_func]
  unfold Meets
  have := h R w st
  simpa using this
end
end Go.Au
end

section
set_option linter.unusedVariables false
set_option linter.unusedSimpArgs false
namespace Go.Au
open Go

/-! ### The program's tables -/
class Und (P : Program) (t : TypeId) (d : outParam TypeDesc) : Prop where
  h : P.underlying t = some d
/-- zero value, its cells, how many cells, how many bytes -/
class Inf (P : Program) (t : TypeId) (zs : outParam (List Value)) (n : outParam Nat) (by_ : outParam Nat) : Prop where
  h : ∃ i z, P.info? t = some i ∧ i.zero = some z ∧ z.cells.toList = zs ∧ i.size = n ∧ i.bytes = by_

theorem Inf.mk' {P : Program} {t : TypeId} {z : Value} {n by_ : Nat} {zs : List Value} (h : (P.info? t).map (fun i => (i.zero, i.size, i.bytes)) = some (some z, n, by_))
    (hz : z.cells.toList = zs) : Inf P t zs n by_ := by
  cases hi : P.info? t with
  | none => rw [hi] at h; cases h
  | some i =>
    rw [hi, Option.map_some, Option.some.injEq, Prod.mk.injEq, Prod.mk.injEq] at h
    exact ⟨i, z, hi, h.1, hz, h.2.1, h.2.2⟩

section tables
variable {P : Program} {t : TypeId} {d : TypeDesc} {zs : List Value} {n y : Nat}
theorem run_und [h : Und P t d] (w : World) : (underlying t).run P w = .ok d w := run_underlying h.h w
theorem run_size [h : Inf P t zs n y] (w : World) : (sizeOf t).run P w = .ok n w := by
  obtain ⟨i, z, h1, _, _, h4, _⟩ := h.h
  simp [sizeOf, typeInfo, h1, h4]
theorem run_zero [h : Inf P t zs n y] (w : World) : ∃ z, (zeroValue t).run P w = .ok z w ∧ z.cells.toList = zs := by
  obtain ⟨i, z, h1, h2, h3, _⟩ := h.h
  exact ⟨z, by simp [zeroValue, typeInfo, h1, h2], h3⟩
theorem run_bytes [h : Inf P t zs n y] (w : World) : ∃ i, (typeInfo t).run P w = .ok i w ∧ i.bytes = y := by
  obtain ⟨i, z, h1, _, _, _, h5⟩ := h.h
  exact ⟨i, by simp [typeInfo, h1], h5⟩
def aggD : TypeDesc → Bool
  | .struct _ | .array _ _ => true
  | _ => false
/-- a type whose values are rows of cells; one whose values are single cells -/
class AggT (P : Program) (t : TypeId) : Prop where
  h : ∃ d, P.underlying t = some d ∧ aggD d = true
class ScaT (P : Program) (t : TypeId) : Prop where
  h : ∃ d, P.underlying t = some d ∧ aggD d = false
theorem run_isAgg_t [h : AggT P t] (w : World) : (isAgg t).run P w = .ok true w := by
  obtain ⟨d, h1, h2⟩ := h.h
  unfold isAgg
  rw [Sem.run_bind, run_underlying h1, Result.andThen_ok]
  cases d <;> first | rfl | cases h2
theorem run_isAgg_f [h : ScaT P t] (w : World) : (isAgg t).run P w = .ok false w := by
  obtain ⟨d, h1, h2⟩ := h.h
  unfold isAgg
  rw [Sem.run_bind, run_underlying h1, Result.andThen_ok]
  cases d <;> first | rfl | cases h2
/-- a struct's fields: offset and size -/
class Str (P : Program) (t : TypeId) (offs : outParam (List (Nat × Nat))) : Prop where
  h : ∃ fs, P.underlying t = some (.struct fs) ∧ ∀ w, (fs.mapM fun f => do pure (f.offset, ← sizeOf f.type) : Sem (Array (Nat × Nat))).run P w = .ok offs.toArray w
end tables

/-! ### Assertions on single blocks -/
def at1 (b : Nat) (o : Obj) : HP := ⟨fun _ h => h = [(b, o)], fun _ h => h⟩
/-- A range that takes in no cell of a row. -/
def FrOk (n : Nat) (fr : Nat × Nat) : Prop := fr.1 = fr.2 ∨ n ≤ fr.1
theorem FrOk.out {n : Nat} {fr : Nat × Nat} (h : FrOk n fr) : ∀ o, o < n → (decide (fr.1 ≤ o) && decide (o < fr.2)) = false := fun o ho => by
  rcases h with h | h
  · rw [h]; simp
    try omega
  · simp
    try omega
/-- A row of cells that is ours alone. -/
def own (b : Nat) (cs : List Value) (t : TypeId) : HP :=
  ⟨fun _ h => ∃ fr : Nat × Nat, FrOk cs.length fr ∧ h = [(b, .cells cs.toArray t fr)], fun _ h => h⟩

/-- An assertion found in a list. -/
class Fnd (A : HP) (L : List HP) (R : outParam (List HP)) : Prop where
  p : L.Perm (A :: R)
instance fnd_tl {A B : HP} {L R : List HP} [h : Fnd A L R] : Fnd A (B :: L) (B :: R) := ⟨(h.p.cons B).trans (.swap A B R)⟩
instance fnd_nil {A : HP} {B R : List HP} [h : Fnd A B R] : Fnd A ([] ++ B) R := ⟨h.p⟩
instance fnd_at {A X : HP} {L B R : List HP} [h : Fnd A (L ++ B) R] : Fnd A ((X :: L) ++ B) (X :: R) := ⟨(h.p.cons X).trans (.swap A X R)⟩
instance fnd_hd {A : HP} {L : List HP} : Fnd A (A :: L) L := ⟨.refl _⟩
instance fnd_ah {A : HP} {L B : List HP} : Fnd A ((A :: L) ++ B) (L ++ B) := ⟨.refl _⟩

/-- What stands at a block. -/
class FB (b : Nat) (L : List HP) (A : outParam HP) (R : outParam (List HP)) : Prop where
  p : L.Perm (A :: R)
instance fb_tl {b : Nat} {B : HP} {L R : List HP} {A : HP} [h : FB b L A R] : FB b (B :: L) A (B :: R) := ⟨(h.p.cons B).trans (.swap A B R)⟩
instance fb_nil {b : Nat} {B R : List HP} {A : HP} [h : FB b B A R] : FB b ([] ++ B) A R := ⟨h.p⟩
instance fb_at {b : Nat} {X : HP} {L B R : List HP} {A : HP} [h : FB b (L ++ B) A R] : FB b ((X :: L) ++ B) A (X :: R) := ⟨(h.p.cons X).trans (.swap A X R)⟩
instance fb_own {b : Nat} {cs : List Value} {t : TypeId} {L : List HP} : FB b (own b cs t :: L) (own b cs t) L := ⟨.refl _⟩
instance fb_owna {b : Nat} {cs : List Value} {t : TypeId} {L B : List HP} : FB b ((own b cs t :: L) ++ B) (own b cs t) (L ++ B) := ⟨.refl _⟩

class Ext (A : List HP) (L : List HP) (R : outParam (List HP)) : Prop where
  p : L.Perm (A ++ R)
instance ext_nil {L : List HP} : Ext [] L L := ⟨.refl _⟩
instance ext_cons {a : HP} {A L L1 R : List HP} [h : Fnd a L L1] [k : Ext A L1 R] : Ext (a :: A) L R := ⟨h.p.trans (k.p.cons a)⟩

theorem St.at1 {w : World} {b : Nat} {o : Obj} {L : List HP} {F : Frz} (s : St w (at1 b o :: L) F) : w.heap[b]? = some o := by
  obtain ⟨h, ⟨h1, h2, rfl, e, _⟩, ow⟩ := s
  cases (show h1 = [(b, o)] from e)
  exact ow.own b o (by simp)
theorem St.set {w : World} {b : Nat} {o : Obj} {L : List HP} {F : Frz} (s : St w (Au.at1 b o :: L) F) (o' : Obj) :
    St { w with heap := w.heap.setIfInBounds b o' } (Au.at1 b o' :: L) F := by
  obtain ⟨h, ⟨h1, h2, rfl, e, r⟩, ow⟩ := s
  cases (show h1 = [(b, o)] from e)
  exact ⟨(b, o') :: h2, ⟨[(b, o')], h2, rfl, rfl, r⟩, ow.set o'⟩
theorem St.new {w : World} {L : List HP} {F : Frz} (s : St w L F) (o : Obj) : St { w with heap := w.heap.push o } (Au.at1 w.heap.size o :: L) F := by
  obtain ⟨h, a, ow⟩ := s
  exact ⟨_, ⟨[(w.heap.size, o)], h, rfl, rfl, a⟩, ow.new o⟩
theorem St.freeze {w : World} {b : Nat} {o : Obj} {L : List HP} {F : Frz} (s : St w (Au.at1 b o :: L) F) : FLe F (F.add b o) ∧ St w L (F.add b o) := by
  obtain ⟨h, ⟨h1, h2, rfl, e, r⟩, ow⟩ := s
  cases (show h1 = [(b, o)] from e)
  have := ow.freeze
  exact ⟨this.1, h2, r.mono this.1, this.2⟩
theorem St.drop {w : World} {A : HP} {L : List HP} {F : Frz} (s : St w (A :: L) F) : St w L F := by
  obtain ⟨h, ⟨h1, h2, rfl, _, r⟩, ow⟩ := s
  exact ⟨h2, r, ow.dropl⟩
theorem St.ro {w : World} {L : List HP} {F : Frz} (s : St w L F) {b : Nat} {o : Obj} (h : F.ro b = some o) : w.heap[b]? = some o := by
  obtain ⟨_, _, ow⟩ := s; exact (ow.ro b o h).1
/-- What an assertion says beside its blocks. -/
theorem St.pure {w : World} {A : HP} {L : List HP} {F : Frz} {p : Prop} (s : St w (A :: L) F) (hp : ∀ h, A.P F h → p) : p := by
  obtain ⟨h, ⟨h1, h2, rfl, a, r⟩, ow⟩ := s
  exact hp _ a

theorem setCell_eq {w : World} {b o : Nat} {arr : Array Value} {t : TypeId} {fr : Nat × Nat} (h : w.heap[b]? = some (.cells arr t fr)) (v : Value) :
    w.setCell ⟨b, o, none⟩ v = { w with heap := w.heap.setIfInBounds b (.cells (arr.setIfInBounds o v) t fr) } := by
  have hlt := lt_of_get h
  have hb : w.heap[b] = .cells arr t fr := by
    rw [Array.getElem?_eq_getElem hlt] at h; exact Option.some.inj h
  unfold World.setCell
  congr 1
  apply Array.ext
  · simp
  · intro i h1 h2
    by_cases e : b = i
    · subst e; simp [Array.getElem_modify_self, hb]
    · have h2' : i < w.heap.size := by simpa using h2
      rw [Array.getElem_setIfInBounds_ne h2' e]; simp [Array.getElem_modify, e]

section cells
variable {P : Program} {w : World} {b o : Nat} {cs : List Value} {t : TypeId} {L : List HP} {F : Frz}
theorem St.openOwn (s : St w (own b cs t :: L) F) : ∃ fr : Nat × Nat, FrOk cs.length fr ∧ St w (Au.at1 b (.cells cs.toArray t fr) :: L) F := by
  obtain ⟨h, ⟨h1, h2, rfl, ⟨fr, hf, e⟩, r⟩, ow⟩ := s
  exact ⟨fr, hf, h1 ++ h2, ⟨h1, h2, rfl, e, r⟩, ow⟩
theorem St.shutOwn {fr : Nat × Nat} (hf : FrOk cs.length fr) (s : St w (Au.at1 b (.cells cs.toArray t fr) :: L) F) : St w (own b cs t :: L) F := by
  obtain ⟨h, ⟨h1, h2, rfl, e, r⟩, ow⟩ := s
  exact ⟨h1 ++ h2, ⟨h1, h2, rfl, ⟨fr, hf, e⟩, r⟩, ow⟩
theorem St.newOwn (s : St w L F) (cs : List Value) (t : TypeId) : St { w with heap := w.heap.push (.cells cs.toArray t (0, 0)) } (own w.heap.size cs t :: L) F :=
  (s.new _).shutOwn (.inl rfl)
theorem St.cell (s : St w (own b cs t :: L) F) (o : Nat) : w.cell? ⟨b, o, none⟩ = cs[o]? := by
  obtain ⟨fr, _, s1⟩ := s.openOwn
  simp [World.cell?, s1.at1]
theorem St.cellRo (s : St w L F) {arr : Array Value} {fr : Nat × Nat} (h : F.ro b = some (.cells arr t fr)) (o : Nat) : w.cell? ⟨b, o, none⟩ = arr[o]? := by
  simp [World.cell?, s.ro h]

theorem St.store (s : St w (own b cs t :: L) F) {v : Value} (hv : v.oneCell' = true) (ho : o < cs.length) :
    ∃ w', (Go.store ⟨b, o, none⟩ v).run P w = .ok () w' ∧ St w' (own b (cs.set o v) t :: L) F := by
  have hc := s.cell o
  rw [List.getElem?_eq_getElem ho] at hc
  obtain ⟨fr, hfr, s1⟩ := s.openOwn
  have hf : w.frozen? ⟨b, o, none⟩ = false := by
    have := hfr.out o ho
    simp only [World.frozen?, s1.at1]
    exact this
  refine ⟨_, by rw [run_store P w _ v .plain hv, hc]; simp only [hf]; rfl, ?_⟩
  rw [setCell_eq s1.at1]
  have := s1.set (.cells ((cs.set o v).toArray) t fr)
  have h2 := this.shutOwn (cs := cs.set o v) (by rw [List.length_set]; exact hfr)
  simpa using h2

/-- cells overwritten from a place on -/
def setN : List Value → Nat → List Value → List Value
  | cs, _, [] => cs
  | cs, o, v :: vs => setN (cs.set o v) (o + 1) vs
theorem length_setN : ∀ (vs cs : List Value) (o : Nat), (setN cs o vs).length = cs.length
  | [], _, _ => rfl
  | v :: vs, cs, o => by rw [setN, length_setN vs]; simp
theorem Addr.add_none (b o i : Nat) : (⟨b, o, none⟩ : Addr).add i = ⟨b, o + i, none⟩ := by
  unfold Addr.add; split
  · rename_i h; subst h; rfl
  · rfl
theorem St.storeCells : ∀ (vs : List Value) (cs : List Value) (i : Nat) (w : World), St w (own b cs t :: L) F → (∀ v ∈ vs, v.oneCell' = true) → o + i + vs.length ≤ cs.length →
    ∃ w', (Go.storeCells ⟨b, o, none⟩ vs i).run P w = .ok () w' ∧ St w' (own b (setN cs (o + i) vs) t :: L) F
  | [], cs, i, w, s, _, _ => ⟨w, rfl, s⟩
  | v :: vs, cs, i, w, s, hv, hl => by
    rw [List.length_cons] at hl
    obtain ⟨w1, r1, s1⟩ := s.store (P := P) (o := o + i) (hv v List.mem_cons_self) (by omega)
    obtain ⟨w2, r2, s2⟩ := St.storeCells vs (cs.set (o + i) v) (i + 1) w1 s1 (fun u m => hv u (List.mem_cons_of_mem _ m)) (by rw [List.length_set]; omega)
    refine ⟨w2, ?_, s2⟩
    unfold Go.storeCells
    rw [Addr.add_none, Sem.run_bind, r1, Result.andThen_ok, r2]
end cells

/-! ### A region's operations -/
def gd (σ : Sg) (ops : Array Oper) : Option (Nat × Bool) → Option Bool
  | none => some true
  | some (j, want) => match (ops[j]?).bind (·.dst) with
    | some t => match look σ t with
      | some (.bool b) => some (b == want)
      | some (.tuple _) => some false
      | _ => none
    | none => none
theorem gd_wanted {σ : Sg} {ops : Array Oper} {o : Oper} {tmps : Array Value} (ag : Agree σ tmps) {c : Bool} (h : gd σ ops o.guard = some c) :
    Region.wanted o (yielded ops tmps) = c := by
  unfold gd at h
  unfold Region.wanted
  split at h
  · rename_i hg; rw [hg]; cases h; rfl
  · rename_i j want hg
    rw [hg]
    dsimp only
    split at h
    · rename_i t ht
      split at h
      · rename_i b hb
        cases h
        simp only [yielded, ht, Option.bind_some, ag t _ hb]
        cases b <;> cases want <;> rfl
      · rename_i vs hb
        cases h
        simp only [yielded, ht, Option.bind_some, ag t _ hb]
        rfl
      · cases h
    · cases h

def putd (d : Option Tmp) (v : Value) (σ : Sg) : Sg := match d with
  | some d => (d, v) :: σ
  | none => σ

/-- How much an operation has to do with the world: 0 nothing · 1 it reads · 2 else. -/
def lvl (P : Program) : Op → Nat
  | .move _ | .assign _ | .pick .. | .nilCheck _ | .binOp .. | .unOp .. | .fieldAddr .. | .field .. | .indexAddr .. | .index .. | .extract .. | .makeFunc .. | .makeInterface .. | .build .. | .slice .. => 0
  | .load .. | .lookup .. | .entry _ | .typeAssert .. => 1
  | .convert _ dst _ => match P.underlying dst with
    | some (.int _) => 0
    | _ => 2
  | .call ⟨.builtin .len, _, ts⟩ => match (ts[0]?).bind P.underlying with
    | some (.slice _) | some .string | some (.array _ _) => 0
    | _ => 1
  | .call ⟨.builtin .min, _, _⟩ | .call ⟨.builtin .max, _, _⟩ | .call ⟨.builtin .cap, _, _⟩ => 0
  | _ => 2

/-- A world to which blocks have been added. -/
structure Grown (w w' : World) : Prop where
  os : w'.os = w.os
  tape : w'.tape = w.tape
  output : w'.output = w.output
  old : ∀ (b : Nat) (o : Obj), w.heap[b]? = some o → w'.heap[b]? = some o
theorem Grown.refl (w : World) : Grown w w := ⟨rfl, rfl, rfl, fun _ _ h => h⟩
theorem Grown.trans {w w' w'' : World} (h : Grown w w') (k : Grown w' w'') : Grown w w'' :=
  ⟨k.os.trans h.os, k.tape.trans h.tape, k.output.trans h.output, fun b o e => k.old b o (h.old b o e)⟩
theorem Grown.push (w : World) (o : Obj) : Grown w { w with heap := w.heap.push o } := ⟨rfl, rfl, rfl, fun b x e => by
  show (w.heap.push o)[b]? = _
  rw [Array.getElem?_push, if_neg (by have := lt_of_get e; omega)]; exact e⟩
theorem St.grown {w w' : World} {L : List HP} {F : Frz} (s : St w L F) (g : Grown w w') : St w' L F := by
  obtain ⟨h, a, o⟩ := s
  exact ⟨h, a, g.os.trans o.os, g.tape.trans o.tape, g.output.trans o.output, o.nodup, fun b x m => g.old b x (o.own b x m), fun b x e => ⟨g.old b x (o.ro b x e).1, (o.ro b x e).2⟩⟩
/-- An operation that does nothing but lay a new block. -/
def isNew : Op → Bool
  | .alloc _ | .box .. => true
  | _ => false
/-- A world in which these blocks' cells are asz they were. -/
structure Keep (S : List Nat) (w w' : World) : Prop where
  os : w'.os = w.os
  tape : w'.tape = w.tape
  output : w'.output = w.output
  cell : ∀ b ∈ S, ∀ o : Nat, w'.cell? ⟨b, o, none⟩ = w.cell? ⟨b, o, none⟩
def Stb (ks : Option (List Nat)) (w w' : World) : Prop := match ks with
  | none => Grown w w'
  | some S => Keep S w w'
def Obl (ks : Option (List Nat)) (w w' : World) : Prop := match ks with
  | none => True
  | some S => Keep S w w'
theorem Keep.trans {S : List Nat} {w w' w'' : World} (h : Keep S w w') (k : Keep S w' w'') : Keep S w w'' :=
  ⟨k.os.trans h.os, k.tape.trans h.tape, k.output.trans h.output, fun b hb o => (k.cell b hb o).trans (h.cell b hb o)⟩
theorem Stb.refl (ks : Option (List Nat)) (w : World) : Stb ks w w := by
  cases ks with
  | none => exact Grown.refl w
  | some S => exact ⟨rfl, rfl, rfl, fun _ _ _ => rfl⟩
theorem stb_gr {E : Ex} [nm : NM E] {w w' : World} (h : Stb E.ks w w') : Grown w w' := by rw [nm.h] at h; exact h
theorem Obl.refl (ks : Option (List Nat)) (w : World) : Obl ks w w := by
  cases ks with
  | none => trivial
  | some S => exact ⟨rfl, rfl, rfl, fun _ _ _ => rfl⟩
theorem Stb.trans {ks : Option (List Nat)} {w w' w'' : World} (h : Stb ks w w') (k : Stb ks w' w'') : Stb ks w w'' := by
  cases ks with
  | none => exact Grown.trans h k
  | some S => exact Keep.trans h k
/-- Operations that lay, and write into no block that a read of the region asks for. -/
def kp : Op → Bool
  | .store .. | .mapUpdate .. | .entryStore .. | .insert .. | .call ⟨.builtin .delete, _, _⟩ | .call ⟨.builtin .clear, _, _⟩ | .call ⟨.builtin .copy, _, _⟩ => false
  | _ => true
/-- One operation, asz it runs. -/
def SX (P : Program) (ks : Option (List Nat)) (ops : Array Oper) (o : Oper) (a : Act) (w : World) (C : Value → World → Prop) : Prop :=
  if Region.wanted o (yielded ops a.tmps) then
    match lvl P o.op with
    | 0 => ∃ v, (∀ w', (execOp a.eval o).run P w' = .ok (.value v) w') ∧ C v w
    | 1 => ∃ v, (∀ w', Stb ks w w' → (execOp a.eval o).run P w' = .ok (.value v) w') ∧ C v w
    | _ => Meets P ((execOp a.eval o).run P w) fun v w' => (kp o.op = true → Obl ks w w') ∧ C v w'
  else C undef w
def RX (P : Program) (ks : Option (List Nat)) (ops : Array Oper) (K : Act → World → Prop) : List Oper → Act → World → Prop
  | [], a, w => K a w
  | o :: os, a, w => SX P ks ops o a w fun v w' => RX P ks ops K os (a.put o.dst v) w'

section rx
variable {P : Program} {ks : Option (List Nat)} {ops : Array Oper} {o p : Oper} {a : Act} {w : World} {C C' : Value → World → Prop} {K K' : Act → World → Prop}
theorem SX.mono (h : SX P ks ops o a w C) (hc : ∀ v w', C v w' → C' v w') : SX P ks ops o a w C' := by
  unfold SX at *
  split
  · rename_i hw
    rw [if_pos hw] at h
    split
    · rename_i hl; rw [hl] at h; obtain ⟨v, h1, h2⟩ := h; exact ⟨v, h1, hc _ _ h2⟩
    · rename_i hl; rw [hl] at h; obtain ⟨v, h1, h2⟩ := h; exact ⟨v, h1, hc _ _ h2⟩
    · rename_i h0 h1
      split at h
      · rename_i hl; exact absurd hl h0
      · rename_i hl; exact absurd hl h1
      · exact h.mono fun v w' h' => ⟨h'.1, hc _ _ h'.2⟩
  · rename_i hw; rw [if_neg hw] at h; exact hc _ _ h
theorem RX.mono : ∀ {os : List Oper} {a : Act} {w : World}, RX P ks ops K os a w → (∀ a w, K a w → K' a w) → RX P ks ops K' os a w
  | [], _, _, h, hk => hk _ _ h
  | _ :: _, _, _, h, hk => SX.mono h fun _ _ h' => RX.mono h' hk
theorem Meets.ex {r : Result Next} {R : Value → World → Prop} (h : Meets P r R) : ∃ v w', R v w' := by
  unfold Meets at h
  split at h
  · exact ⟨_, _, h⟩
  · exact ⟨_, _, h⟩
  · obtain ⟨e, w', fr, r, _⟩ := h []
    cases e with
    | returned v => exact ⟨v, w', r⟩
    | panicked _ => exact r.elim
    | outgrown => exact r.elim
  · obtain ⟨v, w', r, _⟩ := h default []; exact ⟨v, w', r⟩
  · obtain ⟨v, w', r, _⟩ := h default []; exact ⟨v, w', r⟩
  · exact h.elim
theorem SX.ex (h : SX P ks ops o a w C) : ∃ v w', C v w' := by
  unfold SX at h
  split at h
  · split at h
    · obtain ⟨v, _, h⟩ := h; exact ⟨_, _, h⟩
    · obtain ⟨v, _, h⟩ := h; exact ⟨_, _, h⟩
    · obtain ⟨v, w', h'⟩ := h.ex; exact ⟨v, w', h'.2⟩
  · exact ⟨_, _, h⟩
/-- The value of an operation that asks nothing of the world. -/
def PV (P : Program) (ops : Array Oper) (o : Oper) (a : Act) (v : Value) : Prop :=
  if Region.wanted o (yielded ops a.tmps) then ∀ w, (execOp a.eval o).run P w = .ok (.value v) w else v = undef
theorem PV.uniq {u v : Value} (h : PV P ops o a u) (k : PV P ops o a v) (w : World) : u = v := by
  unfold PV at *
  split at h
  · rename_i hw
    rw [if_pos hw] at k
    have := (h w).symm.trans (k w)
    cases this; rfl
  · rename_i hw
    rw [if_neg hw] at k
    rw [h, k]
theorem SX.to0 (hl : lvl P o.op = 0) (h : SX P ks ops o a w C) : ∃ v, PV P ops o a v ∧ C v w := by
  unfold SX at h
  unfold PV
  split at h
  · rename_i hw
    simp only [hl] at h
    simp only [hw, if_true]
    exact h
  · rename_i hw
    simp only [hw, if_false, Bool.false_eq_true]
    exact ⟨_, rfl, h⟩
theorem SX.of0 {v : Value} (hv : PV P ops o a v) (h : C v w) : SX P ks ops o a w C := by
  unfold SX
  unfold PV at hv
  split
  · rename_i hw
    rw [if_pos hw] at hv
    split
    · exact ⟨v, hv, h⟩
    · exact ⟨v, fun w' _ => hv w', h⟩
    · rw [hv w]; exact ⟨fun _ => Obl.refl ks w, h⟩
  · rename_i hw
    rw [if_neg hw] at hv
    subst hv; exact h
theorem SX.up (hl : lvl P o.op = 1) {w' : World} {v : Value} (gr : Stb ks w w') (h : SX P ks ops o a w fun u _ => u = v) (hc : C v w') : SX P ks ops o a w' C := by
  unfold SX at *
  split at h
  · rename_i hw
    rw [if_pos hw]
    simp only [hl] at h ⊢
    obtain ⟨u, h1, rfl⟩ := h
    exact ⟨u, fun w'' g => h1 w'' (gr.trans g), hc⟩
  · rename_i hw
    rw [if_neg hw]
    subst h; exact hc
/-- A new block laid. -/
theorem meets_new {ρ : Operand → Value} (hn : isNew o.op = true) {R : Value → World → Prop} (h : Meets P ((execOp ρ o).run P w) R) : ∃ v w', Grown w w' ∧ R v w' ∧ (execOp ρ o).run P w = .ok (.value v) w' := by
  cases ho : o.op with
  | alloc e =>
    have hx : execOp ρ o = (do pure (.value (← Instr.alloc e true (.tuple #[])))) := by unfold execOp; rw [ho]
    rw [hx] at h ⊢
    simp only [Instr.alloc, newVar, newRow, zeroValue, typeInfo, Sem.run_bind, run_program, Result.andThen_ok] at h ⊢
    cases hi : P.info? e with
    | none => simp [hi, Meets] at h
    | some i =>
      cases hz : i.zero with
      | none => simp [hi, hz, Meets] at h
      | some z =>
        simp only [hi, hz, Sem.run_pure, Result.andThen_ok, Sem.run_bind, run_newObj] at h ⊢
        exact ⟨_, _, Grown.push w _, h, rfl⟩
  | box e x =>
    have hx : execOp ρ o = (do pure (.value (← Instr.box e (ρ x)))) := by unfold execOp; rw [ho]
    rw [hx] at h ⊢
    simp only [Instr.box, newVar, newRow, Sem.run_pure, Result.andThen_ok, Sem.run_bind, run_newObj] at h ⊢
    exact ⟨_, _, Grown.push w _, h, rfl⟩
  | _ => rw [ho] at hn; cases hn
theorem SX.late (l0 : ¬ lvl P o.op = 0) (l1 : ¬ lvl P o.op = 1) (hq : (ks.isSome = true ∧ kp o.op = true) ∨ isNew o.op = true) (h : SX P ks ops o a w C) (hc : ∀ v w', Stb ks w w' → C v w' → C' v w') : SX P ks ops o a w C' := by
  unfold SX at h ⊢
  split at h
  · rename_i hw
    rw [if_pos hw]
    split at h
    · rename_i hl; exact absurd hl l0
    · rename_i hl; exact absurd hl l1
    · cases hks : ks with
      | none =>
        subst hks
        have hn : isNew o.op = true := by simpa using hq
        obtain ⟨u, w', gr, ⟨_, h3⟩, h4⟩ := meets_new hn h
        rw [h4]
        exact ⟨fun _ => trivial, hc u w' gr h3⟩
      | some S =>
        subst hks
        have hk : kp o.op = true := by
          rcases hq with hq | hq
          · exact hq.2
          · cases ho : o.op <;> rw [ho] at hq <;> first | rfl | cases hq
        exact h.mono fun u w' ⟨ob, h3⟩ => ⟨ob, hc u w' (ob hk) h3⟩
  · rename_i hw
    rw [if_neg hw]
    exact hc _ _ (Stb.refl ks w) h
theorem SX.to1 (hl : lvl P o.op = 1) (h : SX P ks ops o a w C) : ∃ v, (∀ C' : Value → World → Prop, C' v w → SX P ks ops o a w C') ∧ C v w := by
  unfold SX at *
  split at h
  · rename_i hw
    simp only [hl] at h
    obtain ⟨v, h1, h2⟩ := h
    exact ⟨v, fun C' h' => by rw [if_pos hw]; simp only [hl]; exact ⟨v, h1, h'⟩, h2⟩
  · rename_i hw
    exact ⟨_, fun C' h' => by rw [if_neg hw]; exact h', h⟩

/-! #### Operations see their operands alone -/
theorem opsMap {ρ ρ' : Operand → Value} {xs : Array Operand} (h : ∀ x ∈ xs, ρ x = ρ' x) : xs.map ρ = xs.map ρ' := Array.map_congr_left h
def calm : Op → Bool
  | .go _ | .defer _ | .select .. | .send .. | .recv .. | .makeChan .. | .sliceToArrayPointer .. | .ready _ | .waits _ => false
  | _ => true
theorem optMap {ρ ρ' : Operand → Value} {x : Option Operand} (h : ∀ y ∈ x, ρ y = ρ' y) : x.map ρ = x.map ρ' := by
  cases x with
  | none => rfl
  | some y => simp [h y rfl]
theorem exec_congr {ρ ρ' : Operand → Value} (hc : calm o.op = true) (h : ∀ x ∈ o.op.operands, ρ x = ρ' x) : execOp ρ o = execOp ρ' o := by
  unfold execOp
  cases ho : o.op with
  | move x => rw [ho] at h; simp only [Op.operands] at h; simp only; rw [h x (by simp)]
  | assign x => rw [ho] at h; simp only [Op.operands] at h; simp only; rw [h x (by simp)]
  | pick c x y => rw [ho] at h; simp only [Op.operands] at h; simp only; rw [h c (by simp), h x (by simp), h y (by simp)]
  | alloc e => rfl
  | box e x => rw [ho] at h; simp only [Op.operands] at h; simp only; rw [h x (by simp)]
  | build t ps =>
    rw [ho] at h; simp only [Op.operands] at h; simp only
    rw [show ps.map (fun p => (p.1, ρ p.2)) = ps.map (fun p => (p.1, ρ' p.2)) from Array.map_congr_left fun p hp => by
      rw [h p.2 (by simp <;> exact ⟨p.1, hp⟩)]]
  | buildSlice t n ps =>
    rw [ho] at h; simp only [Op.operands] at h; simp only
    rw [show ps.map (fun p => (p.1, ρ p.2)) = ps.map (fun p => (p.1, ρ' p.2)) from Array.map_congr_left fun p hp => by
      rw [h p.2 (by simp <;> exact ⟨p.1, hp⟩)]]
  | load t x => rw [ho] at h; simp only [Op.operands] at h; simp only; rw [h x (by simp)]
  | store t x y => rw [ho] at h; simp only [Op.operands] at h; simp only; rw [h x (by simp), h y (by simp)]
  | ready g => rfl
  | waits g => rfl
  | nilCheck x => rw [ho] at h; simp only [Op.operands] at h; simp only; rw [h x (by simp)]
  | binOp op t x y u => rw [ho] at h; simp only [Op.operands] at h; simp only; rw [h x (by simp), h y (by simp)]
  | unOp op t x => rw [ho] at h; simp only [Op.operands] at h; simp only; rw [h x (by simp)]
  | convert s d x => rw [ho] at h; simp only [Op.operands] at h; simp only; rw [h x (by simp)]
  | sliceToArrayPointer d x => rw [ho] at hc; cases hc
  | makeInterface t x => rw [ho] at h; simp only [Op.operands] at h; simp only; rw [h x (by simp)]
  | makeFunc fn f c =>
    rw [ho] at h; simp only [Op.operands] at h; simp only
    rw [opsMap (fun x hx => h x (by simp [hx])), opsMap (fun x hx => h x (by simp [hx]))]
  | makeMap t r => rw [ho] at h; simp only [Op.operands] at h; simp only; rw [optMap (fun y hy => h y (by simp at hy ⊢; exact hy))]
  | makeChan t x => rw [ho] at hc; cases hc
  | makeSlice t x y => rw [ho] at h; simp only [Op.operands] at h; simp only; rw [h x (by simp), h y (by simp)]
  | slice t x l hi m =>
    rw [ho] at h; simp only [Op.operands] at h; simp only
    rw [h x (by simp), optMap (x := l) (fun y hy => h y (by simp at hy ⊢; simp [hy])), optMap (x := hi) (fun y hy => h y (by simp at hy ⊢; simp [hy])), optMap (x := m) (fun y hy => h y (by simp at hy ⊢; simp [hy]))]
  | fieldAddr s x f => rw [ho] at h; simp only [Op.operands] at h; simp only; rw [h x (by simp)]
  | field s x f => rw [ho] at h; simp only [Op.operands] at h; simp only; rw [h x (by simp)]
  | indexAddr t x y => rw [ho] at h; simp only [Op.operands] at h; simp only; rw [h x (by simp), h y (by simp)]
  | index t x y => rw [ho] at h; simp only [Op.operands] at h; simp only; rw [h x (by simp), h y (by simp)]
  | lookup t x y ok => rw [ho] at h; simp only [Op.operands] at h; simp only; rw [h x (by simp), h y (by simp)]
  | mapUpdate t x y z => rw [ho] at h; simp only [Op.operands] at h; simp only; rw [h x (by simp), h y (by simp), h z (by simp)]
  | insert t x y z => rw [ho] at h; simp only [Op.operands] at h; simp only; rw [h x (by simp), h y (by simp), h z (by simp)]
  | mapEntry t x y => rw [ho] at h; simp only [Op.operands] at h; simp only; rw [h x (by simp), h y (by simp)]
  | entryStore t x y z => rw [ho] at h; simp only [Op.operands] at h; simp only; rw [h x (by simp), h y (by simp), h z (by simp)]
  | range t x => rw [ho] at h; simp only [Op.operands] at h; simp only; rw [h x (by simp)]
  | next x s => rw [ho] at h; simp only [Op.operands] at h; simp only; rw [h x (by simp)]
  | entry x => rw [ho] at h; simp only [Op.operands] at h; simp only; rw [h x (by simp)]
  | typeAssert x t u ok => rw [ho] at h; simp only [Op.operands] at h; simp only; rw [h x (by simp)]
  | extract x i => rw [ho] at h; simp only [Op.operands] at h; simp only; rw [h x (by simp)]
  | call c =>
    rw [ho] at h; simp only [Op.operands, Call.operands] at h; simp only
    have hr : resolve ρ c o.type = resolve ρ' c o.type := by
      unfold resolve
      cases hcal : c.callee with
      | value f => rw [hcal] at h; simp only at h ⊢; rw [opsMap (xs := c.args) (fun x hx => h x (by simp [hx])), h f (by simp)]
      | invoke r m => rw [hcal] at h; simp only at h ⊢; rw [opsMap (xs := c.args) (fun x hx => h x (by simp [hx])), h r (by simp)]
      | builtin b => rw [hcal] at h; simp only at h ⊢; rw [opsMap (xs := c.args) (fun x hx => h x (by simp [hx]))]
    rw [hr]
  | go c => rw [ho] at hc; cases hc
  | defer c => rw [ho] at hc; cases hc
  | panic x => rw [ho] at h; simp only [Op.operands] at h; simp only; rw [h x (by simp)]
  | send c x => rw [ho] at hc; cases hc
  | recv t c x => rw [ho] at hc; cases hc
  | select c x => rw [ho] at hc; cases hc

/-! #### Slots that an operation names -/
def tmpOf : Operand → Option Tmp
  | .tmp t => some t
  | _ => none
def gslot (ops : Array Oper) : Option (Nat × Bool) → Option Tmp
  | none => none
  | some (j, _) => (ops[j]?).bind (·.dst)
/-- what an operation reads: its operands, its guard's slot -/
def reads (ops : Array Oper) (o : Oper) : List Tmp := (gslot ops o.guard).toList ++ o.op.operands.toList.filterMap tmpOf
theorem wanted_put {d : Tmp} {v : Value} (hd : d ∉ reads ops o) : Region.wanted o (yielded ops (a.put (some d) v).tmps) = Region.wanted o (yielded ops a.tmps) := by
  unfold Region.wanted
  cases hg : o.guard with
  | none => rfl
  | some g =>
    obtain ⟨j, want⟩ := g
    have hne : (ops[j]?).bind (·.dst) ≠ some d := fun e => hd (by simp [reads, gslot, hg, e])
    simp only [yielded, Act.put]
    cases hj : (ops[j]?).bind (·.dst) with
    | none => rfl
    | some t =>
      have : t ≠ d := fun e => hne (by rw [hj, e])
      simp only [Option.bind_some]
      rw [Array.getElem?_setIfInBounds_ne (Ne.symm this)]
theorem eval_put {d : Tmp} {v : Value} {x : Operand} (hd : tmpOf x ≠ some d) : (a.put (some d) v).eval x = a.eval x := by
  cases x with
  | tmp t =>
    have : d ≠ t := fun e => hd (by rw [tmpOf, e])
    simp [Act.eval, Act.put, Array.getD_eq_getD_getElem?, Array.getElem?_setIfInBounds_ne this]
  | const u => rfl
  | global g => rfl
  | func f => rfl
theorem exec_put {d : Tmp} {v : Value} (hc : calm o.op = true) (hd : d ∉ reads ops o) : execOp (a.put (some d) v).eval o = execOp a.eval o :=
  exec_congr hc fun x hx => eval_put fun e => hd (by
    simp only [reads, List.mem_append, List.mem_filterMap]
    exact .inr ⟨x, by simpa using hx, e⟩)
theorem SX.put {d : Option Tmp} {v : Value} (hc : calm o.op = true) (hd : ∀ t, d = some t → t ∉ reads ops o) : SX P ks ops o (a.put d v) w C ↔ SX P ks ops o a w C := by
  cases d with
  | none => exact Iff.rfl
  | some t =>
    have h1 := hd t rfl
    unfold SX
    rw [wanted_put h1, exec_put hc h1]
theorem put_comm {d e : Option Tmp} {u v : Value} (h : ∀ t, d = some t → e ≠ some t) : (a.put d u).put e v = (a.put e v).put d u := by
  cases d with
  | none => rfl
  | some s =>
    cases e with
    | none => rfl
    | some t =>
      have hne : s ≠ t := fun e' => h s rfl (by rw [e'])
      simp only [Act.put]
      congr 1
      apply Array.ext_getElem?
      intro i
      simp only [Array.getElem?_setIfInBounds, Array.size_setIfInBounds]
      by_cases h1 : t = i
      · by_cases h2 : s = i
        · exact absurd (h2.trans h1.symm) hne
        · simp [h1, h2]
      · by_cases h2 : s = i <;> simp [h1, h2]

/-- Two operations that may change places. -/
def indep (ops : Array Oper) (o p : Oper) : Bool :=
  (o.dst.all fun d => !(reads ops p).contains d && p.dst != some d) && (p.dst.all fun d => !(reads ops o).contains d) && calm o.op && calm p.op
def comm (P : Program) (m : Bool) (o p : Oper) : Bool := lvl P o.op == 0 || lvl P p.op == 0 || (lvl P o.op == 1 && (lvl P p.op == 1 || (m && kp p.op || isNew p.op)))

theorem RX.swap {os : List Oper} (hi : indep ops o p = true) (hc : comm P ks.isSome o p = true) (h : RX P ks ops K (o :: p :: os) a w) : RX P ks ops K (p :: o :: os) a w := by
  have ho : ∀ t, o.dst = some t → t ∉ reads ops p := by
    intro t e; simp [indep, e] at hi; exact hi.1.1.1.1
  have hp : ∀ t, p.dst = some t → t ∉ reads ops o := by
    intro t e; simp [indep, e] at hi; exact hi.1.1.2
  have hd : ∀ t, o.dst = some t → p.dst ≠ some t := by
    intro t e; simp [indep, e] at hi; exact hi.1.1.1.2
  have co : calm o.op = true := by simp [indep] at hi; exact hi.1.2
  have cp : calm p.op = true := by simp [indep] at hi; exact hi.2
  simp only [RX] at h ⊢
  by_cases l0 : lvl P o.op = 0
  · obtain ⟨v, pv, h1⟩ := h.to0 l0
    refine SX.mono ((SX.put cp ho).1 h1) fun u w' h2 => (SX.put co hp).2 (SX.of0 pv ?_)
    rw [put_comm (fun t e e' => hd t e' e)]; exact h2
  · by_cases l1 : lvl P p.op = 0
    · obtain ⟨v0, w0, h0⟩ := h.ex
      obtain ⟨u, pu, _⟩ := ((SX.put cp ho).1 h0).to0 l1
      refine SX.of0 pu ((SX.put co hp).2 (h.mono fun v w' h1 => ?_))
      obtain ⟨u', pu', h2⟩ := ((SX.put cp ho).1 h1).to0 l1
      cases pu.uniq pu' w'
      rw [put_comm (fun t e e' => hd t e' e)]; exact h2
    · have l2 : lvl P o.op = 1 ∧ (lvl P p.op = 1 ∨ ((ks.isSome = true ∧ kp p.op = true) ∨ isNew p.op = true)) := by simpa [comm, l0, l1] using hc
      by_cases lp : lvl P p.op = 1
      · have lo := l2.1
        obtain ⟨v, cv, h1⟩ := h.to1 lo
        obtain ⟨u, cu, h2⟩ := ((SX.put cp ho).1 h1).to1 lp
        refine cu _ ((SX.put co hp).2 (cv _ ?_))
        rw [put_comm (fun t e e' => hd t e' e)]; exact h2
      · have lo := l2.1
        have lq := l2.2.resolve_left lp
        obtain ⟨v, cv, h1⟩ := h.to1 lo
        have h2 := (SX.put cp ho).1 h1
        refine SX.late l1 lp lq h2 fun u w' gr h3 => (SX.put co hp).2 (SX.up lo gr (cv (fun x _ => x = v) rfl) ?_)
        rw [put_comm (fun t e e' => hd t e' e)]; exact h3

theorem RX.front {os : List Oper} : ∀ {pre : List Oper} {a : Act} {w : World}, (∀ p ∈ pre, indep ops o p = true ∧ comm P ks.isSome o p = true) → RX P ks ops K (o :: (pre ++ os)) a w → RX P ks ops K (pre ++ o :: os) a w
  | [], _, _, _, h => h
  | p :: pre, a, w, hp, h => by
    have h1 := RX.swap (hp p List.mem_cons_self).1 (hp p List.mem_cons_self).2 h
    exact SX.mono h1 fun u w' h2 => RX.front (fun q hq => hp q (List.mem_cons_of_mem _ hq)) h2
end rx

/-! ### The judgement on operations -/
def TO (P : Program) (E : Ex) (D : List Deferred) (L : List HP) (F : Frz) (ops : Array Oper) (os : List Oper) (k : List Item) (σ : Sg) (Φ : Fin) : Prop :=
  os.all (opOk E.n) = true → itemsOk E.n k = true → ∀ (w : World) (b : Frame) (a : Act) (cs : List Frame), b.fn = E.f → b.kind = .normal → b.roundOf = E.ro →
    a.tmps.size = E.n → a.defers = D → Agree σ a.tmps → St w L F → RX P E.ks ops (fun a' w' => Ends P E (lone (b.atR a' k) cs w') cs F Φ) os a w

theorem meets_nd {P : Program} {o : Oper} {ρ : Operand → Value} {w : World} {R : Value → World → Prop} (h : Meets P ((execOp ρ o).run P w) R) : ∀ c, o.op ≠ .defer c := by
  intro c e
  unfold execOp at h
  rw [e] at h
  simp only [Sem.run_bind] at h
  cases hr : (resolve ρ c o.type).run P w with
  | ok d w' => rw [hr] at h; exact h
  | halt x w' =>
    rw [hr] at h
    exact h

section
variable {P : Program} {E : Ex} {D : List Deferred} {L L' R : List HP} {F F' F0 : Frz} {k : List Item} {σ σ' : Sg} {Φ Ψ : Fin} {ops : Array Oper} {os : List Oper}
  {ty : TypeId} {pos : String} {af : Array Edge} {d : Nat}

theorem rx_steps {ks : Option (List Nat)} {b : Frame} {cs : List Frame} {K : Act → World → Prop} : ∀ {os : List Oper} {is : List Nat} {a : Act} {w : World}, is.map (fun i => ops[i]?) = os.map some → RX P ks ops K os a w →
    ∃ a' w', K a' w' ∧ Steps P (lone (b.atR a (.inRegion ops is :: k)) cs w) (lone (b.atR a' k) cs w')
  | [], [], a, w, _, h => ⟨a, w, h, .one stepR_region_end⟩
  | [], _ :: _, _, _, e, _ => by cases e
  | _ :: _, [], _, _, e, _ => by cases e
  | o :: os, i :: is, a, w, e, h => by
    rw [List.map_cons, List.map_cons, List.cons.injEq] at e
    simp only [RX, SX] at h
    split at h
    · rename_i hw
      have hm : Meets P ((execOp a.eval o).run P w) (fun v w' => RX P ks ops K os (a.put o.dst v) w') := by
        split at h
        · obtain ⟨v, h1, h2⟩ := h; rw [h1 w]; exact h2
        · obtain ⟨v, h1, h2⟩ := h; rw [h1 w (.refl _ w)]; exact h2
        · exact h.mono fun v w' h' => h'.2
      obtain ⟨v, w', h1, s1⟩ := Meets.steps (b := b) (k := k) (cs := cs) (rest := is) e.1 hw (meets_nd hm) hm
      obtain ⟨a', w'', hk, s2⟩ := rx_steps (b := b) (cs := cs) e.2 h1
      exact ⟨a', w'', hk, s1.trans s2⟩
    · rename_i hw
      have hs := stepR_op_skip (P := P) (b := b) (a := a) (k := k) (cs := cs) (w := w) (ops := ops) (i := i) (rest := is) (by simp [e.1, hw])
      rw [e.1] at hs
      obtain ⟨a', w'', hk, s2⟩ := rx_steps (b := b) (cs := cs) e.2 h
      exact ⟨a', w'', hk, .head hs s2⟩

theorem list_map_range {l : List Oper} : (List.range l.toArray.size).map (fun i => l.toArray[i]?) = l.map some := by
  apply List.ext_getElem?
  intro i
  simp only [List.getElem?_map, List.size_toArray]
  by_cases hi : i < l.length
  · simp [List.getElem?_range hi, hi]
  · simp [hi]
theorem t_region {id : Nat} {l : List Oper} (h : TO P E D L F l.toArray l k σ Φ) : T P E D L F (.code (.region id l.toArray false) :: k) σ Φ := by
  intro ok w b a cs h1 h2 h3 h4 h5 ag st
  have ok' : l.all (opOk E.n) = true ∧ itemsOk E.n k = true := by simpa [itemsOk, itemOk, codeOk] using ok
  obtain ⟨a', w', hk, s⟩ := rx_steps (b := b) (cs := cs) (k := k) list_map_range (h ok'.1 ok'.2 w b a cs h1 h2 h3 h4 h5 ag st)
  exact .of_steps (.head stepR_region s) (.refl _) hk

theorem to_nil (h : T P E D L F k σ Φ) : TO P E D L F ops [] k σ Φ :=
  fun _ ok w b a cs h1 h2 h3 h4 h5 ag st => h ok w b a cs h1 h2 h3 h4 h5 ag st

theorem t_sub (h : T P E D L F k σ' Φ) (hs : ∀ t v, look σ' t = some v → look σ t = some v) : T P E D L F k σ Φ :=
  fun ok w b a cs h1 h2 h3 h4 h5 ag st => h ok w b a cs h1 h2 h3 h4 h5 (fun t v e => ag t v (hs t v e)) st
theorem to_sub (h : TO P E D L F ops os k σ' Φ) (hs : ∀ t v, look σ' t = some v → look σ t = some v) : TO P E D L F ops os k σ Φ :=
  fun o1 ok w b a cs h1 h2 h3 h4 h5 ag st => h o1 ok w b a cs h1 h2 h3 h4 h5 (fun t v e => ag t v (hs t v e)) st
theorem to_weak (h : TO P E D L F ops os k σ' Φ) (hs : Sub σ' σ) : TO P E D L F ops os k σ Φ := to_sub h hs.look
theorem to_conv (hc : ∀ w, St w L F → ∃ L' F', FLe F F' ∧ St w L' F' ∧ TO P E D L' F' ops os k σ Φ) : TO P E D L F ops os k σ Φ := by
  intro o1 ok w b a cs h1 h2 h3 h4 h5 ag st
  obtain ⟨L', F', le, s, h⟩ := hc w st
  exact (h o1 ok w b a cs h1 h2 h3 h4 h5 ag s).mono fun a w e => .of_steps (.refl _ _) le e
theorem to_perm (p : L.Perm L') (h : TO P E D L' F ops os k σ Φ) : TO P E D L F ops os k σ Φ :=
  to_conv fun _ st => ⟨L', F, .refl _, st.perm p, h⟩

theorem look_same {t : Nat} {u : Value} (hu : look σ t = some u) : ∀ s v, look ((t, u) :: σ) s = some v → look σ s = some v := by
  intro s v h
  unfold look at h
  cases hb : Nat.beq t s
  · rw [hb, cond_false] at h; exact h
  · rw [hb, cond_true] at h; cases Nat.eq_of_beq_eq_true hb; rw [hu, h]

/-- A slot that holds a truth value: both ways. -/
theorem to_bool (t : Nat) {b : Bool} (hb : look σ t = some (.bool b)) (ht : b = true → TO P E D L F ops os k ((t, .bool true) :: σ) Φ)
    (hf : b = false → TO P E D L F ops os k ((t, .bool false) :: σ) Φ) : TO P E D L F ops os k σ Φ := by
  cases b
  · exact to_sub (hf rfl) (look_same hb)
  · exact to_sub (ht rfl) (look_same hb)

theorem agree_putd {n : Nat} {o : Oper} (ok : opOk n o = true) {a : Act} (hn : a.tmps.size = n) (ag : Agree σ a.tmps) (v : Value) : Agree (putd o.dst v σ) (a.put o.dst v).tmps := by
  cases hd : o.dst with
  | none => exact ag
  | some d =>
    unfold opOk at ok
    rw [hd] at ok
    exact ag.put (by rw [hn]; simpa using ok) v
theorem size_put (a : Act) (d : Option Tmp) (v : Value) : (a.put d v).tmps.size = a.tmps.size := by cases d <;> simp [Act.put]
theorem defers_put (a : Act) (d : Option Tmp) (v : Value) : (a.put d v).defers = a.defers := by cases d <;> simp [Act.put]

/-- The general rule. -/
theorem to_sx {o : Oper}
    (h : ∀ w (a : Act), Agree σ a.tmps → St w L F → SX P E.ks ops o a w fun v w' => ∃ L' F', FLe F F' ∧ St w' L' F' ∧ TO P E D L' F' ops os k (putd o.dst v σ) Φ) :
    TO P E D L F ops (o :: os) k σ Φ := by
  intro o1 ok w b a cs h1 h2 h3 h4 h5 ag st
  have o1' : opOk E.n o = true ∧ os.all (opOk E.n) = true := by simpa using o1
  refine (h w a ag st).mono fun v w' ⟨L', F', le, s, hT⟩ => ?_
  exact (hT o1'.2 ok w' b _ cs h1 h2 h3 (by rw [size_put, h4]) (by rw [defers_put, h5]) (agree_putd o1'.1 h4 ag v) s).mono fun a w e => .of_steps (.refl _ _) le e

/-- A loud operation. -/
theorem to_op [nm : NM E] {o : Oper} (hw : gd σ ops o.guard = some true) (hl : lvl P o.op = 2)
    (h : ∀ w (a : Act), Agree σ a.tmps → St w L F → Meets P ((execOp a.eval o).run P w) fun v w' => ∃ L' F', FLe F F' ∧ St w' L' F' ∧ TO P E D L' F' ops os k (putd o.dst v σ) Φ) :
    TO P E D L F ops (o :: os) k σ Φ :=
  to_sx fun w a ag st => by
    unfold SX
    rw [if_pos (gd_wanted ag hw)]
    simp only [hl, nm.h]
    exact (h w a ag st).mono fun v w' h' => ⟨fun _ => trivial, h'⟩
/-- One that writes, in every mode. -/
theorem to_opW {o : Oper} (hk : kp o.op = false) (hw : gd σ ops o.guard = some true) (hl : lvl P o.op = 2)
    (h : ∀ w (a : Act), Agree σ a.tmps → St w L F → Meets P ((execOp a.eval o).run P w) fun v w' => ∃ L' F', FLe F F' ∧ St w' L' F' ∧ TO P E D L' F' ops os k (putd o.dst v σ) Φ) :
    TO P E D L F ops (o :: os) k σ Φ :=
  to_sx fun w a ag st => by
    unfold SX
    rw [if_pos (gd_wanted ag hw)]
    simp only [hl]
    exact (h w a ag st).mono fun v w' h' => ⟨fun e => (by rw [hk] at e; cases e), h'⟩
/-- One that lays, in every mode: kept blocks are asz they were. -/
class KpC (ks : Option (List Nat)) (L L' : List HP) : Prop where
  h : ∀ F F' w w', FLe F F' → St w L F → St w' L' F' → Obl ks w w'
instance kp_none {L L' : List HP} : KpC none L L' := ⟨fun _ _ _ _ _ _ _ => trivial⟩
theorem St.same {w w' : World} {L L' : List HP} {F F' : Frz} (le : FLe F F') (s : St w L F) (s' : St w' L' F') : w'.os = w.os ∧ w'.tape = w.tape ∧ w'.output = w.output := by
  obtain ⟨_, _, o⟩ := s
  obtain ⟨_, _, o'⟩ := s'
  exact ⟨(o'.os.trans le.os).trans o.os.symm, (o'.tape.trans le.tape).trans o.tape.symm, (o'.output.trans le.output).trans o.output.symm⟩
instance kp_nil {L L' : List HP} : KpC (some []) L L' := ⟨fun _ _ _ _ le s s' => ⟨(s.same le s').1, (s.same le s').2.1, (s.same le s').2.2, by simp⟩⟩
instance kp_cons {b : Nat} {S : List Nat} {cs : List Value} {t t' : TypeId} {L L' R R' : List HP} [fb : FB b L (own b cs t) R] [fb' : FB b L' (own b cs t') R'] [k : KpC (some S) L L'] : KpC (some (b :: S)) L L' :=
  ⟨fun F F' w w' le s s' => by
    have h := k.h F F' w w' le s s'
    refine ⟨h.os, h.tape, h.output, fun c hc o => ?_⟩
    rcases List.mem_cons.1 hc with rfl | hc
    · rw [(s.perm fb.p).cell, (s'.perm fb'.p).cell]
    · exact h.cell c hc o⟩

instance kp_nm {E : Ex} {L L' : List HP} [nm : NM E] : KpC E.ks L L' := ⟨fun _ _ _ _ _ _ _ => by rw [nm.h]; trivial⟩
theorem to_opK {o : Oper} (hw : gd σ ops o.guard = some true) (hl : lvl P o.op = 2)
    (h : ∀ w (a : Act), Agree σ a.tmps → St w L F → Meets P ((execOp a.eval o).run P w) fun v w' => ∃ L' F', FLe F F' ∧ St w' L' F' ∧ KpC E.ks L L' ∧ TO P E D L' F' ops os k (putd o.dst v σ) Φ) :
    TO P E D L F ops (o :: os) k σ Φ :=
  to_sx fun w a ag st => by
    unfold SX
    rw [if_pos (gd_wanted ag hw)]
    simp only [hl]
    exact (h w a ag st).mono fun v w' ⟨L', F', le, s, kc, hT⟩ => ⟨fun _ => kc.h F F' w w' le st s, L', F', le, s, hT⟩
/-- A read, in every mode. -/
theorem to_rdK {o : Oper} {v : Value} (hw : gd σ ops o.guard = some true) (hl : lvl P o.op = 1)
    (h : ∀ w (a : Act), Agree σ a.tmps → St w L F → ∀ w', Stb E.ks w w' → (execOp a.eval o).run P w' = .ok (.value v) w') (K : TO P E D L F ops os k (putd o.dst v σ) Φ) : TO P E D L F ops (o :: os) k σ Φ :=
  to_sx fun w a ag st => by
    unfold SX
    rw [if_pos (gd_wanted ag hw)]
    simp only [hl]; exact ⟨v, h w a ag st, L, F, .refl _, st, K⟩
/-- An operation that its guard leaves out. -/
theorem to_skip {o : Oper} (hw : gd σ ops o.guard = some false) (h : TO P E D L F ops os k (putd o.dst undef σ) Φ) : TO P E D L F ops (o :: os) k σ Φ :=
  to_sx fun w a ag st => by
    unfold SX
    rw [if_neg (by rw [gd_wanted ag hw]; decide)]
    exact ⟨L, F, .refl _, st, h⟩
/-- An operation that hands back a value, whatever the world is. -/
theorem to_val {o : Oper} {v : Value} (hw : gd σ ops o.guard = some true)
    (h : ∀ w (a : Act), Agree σ a.tmps → (execOp a.eval o).run P w = .ok (.value v) w) (K : TO P E D L F ops os k (putd o.dst v σ) Φ) : TO P E D L F ops (o :: os) k σ Φ :=
  to_sx fun w a ag st => SX.of0 (v := v) (by unfold PV; rw [if_pos (gd_wanted ag hw)]; exact fun w' => h w' a ag) ⟨L, F, .refl _, st, K⟩
/-- An operation that reads. -/
theorem to_rd [nm : NM E] {o : Oper} {v : Value} (hw : gd σ ops o.guard = some true) (hl : lvl P o.op = 1 ∨ lvl P o.op = 2)
    (h : ∀ w (a : Act), Agree σ a.tmps → St w L F → (execOp a.eval o).run P w = .ok (.value v) w) (K : TO P E D L F ops os k (putd o.dst v σ) Φ) : TO P E D L F ops (o :: os) k σ Φ :=
  to_sx fun w a ag st => by
    unfold SX
    rw [if_pos (gd_wanted ag hw)]
    rcases hl with hl | hl
    · simp only [hl, nm.h]; exact ⟨v, fun w' gr => h w' a ag (st.grown gr), L, F, .refl _, st, K⟩
    · simp only [hl, nm.h]; rw [h w a ag st]; exact ⟨fun _ => trivial, L, F, .refl _, st, K⟩

/-! #### Pure operations -/
def keq : IntKind → IntKind → Bool
  | .i8, .i8 | .i16, .i16 | .i32, .i32 | .i64, .i64 | .u8, .u8 | .u16, .u16 | .u32, .u32 | .u64, .u64 => true
  | _, _ => false
theorem keq_eq : ∀ {k j : IntKind}, keq k j = true → k = j := by intro k j; cases k <;> cases j <;> simp [keq]

def pbin (op : BinOp) : Value → Value → Option Value
  | .int k a, .int j b => bif keq k j then
      match op with
      | .add => some (.int k (k.wrap (a + b)))
      | .sub => some (.int k (k.wrap (a - b)))
      | .mul => some (.int k (k.wrap (a * b)))
      | .eql => some (.bool (a == b))
      | .neq => some (.bool (a != b))
      | .lss => some (.bool (decide (a < b)))
      | .leq => some (.bool (decide (a ≤ b)))
      | .gtr => some (.bool (decide (a > b)))
      | .geq => some (.bool (decide (a ≥ b)))
      | _ => none
    else none
  | .string a, .string b =>
      match op with
      | .eql => some (.bool (a.toList == b.toList))
      | .neq => some (.bool (!(a.toList == b.toList)))
      | .lss => some (.bool (Op.bytesLess a.toList b.toList))
      | .leq => some (.bool (Op.bytesLess a.toList b.toList || a.toList == b.toList))
      | .gtr => some (.bool (!(Op.bytesLess a.toList b.toList || a.toList == b.toList)))
      | .geq => some (.bool (!Op.bytesLess a.toList b.toList))
      | _ => none
  | _, _ => none
def pev (σ : Sg) : Op → Option Value
  | .move x => ev σ x
  | .assign x => ev σ x
  | .pick c a b => match ev σ c with
    | some (.bool true) => ev σ a
    | some (.bool false) => ev σ b
    | _ => none
  | .binOp op _ x y _ => match ev σ x, ev σ y with
    | some u, some v => pbin op u v
    | _, _ => none
  | .unOp .not _ x => match ev σ x with
    | some (.bool b) => some (.bool (!b))
    | _ => none
  | .unOp .neg _ x => match ev σ x with
    | some (.int k n) => some (.int k (k.wrap (0 - n)))
    | _ => none
  | .extract x i => match ev σ x with
    | some (.tuple vs) => vs.toList[i]?
    | _ => none
  | .nilCheck x => match ev σ x with
    | some (.pointer (some a)) => some (.pointer (some a))
    | some (.func (.func f) u v) => some (.func (.func f) u v)
    | _ => none
  | .makeFunc fn first captured => match evs σ first.toList, evs σ captured.toList with
    | some u, some v => some (.func fn u.toArray v.toArray)
    | _, _ => none
  | _ => none

theorem pbin_run {op : BinOp} {u v r : Value} {t : TypeId} (h : pbin op u v = some r) (w : World) : (binOp op t u v).run P w = .ok r w := by
  unfold pbin at h
  split at h
  · rename_i k a j b
    cases hk : keq k j with
    | false => rw [hk] at h; cases h
    | true =>
      rw [hk, cond_true] at h
      cases keq_eq hk
      split at h <;> first | (cases h; done) | (cases h; simp [binOp, Op.intArith, Op.intCmp])
  · split at h <;> first | (cases h; done) | (cases h; simp [binOp, Op.stringOp])
  · cases h
theorem pbin_guard {op : BinOp} {u v r : Value} {t : TypeId} {x y : Operand} (h : pbin op u v = some r) (w : World) : (eqGuard op t x y u v).run P w = .ok () w := by
  unfold pbin at h
  unfold eqGuard
  split at h
  · by_cases hc : (!(op matches .eql | .neq)) = true <;> simp [hc]
  · by_cases hc : (!(op matches .eql | .neq)) = true <;> simp [hc]
  · cases h

theorem map_evs {a : Act} (ag : Agree σ a.tmps) {xs : Array Operand} {vs : List Value} (h : evs σ xs.toList = some vs) : xs.map a.eval = vs.toArray := by
  have := evs_map ag h
  apply Array.ext'
  simpa using this

theorem pev_run {o : Oper} {v : Value} {w : World} {a : Act} (ag : Agree σ a.tmps) (h : pev σ o.op = some v) : (execOp a.eval o).run P w = .ok (.value v) w := by
  unfold pev at h
  unfold execOp
  split at h
  · rename_i x hx; rw [hx]; simp [ev_eval ag h]
  · rename_i x hx; rw [hx]; simp [ev_eval ag h]
  · rename_i c x y hx
    rw [hx]
    split at h
    · rename_i hc; simp [ev_eval ag hc, asBool, ev_eval ag h]
    · rename_i hc; simp [ev_eval ag hc, asBool, ev_eval ag h]
    · cases h
  · rename_i op t x y t' hx
    rw [hx]
    split at h
    · rename_i u u' h1 h2
      simp [ev_eval ag h1, ev_eval ag h2, pbin_guard h, pbin_run h]
    · cases h
  · rename_i t x hx
    rw [hx]
    split at h
    · rename_i b hb; cases h; simp [ev_eval ag hb, Op.unary]
    · cases h
  · rename_i t x hx
    rw [hx]
    split at h
    · rename_i b n hb; cases h; simp [ev_eval ag hb, Op.unary, Op.intArith]
    · cases h
  · rename_i x i hx
    rw [hx]
    split at h
    · rename_i vs hb
      have h' : vs[i]? = some v := by simpa using h
      simp [ev_eval ag hb, Instr.extract, h']
    · cases h
  · rename_i x hx
    rw [hx]
    split at h
    · rename_i p hb; cases h; simp [ev_eval ag hb]
    · rename_i p q r hb; cases h; simp [ev_eval ag hb]
    · cases h
  · rename_i fn first captured hx
    rw [hx]
    split at h
    · rename_i u u' h1 h2; cases h; simp [Instr.makeFunc, map_evs ag h1, map_evs ag h2]
    · cases h
  · cases h


theorem to_p {op : Op} {v : Value} {g : Option (Nat × Bool)} (hg : gd σ ops g = some true) (hv : pev σ op = some v) (K : TO P E D L F ops os k ((d, v) :: σ) Φ) : TO P E D L F ops (⟨some d, op, ty, pos, af, g⟩ :: os) k σ Φ :=
  to_val (o := ⟨some d, op, ty, pos, af, g⟩) hg (fun w a ag => pev_run ag hv) K
/-- Guarded out. -/
theorem to_no {op : Op} {g : Option (Nat × Bool)} (hg : gd σ ops g = some false) (K : TO P E D L F ops os k ((d, undef) :: σ) Φ) : TO P E D L F ops (⟨some d, op, ty, pos, af, g⟩ :: os) k σ Φ :=
  to_skip (o := ⟨some d, op, ty, pos, af, g⟩) hg K
end
end Go.Au
end

section
set_option linter.unusedVariables false
set_option linter.unusedSimpArgs false
namespace Go.Au
open Go

/-! ### Growth of what is frozen -/
class FS (F : outParam Frz) (G : Frz) : Prop where
  h : FLe F G
instance (priority := low) fle_step {F0 F1 F2 : Frz} [h : FS F1 F2] [k : FLe F0 F1] : FLe F0 F2 := k.trans h.h
instance (priority := high) fle_refl {F : Frz} : FLe F F := FLe.refl F

/-- cells that are frozen -/
def RoC (F : Frz) (b o : Nat) (vs : List Value) : Prop := ∃ arr t fr, F.ro b = some (.cells arr t fr) ∧ ∀ j v, vs[j]? = some v → arr[o + j]? = some v
theorem RoC.mono {F G : Frz} {b o : Nat} {vs : List Value} (h : RoC F b o vs) [le : FLe F G] : RoC G b o vs := by
  obtain ⟨arr, t, fr, e, c⟩ := h; exact ⟨arr, t, fr, le.ro b _ e, c⟩
theorem RoC.drop {F : Frz} {b o : Nat} {vs : List Value} (h : RoC F b o vs) (n : Nat) : RoC F b (o + n) (vs.drop n) := by
  obtain ⟨arr, t, fr, e, c⟩ := h
  exact ⟨arr, t, fr, e, fun j v hv => by rw [Nat.add_assoc]; exact c _ v (by rw [List.getElem?_drop] at hv; exact hv)⟩
theorem RoC.take {F : Frz} {b o : Nat} {vs : List Value} (h : RoC F b o vs) (n : Nat) : RoC F b o (vs.take n) := by
  obtain ⟨arr, t, fr, e, c⟩ := h
  exact ⟨arr, t, fr, e, fun j v hv => c _ v (by rw [List.getElem?_take] at hv; split at hv; exact hv; cases hv)⟩
theorem RoC.one {F : Frz} {b o j : Nat} {vs : List Value} {v : Value} (h : RoC F b o vs) (hj : vs[j]? = some v) : RoC F b (o + j) [v] := by
  obtain ⟨arr, t, fr, e, c⟩ := h
  refine ⟨arr, t, fr, e, fun i u hu => ?_⟩
  cases i with
  | zero => cases hu; exact c j v hj
  | succ i => cases hu

def nth : List Value → Nat → Option Value
  | [], _ => none
  | v :: _, 0 => some v
  | _ :: cs, n + 1 => nth cs n
theorem nth_eq : ∀ (cs : List Value) (n : Nat), nth cs n = cs[n]?
  | [], _ => rfl
  | _ :: _, 0 => rfl
  | _ :: cs, n + 1 => by rw [nth, nth_eq cs n]; rfl
def getN : List Value → Nat → Nat → Option (List Value)
  | _, _, 0 => some []
  | [], _, _ + 1 => none
  | v :: cs, 0, n + 1 => match getN cs 0 n with
    | some r => some (v :: r)
    | none => none
  | _ :: cs, o + 1, n + 1 => getN cs o (n + 1)
theorem getN_eq : ∀ {cs : List Value} {o n : Nat} {vs : List Value}, getN cs o n = some vs → vs.length = n ∧ ∀ j v, vs[j]? = some v → cs[o + j]? = some v
  | cs, o, 0, vs, h => by unfold getN at h; cases h; exact ⟨rfl, fun j v h => by cases h⟩
  | [], o, n + 1, vs, h => by unfold getN at h; cases h
  | v :: cs, 0, n + 1, vs, h => by
    unfold getN at h
    split at h
    · rename_i r hr
      cases h
      have := getN_eq hr
      refine ⟨by rw [List.length_cons, this.1], fun j u hu => ?_⟩
      cases j with
      | zero => cases hu; rfl
      | succ j => have := this.2 j u hu; rw [Nat.zero_add] at this ⊢; exact this
    · cases h
  | v :: cs, o + 1, n + 1, vs, h => by
    unfold getN at h
    have := getN_eq h
    refine ⟨this.1, fun j u hu => ?_⟩
    have := this.2 j u hu
    rw [show o + 1 + j = (o + j) + 1 by omega]; exact this
def setL : List Value → Nat → List Value → Option (List Value)
  | cs, _, [] => some cs
  | [], _, _ :: _ => none
  | _ :: cs, 0, v :: vs => match setL cs 0 vs with
    | some r => some (v :: r)
    | none => none
  | c :: cs, o + 1, v :: vs => match setL cs o (v :: vs) with
    | some r => some (c :: r)
    | none => none
theorem setN_cons (c : Value) : ∀ (vs cs : List Value) (o : Nat), setN (c :: cs) (o + 1) vs = c :: setN cs o vs
  | [], _, _ => rfl
  | v :: vs, cs, o => by rw [setN, setN, List.set_cons_succ, setN_cons c vs]
theorem setL_eq : ∀ {cs : List Value} {o : Nat} {vs cs' : List Value}, setL cs o vs = some cs' → cs' = setN cs o vs ∧ o + vs.length ≤ cs.length ∨ vs = [] ∧ cs' = cs
  | cs, o, [], cs', h => by unfold setL at h; cases h; exact .inr ⟨rfl, rfl⟩
  | [], o, v :: vs, cs', h => by unfold setL at h; cases h
  | c :: cs, 0, v :: vs, cs', h => by
    unfold setL at h
    split at h
    · rename_i r hr
      cases h
      left
      rcases setL_eq hr with ⟨e, l⟩ | ⟨e, e'⟩
      · exact ⟨by rw [setN, List.set_cons_zero, setN_cons, ← e], by simp only [List.length_cons]; omega⟩
      · subst e; subst e'; exact ⟨rfl, by simp⟩
    · cases h
  | c :: cs, o + 1, v :: vs, cs', h => by
    unfold setL at h
    split at h
    · rename_i r hr
      cases h
      left
      rcases setL_eq hr with ⟨e, l⟩ | ⟨e, _⟩
      · exact ⟨by rw [setN_cons, ← e], by simp only [List.length_cons] at l ⊢; omega⟩
      · cases e
    · cases h

theorem St.unperm {w : World} {L L' : List HP} {F : Frz} (p : L.Perm L') (s : St w L' F) : St w L F := s.perm p.symm

section
variable {P : Program} {E : Ex} {D : List Deferred} {L L' R : List HP} {F F' F0 : Frz} {k : List Item} {σ σ' : Sg} {Φ Ψ : Fin} {ops : Array Oper} {os : List Oper}
  {ty : TypeId} {pos : String} {af : Array Edge} {d b o : Nat} {g : Option (Nat × Bool)} {t t' elem : TypeId} {x y : Operand} {cs cs' vs : List Value} {v : Value}
  {zs : List Value} {n by_ : Nat} {dd : TypeDesc}

/-! #### Variables -/
theorem to_alloc [hi : Inf P elem zs n by_] [kc : ∀ b, KpC E.ks L (own b zs elem :: L)] (hg : gd σ ops g = some true)
    (K : ∀ b, TO P E D (own b zs elem :: L) F ops os k ((d, .pointer (some ⟨b, 0, none⟩)) :: σ) Φ) : TO P E D L F ops (⟨some d, .alloc elem, ty, pos, af, g⟩ :: os) k σ Φ := by
  refine to_opK hg rfl fun w a ag st => ?_
  obtain ⟨z, hz, hzs⟩ := run_zero (P := P) (t := elem) w
  have : (execOp a.eval ⟨some d, .alloc elem, ty, pos, af, g⟩).run P w = .ok (.value (.pointer (some ⟨w.heap.size, 0, none⟩))) { w with heap := w.heap.push (.cells z.cells elem (0, 0)) } := by
    simp [execOp, Instr.alloc, hz, newVar, newRow]
  rw [this]
  refine ⟨_, F, .refl _, ?_, kc _, K w.heap.size⟩
  have := st.newOwn zs elem
  rw [← hzs] at this ⊢
  simpa using this

def noAgg : Value → Bool
  | .agg _ => false
  | _ => true
theorem cells_one (h : noAgg v = true) : v.cells = #[v] := by cases v <;> first | rfl | cases h
theorem to_box [kc : ∀ b, KpC E.ks L (own b cs elem :: L)] {op : Op} (hg : gd σ ops g = some true) (hop : op = .box elem x) (hx : ev σ x = some v) (hv : v.cells = cs.toArray)
    (K : ∀ b, TO P E D (own b cs elem :: L) F ops os k ((d, .pointer (some ⟨b, 0, none⟩)) :: σ) Φ) : TO P E D L F ops (⟨some d, op, ty, pos, af, g⟩ :: os) k σ Φ := by
  subst hop
  refine to_opK hg rfl fun w a ag st => ?_
  have : (execOp a.eval ⟨some d, .box elem x, ty, pos, af, g⟩).run P w = .ok (.value (.pointer (some ⟨w.heap.size, 0, none⟩))) { w with heap := w.heap.push (.cells v.cells elem (0, 0)) } := by
    simp [execOp, Instr.box, newVar, newRow, ev_eval ag hx]
  rw [this, hv]
  exact ⟨_, F, .refl _, st.newOwn _ _, kc _, K w.heap.size⟩
theorem to_box1 [kc : ∀ b, KpC E.ks L (own b [v] elem :: L)] (hg : gd σ ops g = some true) (hx : ev σ x = some v) (hv : noAgg v = true)
    (K : ∀ b, TO P E D (own b [v] elem :: L) F ops os k ((d, .pointer (some ⟨b, 0, none⟩)) :: σ) Φ) : TO P E D L F ops (⟨some d, .box elem x, ty, pos, af, g⟩ :: os) k σ Φ :=
  to_box hg rfl hx (cells_one hv) K
theorem to_boxA [kc : ∀ b, KpC E.ks L (own b cs elem :: L)] (hg : gd σ ops g = some true) (hx : ev σ x = some (.agg cs.toArray))
    (K : ∀ b, TO P E D (own b cs elem :: L) F ops os k ((d, .pointer (some ⟨b, 0, none⟩)) :: σ) Φ) : TO P E D L F ops (⟨some d, .box elem x, ty, pos, af, g⟩ :: os) k σ Φ :=
  to_box hg rfl hx rfl K

/-! #### Loads -/
theorem run_load_one {w : World} [ScaT P t] {a : Addr} (h : w.cell? a = some v) : (loadVar t a).run P w = .ok v w := by
  simp [loadVar, run_isAgg_f (P := P) (t := t) w, h]
theorem run_load_agg {w : World} [AggT P t] [Inf P t zs n by_] {a : Addr} (hn : vs.length = n) (h : ∀ j u, vs[j]? = some u → w.cell? (a.add j) = some u) :
    (loadVar t a).run P w = .ok (.agg vs.toArray) w := by
  subst hn
  simp [loadVar, run_isAgg_t (P := P) (t := t) w, run_size (P := P) (t := t) w, run_loadCells_list w a vs h]

theorem to_loadF [nm : NM E] (hg : gd σ ops g = some true) (hx : ev σ x = some (.pointer (some ⟨b, o, none⟩)))
    (h : ∀ w, St w L F → (loadVar t ⟨b, o, none⟩).run P w = .ok v w)
    (K : TO P E D L F ops os k ((d, v) :: σ) Φ) : TO P E D L F ops (⟨some d, .load t x, ty, pos, af, g⟩ :: os) k σ Φ :=
  to_rd hg (.inl rfl) (fun w a ag st => by simp [execOp, Instr.loadAt, Instr.sureAddr, ev_eval ag hx, h w st]) K
theorem to_ld [nm : NM E] [fb : FB b L (own b cs t') R] [ScaT P t] (hg : gd σ ops g = some true) (hx : ev σ x = some (.pointer (some ⟨b, o, none⟩))) (hc : nth cs o = some v)
    (K : TO P E D L F ops os k ((d, v) :: σ) Φ) : TO P E D L F ops (⟨some d, .load t x, ty, pos, af, g⟩ :: os) k σ Φ :=
  to_loadF hg hx (fun w st => run_load_one (by rw [(st.perm fb.p).cell o, ← nth_eq, hc])) K
theorem to_ldA [nm : NM E] [fb : FB b L (own b cs t') R] [AggT P t] [Inf P t zs n by_] (hg : gd σ ops g = some true) (hx : ev σ x = some (.pointer (some ⟨b, o, none⟩))) (hc : getN cs o n = some vs)
    (K : TO P E D L F ops os k ((d, .agg vs.toArray) :: σ) Φ) : TO P E D L F ops (⟨some d, .load t x, ty, pos, af, g⟩ :: os) k σ Φ :=
  to_loadF hg hx (fun w st => run_load_agg (n := n) (zs := zs) (by_ := by_) (getN_eq hc).1 (fun j u hu => by rw [Addr.add_none, (st.perm fb.p).cell]; exact (getN_eq hc).2 j u hu)) K
theorem to_ldR [nm : NM E] [le : FLe F0 F] [ScaT P t] (hg : gd σ ops g = some true) (hx : ev σ x = some (.pointer (some ⟨b, o, none⟩))) (hc : RoC F0 b o [v])
    (K : TO P E D L F ops os k ((d, v) :: σ) Φ) : TO P E D L F ops (⟨some d, .load t x, ty, pos, af, g⟩ :: os) k σ Φ :=
  to_loadF hg hx (fun w st => run_load_one (by
    obtain ⟨arr, t1, fr, e, c⟩ := hc
    rw [st.cellRo (le.ro _ _ e)]; exact c 0 v rfl)) K
theorem to_ldRA [nm : NM E] [le : FLe F0 F] [AggT P t] [Inf P t zs n by_] (hg : gd σ ops g = some true) (hx : ev σ x = some (.pointer (some ⟨b, o, none⟩))) (hc : RoC F0 b o vs) (hn : vs.length = n)
    (K : TO P E D L F ops os k ((d, .agg vs.toArray) :: σ) Φ) : TO P E D L F ops (⟨some d, .load t x, ty, pos, af, g⟩ :: os) k σ Φ :=
  to_loadF hg hx (fun w st => run_load_agg (n := n) (zs := zs) (by_ := by_) hn (fun j u hu => by
    obtain ⟨arr, t1, fr, e, c⟩ := hc
    rw [Addr.add_none, st.cellRo (le.ro _ _ e)]; exact c j u hu)) K

/-! #### Stores -/
theorem to_storeF {cs1 : List Value} (hg : gd σ ops g = some true) [fb : FB b L (own b cs t') R] [Inf P t zs n by_] (hx : ev σ x = some (.pointer (some ⟨b, o, none⟩))) (hy : ev σ y = some v)
    (hv : v.cells = vs.toArray) (hn : vs.length = n) (h1 : ∀ u ∈ vs, u.oneCell' = true) (hl : o + vs.length ≤ cs.length)
    (K : TO P E D (own b (setN cs o vs) t' :: R) F ops os k σ Φ) : TO P E D L F ops (⟨none, .store t x y, ty, pos, af, g⟩ :: os) k σ Φ := by
  refine to_opW rfl hg rfl fun w a ag st => ?_
  obtain ⟨w', r, st'⟩ := St.storeCells (P := P) (o := o) vs cs 0 w (st.perm fb.p) h1 (by omega)
  have : (execOp a.eval ⟨none, .store t x y, ty, pos, af, g⟩).run P w = .ok .skip w' := by
    simp [execOp, Instr.storeAt, Instr.sureAddr, ev_eval ag hx, ev_eval ag hy, storeVar, run_size (P := P) (t := t) w, hv, hn, r]
  rw [this]
  exact ⟨_, F, .refl _, st', K⟩
theorem all_one {vs : List Value} (h : vs.all (·.oneCell') = true) : ∀ u ∈ vs, u.oneCell' = true := by simpa using h
theorem to_st [fb : FB b L (own b cs t') R] [Inf P t zs 1 by_] (hg : gd σ ops g = some true) (hx : ev σ x = some (.pointer (some ⟨b, o, none⟩))) (hy : ev σ y = some v)
    (hv : v.oneCell' = true) (hs : setL cs o [v] = some cs')
    (K : TO P E D (own b cs' t' :: R) F ops os k σ Φ) : TO P E D L F ops (⟨none, .store t x y, ty, pos, af, g⟩ :: os) k σ Φ := by
  rcases setL_eq hs with ⟨e, l⟩ | ⟨e, _⟩
  · subst e
    exact to_storeF (cs1 := cs) hg (n := 1) (zs := zs) (by_ := by_) (vs := [v]) hx hy (cells_one (by cases v <;> first | rfl | cases hv)) rfl (by simpa using hv) l K
  · cases e
theorem to_stA [fb : FB b L (own b cs t') R] [Inf P t zs n by_] (hg : gd σ ops g = some true) (hx : ev σ x = some (.pointer (some ⟨b, o, none⟩))) (hy : ev σ y = some (.agg vs.toArray))
    (hn : vs.length = n) (hv : vs.all (·.oneCell') = true) (hs : setL cs o vs = some cs')
    (K : TO P E D (own b cs' t' :: R) F ops os k σ Φ) : TO P E D L F ops (⟨none, .store t x y, ty, pos, af, g⟩ :: os) k σ Φ := by
  rcases setL_eq hs with ⟨e, l⟩ | ⟨e, e'⟩
  · subst e
    exact to_storeF (cs1 := cs) hg (n := n) (zs := zs) (by_ := by_) (vs := vs) hx hy rfl hn (all_one hv) l K
  · subst e; subst e'
    refine to_opW rfl hg rfl fun w a ag st => ?_
    have : (execOp a.eval ⟨none, .store t x y, ty, pos, af, g⟩).run P w = .ok .skip w := by
      simp [execOp, Instr.storeAt, Instr.sureAddr, ev_eval ag hx, ev_eval ag hy, storeVar, run_size (P := P) (t := t) w, Value.cells, ← hn, storeCells]
    rw [this]
    exact ⟨_, F, .refl _, st.perm fb.p, K⟩

/-! #### Addresses of fields -/
class FA (P : Program) (s : TypeId) (i : Nat) (off : outParam Nat) : Prop where
  h : ∀ (a : Addr) w, (Instr.fieldAt s (.pointer (some a)) i).run P w = .ok (.pointer (some (a.add off))) w
theorem FA.mk' {s : TypeId} {i off ft : Nat} {fs : Array Field} {f : Field} {zs : List Value} {n y : Nat} (hu : P.underlying s = some (.struct fs)) (hf : fs[i]? = some f) (ht : f.type = ft) (ho : f.offset = off)
    (hi : Inf P ft zs n y) (hn : n ≠ 0) : FA P s i off := ⟨fun a w => by
  subst ht; subst ho
  have h1 := run_underlying hu w
  simp [Instr.fieldAt, h1, hf, Instr.sureAddr, fieldPlace, run_size (P := P) (t := f.type) (zs := zs) (n := n) (y := y) w, hn]⟩
theorem to_fa {s i off : Nat} [fa : FA P s i off] (hg : gd σ ops g = some true) (hx : ev σ x = some (.pointer (some ⟨b, o, none⟩)))
    (K : TO P E D L F ops os k ((d, .pointer (some ⟨b, o + off, none⟩)) :: σ) Φ) : TO P E D L F ops (⟨some d, .fieldAddr s x i, ty, pos, af, g⟩ :: os) k σ Φ :=
  to_val hg (fun w a ag => by simp [execOp, ev_eval ag hx, fa.h, Addr.add_none]) K

/-! #### Elements of slices -/
theorem to_ia {len cap j : Nat} {ki : IntKind} {i : Int} {zs : List Value} {sz y : Nat} [Und P t (.slice elem)] [Inf P elem zs sz y] {ix : Operand} (hg : gd σ ops g = some true) (hx : ev σ x = some (.slice (some ⟨b, o, none⟩) len cap))
    (hi : ev σ ix = some (.int ki i)) (hj : i = (j : Int)) (hl : j < len)
    (K : TO P E D L F ops os k ((d, .pointer (some ⟨b, o + j * sz, none⟩)) :: σ) Φ) : TO P E D L F ops (⟨some d, .indexAddr t x ix, ty, pos, af, g⟩ :: os) k σ Φ :=
  to_val hg (fun w a ag => by
    subst hj
    have h1 := run_und (P := P) (t := t) w
    have h2 := run_size (P := P) (t := elem) w
    have h3 : (j : Int) < (len : Int) := by omega
    simp [execOp, ev_eval ag hx, ev_eval ag hi, Instr.indexAt, asIntOf, h1, h2, hl, Addr.add_none]) K

/-! #### Calls -/
theorem exec_callv {a : Act} (ag : Agree σ a.tmps) {fx : Operand} {fv : Value} {args : Array Operand} {tys : Array TypeId} {dst : Option Tmp} (hf : ev σ fx = some fv) (hx : evs σ args.toList = some vs) :
    execOp a.eval ⟨dst, .call ⟨.value fx, args, tys⟩, ty, pos, af, g⟩ = callSem fv vs := by
  simp only [execOp, callSem, resolve, ev_eval ag hf, map_evs ag hx]
theorem to_callF [nm : NM E] {dst : Option Tmp} {fx : Operand} {fv : Value} {args : Array Operand} {tys : Array TypeId} {A : List HP} (hg : gd σ ops g = some true) (hf : ev σ fx = some fv)
    (hx : evs σ args.toList = some vs) (sp : CV P fv vs A F Ψ) (ex : L.Perm (A ++ R))
    (K : ∀ v B F', FS F F' → Ψ v B F' → TO P E D (B ++ R) F' ops os k (putd dst v σ) Φ) : TO P E D L F ops (⟨dst, .call ⟨.value fx, args, tys⟩, ty, pos, af, g⟩ :: os) k σ Φ := by
  refine to_op hg rfl fun w a ag st => ?_
  rw [exec_callv ag hf hx]
  exact (sp R w (st.perm ex)).mono fun v w' ⟨B, F', le, q, s⟩ => ⟨B ++ R, F', le, s, K v B F' ⟨le⟩ q⟩
theorem cv_of_sp0 {f : FuncId} [HasBody P f] {A : List HP} (h : Sp P f vs A F Ψ) : CV P (.func (.func f) #[] #[]) vs A F Ψ := by
  have := cv_of_sp (P := P) (F := F) (cap := []) (args := vs) (A := A) (Ψ := Ψ) (by simpa using h)
  simpa using this
theorem to_call [nm : NM E] {f : FuncId} {args : Array Operand} {tys : Array TypeId} {A : List HP} [HasBody P f] (hg : gd σ ops g = some true) (hx : evs σ args.toList = some vs) (sp : Sp P f vs A F Ψ) [ex : Ext A L R]
    (K : ∀ v B F', FS F F' → Ψ v B F' → TO P E D (B ++ R) F' ops os k ((d, v) :: σ) Φ) :
    TO P E D L F ops (⟨some d, .call ⟨.value (.func f), args, tys⟩, ty, pos, af, g⟩ :: os) k σ Φ :=
  to_callF hg rfl hx (cv_of_sp0 sp) ex.p K
theorem to_call0 [nm : NM E] {f : FuncId} {args : Array Operand} {tys : Array TypeId} {A : List HP} [HasBody P f] (hg : gd σ ops g = some true) (hx : evs σ args.toList = some vs) (sp : Sp P f vs A F Ψ) [ex : Ext A L R]
    (K : ∀ v B F', FS F F' → Ψ v B F' → TO P E D (B ++ R) F' ops os k σ Φ) :
    TO P E D L F ops (⟨none, .call ⟨.value (.func f), args, tys⟩, ty, pos, af, g⟩ :: os) k σ Φ :=
  to_callF hg rfl hx (cv_of_sp0 sp) ex.p K
theorem to_callv [nm : NM E] {fx : Tmp} {fv : Value} {args : Array Operand} {tys : Array TypeId} {A : List HP} (hg : gd σ ops g = some true) (hf : ev σ (.tmp fx) = some fv) (hx : evs σ args.toList = some vs) (sp : CV P fv vs A F Ψ) [ex : Ext A L R]
    (K : ∀ v B F', FS F F' → Ψ v B F' → TO P E D (B ++ R) F' ops os k ((d, v) :: σ) Φ) :
    TO P E D L F ops (⟨some d, .call ⟨.value (.tmp fx), args, tys⟩, ty, pos, af, g⟩ :: os) k σ Φ :=
  to_callF hg hf hx sp ex.p K
theorem to_callv0 [nm : NM E] {fx : Tmp} {fv : Value} {args : Array Operand} {tys : Array TypeId} {A : List HP} (hg : gd σ ops g = some true) (hf : ev σ (.tmp fx) = some fv) (hx : evs σ args.toList = some vs) (sp : CV P fv vs A F Ψ) [ex : Ext A L R]
    (K : ∀ v B F', FS F F' → Ψ v B F' → TO P E D (B ++ R) F' ops os k σ Φ) :
    TO P E D L F ops (⟨none, .call ⟨.value (.tmp fx), args, tys⟩, ty, pos, af, g⟩ :: os) k σ Φ :=
  to_callF hg hf hx sp ex.p K

/-- builtin len of a slice or a string -/
theorem to_lenS {len cap : Nat} {ad : Option Addr} {st : TypeId} {tys : Array TypeId} [Und P st (.slice elem)] (hg : gd σ ops g = some true) (ht : tys = #[st]) (hx : ev σ x = some (.slice ad len cap))
    (K : TO P E D L F ops os k ((d, .int .i64 len) :: σ) Φ) : TO P E D L F ops (⟨some d, .call ⟨.builtin .len, #[x], tys⟩, ty, pos, af, g⟩ :: os) k σ Φ :=
  to_val hg (fun w a ag => by
    subst ht
    simp [execOp, resolve, invoke, builtin, Builtin.len_, ev_eval ag hx, run_und (P := P) (t := st) w, goInt]) K
theorem to_lenT {s : ByteArray} {st : TypeId} {tys : Array TypeId} [Und P st .string] (hg : gd σ ops g = some true) (ht : tys = #[st]) (hx : ev σ x = some (.string s))
    (K : TO P E D L F ops os k ((d, .int .i64 s.size) :: σ) Φ) : TO P E D L F ops (⟨some d, .call ⟨.builtin .len, #[x], tys⟩, ty, pos, af, g⟩ :: os) k σ Φ :=
  to_val hg (fun w a ag => by
    subst ht
    simp [execOp, resolve, invoke, builtin, Builtin.len_, ev_eval ag hx, run_und (P := P) (t := st) w, goInt]) K
theorem to_cvt {src dst : TypeId} {ki kj : IntKind} {i : Int} [Und P src (.int ki)] [Und P dst (.int kj)] (hg : gd σ ops g = some true) (hx : ev σ x = some (.int ki i))
    (K : TO P E D L F ops os k ((d, .int kj (kj.wrap i)) :: σ) Φ) : TO P E D L F ops (⟨some d, .convert src dst x, ty, pos, af, g⟩ :: os) k σ Φ :=
  to_val hg (fun w a ag => by
    simp [execOp, convert, ev_eval ag hx, run_und (P := P) (t := src) w, run_und (P := P) (t := dst) w, Conv.intToInt]) K
/-- == of truth values, of pointers with nil, of slices with nil -/
theorem run_equal_bool [Und P t .bool] (p q : Bool) (w : World) : (Op.equal t (.bool p) (.bool q)).run P w = .ok (p == q) w := by
  show (Op.equalIn (9999 + 1) t _ _).run P w = _
  rw [Op.equalIn, Sem.run_bind, run_und (P := P) (t := t) w]; rfl
theorem run_equal_ptr [Und P t (.pointer elem)] (p : Option Addr) (w : World) : (Op.equal t (.pointer p) (.pointer none)).run P w = .ok p.isNone w := by
  show (Op.equalIn (9999 + 1) t _ _).run P w = _
  rw [Op.equalIn, Sem.run_bind, run_und (P := P) (t := t) w]; cases p <;> rfl
theorem run_equal_slice [Und P t (.slice elem)] (p : Option Addr) (n m l c : Nat) (w : World) : (Op.equal t (.slice p n m) (.slice none l c)).run P w = .ok p.isNone w := by
  show (Op.equalIn (9999 + 1) t _ _).run P w = _
  rw [Op.equalIn, Sem.run_bind, run_und (P := P) (t := t) w]; cases p <;> rfl
theorem eql_run {u v : Value} {c : Bool} {w : World} (hg : (eqGuard .eql t x y u v).run P w = .ok () w) (hb : binOp .eql t u v = (do pure (.bool (← Op.equal t u v)))) (h : (Op.equal t u v).run P w = .ok c w) :
    (do eqGuard .eql t x y u v; binOp .eql t u v : Sem Value).run P w = .ok (.bool c) w := by
  rw [Sem.run_bind, hg, Result.andThen_ok, hb, Sem.run_bind, h, Result.andThen_ok, Sem.run_pure]
theorem neq_run {u v : Value} {c : Bool} {w : World} (hg : (eqGuard .neq t x y u v).run P w = .ok () w) (hb : binOp .neq t u v = (do pure (.bool (!(← Op.equal t u v))))) (h : (Op.equal t u v).run P w = .ok c w) :
    (do eqGuard .neq t x y u v; binOp .neq t u v : Sem Value).run P w = .ok (.bool (!c)) w := by
  rw [Sem.run_bind, hg, Result.andThen_ok, hb, Sem.run_bind, h, Result.andThen_ok, Sem.run_pure]
theorem exec_bin {op : BinOp} {t2 : TypeId} {u v r : Value} {w : World} {a : Act} (ag : Agree σ a.tmps) (hx : ev σ x = some u) (hy : ev σ y = some v)
    (h : (do eqGuard op t x y u v; binOp op t u v : Sem Value).run P w = .ok r w) : (execOp a.eval ⟨some d, .binOp op t x y t2, ty, pos, af, g⟩).run P w = .ok (.value r) w := by
  simp only [execOp, ev_eval ag hx, ev_eval ag hy]
  rw [Sem.run_bind, h, Result.andThen_ok, Sem.run_pure]
theorem to_eqB {p q : Bool} {t2 : TypeId} [Und P t .bool] (hg : gd σ ops g = some true) (hx : ev σ x = some (.bool p)) (hy : ev σ y = some (.bool q))
    (K : TO P E D L F ops os k ((d, .bool (p == q)) :: σ) Φ) : TO P E D L F ops (⟨some d, .binOp .eql t x y t2, ty, pos, af, g⟩ :: os) k σ Φ :=
  to_val hg (fun w a ag => exec_bin ag hx hy (eql_run rfl rfl (run_equal_bool p q w))) K
theorem to_neB {p q : Bool} {t2 : TypeId} [Und P t .bool] (hg : gd σ ops g = some true) (hx : ev σ x = some (.bool p)) (hy : ev σ y = some (.bool q))
    (K : TO P E D L F ops os k ((d, .bool (!(p == q))) :: σ) Φ) : TO P E D L F ops (⟨some d, .binOp .neq t x y t2, ty, pos, af, g⟩ :: os) k σ Φ :=
  to_val hg (fun w a ag => exec_bin ag hx hy (neq_run rfl rfl (run_equal_bool p q w))) K
theorem to_nilP {p : Option Addr} {t2 : TypeId} [Und P t (.pointer elem)] (hg : gd σ ops g = some true) (hx : ev σ x = some (.pointer p)) (hy : ev σ y = some (.pointer none))
    (K : TO P E D L F ops os k ((d, .bool p.isNone) :: σ) Φ) : TO P E D L F ops (⟨some d, .binOp .eql t x y t2, ty, pos, af, g⟩ :: os) k σ Φ :=
  to_val hg (fun w a ag => exec_bin ag hx hy (eql_run rfl rfl (run_equal_ptr p w))) K
theorem to_nnilP {p : Option Addr} {t2 : TypeId} [Und P t (.pointer elem)] (hg : gd σ ops g = some true) (hx : ev σ x = some (.pointer p)) (hy : ev σ y = some (.pointer none))
    (K : TO P E D L F ops os k ((d, .bool (!p.isNone)) :: σ) Φ) : TO P E D L F ops (⟨some d, .binOp .neq t x y t2, ty, pos, af, g⟩ :: os) k σ Φ :=
  to_val hg (fun w a ag => exec_bin ag hx hy (neq_run rfl rfl (run_equal_ptr p w))) K
theorem to_nilS {p : Option Addr} {len cap l2 c2 : Nat} {t2 : TypeId} [Und P t (.slice elem)] (hg : gd σ ops g = some true) (hx : ev σ x = some (.slice p len cap)) (hy : ev σ y = some (.slice none l2 c2))
    (K : TO P E D L F ops os k ((d, .bool p.isNone) :: σ) Φ) : TO P E D L F ops (⟨some d, .binOp .eql t x y t2, ty, pos, af, g⟩ :: os) k σ Φ :=
  to_val hg (fun w a ag => exec_bin ag hx hy (eql_run rfl rfl (run_equal_slice p len cap l2 c2 w))) K
theorem to_nnilS {p : Option Addr} {len cap l2 c2 : Nat} {t2 : TypeId} [Und P t (.slice elem)] (hg : gd σ ops g = some true) (hx : ev σ x = some (.slice p len cap)) (hy : ev σ y = some (.slice none l2 c2))
    (K : TO P E D L F ops os k ((d, .bool (!p.isNone)) :: σ) Φ) : TO P E D L F ops (⟨some d, .binOp .neq t x y t2, ty, pos, af, g⟩ :: os) k σ Φ :=
  to_val hg (fun w a ag => exec_bin ag hx hy (neq_run rfl rfl (run_equal_slice p len cap l2 c2 w))) K

/-- quotient and remainder by what is not 0; shifts by what is not below 0; bits -/
theorem to_quo {ki : IntKind} {i j : Int} {t2 : TypeId} (hg : gd σ ops g = some true) (hx : ev σ x = some (.int ki i)) (hy : ev σ y = some (.int ki j)) (hj : j ≠ 0)
    (K : TO P E D L F ops os k ((d, .int ki (ki.wrap (i.tdiv j))) :: σ) Φ) : TO P E D L F ops (⟨some d, .binOp .quo t x y t2, ty, pos, af, g⟩ :: os) k σ Φ :=
  to_val hg (fun w a ag => by
    exact exec_bin ag hx hy (by simp [eqGuard, binOp, Op.intDiv, hj])) K
theorem to_rem {ki : IntKind} {i j : Int} {t2 : TypeId} (hg : gd σ ops g = some true) (hx : ev σ x = some (.int ki i)) (hy : ev σ y = some (.int ki j)) (hj : j ≠ 0)
    (K : TO P E D L F ops os k ((d, .int ki (i.tmod j)) :: σ) Φ) : TO P E D L F ops (⟨some d, .binOp .rem t x y t2, ty, pos, af, g⟩ :: os) k σ Φ :=
  to_val hg (fun w a ag => by
    exact exec_bin ag hx hy (by simp [eqGuard, binOp, Op.intDiv, hj])) K
theorem to_shl {ki kj : IntKind} {i j : Int} {t2 : TypeId} (hg : gd σ ops g = some true) (hx : ev σ x = some (.int ki i)) (hy : ev σ y = some (.int kj j)) (hj : 0 ≤ j)
    (K : TO P E D L F ops os k ((d, .int ki (ki.wrap (i * 2 ^ (min j.toNat ki.bits)))) :: σ) Φ) : TO P E D L F ops (⟨some d, .binOp .shl t x y t2, ty, pos, af, g⟩ :: os) k σ Φ :=
  to_val hg (fun w a ag => by
    exact exec_bin ag hx hy (by simp [eqGuard, binOp, Op.shift, Int.not_lt.2 hj])) K
theorem to_shr {ki kj : IntKind} {i j : Int} {t2 : TypeId} (hg : gd σ ops g = some true) (hx : ev σ x = some (.int ki i)) (hy : ev σ y = some (.int kj j)) (hj : 0 ≤ j)
    (K : TO P E D L F ops os k ((d, .int ki (i.fdiv (2 ^ (min j.toNat ki.bits)))) :: σ) Φ) : TO P E D L F ops (⟨some d, .binOp .shr t x y t2, ty, pos, af, g⟩ :: os) k σ Φ :=
  to_val hg (fun w a ag => by
    exact exec_bin ag hx hy (by simp [eqGuard, binOp, Op.shift, Int.not_lt.2 hj])) K
theorem to_cat {s u : ByteArray} {t2 : TypeId} (hg : gd σ ops g = some true) (hx : ev σ x = some (.string s)) (hy : ev σ y = some (.string u)) (hl : s.size + u.size ≤ 9223372036854775807)
    (K : TO P E D L F ops os k ((d, .string (s ++ u)) :: σ) Φ) : TO P E D L F ops (⟨some d, .binOp .add t x y t2, ty, pos, af, g⟩ :: os) k σ Φ :=
  to_val hg (fun w a ag => by
    have : ¬ (((s.size + u.size : Nat) : Int) > IntKind.i64.max) := by simp [IntKind.max, IntKind.signed, IntKind.bits]; omega
    exact exec_bin ag hx hy (by simp only [eqGuard, binOp, Op.stringOp]; rw [if_neg this]; rfl)) K
/-- sums that stay within bounds -/
theorem wrap_i64 {i : Int} (h : -9223372036854775808 ≤ i) (h' : i ≤ 9223372036854775807) : IntKind.i64.wrap i = i := by
  have e : IntKind.i64.bits = 64 := rfl
  simp only [IntKind.wrap, e, show IntKind.i64.signed = true from rfl, Bool.true_and]
  have h64 : (2 : Int) ^ 64 = 18446744073709551616 := by decide
  have h63 : (2 : Int) ^ (64 - 1) = 9223372036854775808 := by decide
  rw [h64, h63]
  simp only [ge_iff_le, decide_eq_true_eq]
  split <;> omega
theorem to_add {i j : Int} {t2 : TypeId} (hg : gd σ ops g = some true) (hx : ev σ x = some (.int .i64 i)) (hy : ev σ y = some (.int .i64 j)) (hl : -9223372036854775808 ≤ i + j) (hh : i + j ≤ 9223372036854775807)
    (K : TO P E D L F ops os k ((d, .int .i64 (i + j)) :: σ) Φ) : TO P E D L F ops (⟨some d, .binOp .add t x y t2, ty, pos, af, g⟩ :: os) k σ Φ :=
  to_p (v := .int .i64 (i + j)) hg (by simp only [pev, hx, hy, pbin, keq, cond_true, wrap_i64 hl hh]) K
theorem to_sub_ {i j : Int} {t2 : TypeId} (hg : gd σ ops g = some true) (hx : ev σ x = some (.int .i64 i)) (hy : ev σ y = some (.int .i64 j)) (hl : -9223372036854775808 ≤ i - j) (hh : i - j ≤ 9223372036854775807)
    (K : TO P E D L F ops os k ((d, .int .i64 (i - j)) :: σ) Φ) : TO P E D L F ops (⟨some d, .binOp .sub t x y t2, ty, pos, af, g⟩ :: os) k σ Φ :=
  to_p (v := .int .i64 (i - j)) hg (by simp only [pev, hx, hy, pbin, keq, cond_true, wrap_i64 hl hh]) K
theorem to_mul {i j : Int} {t2 : TypeId} (hg : gd σ ops g = some true) (hx : ev σ x = some (.int .i64 i)) (hy : ev σ y = some (.int .i64 j)) (hl : -9223372036854775808 ≤ i * j) (hh : i * j ≤ 9223372036854775807)
    (K : TO P E D L F ops os k ((d, .int .i64 (i * j)) :: σ) Φ) : TO P E D L F ops (⟨some d, .binOp .mul t x y t2, ty, pos, af, g⟩ :: os) k σ Φ :=
  to_p (v := .int .i64 (i * j)) hg (by simp only [pev, hx, hy, pbin, keq, cond_true, wrap_i64 hl hh]) K

/-- struct and array literals -/
def cellsL : Value → List Value
  | .agg cs => cs.toList
  | v => [v]
theorem cells_toList (v : Value) : v.cells.toList = cellsL v := by cases v <;> rfl
def evps (σ : Sg) : List (Nat × Operand) → Option (List (Nat × Value))
  | [] => some []
  | (i, x) :: r => match ev σ x, evps σ r with
    | some v, some vs => some ((i, v) :: vs)
    | _, _ => none
theorem evps_map {a : Act} (ag : Agree σ a.tmps) : ∀ {ps : List (Nat × Operand)} {ws : List (Nat × Value)}, evps σ ps = some ws → ps.map (fun p => (p.1, a.eval p.2)) = ws
  | [], _, e => by cases e; rfl
  | (i, x) :: r, ws, e => by
    unfold evps at e
    cases h1 : ev σ x with
    | none => rw [h1] at e; cases e
    | some v =>
      cases h2 : evps σ r with
      | none => rw [h1, h2] at e; cases e
      | some vs => rw [h1, h2] at e; cases e; rw [List.map_cons, ev_eval ag h1, evps_map ag h2]
def leq : Nat → List Value → Bool
  | 0, [] => true
  | n + 1, _ :: r => leq n r
  | _, _ => false
theorem leq_eq : ∀ {n : Nat} {l : List Value}, leq n l = true → l.length = n
  | 0, [], _ => rfl
  | n + 1, _ :: r, h => by rw [List.length_cons, leq_eq (n := n) (l := r) h]
  | 0, _ :: _, h => by cases h
  | _ + 1, [], h => by cases h
def nthP : List (Nat × Nat) → Nat → Option (Nat × Nat)
  | [], _ => none
  | v :: _, 0 => some v
  | _ :: cs, n + 1 => nthP cs n
theorem nthP_eq : ∀ (cs : List (Nat × Nat)) (n : Nat), nthP cs n = cs[n]?
  | [], _ => rfl
  | _ :: _, 0 => rfl
  | _ :: cs, n + 1 => by rw [nthP, nthP_eq cs n]; rfl
def fillL (pl : Nat → Option (Nat × Nat)) : List Value → List (Nat × Value) → Option (List Value)
  | cs, [] => some cs
  | cs, (i, v) :: r => match pl i with
    | some (off, size) => bif leq size (cellsL v) then
        match setL cs off (cellsL v) with
        | some cs' => fillL pl cs' r
        | none => none
      else none
    | none => none
theorem foldl_set : ∀ (vs : List Value) (j : Nat) (arr : Array Value) (off : Nat), (vs.zipIdx j).foldl (fun cs (p : Value × Nat) => cs.setIfInBounds (off + p.2) p.1) arr = (setN arr.toList (off + j) vs).toArray
  | [], _, _, _ => rfl
  | v :: vs, j, arr, off => by
    rw [List.zipIdx_cons, List.foldl_cons, foldl_set vs (j + 1), setN]
    simp [Nat.add_assoc]
theorem setL_nil {cs : List Value} {o : Nat} : setL cs o [] = some cs := by unfold setL; rfl
theorem setL_some {cs : List Value} {o : Nat} {vs cs' : List Value} (h : setL cs o vs = some cs') : cs' = setN cs o vs ∧ (vs ≠ [] → o + vs.length ≤ cs.length) := by
  rcases setL_eq h with ⟨e, l⟩ | ⟨e, e'⟩
  · exact ⟨e, fun _ => l⟩
  · subst e; subst e'; exact ⟨rfl, fun h => absurd rfl h⟩
theorem fill_of {pl : Nat → Option (Nat × Nat)} (hpl : ∀ i off size, pl i = some (off, size) → 0 < size) : ∀ {ws : List (Nat × Value)} {cs cs' : List Value}, fillL pl cs ws = some cs' → Instr.fill pl cs.toArray ws = some cs'.toArray
  | [], cs, cs', h => by unfold fillL at h; cases h; rfl
  | (i, v) :: r, cs, cs', h => by
    unfold fillL at h
    split at h
    · rename_i off size hp
      cases hq : leq size (cellsL v) with
      | false => rw [hq] at h; cases h
      | true =>
        rw [hq, cond_true] at h
        split at h
        · rename_i cs1 h1
          have hs := setL_some h1
          have hsz : v.cells.size = size := by rw [← leq_eq hq, ← cells_toList, Array.length_toList]
          have hne : cellsL v ≠ [] := by
            intro e
            have := leq_eq hq
            rw [e] at this
            have := hpl i off size hp
            simp at *; omega
          have hl := hs.2 hne
          have := fill_of hpl h
          unfold Instr.fill
          rw [hp]
          dsimp only
          rw [if_neg]
          · rw [← this, hs.1]
            congr 1
            rw [← Array.foldl_toList, Array.toList_zipIdx, cells_toList]
            exact foldl_set (cellsL v) 0 cs.toArray off
          · intro h1
            rw [leq_eq hq] at hl
            simp [hsz] at h1
            omega
        · cases h
    · cases h
theorem to_bs {parts : Array (Nat × Operand)} {ws : List (Nat × Value)} {offs : List (Nat × Nat)} [hs : Str P t offs] [hi : Inf P t zs n by_] (hg : gd σ ops g = some true)
    (hp : evps σ parts.toList = some ws) (hf : fillL (nthP offs) zs ws = some cs) (h0 : offs.all (fun p => Nat.blt 0 p.2) = true)
    (K : TO P E D L F ops os k ((d, .agg cs.toArray) :: σ) Φ) : TO P E D L F ops (⟨some d, .build t parts, ty, pos, af, g⟩ :: os) k σ Φ :=
  to_val hg (fun w a ag => by
    obtain ⟨fs, hu, hm⟩ := hs.h
    obtain ⟨z, hz, hzs⟩ := run_zero (P := P) (t := t) w
    have h1 : parts.map (fun p => (p.1, a.eval p.2)) = ws.toArray := by
      apply Array.ext'; simpa using evps_map ag hp
    have h2 := fill_of (pl := nthP offs) (fun i off size e => by
      rw [nthP_eq] at e
      have := List.all_eq_true.1 h0 _ (List.mem_of_getElem? e)
      simpa using this) hf
    have h3 : (fun i => offs.toArray[i]?) = nthP offs := by funext i; rw [nthP_eq]; simp
    have hzc : z.cells = zs.toArray := by rw [← hzs]
    simp only [execOp]
    rw [h1, Sem.run_bind]
    unfold Instr.build
    simp only [Sem.run_bind, hz, Result.andThen_ok, run_underlying hu w, hm w, hzc, h3, h2, Sem.run_pure]) K
theorem to_ba {parts : Array (Nat × Operand)} {ws : List (Nat × Value)} {len e sz y : Nat} {ze : List Value} [Und P t (.array len e)] [Inf P e ze sz y] [hi : Inf P t zs n by_] (hg : gd σ ops g = some true)
    (hp : evps σ parts.toList = some ws) (hf : fillL (fun i => some (i * sz, sz)) zs ws = some cs) (h0 : Nat.blt 0 sz = true)
    (K : TO P E D L F ops os k ((d, .agg cs.toArray) :: σ) Φ) : TO P E D L F ops (⟨some d, .build t parts, ty, pos, af, g⟩ :: os) k σ Φ :=
  to_val hg (fun w a ag => by
    obtain ⟨z, hz, hzs⟩ := run_zero (P := P) (t := t) w
    have h1 : parts.map (fun p => (p.1, a.eval p.2)) = ws.toArray := by
      apply Array.ext'; simpa using evps_map ag hp
    have h2 := fill_of (pl := fun i => some (i * sz, sz)) (fun i off size e => by cases e; simpa using h0) hf
    have hzc : z.cells = zs.toArray := by rw [← hzs]
    simp only [execOp]
    rw [h1, Sem.run_bind]
    unfold Instr.build
    simp only [Sem.run_bind, hz, Result.andThen_ok, run_und (P := P) (t := t) w, run_size (P := P) (t := e) w, hzc, h2, Sem.run_pure]) K
/-- a field of a struct value -/
def extr (cs : List Value) (off size : Nat) (agg : Bool) : Option Value := bif agg then
    match getN cs off size with
    | some vs => some (.agg vs.toArray)
    | none => none
  else nth cs off

/-! #### Leaving a function -/
class Drp (L R : List HP) : Prop where
  h : ∀ w F B, St w (B ++ L) F → St w (B ++ R) F
theorem St.dropMid {w : World} {B : List HP} {X : HP} {L : List HP} {F : Frz} (s : St w (B ++ X :: L) F) : St w (B ++ L) F :=
  (s.perm (List.perm_middle)).drop
instance (priority := high) drp_refl {R : List HP} : Drp R R := ⟨fun _ _ _ s => s⟩
instance drp_cons {X : HP} {L R : List HP} [h : Drp L R] : Drp (X :: L) R := ⟨fun w F B s => h.h w F B s.dropMid⟩
instance drp_nil {L R : List HP} [h : Drp L R] : Drp ([] ++ L) R := ⟨fun w F B s => h.h w F B s⟩
instance drp_app {X : HP} {A L R : List HP} [h : Drp (A ++ L) R] : Drp ((X :: A) ++ L) R := ⟨fun w F B s => h.h w F B (St.dropMid s)⟩

def ROk (P : Program) (σ : Sg) (L : List HP) (F : Frz) (rs : List ResultVar) (vs : List Value) : Prop :=
  ∀ (w : World) (tmps : Array Value) (g : ResultVar → Sem Value), Agree σ tmps → St w L F → (∀ t, g (.tmp t) = pure (tmps.getD t undef)) →
    (∀ a t, g (.cell a t) = (do loadVar t (← asAddr (tmps.getD a undef)))) → (rs.mapM g).run P w = .ok vs w
theorem ROk.nil : ROk P σ L F [] [] := fun w tmps g _ _ _ _ => by simp
theorem ROk.tmp {t : Tmp} {rs : List ResultVar} (h : look σ t = some v) (r : ROk P σ L F rs vs) : ROk P σ L F (.tmp t :: rs) (v :: vs) := fun w tmps g ag st h1 h2 => by
  rw [List.mapM_cons, h1]
  simp [r w tmps g ag st h1 h2, Array.getD_eq_getD_getElem?, ag t v h]
theorem getD_of {tmps : Array Value} {t : Tmp} (ag : Agree σ tmps) (h : look σ t = some v) : tmps.getD t undef = v := by
  simp [Array.getD_eq_getD_getElem?, ag t v h]
theorem ROk.cellA {ta : Tmp} {rs : List ResultVar} {us : List Value} [fb : FB b L (own b cs t') R] [AggT P t] [Inf P t zs n by_] (h : look σ ta = some (.pointer (some ⟨b, 0, none⟩))) (hc : getN cs 0 n = some us) (r : ROk P σ L F rs vs) :
    ROk P σ L F (.cell ta t :: rs) (.agg us.toArray :: vs) := fun w tmps g ag st h1 h2 => by
  rw [List.mapM_cons, h2, getD_of ag h]
  have hl : (loadVar t ⟨b, 0, none⟩).run P w = .ok (.agg us.toArray) w := run_load_agg (n := n) (zs := zs) (by_ := by_) (getN_eq hc).1 (fun j u hu => by rw [Addr.add_none, (st.perm fb.p).cell]; exact (getN_eq hc).2 j u hu)
  simp [asAddr, hl, r w tmps g ag st h1 h2]
theorem ROk.cell {ta : Tmp} {rs : List ResultVar} {u : Value} [fb : FB b L (own b cs t') R] [ScaT P t] (h : look σ ta = some (.pointer (some ⟨b, 0, none⟩))) (hc : nth cs 0 = some u) (r : ROk P σ L F rs vs) :
    ROk P σ L F (.cell ta t :: rs) (u :: vs) := fun w tmps g ag st h1 h2 => by
  rw [List.mapM_cons, h2, getD_of ag h]
  have hl : (loadVar t ⟨b, 0, none⟩).run P w = .ok u w := run_load_one (by rw [(st.perm fb.p).cell 0, ← nth_eq, hc])
  simp [asAddr, hl, r w tmps g ag st h1 h2]
theorem ROk.results {fn : Func} {w : World} {a : Act} (r : ROk P σ L F fn.results.toList vs) (ag : Agree σ a.tmps) (st : St w L F) : (results fn a.tmps).run P w = .ok (packed vs) w := by
  unfold Go.results
  rw [Array.mapM_eq_mapM_toList]
  simp only [Sem.run_bind, Sem.run_map]
  rw [r w a.tmps _ ag st (fun _ => rfl) (fun _ _ => rfl)]
  simp only [Result.andThen_ok, Sem.run_pure]
  congr 1
  match vs with
  | [] => rfl
  | [v] => rfl
  | u :: v :: r => simp [packed]

abbrev Post (Ψ : Fin) (R : List HP) : Fin := fun v L' F' => ∃ B, L' = B ++ R ∧ Ψ v B F'
theorem t_ret {f : FuncId} {fn : Func} {L1 : List HP} (B : List HP) (hf : P.funcs[f]? = some fn) (r : ROk P σ L F fn.results.toList vs) [ex : Ext B L L1] [dr : Drp L1 R] (hq : Ψ (packed vs) B F) :
    T P ⟨f, n, none, none⟩ [] L F (.code .ret :: k) σ (Post Ψ R) := by
  intro _ w b a cs h1 h2 h3 _ h5 ag st
  exact ⟨_, w, _, B ++ R, F, .one (stepR_ret h3), leave_of h2 h5 (h1 ▸ hf) (r.results ag st), h1, .refl _, ⟨B, rfl, hq⟩, dr.h w F B (st.perm ex.p)⟩
theorem t_end {f : FuncId} {fn : Func} {L1 : List HP} (B : List HP) (hf : P.funcs[f]? = some fn) (r : ROk P σ L F fn.results.toList vs) [ex : Ext B L L1] [dr : Drp L1 R] (hq : Ψ (packed vs) B F) :
    T P ⟨f, n, none, none⟩ [] L F [] σ (Post Ψ R) := by
  intro _ w b a cs h1 h2 h3 _ h5 ag st
  exact ⟨_, w, _, B ++ R, F, .one (stepR_end h3), leave_of h2 h5 (h1 ▸ hf) (r.results ag st), h1, .refl _, ⟨B, rfl, hq⟩, dr.h w F B (st.perm ex.p)⟩
end
end Go.Au
end

section
set_option maxRecDepth 100000
namespace Go.Proofs.YtbffngeameenoaaGreat
open Go Go.Au
instance i0 : Inf Tryz.prog 0 [(.tuple #[])] 1 0 := Inf.mk' (z := (.tuple #[])) (by kernel_rfl) rfl
instance u1 : Und Tryz.prog 1 (TypeDesc.func #[] #[] false) := ⟨Tryz.underlying1⟩
instance : ScaT Tryz.prog 1 := ⟨_, Tryz.underlying1, rfl⟩
instance i1 : Inf Tryz.prog 1 [.nilFunc] 1 8 := Inf.mk' (z := .nilFunc) (by kernel_rfl) rfl
instance u2 : Und Tryz.prog 2 (TypeDesc.int .i64) := ⟨Tryz.underlying2⟩
instance : ScaT Tryz.prog 2 := ⟨_, Tryz.underlying2, rfl⟩
instance i2 : Inf Tryz.prog 2 [(.int .i64 0)] 1 8 := Inf.mk' (z := (.int .i64 0)) (by kernel_rfl) rfl
instance u3 : Und Tryz.prog 3 (TypeDesc.int .i64) := ⟨Tryz.underlying3⟩
instance : ScaT Tryz.prog 3 := ⟨_, Tryz.underlying3, rfl⟩
instance i3 : Inf Tryz.prog 3 [(.int .i64 0)] 1 8 := Inf.mk' (z := (.int .i64 0)) (by kernel_rfl) rfl
instance u4 : Und Tryz.prog 4 TypeDesc.bool := ⟨Tryz.underlying4⟩
instance : ScaT Tryz.prog 4 := ⟨_, Tryz.underlying4, rfl⟩
instance i4 : Inf Tryz.prog 4 [(.bool false)] 1 1 := Inf.mk' (z := (.bool false)) (by kernel_rfl) rfl
instance u5 : Und Tryz.prog 5 (TypeDesc.int .u8) := ⟨Tryz.underlying5⟩
instance : ScaT Tryz.prog 5 := ⟨_, Tryz.underlying5, rfl⟩
instance i5 : Inf Tryz.prog 5 [(.int .u8 0)] 1 1 := Inf.mk' (z := (.int .u8 0)) (by kernel_rfl) rfl
instance u6 : Und Tryz.prog 6 (TypeDesc.int .u8) := ⟨Tryz.underlying6⟩
instance : ScaT Tryz.prog 6 := ⟨_, Tryz.underlying6, rfl⟩
instance i6 : Inf Tryz.prog 6 [(.int .u8 0)] 1 1 := Inf.mk' (z := (.int .u8 0)) (by kernel_rfl) rfl
instance : AggT Tryz.prog 7 := ⟨_, Tryz.underlying7, rfl⟩
instance : Str Tryz.prog 7 [(0, 1), (1, 1), (2, 1), (3, 1)] := ⟨_, Tryz.underlying7, fun w => by kernel_rfl⟩
instance i7 : Inf Tryz.prog 7 [(.int .i64 0), (.int .i64 0), (.bool false), (.int .u8 0)] 4 24 := Inf.mk' (z := (.agg #[(.int .i64 0), (.int .i64 0), (.bool false), (.int .u8 0)])) (by kernel_rfl) rfl
instance : AggT Tryz.prog 8 := ⟨_, Tryz.underlying8, rfl⟩
instance : Str Tryz.prog 8 [(0, 1), (1, 1), (2, 1), (3, 1)] := ⟨_, Tryz.underlying8, fun w => by kernel_rfl⟩
instance i8 : Inf Tryz.prog 8 [(.int .i64 0), (.int .i64 0), (.bool false), (.int .u8 0)] 4 24 := Inf.mk' (z := (.agg #[(.int .i64 0), (.int .i64 0), (.bool false), (.int .u8 0)])) (by kernel_rfl) rfl
instance u9 : Und Tryz.prog 9 TypeDesc.string := ⟨Tryz.underlying9⟩
instance : ScaT Tryz.prog 9 := ⟨_, Tryz.underlying9, rfl⟩
instance i9 : Inf Tryz.prog 9 [(.string ⟨#[]⟩)] 1 16 := Inf.mk' (z := (.string ⟨#[]⟩)) (by kernel_rfl) rfl
instance u10 : Und Tryz.prog 10 TypeDesc.string := ⟨Tryz.underlying10⟩
instance : ScaT Tryz.prog 10 := ⟨_, Tryz.underlying10, rfl⟩
instance i10 : Inf Tryz.prog 10 [(.string ⟨#[]⟩)] 1 16 := Inf.mk' (z := (.string ⟨#[]⟩)) (by kernel_rfl) rfl
instance u11 : Und Tryz.prog 11 TypeDesc.string := ⟨Tryz.underlying11⟩
instance : ScaT Tryz.prog 11 := ⟨_, Tryz.underlying11, rfl⟩
instance i11 : Inf Tryz.prog 11 [(.string ⟨#[]⟩)] 1 16 := Inf.mk' (z := (.string ⟨#[]⟩)) (by kernel_rfl) rfl
instance u12 : Und Tryz.prog 12 (TypeDesc.int .u64) := ⟨Tryz.underlying12⟩
instance : ScaT Tryz.prog 12 := ⟨_, Tryz.underlying12, rfl⟩
instance i12 : Inf Tryz.prog 12 [(.int .u64 0)] 1 8 := Inf.mk' (z := (.int .u64 0)) (by kernel_rfl) rfl
instance : AggT Tryz.prog 13 := ⟨_, Tryz.underlying13, rfl⟩
instance : Str Tryz.prog 13 [(0, 1), (1, 1)] := ⟨_, Tryz.underlying13, fun w => by kernel_rfl⟩
instance i13 : Inf Tryz.prog 13 [(.string ⟨#[]⟩), (.int .u64 0)] 2 24 := Inf.mk' (z := (.agg #[(.string ⟨#[]⟩), (.int .u64 0)])) (by kernel_rfl) rfl
instance : AggT Tryz.prog 14 := ⟨_, Tryz.underlying14, rfl⟩
instance : Str Tryz.prog 14 [(0, 1), (1, 1)] := ⟨_, Tryz.underlying14, fun w => by kernel_rfl⟩
instance i14 : Inf Tryz.prog 14 [(.string ⟨#[]⟩), (.int .u64 0)] 2 24 := Inf.mk' (z := (.agg #[(.string ⟨#[]⟩), (.int .u64 0)])) (by kernel_rfl) rfl
instance u15 : Und Tryz.prog 15 (TypeDesc.pointer 177) := ⟨Tryz.underlying15⟩
instance : ScaT Tryz.prog 15 := ⟨_, Tryz.underlying15, rfl⟩
instance i15 : Inf Tryz.prog 15 [(.pointer none)] 1 8 := Inf.mk' (z := (.pointer none)) (by kernel_rfl) rfl
instance u16 : Und Tryz.prog 16 (TypeDesc.pointer 180) := ⟨Tryz.underlying16⟩
instance : ScaT Tryz.prog 16 := ⟨_, Tryz.underlying16, rfl⟩
instance i16 : Inf Tryz.prog 16 [(.pointer none)] 1 8 := Inf.mk' (z := (.pointer none)) (by kernel_rfl) rfl
instance u17 : Und Tryz.prog 17 (TypeDesc.pointer 188) := ⟨Tryz.underlying17⟩
instance : ScaT Tryz.prog 17 := ⟨_, Tryz.underlying17, rfl⟩
instance i17 : Inf Tryz.prog 17 [(.pointer none)] 1 8 := Inf.mk' (z := (.pointer none)) (by kernel_rfl) rfl
instance : AggT Tryz.prog 18 := ⟨_, Tryz.underlying18, rfl⟩
instance : Str Tryz.prog 18 [(0, 1)] := ⟨_, Tryz.underlying18, fun w => by kernel_rfl⟩
instance i18 : Inf Tryz.prog 18 [(.pointer none)] 1 8 := Inf.mk' (z := (.agg #[(.pointer none)])) (by kernel_rfl) rfl
instance : AggT Tryz.prog 19 := ⟨_, Tryz.underlying19, rfl⟩
instance : Str Tryz.prog 19 [(0, 1)] := ⟨_, Tryz.underlying19, fun w => by kernel_rfl⟩
instance i19 : Inf Tryz.prog 19 [(.pointer none)] 1 8 := Inf.mk' (z := (.agg #[(.pointer none)])) (by kernel_rfl) rfl
instance u20 : Und Tryz.prog 20 (TypeDesc.interface #[]) := ⟨Tryz.underlying20⟩
instance : ScaT Tryz.prog 20 := ⟨_, Tryz.underlying20, rfl⟩
instance i20 : Inf Tryz.prog 20 [.nilIface] 1 16 := Inf.mk' (z := .nilIface) (by kernel_rfl) rfl
instance u21 : Und Tryz.prog 21 (TypeDesc.int .i32) := ⟨Tryz.underlying21⟩
instance : ScaT Tryz.prog 21 := ⟨_, Tryz.underlying21, rfl⟩
instance i21 : Inf Tryz.prog 21 [(.int .i32 0)] 1 4 := Inf.mk' (z := (.int .i32 0)) (by kernel_rfl) rfl
instance u22 : Und Tryz.prog 22 (TypeDesc.slice 44) := ⟨Tryz.underlying22⟩
instance : ScaT Tryz.prog 22 := ⟨_, Tryz.underlying22, rfl⟩
instance i22 : Inf Tryz.prog 22 [(.slice none 0 0)] 1 24 := Inf.mk' (z := (.slice none 0 0)) (by kernel_rfl) rfl
instance u23 : Und Tryz.prog 23 (TypeDesc.pointer 69) := ⟨Tryz.underlying23⟩
instance : ScaT Tryz.prog 23 := ⟨_, Tryz.underlying23, rfl⟩
instance i23 : Inf Tryz.prog 23 [(.pointer none)] 1 8 := Inf.mk' (z := (.pointer none)) (by kernel_rfl) rfl
instance u24 : Und Tryz.prog 24 (TypeDesc.pointer 92) := ⟨Tryz.underlying24⟩
instance : ScaT Tryz.prog 24 := ⟨_, Tryz.underlying24, rfl⟩
instance i24 : Inf Tryz.prog 24 [(.pointer none)] 1 8 := Inf.mk' (z := (.pointer none)) (by kernel_rfl) rfl
instance i25 : Inf Tryz.prog 25 [(.tuple #[(.pointer none), (.pointer none), (.bool false)])] 1 0 := Inf.mk' (z := (.tuple #[(.pointer none), (.pointer none), (.bool false)])) (by kernel_rfl) rfl
instance u26 : Und Tryz.prog 26 (TypeDesc.func #[3, 22] #[23, 24, 4] false) := ⟨Tryz.underlying26⟩
instance : ScaT Tryz.prog 26 := ⟨_, Tryz.underlying26, rfl⟩
instance i26 : Inf Tryz.prog 26 [.nilFunc] 1 8 := Inf.mk' (z := .nilFunc) (by kernel_rfl) rfl
instance u27 : Und Tryz.prog 27 (TypeDesc.int .i64) := ⟨Tryz.underlying27⟩
instance : ScaT Tryz.prog 27 := ⟨_, Tryz.underlying27, rfl⟩
instance i27 : Inf Tryz.prog 27 [(.int .i64 0)] 1 8 := Inf.mk' (z := (.int .i64 0)) (by kernel_rfl) rfl
instance u28 : Und Tryz.prog 28 (TypeDesc.slice 5) := ⟨Tryz.underlying28⟩
instance : ScaT Tryz.prog 28 := ⟨_, Tryz.underlying28, rfl⟩
instance i28 : Inf Tryz.prog 28 [(.slice none 0 0)] 1 24 := Inf.mk' (z := (.slice none 0 0)) (by kernel_rfl) rfl
instance u29 : Und Tryz.prog 29 (TypeDesc.slice 105) := ⟨Tryz.underlying29⟩
instance : ScaT Tryz.prog 29 := ⟨_, Tryz.underlying29, rfl⟩
instance i29 : Inf Tryz.prog 29 [(.slice none 0 0)] 1 24 := Inf.mk' (z := (.slice none 0 0)) (by kernel_rfl) rfl
instance : AggT Tryz.prog 30 := ⟨_, Tryz.underlying30, rfl⟩
instance : Str Tryz.prog 30 [(0, 1), (1, 1), (2, 1), (3, 1)] := ⟨_, Tryz.underlying30, fun w => by kernel_rfl⟩
instance i30 : Inf Tryz.prog 30 [(.int .i64 0), (.int .i64 0), (.slice none 0 0), (.slice none 0 0)] 4 64 := Inf.mk' (z := (.agg #[(.int .i64 0), (.int .i64 0), (.slice none 0 0), (.slice none 0 0)])) (by kernel_rfl) rfl
instance : AggT Tryz.prog 31 := ⟨_, Tryz.underlying31, rfl⟩
instance : Str Tryz.prog 31 [(0, 1), (1, 1), (2, 1), (3, 1)] := ⟨_, Tryz.underlying31, fun w => by kernel_rfl⟩
instance i31 : Inf Tryz.prog 31 [(.int .i64 0), (.int .i64 0), (.slice none 0 0), (.slice none 0 0)] 4 64 := Inf.mk' (z := (.agg #[(.int .i64 0), (.int .i64 0), (.slice none 0 0), (.slice none 0 0)])) (by kernel_rfl) rfl
instance u32 : Und Tryz.prog 32 (TypeDesc.func #[40, 4] #[31] false) := ⟨Tryz.underlying32⟩
instance : ScaT Tryz.prog 32 := ⟨_, Tryz.underlying32, rfl⟩
instance i32 : Inf Tryz.prog 32 [.nilFunc] 1 8 := Inf.mk' (z := .nilFunc) (by kernel_rfl) rfl
instance u33 : Und Tryz.prog 33 (TypeDesc.int .i64) := ⟨Tryz.underlying33⟩
instance : ScaT Tryz.prog 33 := ⟨_, Tryz.underlying33, rfl⟩
instance i33 : Inf Tryz.prog 33 [(.int .i64 0)] 1 8 := Inf.mk' (z := (.int .i64 0)) (by kernel_rfl) rfl
instance : AggT Tryz.prog 34 := ⟨_, Tryz.underlying34, rfl⟩
instance : Str Tryz.prog 34 [(0, 1), (1, 1), (2, 1), (3, 1)] := ⟨_, Tryz.underlying34, fun w => by kernel_rfl⟩
instance i34 : Inf Tryz.prog 34 [(.int .i64 0), (.int .i64 0), (.int .i64 0), (.int .i64 0)] 4 32 := Inf.mk' (z := (.agg #[(.int .i64 0), (.int .i64 0), (.int .i64 0), (.int .i64 0)])) (by kernel_rfl) rfl
instance : AggT Tryz.prog 35 := ⟨_, Tryz.underlying35, rfl⟩
instance : Str Tryz.prog 35 [(0, 1), (1, 1), (2, 1), (3, 1)] := ⟨_, Tryz.underlying35, fun w => by kernel_rfl⟩
instance i35 : Inf Tryz.prog 35 [(.int .i64 0), (.int .i64 0), (.int .i64 0), (.int .i64 0)] 4 32 := Inf.mk' (z := (.agg #[(.int .i64 0), (.int .i64 0), (.int .i64 0), (.int .i64 0)])) (by kernel_rfl) rfl
instance u36 : Und Tryz.prog 36 (TypeDesc.slice 4) := ⟨Tryz.underlying36⟩
instance : ScaT Tryz.prog 36 := ⟨_, Tryz.underlying36, rfl⟩
instance i36 : Inf Tryz.prog 36 [(.slice none 0 0)] 1 24 := Inf.mk' (z := (.slice none 0 0)) (by kernel_rfl) rfl
instance : AggT Tryz.prog 37 := ⟨_, Tryz.underlying37, rfl⟩
instance : Str Tryz.prog 37 [(0, 1), (1, 1), (2, 1)] := ⟨_, Tryz.underlying37, fun w => by kernel_rfl⟩
instance i37 : Inf Tryz.prog 37 [(.slice none 0 0), (.int .i64 0), (.int .i64 0)] 3 40 := Inf.mk' (z := (.agg #[(.slice none 0 0), (.int .i64 0), (.int .i64 0)])) (by kernel_rfl) rfl
instance : AggT Tryz.prog 38 := ⟨_, Tryz.underlying38, rfl⟩
instance : Str Tryz.prog 38 [(0, 1), (1, 1), (2, 1)] := ⟨_, Tryz.underlying38, fun w => by kernel_rfl⟩
instance i38 : Inf Tryz.prog 38 [(.slice none 0 0), (.int .i64 0), (.int .i64 0)] 3 40 := Inf.mk' (z := (.agg #[(.slice none 0 0), (.int .i64 0), (.int .i64 0)])) (by kernel_rfl) rfl
instance : AggT Tryz.prog 39 := ⟨_, Tryz.underlying39, rfl⟩
instance : Str Tryz.prog 39 [(0, 1), (1, 1), (2, 1), (3, 1), (4, 1), (5, 1), (6, 1), (7, 1), (8, 4), (12, 3)] := ⟨_, Tryz.underlying39, fun w => by kernel_rfl⟩
instance i39 : Inf Tryz.prog 39 [(.int .i64 0), (.int .i64 0), (.string ⟨#[]⟩), (.string ⟨#[]⟩), (.int .i64 0), (.int .i64 0), (.int .i64 0), (.slice none 0 0), (.int .i64 0), (.int .i64 0), (.int .i64 0), (.int .i64 0), (.slice none 0 0), (.int .i64 0), (.int .i64 0)] 15 168 := Inf.mk' (z := (.agg #[(.int .i64 0), (.int .i64 0), (.string ⟨#[]⟩), (.string ⟨#[]⟩), (.int .i64 0), (.int .i64 0), (.int .i64 0), (.slice none 0 0), (.int .i64 0), (.int .i64 0), (.int .i64 0), (.int .i64 0), (.slice none 0 0), (.int .i64 0), (.int .i64 0)])) (by kernel_rfl) rfl
instance : AggT Tryz.prog 40 := ⟨_, Tryz.underlying40, rfl⟩
instance : Str Tryz.prog 40 [(0, 1), (1, 1), (2, 1), (3, 1), (4, 1), (5, 1), (6, 1), (7, 1), (8, 4), (12, 3)] := ⟨_, Tryz.underlying40, fun w => by kernel_rfl⟩
instance i40 : Inf Tryz.prog 40 [(.int .i64 0), (.int .i64 0), (.string ⟨#[]⟩), (.string ⟨#[]⟩), (.int .i64 0), (.int .i64 0), (.int .i64 0), (.slice none 0 0), (.int .i64 0), (.int .i64 0), (.int .i64 0), (.int .i64 0), (.slice none 0 0), (.int .i64 0), (.int .i64 0)] 15 168 := Inf.mk' (z := (.agg #[(.int .i64 0), (.int .i64 0), (.string ⟨#[]⟩), (.string ⟨#[]⟩), (.int .i64 0), (.int .i64 0), (.int .i64 0), (.slice none 0 0), (.int .i64 0), (.int .i64 0), (.int .i64 0), (.int .i64 0), (.slice none 0 0), (.int .i64 0), (.int .i64 0)])) (by kernel_rfl) rfl
instance i41 : Inf Tryz.prog 41 [(.tuple #[(.slice none 0 0), (.int .i64 0)])] 1 0 := Inf.mk' (z := (.tuple #[(.slice none 0 0), (.int .i64 0)])) (by kernel_rfl) rfl
instance u42 : Und Tryz.prog 42 (TypeDesc.func #[9, 9] #[28, 27] false) := ⟨Tryz.underlying42⟩
instance : ScaT Tryz.prog 42 := ⟨_, Tryz.underlying42, rfl⟩
instance i42 : Inf Tryz.prog 42 [.nilFunc] 1 8 := Inf.mk' (z := .nilFunc) (by kernel_rfl) rfl
instance : AggT Tryz.prog 43 := ⟨_, Tryz.underlying43, rfl⟩
instance : Str Tryz.prog 43 [(0, 15), (15, 1)] := ⟨_, Tryz.underlying43, fun w => by kernel_rfl⟩
instance i43 : Inf Tryz.prog 43 [(.int .i64 0), (.int .i64 0), (.string ⟨#[]⟩), (.string ⟨#[]⟩), (.int .i64 0), (.int .i64 0), (.int .i64 0), (.slice none 0 0), (.int .i64 0), (.int .i64 0), (.int .i64 0), (.int .i64 0), (.slice none 0 0), (.int .i64 0), (.int .i64 0), (.bool false)] 16 176 := Inf.mk' (z := (.agg #[(.int .i64 0), (.int .i64 0), (.string ⟨#[]⟩), (.string ⟨#[]⟩), (.int .i64 0), (.int .i64 0), (.int .i64 0), (.slice none 0 0), (.int .i64 0), (.int .i64 0), (.int .i64 0), (.int .i64 0), (.slice none 0 0), (.int .i64 0), (.int .i64 0), (.bool false)])) (by kernel_rfl) rfl
instance : AggT Tryz.prog 44 := ⟨_, Tryz.underlying44, rfl⟩
instance : Str Tryz.prog 44 [(0, 15), (15, 1)] := ⟨_, Tryz.underlying44, fun w => by kernel_rfl⟩
instance i44 : Inf Tryz.prog 44 [(.int .i64 0), (.int .i64 0), (.string ⟨#[]⟩), (.string ⟨#[]⟩), (.int .i64 0), (.int .i64 0), (.int .i64 0), (.slice none 0 0), (.int .i64 0), (.int .i64 0), (.int .i64 0), (.int .i64 0), (.slice none 0 0), (.int .i64 0), (.int .i64 0), (.bool false)] 16 176 := Inf.mk' (z := (.agg #[(.int .i64 0), (.int .i64 0), (.string ⟨#[]⟩), (.string ⟨#[]⟩), (.int .i64 0), (.int .i64 0), (.int .i64 0), (.slice none 0 0), (.int .i64 0), (.int .i64 0), (.int .i64 0), (.int .i64 0), (.slice none 0 0), (.int .i64 0), (.int .i64 0), (.bool false)])) (by kernel_rfl) rfl
instance u45 : Und Tryz.prog 45 (TypeDesc.func #[] #[4] false) := ⟨Tryz.underlying45⟩
instance : ScaT Tryz.prog 45 := ⟨_, Tryz.underlying45, rfl⟩
instance i45 : Inf Tryz.prog 45 [.nilFunc] 1 8 := Inf.mk' (z := .nilFunc) (by kernel_rfl) rfl
instance u46 : Und Tryz.prog 46 (TypeDesc.slice 3) := ⟨Tryz.underlying46⟩
instance : ScaT Tryz.prog 46 := ⟨_, Tryz.underlying46, rfl⟩
instance i46 : Inf Tryz.prog 46 [(.slice none 0 0)] 1 24 := Inf.mk' (z := (.slice none 0 0)) (by kernel_rfl) rfl
instance u47 : Und Tryz.prog 47 (TypeDesc.func #[] #[46] false) := ⟨Tryz.underlying47⟩
instance : ScaT Tryz.prog 47 := ⟨_, Tryz.underlying47, rfl⟩
instance i47 : Inf Tryz.prog 47 [.nilFunc] 1 8 := Inf.mk' (z := .nilFunc) (by kernel_rfl) rfl
instance u48 : Und Tryz.prog 48 (TypeDesc.func #[3, 22, 9, 9, 22] #[4] false) := ⟨Tryz.underlying48⟩
instance : ScaT Tryz.prog 48 := ⟨_, Tryz.underlying48, rfl⟩
instance i48 : Inf Tryz.prog 48 [.nilFunc] 1 8 := Inf.mk' (z := .nilFunc) (by kernel_rfl) rfl
instance u49 : Und Tryz.prog 49 (TypeDesc.func #[] #[23] false) := ⟨Tryz.underlying49⟩
instance : ScaT Tryz.prog 49 := ⟨_, Tryz.underlying49, rfl⟩
instance i49 : Inf Tryz.prog 49 [.nilFunc] 1 8 := Inf.mk' (z := .nilFunc) (by kernel_rfl) rfl
instance u50 : Und Tryz.prog 50 (TypeDesc.func #[23] #[4] false) := ⟨Tryz.underlying50⟩
instance : ScaT Tryz.prog 50 := ⟨_, Tryz.underlying50, rfl⟩
instance i50 : Inf Tryz.prog 50 [.nilFunc] 1 8 := Inf.mk' (z := .nilFunc) (by kernel_rfl) rfl
instance u51 : Und Tryz.prog 51 (TypeDesc.func #[46, 46] #[4] false) := ⟨Tryz.underlying51⟩
instance : ScaT Tryz.prog 51 := ⟨_, Tryz.underlying51, rfl⟩
instance i51 : Inf Tryz.prog 51 [.nilFunc] 1 8 := Inf.mk' (z := .nilFunc) (by kernel_rfl) rfl
instance u52 : Und Tryz.prog 52 (TypeDesc.func #[] #[24] false) := ⟨Tryz.underlying52⟩
instance : ScaT Tryz.prog 52 := ⟨_, Tryz.underlying52, rfl⟩
instance i52 : Inf Tryz.prog 52 [.nilFunc] 1 8 := Inf.mk' (z := .nilFunc) (by kernel_rfl) rfl
instance u53 : Und Tryz.prog 53 (TypeDesc.func #[24] #[4] false) := ⟨Tryz.underlying53⟩
instance : ScaT Tryz.prog 53 := ⟨_, Tryz.underlying53, rfl⟩
instance i53 : Inf Tryz.prog 53 [.nilFunc] 1 8 := Inf.mk' (z := .nilFunc) (by kernel_rfl) rfl
instance u54 : Und Tryz.prog 54 (TypeDesc.func #[3, 22, 44] #[4] false) := ⟨Tryz.underlying54⟩
instance : ScaT Tryz.prog 54 := ⟨_, Tryz.underlying54, rfl⟩
instance i54 : Inf Tryz.prog 54 [.nilFunc] 1 8 := Inf.mk' (z := .nilFunc) (by kernel_rfl) rfl
instance u55 : Und Tryz.prog 55 (TypeDesc.func #[31, 31] #[4] false) := ⟨Tryz.underlying55⟩
instance : ScaT Tryz.prog 55 := ⟨_, Tryz.underlying55, rfl⟩
instance i55 : Inf Tryz.prog 55 [.nilFunc] 1 8 := Inf.mk' (z := .nilFunc) (by kernel_rfl) rfl
instance u56 : Und Tryz.prog 56 (TypeDesc.func #[9, 3] #[28, 27] false) := ⟨Tryz.underlying56⟩
instance : ScaT Tryz.prog 56 := ⟨_, Tryz.underlying56, rfl⟩
instance i56 : Inf Tryz.prog 56 [.nilFunc] 1 8 := Inf.mk' (z := .nilFunc) (by kernel_rfl) rfl
instance u57 : Und Tryz.prog 57 (TypeDesc.func #[29, 29] #[4] false) := ⟨Tryz.underlying57⟩
instance : ScaT Tryz.prog 57 := ⟨_, Tryz.underlying57, rfl⟩
instance i57 : Inf Tryz.prog 57 [.nilFunc] 1 8 := Inf.mk' (z := .nilFunc) (by kernel_rfl) rfl
instance u58 : Und Tryz.prog 58 (TypeDesc.func #[] #[29] false) := ⟨Tryz.underlying58⟩
instance : ScaT Tryz.prog 58 := ⟨_, Tryz.underlying58, rfl⟩
instance i58 : Inf Tryz.prog 58 [.nilFunc] 1 8 := Inf.mk' (z := .nilFunc) (by kernel_rfl) rfl
instance u59 : Und Tryz.prog 59 (TypeDesc.func #[3, 22, 22] #[4] false) := ⟨Tryz.underlying59⟩
instance : ScaT Tryz.prog 59 := ⟨_, Tryz.underlying59, rfl⟩
instance i59 : Inf Tryz.prog 59 [.nilFunc] 1 8 := Inf.mk' (z := .nilFunc) (by kernel_rfl) rfl
instance u60 : Und Tryz.prog 60 (TypeDesc.func #[3] #[23] false) := ⟨Tryz.underlying60⟩
instance : ScaT Tryz.prog 60 := ⟨_, Tryz.underlying60, rfl⟩
instance i60 : Inf Tryz.prog 60 [.nilFunc] 1 8 := Inf.mk' (z := .nilFunc) (by kernel_rfl) rfl
instance u61 : Und Tryz.prog 61 (TypeDesc.func #[3] #[24] false) := ⟨Tryz.underlying61⟩
instance : ScaT Tryz.prog 61 := ⟨_, Tryz.underlying61, rfl⟩
instance i61 : Inf Tryz.prog 61 [.nilFunc] 1 8 := Inf.mk' (z := .nilFunc) (by kernel_rfl) rfl
instance u62 : Und Tryz.prog 62 (TypeDesc.func #[24] #[46] false) := ⟨Tryz.underlying62⟩
instance : ScaT Tryz.prog 62 := ⟨_, Tryz.underlying62, rfl⟩
instance i62 : Inf Tryz.prog 62 [.nilFunc] 1 8 := Inf.mk' (z := .nilFunc) (by kernel_rfl) rfl
instance u63 : Und Tryz.prog 63 (TypeDesc.func #[27] #[31] false) := ⟨Tryz.underlying63⟩
instance : ScaT Tryz.prog 63 := ⟨_, Tryz.underlying63, rfl⟩
instance i63 : Inf Tryz.prog 63 [.nilFunc] 1 8 := Inf.mk' (z := .nilFunc) (by kernel_rfl) rfl
instance u64 : Und Tryz.prog 64 (TypeDesc.func #[40] #[31] false) := ⟨Tryz.underlying64⟩
instance : ScaT Tryz.prog 64 := ⟨_, Tryz.underlying64, rfl⟩
instance i64 : Inf Tryz.prog 64 [.nilFunc] 1 8 := Inf.mk' (z := .nilFunc) (by kernel_rfl) rfl
instance u65 : Und Tryz.prog 65 (TypeDesc.map 9 77) := ⟨Tryz.underlying65⟩
instance : ScaT Tryz.prog 65 := ⟨_, Tryz.underlying65, rfl⟩
instance i65 : Inf Tryz.prog 65 [(.map none)] 1 8 := Inf.mk' (z := (.map none)) (by kernel_rfl) rfl
instance u66 : Und Tryz.prog 66 (TypeDesc.map 9 80) := ⟨Tryz.underlying66⟩
instance : ScaT Tryz.prog 66 := ⟨_, Tryz.underlying66, rfl⟩
instance i66 : Inf Tryz.prog 66 [(.map none)] 1 8 := Inf.mk' (z := (.map none)) (by kernel_rfl) rfl
instance u67 : Und Tryz.prog 67 (TypeDesc.map 3 75) := ⟨Tryz.underlying67⟩
instance : ScaT Tryz.prog 67 := ⟨_, Tryz.underlying67, rfl⟩
instance i67 : Inf Tryz.prog 67 [(.map none)] 1 8 := Inf.mk' (z := (.map none)) (by kernel_rfl) rfl
instance : AggT Tryz.prog 68 := ⟨_, Tryz.underlying68, rfl⟩
instance : Str Tryz.prog 68 [(0, 1), (1, 1), (2, 1), (3, 1), (4, 1), (5, 1)] := ⟨_, Tryz.underlying68, fun w => by kernel_rfl⟩
instance i68 : Inf Tryz.prog 68 [(.map none), (.map none), (.map none), (.int .i64 0), (.int .i64 0), (.int .i64 0)] 6 48 := Inf.mk' (z := (.agg #[(.map none), (.map none), (.map none), (.int .i64 0), (.int .i64 0), (.int .i64 0)])) (by kernel_rfl) rfl
instance : AggT Tryz.prog 69 := ⟨_, Tryz.underlying69, rfl⟩
instance : Str Tryz.prog 69 [(0, 1), (1, 1), (2, 1), (3, 1), (4, 1), (5, 1)] := ⟨_, Tryz.underlying69, fun w => by kernel_rfl⟩
instance i69 : Inf Tryz.prog 69 [(.map none), (.map none), (.map none), (.int .i64 0), (.int .i64 0), (.int .i64 0)] 6 48 := Inf.mk' (z := (.agg #[(.map none), (.map none), (.map none), (.int .i64 0), (.int .i64 0), (.int .i64 0)])) (by kernel_rfl) rfl
instance u70 : Und Tryz.prog 70 (TypeDesc.func #[72] #[46] false) := ⟨Tryz.underlying70⟩
instance : ScaT Tryz.prog 70 := ⟨_, Tryz.underlying70, rfl⟩
instance i70 : Inf Tryz.prog 70 [.nilFunc] 1 8 := Inf.mk' (z := .nilFunc) (by kernel_rfl) rfl
instance u71 : Und Tryz.prog 71 (TypeDesc.func #[118] #[] false) := ⟨Tryz.underlying71⟩
instance : ScaT Tryz.prog 71 := ⟨_, Tryz.underlying71, rfl⟩
instance i71 : Inf Tryz.prog 71 [.nilFunc] 1 8 := Inf.mk' (z := .nilFunc) (by kernel_rfl) rfl
instance u72 : Und Tryz.prog 72 (TypeDesc.func #[118] #[] false) := ⟨Tryz.underlying72⟩
instance : ScaT Tryz.prog 72 := ⟨_, Tryz.underlying72, rfl⟩
instance i72 : Inf Tryz.prog 72 [.nilFunc] 1 8 := Inf.mk' (z := .nilFunc) (by kernel_rfl) rfl
instance u73 : Und Tryz.prog 73 (TypeDesc.func #[67] #[72] false) := ⟨Tryz.underlying73⟩
instance : ScaT Tryz.prog 73 := ⟨_, Tryz.underlying73, rfl⟩
instance i73 : Inf Tryz.prog 73 [.nilFunc] 1 8 := Inf.mk' (z := .nilFunc) (by kernel_rfl) rfl
instance : AggT Tryz.prog 74 := ⟨_, Tryz.underlying74, rfl⟩
instance : Str Tryz.prog 74 [(0, 1), (1, 1)] := ⟨_, Tryz.underlying74, fun w => by kernel_rfl⟩
instance i74 : Inf Tryz.prog 74 [(.string ⟨#[]⟩), (.string ⟨#[]⟩)] 2 32 := Inf.mk' (z := (.agg #[(.string ⟨#[]⟩), (.string ⟨#[]⟩)])) (by kernel_rfl) rfl
instance : AggT Tryz.prog 75 := ⟨_, Tryz.underlying75, rfl⟩
instance : Str Tryz.prog 75 [(0, 1), (1, 1)] := ⟨_, Tryz.underlying75, fun w => by kernel_rfl⟩
instance i75 : Inf Tryz.prog 75 [(.string ⟨#[]⟩), (.string ⟨#[]⟩)] 2 32 := Inf.mk' (z := (.agg #[(.string ⟨#[]⟩), (.string ⟨#[]⟩)])) (by kernel_rfl) rfl
instance u76 : Und Tryz.prog 76 (TypeDesc.func #[65] #[65] false) := ⟨Tryz.underlying76⟩
instance : ScaT Tryz.prog 76 := ⟨_, Tryz.underlying76, rfl⟩
instance i76 : Inf Tryz.prog 76 [.nilFunc] 1 8 := Inf.mk' (z := .nilFunc) (by kernel_rfl) rfl
instance u77 : Und Tryz.prog 77 (TypeDesc.slice 85) := ⟨Tryz.underlying77⟩
instance : ScaT Tryz.prog 77 := ⟨_, Tryz.underlying77, rfl⟩
instance i77 : Inf Tryz.prog 77 [(.slice none 0 0)] 1 24 := Inf.mk' (z := (.slice none 0 0)) (by kernel_rfl) rfl
instance u78 : Und Tryz.prog 78 (TypeDesc.func #[66] #[66] false) := ⟨Tryz.underlying78⟩
instance : ScaT Tryz.prog 78 := ⟨_, Tryz.underlying78, rfl⟩
instance i78 : Inf Tryz.prog 78 [.nilFunc] 1 8 := Inf.mk' (z := .nilFunc) (by kernel_rfl) rfl
instance u79 : Und Tryz.prog 79 (TypeDesc.map 9 3) := ⟨Tryz.underlying79⟩
instance : ScaT Tryz.prog 79 := ⟨_, Tryz.underlying79, rfl⟩
instance i79 : Inf Tryz.prog 79 [(.map none)] 1 8 := Inf.mk' (z := (.map none)) (by kernel_rfl) rfl
instance u80 : Und Tryz.prog 80 (TypeDesc.map 9 3) := ⟨Tryz.underlying80⟩
instance : ScaT Tryz.prog 80 := ⟨_, Tryz.underlying80, rfl⟩
instance i80 : Inf Tryz.prog 80 [(.map none)] 1 8 := Inf.mk' (z := (.map none)) (by kernel_rfl) rfl
instance u81 : Und Tryz.prog 81 (TypeDesc.func #[67] #[67] false) := ⟨Tryz.underlying81⟩
instance : ScaT Tryz.prog 81 := ⟨_, Tryz.underlying81, rfl⟩
instance i81 : Inf Tryz.prog 81 [.nilFunc] 1 8 := Inf.mk' (z := .nilFunc) (by kernel_rfl) rfl
instance u82 : Und Tryz.prog 82 (TypeDesc.func #[65, 65, 83] #[4] false) := ⟨Tryz.underlying82⟩
instance : ScaT Tryz.prog 82 := ⟨_, Tryz.underlying82, rfl⟩
instance i82 : Inf Tryz.prog 82 [.nilFunc] 1 8 := Inf.mk' (z := .nilFunc) (by kernel_rfl) rfl
instance u83 : Und Tryz.prog 83 (TypeDesc.func #[77, 77] #[4] false) := ⟨Tryz.underlying83⟩
instance : ScaT Tryz.prog 83 := ⟨_, Tryz.underlying83, rfl⟩
instance i83 : Inf Tryz.prog 83 [.nilFunc] 1 8 := Inf.mk' (z := .nilFunc) (by kernel_rfl) rfl
instance : AggT Tryz.prog 84 := ⟨_, Tryz.underlying84, rfl⟩
instance : Str Tryz.prog 84 [(0, 1), (1, 1), (2, 1), (3, 1)] := ⟨_, Tryz.underlying84, fun w => by kernel_rfl⟩
instance i84 : Inf Tryz.prog 84 [(.int .i64 0), (.int .i64 0), (.string ⟨#[]⟩), (.bool false)] 4 40 := Inf.mk' (z := (.agg #[(.int .i64 0), (.int .i64 0), (.string ⟨#[]⟩), (.bool false)])) (by kernel_rfl) rfl
instance : AggT Tryz.prog 85 := ⟨_, Tryz.underlying85, rfl⟩
instance : Str Tryz.prog 85 [(0, 1), (1, 1), (2, 1), (3, 1)] := ⟨_, Tryz.underlying85, fun w => by kernel_rfl⟩
instance i85 : Inf Tryz.prog 85 [(.int .i64 0), (.int .i64 0), (.string ⟨#[]⟩), (.bool false)] 4 40 := Inf.mk' (z := (.agg #[(.int .i64 0), (.int .i64 0), (.string ⟨#[]⟩), (.bool false)])) (by kernel_rfl) rfl
instance u86 : Und Tryz.prog 86 (TypeDesc.func #[66, 66, 87] #[4] false) := ⟨Tryz.underlying86⟩
instance : ScaT Tryz.prog 86 := ⟨_, Tryz.underlying86, rfl⟩
instance i86 : Inf Tryz.prog 86 [.nilFunc] 1 8 := Inf.mk' (z := .nilFunc) (by kernel_rfl) rfl
instance u87 : Und Tryz.prog 87 (TypeDesc.func #[80, 80] #[4] false) := ⟨Tryz.underlying87⟩
instance : ScaT Tryz.prog 87 := ⟨_, Tryz.underlying87, rfl⟩
instance i87 : Inf Tryz.prog 87 [.nilFunc] 1 8 := Inf.mk' (z := .nilFunc) (by kernel_rfl) rfl
instance u88 : Und Tryz.prog 88 (TypeDesc.slice 101) := ⟨Tryz.underlying88⟩
instance : ScaT Tryz.prog 88 := ⟨_, Tryz.underlying88, rfl⟩
instance i88 : Inf Tryz.prog 88 [(.slice none 0 0)] 1 24 := Inf.mk' (z := (.slice none 0 0)) (by kernel_rfl) rfl
instance u89 : Und Tryz.prog 89 (TypeDesc.slice 103) := ⟨Tryz.underlying89⟩
instance : ScaT Tryz.prog 89 := ⟨_, Tryz.underlying89, rfl⟩
instance i89 : Inf Tryz.prog 89 [(.slice none 0 0)] 1 24 := Inf.mk' (z := (.slice none 0 0)) (by kernel_rfl) rfl
instance u90 : Und Tryz.prog 90 (TypeDesc.slice 95) := ⟨Tryz.underlying90⟩
instance : ScaT Tryz.prog 90 := ⟨_, Tryz.underlying90, rfl⟩
instance i90 : Inf Tryz.prog 90 [(.slice none 0 0)] 1 24 := Inf.mk' (z := (.slice none 0 0)) (by kernel_rfl) rfl
instance : AggT Tryz.prog 91 := ⟨_, Tryz.underlying91, rfl⟩
instance : Str Tryz.prog 91 [(0, 1), (1, 1), (2, 1), (3, 1), (4, 1), (5, 1)] := ⟨_, Tryz.underlying91, fun w => by kernel_rfl⟩
instance i91 : Inf Tryz.prog 91 [(.slice none 0 0), (.slice none 0 0), (.slice none 0 0), (.int .i64 0), (.int .i64 0), (.int .i64 0)] 6 96 := Inf.mk' (z := (.agg #[(.slice none 0 0), (.slice none 0 0), (.slice none 0 0), (.int .i64 0), (.int .i64 0), (.int .i64 0)])) (by kernel_rfl) rfl
instance : AggT Tryz.prog 92 := ⟨_, Tryz.underlying92, rfl⟩
instance : Str Tryz.prog 92 [(0, 1), (1, 1), (2, 1), (3, 1), (4, 1), (5, 1)] := ⟨_, Tryz.underlying92, fun w => by kernel_rfl⟩
instance i92 : Inf Tryz.prog 92 [(.slice none 0 0), (.slice none 0 0), (.slice none 0 0), (.int .i64 0), (.int .i64 0), (.int .i64 0)] 6 96 := Inf.mk' (z := (.agg #[(.slice none 0 0), (.slice none 0 0), (.slice none 0 0), (.int .i64 0), (.int .i64 0), (.int .i64 0)])) (by kernel_rfl) rfl
instance u93 : Und Tryz.prog 93 (TypeDesc.func #[9] #[4] false) := ⟨Tryz.underlying93⟩
instance : ScaT Tryz.prog 93 := ⟨_, Tryz.underlying93, rfl⟩
instance i93 : Inf Tryz.prog 93 [.nilFunc] 1 8 := Inf.mk' (z := .nilFunc) (by kernel_rfl) rfl
instance : AggT Tryz.prog 94 := ⟨_, Tryz.underlying94, rfl⟩
instance : Str Tryz.prog 94 [(0, 1), (1, 1), (2, 1)] := ⟨_, Tryz.underlying94, fun w => by kernel_rfl⟩
instance i94 : Inf Tryz.prog 94 [(.int .i64 0), (.string ⟨#[]⟩), (.string ⟨#[]⟩)] 3 40 := Inf.mk' (z := (.agg #[(.int .i64 0), (.string ⟨#[]⟩), (.string ⟨#[]⟩)])) (by kernel_rfl) rfl
instance : AggT Tryz.prog 95 := ⟨_, Tryz.underlying95, rfl⟩
instance : Str Tryz.prog 95 [(0, 1), (1, 1), (2, 1)] := ⟨_, Tryz.underlying95, fun w => by kernel_rfl⟩
instance i95 : Inf Tryz.prog 95 [(.int .i64 0), (.string ⟨#[]⟩), (.string ⟨#[]⟩)] 3 40 := Inf.mk' (z := (.agg #[(.int .i64 0), (.string ⟨#[]⟩), (.string ⟨#[]⟩)])) (by kernel_rfl) rfl
instance u96 : Und Tryz.prog 96 (TypeDesc.func #[3] #[3] false) := ⟨Tryz.underlying96⟩
instance : ScaT Tryz.prog 96 := ⟨_, Tryz.underlying96, rfl⟩
instance i96 : Inf Tryz.prog 96 [.nilFunc] 1 8 := Inf.mk' (z := .nilFunc) (by kernel_rfl) rfl
instance u97 : Und Tryz.prog 97 (TypeDesc.func #[3] #[] false) := ⟨Tryz.underlying97⟩
instance : ScaT Tryz.prog 97 := ⟨_, Tryz.underlying97, rfl⟩
instance i97 : Inf Tryz.prog 97 [.nilFunc] 1 8 := Inf.mk' (z := .nilFunc) (by kernel_rfl) rfl
instance u98 : Und Tryz.prog 98 (TypeDesc.func #[9, 3] #[3] false) := ⟨Tryz.underlying98⟩
instance : ScaT Tryz.prog 98 := ⟨_, Tryz.underlying98, rfl⟩
instance i98 : Inf Tryz.prog 98 [.nilFunc] 1 8 := Inf.mk' (z := .nilFunc) (by kernel_rfl) rfl
instance u99 : Und Tryz.prog 99 (TypeDesc.func #[35] #[31] false) := ⟨Tryz.underlying99⟩
instance : ScaT Tryz.prog 99 := ⟨_, Tryz.underlying99, rfl⟩
instance i99 : Inf Tryz.prog 99 [.nilFunc] 1 8 := Inf.mk' (z := .nilFunc) (by kernel_rfl) rfl
instance : AggT Tryz.prog 100 := ⟨_, Tryz.underlying100, rfl⟩
instance : Str Tryz.prog 100 [(0, 1), (1, 1), (2, 1), (3, 1), (4, 1)] := ⟨_, Tryz.underlying100, fun w => by kernel_rfl⟩
instance i100 : Inf Tryz.prog 100 [(.string ⟨#[]⟩), (.int .i64 0), (.int .i64 0), (.string ⟨#[]⟩), (.bool false)] 5 56 := Inf.mk' (z := (.agg #[(.string ⟨#[]⟩), (.int .i64 0), (.int .i64 0), (.string ⟨#[]⟩), (.bool false)])) (by kernel_rfl) rfl
instance : AggT Tryz.prog 101 := ⟨_, Tryz.underlying101, rfl⟩
instance : Str Tryz.prog 101 [(0, 1), (1, 1), (2, 1), (3, 1), (4, 1)] := ⟨_, Tryz.underlying101, fun w => by kernel_rfl⟩
instance i101 : Inf Tryz.prog 101 [(.string ⟨#[]⟩), (.int .i64 0), (.int .i64 0), (.string ⟨#[]⟩), (.bool false)] 5 56 := Inf.mk' (z := (.agg #[(.string ⟨#[]⟩), (.int .i64 0), (.int .i64 0), (.string ⟨#[]⟩), (.bool false)])) (by kernel_rfl) rfl
instance : AggT Tryz.prog 102 := ⟨_, Tryz.underlying102, rfl⟩
instance : Str Tryz.prog 102 [(0, 1), (1, 1)] := ⟨_, Tryz.underlying102, fun w => by kernel_rfl⟩
instance i102 : Inf Tryz.prog 102 [(.string ⟨#[]⟩), (.slice none 0 0)] 2 40 := Inf.mk' (z := (.agg #[(.string ⟨#[]⟩), (.slice none 0 0)])) (by kernel_rfl) rfl
instance : AggT Tryz.prog 103 := ⟨_, Tryz.underlying103, rfl⟩
instance : Str Tryz.prog 103 [(0, 1), (1, 1)] := ⟨_, Tryz.underlying103, fun w => by kernel_rfl⟩
instance i103 : Inf Tryz.prog 103 [(.string ⟨#[]⟩), (.slice none 0 0)] 2 40 := Inf.mk' (z := (.agg #[(.string ⟨#[]⟩), (.slice none 0 0)])) (by kernel_rfl) rfl
instance : AggT Tryz.prog 104 := ⟨_, Tryz.underlying104, rfl⟩
instance : Str Tryz.prog 104 [(0, 1), (1, 1)] := ⟨_, Tryz.underlying104, fun w => by kernel_rfl⟩
instance i104 : Inf Tryz.prog 104 [(.string ⟨#[]⟩), (.int .i64 0)] 2 24 := Inf.mk' (z := (.agg #[(.string ⟨#[]⟩), (.int .i64 0)])) (by kernel_rfl) rfl
instance : AggT Tryz.prog 105 := ⟨_, Tryz.underlying105, rfl⟩
instance : Str Tryz.prog 105 [(0, 1), (1, 1)] := ⟨_, Tryz.underlying105, fun w => by kernel_rfl⟩
instance i105 : Inf Tryz.prog 105 [(.string ⟨#[]⟩), (.int .i64 0)] 2 24 := Inf.mk' (z := (.agg #[(.string ⟨#[]⟩), (.int .i64 0)])) (by kernel_rfl) rfl
instance u106 : Und Tryz.prog 106 (TypeDesc.slice 9) := ⟨Tryz.underlying106⟩
instance : ScaT Tryz.prog 106 := ⟨_, Tryz.underlying106, rfl⟩
instance i106 : Inf Tryz.prog 106 [(.slice none 0 0)] 1 24 := Inf.mk' (z := (.slice none 0 0)) (by kernel_rfl) rfl
instance u107 : Und Tryz.prog 107 (TypeDesc.func #[109] #[106] false) := ⟨Tryz.underlying107⟩
instance : ScaT Tryz.prog 107 := ⟨_, Tryz.underlying107, rfl⟩
instance i107 : Inf Tryz.prog 107 [.nilFunc] 1 8 := Inf.mk' (z := .nilFunc) (by kernel_rfl) rfl
instance u108 : Und Tryz.prog 108 (TypeDesc.func #[93] #[] false) := ⟨Tryz.underlying108⟩
instance : ScaT Tryz.prog 108 := ⟨_, Tryz.underlying108, rfl⟩
instance i108 : Inf Tryz.prog 108 [.nilFunc] 1 8 := Inf.mk' (z := .nilFunc) (by kernel_rfl) rfl
instance u109 : Und Tryz.prog 109 (TypeDesc.func #[93] #[] false) := ⟨Tryz.underlying109⟩
instance : ScaT Tryz.prog 109 := ⟨_, Tryz.underlying109, rfl⟩
instance i109 : Inf Tryz.prog 109 [.nilFunc] 1 8 := Inf.mk' (z := .nilFunc) (by kernel_rfl) rfl
instance u110 : Und Tryz.prog 110 (TypeDesc.func #[65] #[109] false) := ⟨Tryz.underlying110⟩
instance : ScaT Tryz.prog 110 := ⟨_, Tryz.underlying110, rfl⟩
instance i110 : Inf Tryz.prog 110 [.nilFunc] 1 8 := Inf.mk' (z := .nilFunc) (by kernel_rfl) rfl
instance i111 : Inf Tryz.prog 111 [(.tuple #[(.agg #[(.string ⟨#[]⟩), (.string ⟨#[]⟩)]), (.bool false)])] 1 0 := Inf.mk' (z := (.tuple #[(.agg #[(.string ⟨#[]⟩), (.string ⟨#[]⟩)]), (.bool false)])) (by kernel_rfl) rfl
instance u112 : Und Tryz.prog 112 (TypeDesc.func #[3, 27] #[31] false) := ⟨Tryz.underlying112⟩
instance : ScaT Tryz.prog 112 := ⟨_, Tryz.underlying112, rfl⟩
instance i112 : Inf Tryz.prog 112 [.nilFunc] 1 8 := Inf.mk' (z := .nilFunc) (by kernel_rfl) rfl
instance u113 : Und Tryz.prog 113 (TypeDesc.func #[] #[3] false) := ⟨Tryz.underlying113⟩
instance : ScaT Tryz.prog 113 := ⟨_, Tryz.underlying113, rfl⟩
instance i113 : Inf Tryz.prog 113 [.nilFunc] 1 8 := Inf.mk' (z := .nilFunc) (by kernel_rfl) rfl
instance i114 : Inf Tryz.prog 114 [(.tuple #[(.slice none 0 0), (.bool false)])] 1 0 := Inf.mk' (z := (.tuple #[(.slice none 0 0), (.bool false)])) (by kernel_rfl) rfl
instance u115 : Und Tryz.prog 115 (TypeDesc.func #[77] #[77] false) := ⟨Tryz.underlying115⟩
instance : ScaT Tryz.prog 115 := ⟨_, Tryz.underlying115, rfl⟩
instance i115 : Inf Tryz.prog 115 [.nilFunc] 1 8 := Inf.mk' (z := .nilFunc) (by kernel_rfl) rfl
instance u116 : Und Tryz.prog 116 (TypeDesc.func #[9, 3] #[] false) := ⟨Tryz.underlying116⟩
instance : ScaT Tryz.prog 116 := ⟨_, Tryz.underlying116, rfl⟩
instance i116 : Inf Tryz.prog 116 [.nilFunc] 1 8 := Inf.mk' (z := .nilFunc) (by kernel_rfl) rfl
instance i117 : Inf Tryz.prog 117 [(.tuple #[(.map none), (.bool false)])] 1 0 := Inf.mk' (z := (.tuple #[(.map none), (.bool false)])) (by kernel_rfl) rfl
instance u118 : Und Tryz.prog 118 (TypeDesc.func #[3] #[4] false) := ⟨Tryz.underlying118⟩
instance : ScaT Tryz.prog 118 := ⟨_, Tryz.underlying118, rfl⟩
instance i118 : Inf Tryz.prog 118 [.nilFunc] 1 8 := Inf.mk' (z := .nilFunc) (by kernel_rfl) rfl
instance u119 : Und Tryz.prog 119 (TypeDesc.func #[77, 120] #[77] false) := ⟨Tryz.underlying119⟩
instance : ScaT Tryz.prog 119 := ⟨_, Tryz.underlying119, rfl⟩
instance i119 : Inf Tryz.prog 119 [.nilFunc] 1 8 := Inf.mk' (z := .nilFunc) (by kernel_rfl) rfl
instance u120 : Und Tryz.prog 120 (TypeDesc.func #[85] #[4] false) := ⟨Tryz.underlying120⟩
instance : ScaT Tryz.prog 120 := ⟨_, Tryz.underlying120, rfl⟩
instance i120 : Inf Tryz.prog 120 [.nilFunc] 1 8 := Inf.mk' (z := .nilFunc) (by kernel_rfl) rfl
instance u121 : Und Tryz.prog 121 (TypeDesc.func #[77, 3, 35] #[4] false) := ⟨Tryz.underlying121⟩
instance : ScaT Tryz.prog 121 := ⟨_, Tryz.underlying121, rfl⟩
instance i121 : Inf Tryz.prog 121 [.nilFunc] 1 8 := Inf.mk' (z := .nilFunc) (by kernel_rfl) rfl
instance u122 : Und Tryz.prog 122 (TypeDesc.func #[46] #[] false) := ⟨Tryz.underlying122⟩
instance : ScaT Tryz.prog 122 := ⟨_, Tryz.underlying122, rfl⟩
instance i122 : Inf Tryz.prog 122 [.nilFunc] 1 8 := Inf.mk' (z := .nilFunc) (by kernel_rfl) rfl
instance u123 : Und Tryz.prog 123 (TypeDesc.func #[20] #[20] false) := ⟨Tryz.underlying123⟩
instance : ScaT Tryz.prog 123 := ⟨_, Tryz.underlying123, rfl⟩
instance i123 : Inf Tryz.prog 123 [.nilFunc] 1 8 := Inf.mk' (z := .nilFunc) (by kernel_rfl) rfl
instance i124 : Inf Tryz.prog 124 [(.tuple #[(.int .i64 0), (.bool false)])] 1 0 := Inf.mk' (z := (.tuple #[(.int .i64 0), (.bool false)])) (by kernel_rfl) rfl
instance i125 : Inf Tryz.prog 125 [(.tuple #[(.int .i64 0), (.int .i64 0), (.int .i64 0)])] 1 0 := Inf.mk' (z := (.tuple #[(.int .i64 0), (.int .i64 0), (.int .i64 0)])) (by kernel_rfl) rfl
instance u126 : Und Tryz.prog 126 (TypeDesc.func #[9] #[3, 3, 3] false) := ⟨Tryz.underlying126⟩
instance : ScaT Tryz.prog 126 := ⟨_, Tryz.underlying126, rfl⟩
instance i126 : Inf Tryz.prog 126 [.nilFunc] 1 8 := Inf.mk' (z := .nilFunc) (by kernel_rfl) rfl
instance u127 : Und Tryz.prog 127 (TypeDesc.func #[9] #[3, 4] false) := ⟨Tryz.underlying127⟩
instance : ScaT Tryz.prog 127 := ⟨_, Tryz.underlying127, rfl⟩
instance i127 : Inf Tryz.prog 127 [.nilFunc] 1 8 := Inf.mk' (z := .nilFunc) (by kernel_rfl) rfl
instance u128 : Und Tryz.prog 128 (TypeDesc.func #[101, 35] #[4] false) := ⟨Tryz.underlying128⟩
instance : ScaT Tryz.prog 128 := ⟨_, Tryz.underlying128, rfl⟩
instance i128 : Inf Tryz.prog 128 [.nilFunc] 1 8 := Inf.mk' (z := .nilFunc) (by kernel_rfl) rfl
instance u129 : Und Tryz.prog 129 (TypeDesc.func #[106] #[] false) := ⟨Tryz.underlying129⟩
instance : ScaT Tryz.prog 129 := ⟨_, Tryz.underlying129, rfl⟩
instance i129 : Inf Tryz.prog 129 [.nilFunc] 1 8 := Inf.mk' (z := .nilFunc) (by kernel_rfl) rfl
instance u130 : Und Tryz.prog 130 (TypeDesc.func #[144] #[] false) := ⟨Tryz.underlying130⟩
instance : ScaT Tryz.prog 130 := ⟨_, Tryz.underlying130, rfl⟩
instance i130 : Inf Tryz.prog 130 [.nilFunc] 1 8 := Inf.mk' (z := .nilFunc) (by kernel_rfl) rfl
instance u131 : Und Tryz.prog 131 (TypeDesc.func #[144] #[] false) := ⟨Tryz.underlying131⟩
instance : ScaT Tryz.prog 131 := ⟨_, Tryz.underlying131, rfl⟩
instance i131 : Inf Tryz.prog 131 [.nilFunc] 1 8 := Inf.mk' (z := .nilFunc) (by kernel_rfl) rfl
instance u132 : Und Tryz.prog 132 (TypeDesc.func #[77] #[131] false) := ⟨Tryz.underlying132⟩
instance : ScaT Tryz.prog 132 := ⟨_, Tryz.underlying132, rfl⟩
instance i132 : Inf Tryz.prog 132 [.nilFunc] 1 8 := Inf.mk' (z := .nilFunc) (by kernel_rfl) rfl
instance i133 : Inf Tryz.prog 133 [(.tuple #[(.string ⟨#[]⟩), (.bool false)])] 1 0 := Inf.mk' (z := (.tuple #[(.string ⟨#[]⟩), (.bool false)])) (by kernel_rfl) rfl
instance u134 : Und Tryz.prog 134 (TypeDesc.func #[40] #[9, 4] false) := ⟨Tryz.underlying134⟩
instance : ScaT Tryz.prog 134 := ⟨_, Tryz.underlying134, rfl⟩
instance i134 : Inf Tryz.prog 134 [.nilFunc] 1 8 := Inf.mk' (z := .nilFunc) (by kernel_rfl) rfl
instance u135 : Und Tryz.prog 135 (TypeDesc.func #[77, 120] #[3] false) := ⟨Tryz.underlying135⟩
instance : ScaT Tryz.prog 135 := ⟨_, Tryz.underlying135, rfl⟩
instance i135 : Inf Tryz.prog 135 [.nilFunc] 1 8 := Inf.mk' (z := .nilFunc) (by kernel_rfl) rfl
instance u136 : Und Tryz.prog 136 (TypeDesc.func #[9, 3] #[4] false) := ⟨Tryz.underlying136⟩
instance : ScaT Tryz.prog 136 := ⟨_, Tryz.underlying136, rfl⟩
instance i136 : Inf Tryz.prog 136 [.nilFunc] 1 8 := Inf.mk' (z := .nilFunc) (by kernel_rfl) rfl
instance u137 : Und Tryz.prog 137 (TypeDesc.map 3 4) := ⟨Tryz.underlying137⟩
instance : ScaT Tryz.prog 137 := ⟨_, Tryz.underlying137, rfl⟩
instance i137 : Inf Tryz.prog 137 [(.map none)] 1 8 := Inf.mk' (z := (.map none)) (by kernel_rfl) rfl
instance u138 : Und Tryz.prog 138 (TypeDesc.func #[46, 72] #[46] false) := ⟨Tryz.underlying138⟩
instance : ScaT Tryz.prog 138 := ⟨_, Tryz.underlying138, rfl⟩
instance i138 : Inf Tryz.prog 138 [.nilFunc] 1 8 := Inf.mk' (z := .nilFunc) (by kernel_rfl) rfl
instance u139 : Und Tryz.prog 139 (TypeDesc.func #[46, 3, 3, 3] #[] false) := ⟨Tryz.underlying139⟩
instance : ScaT Tryz.prog 139 := ⟨_, Tryz.underlying139, rfl⟩
instance i139 : Inf Tryz.prog 139 [.nilFunc] 1 8 := Inf.mk' (z := .nilFunc) (by kernel_rfl) rfl
instance u140 : Und Tryz.prog 140 (TypeDesc.func #[141] #[3] false) := ⟨Tryz.underlying140⟩
instance : ScaT Tryz.prog 140 := ⟨_, Tryz.underlying140, rfl⟩
instance i140 : Inf Tryz.prog 140 [.nilFunc] 1 8 := Inf.mk' (z := .nilFunc) (by kernel_rfl) rfl
instance u141 : Und Tryz.prog 141 (TypeDesc.int .u64) := ⟨Tryz.underlying141⟩
instance : ScaT Tryz.prog 141 := ⟨_, Tryz.underlying141, rfl⟩
instance i141 : Inf Tryz.prog 141 [(.int .u64 0)] 1 8 := Inf.mk' (z := (.int .u64 0)) (by kernel_rfl) rfl
instance u142 : Und Tryz.prog 142 (TypeDesc.func #[106, 109] #[106] false) := ⟨Tryz.underlying142⟩
instance : ScaT Tryz.prog 142 := ⟨_, Tryz.underlying142, rfl⟩
instance i142 : Inf Tryz.prog 142 [.nilFunc] 1 8 := Inf.mk' (z := .nilFunc) (by kernel_rfl) rfl
instance u143 : Und Tryz.prog 143 (TypeDesc.func #[106, 3, 3, 3] #[] false) := ⟨Tryz.underlying143⟩
instance : ScaT Tryz.prog 143 := ⟨_, Tryz.underlying143, rfl⟩
instance i143 : Inf Tryz.prog 143 [.nilFunc] 1 8 := Inf.mk' (z := .nilFunc) (by kernel_rfl) rfl
instance u144 : Und Tryz.prog 144 (TypeDesc.func #[3, 85] #[4] false) := ⟨Tryz.underlying144⟩
instance : ScaT Tryz.prog 144 := ⟨_, Tryz.underlying144, rfl⟩
instance i144 : Inf Tryz.prog 144 [.nilFunc] 1 8 := Inf.mk' (z := .nilFunc) (by kernel_rfl) rfl
instance u145 : Und Tryz.prog 145 (TypeDesc.func #[46, 3, 3] #[] false) := ⟨Tryz.underlying145⟩
instance : ScaT Tryz.prog 145 := ⟨_, Tryz.underlying145, rfl⟩
instance i145 : Inf Tryz.prog 145 [.nilFunc] 1 8 := Inf.mk' (z := .nilFunc) (by kernel_rfl) rfl
instance u146 : Und Tryz.prog 146 (TypeDesc.int .i64) := ⟨Tryz.underlying146⟩
instance : ScaT Tryz.prog 146 := ⟨_, Tryz.underlying146, rfl⟩
instance i146 : Inf Tryz.prog 146 [(.int .i64 0)] 1 8 := Inf.mk' (z := (.int .i64 0)) (by kernel_rfl) rfl
instance i147 : Inf Tryz.prog 147 [(.tuple #[(.int .i64 0), (.int .i64 0)])] 1 0 := Inf.mk' (z := (.tuple #[(.int .i64 0), (.int .i64 0)])) (by kernel_rfl) rfl
instance u148 : Und Tryz.prog 148 (TypeDesc.func #[46, 3, 3] #[3, 146] false) := ⟨Tryz.underlying148⟩
instance : ScaT Tryz.prog 148 := ⟨_, Tryz.underlying148, rfl⟩
instance i148 : Inf Tryz.prog 148 [.nilFunc] 1 8 := Inf.mk' (z := .nilFunc) (by kernel_rfl) rfl
instance u149 : Und Tryz.prog 149 (TypeDesc.func #[46, 3, 3] #[4] false) := ⟨Tryz.underlying149⟩
instance : ScaT Tryz.prog 149 := ⟨_, Tryz.underlying149, rfl⟩
instance i149 : Inf Tryz.prog 149 [.nilFunc] 1 8 := Inf.mk' (z := .nilFunc) (by kernel_rfl) rfl
instance u150 : Und Tryz.prog 150 (TypeDesc.func #[3, 3] #[4] false) := ⟨Tryz.underlying150⟩
instance : ScaT Tryz.prog 150 := ⟨_, Tryz.underlying150, rfl⟩
instance i150 : Inf Tryz.prog 150 [.nilFunc] 1 8 := Inf.mk' (z := .nilFunc) (by kernel_rfl) rfl
instance u151 : Und Tryz.prog 151 (TypeDesc.func #[46, 3, 3, 3] #[3] false) := ⟨Tryz.underlying151⟩
instance : ScaT Tryz.prog 151 := ⟨_, Tryz.underlying151, rfl⟩
instance i151 : Inf Tryz.prog 151 [.nilFunc] 1 8 := Inf.mk' (z := .nilFunc) (by kernel_rfl) rfl
instance u152 : Und Tryz.prog 152 (TypeDesc.func #[46, 3, 3, 3] #[3, 4] false) := ⟨Tryz.underlying152⟩
instance : ScaT Tryz.prog 152 := ⟨_, Tryz.underlying152, rfl⟩
instance i152 : Inf Tryz.prog 152 [.nilFunc] 1 8 := Inf.mk' (z := .nilFunc) (by kernel_rfl) rfl
instance u153 : Und Tryz.prog 153 (TypeDesc.func #[154] #[3] false) := ⟨Tryz.underlying153⟩
instance : ScaT Tryz.prog 153 := ⟨_, Tryz.underlying153, rfl⟩
instance i153 : Inf Tryz.prog 153 [.nilFunc] 1 8 := Inf.mk' (z := .nilFunc) (by kernel_rfl) rfl
instance u154 : Und Tryz.prog 154 (TypeDesc.int .u32) := ⟨Tryz.underlying154⟩
instance : ScaT Tryz.prog 154 := ⟨_, Tryz.underlying154, rfl⟩
instance i154 : Inf Tryz.prog 154 [(.int .u32 0)] 1 4 := Inf.mk' (z := (.int .u32 0)) (by kernel_rfl) rfl
instance u155 : Und Tryz.prog 155 (TypeDesc.func #[156] #[3] false) := ⟨Tryz.underlying155⟩
instance : ScaT Tryz.prog 155 := ⟨_, Tryz.underlying155, rfl⟩
instance i155 : Inf Tryz.prog 155 [.nilFunc] 1 8 := Inf.mk' (z := .nilFunc) (by kernel_rfl) rfl
instance u156 : Und Tryz.prog 156 (TypeDesc.int .u64) := ⟨Tryz.underlying156⟩
instance : ScaT Tryz.prog 156 := ⟨_, Tryz.underlying156, rfl⟩
instance i156 : Inf Tryz.prog 156 [(.int .u64 0)] 1 8 := Inf.mk' (z := (.int .u64 0)) (by kernel_rfl) rfl
instance u157 : Und Tryz.prog 157 (TypeDesc.func #[106, 3, 3] #[] false) := ⟨Tryz.underlying157⟩
instance : ScaT Tryz.prog 157 := ⟨_, Tryz.underlying157, rfl⟩
instance i157 : Inf Tryz.prog 157 [.nilFunc] 1 8 := Inf.mk' (z := .nilFunc) (by kernel_rfl) rfl
instance u158 : Und Tryz.prog 158 (TypeDesc.func #[106, 3, 3] #[3, 146] false) := ⟨Tryz.underlying158⟩
instance : ScaT Tryz.prog 158 := ⟨_, Tryz.underlying158, rfl⟩
instance i158 : Inf Tryz.prog 158 [.nilFunc] 1 8 := Inf.mk' (z := .nilFunc) (by kernel_rfl) rfl
instance u159 : Und Tryz.prog 159 (TypeDesc.func #[106, 3, 3] #[4] false) := ⟨Tryz.underlying159⟩
instance : ScaT Tryz.prog 159 := ⟨_, Tryz.underlying159, rfl⟩
instance i159 : Inf Tryz.prog 159 [.nilFunc] 1 8 := Inf.mk' (z := .nilFunc) (by kernel_rfl) rfl
instance u160 : Und Tryz.prog 160 (TypeDesc.func #[9, 9] #[4] false) := ⟨Tryz.underlying160⟩
instance : ScaT Tryz.prog 160 := ⟨_, Tryz.underlying160, rfl⟩
instance i160 : Inf Tryz.prog 160 [.nilFunc] 1 8 := Inf.mk' (z := .nilFunc) (by kernel_rfl) rfl
instance u161 : Und Tryz.prog 161 (TypeDesc.func #[106, 3, 3, 3] #[3] false) := ⟨Tryz.underlying161⟩
instance : ScaT Tryz.prog 161 := ⟨_, Tryz.underlying161, rfl⟩
instance i161 : Inf Tryz.prog 161 [.nilFunc] 1 8 := Inf.mk' (z := .nilFunc) (by kernel_rfl) rfl
instance u162 : Und Tryz.prog 162 (TypeDesc.func #[106, 3, 3, 3] #[3, 4] false) := ⟨Tryz.underlying162⟩
instance : ScaT Tryz.prog 162 := ⟨_, Tryz.underlying162, rfl⟩
instance i162 : Inf Tryz.prog 162 [.nilFunc] 1 8 := Inf.mk' (z := .nilFunc) (by kernel_rfl) rfl
instance u163 : Und Tryz.prog 163 (TypeDesc.int .u64) := ⟨Tryz.underlying163⟩
instance : ScaT Tryz.prog 163 := ⟨_, Tryz.underlying163, rfl⟩
instance i163 : Inf Tryz.prog 163 [(.int .u64 0)] 1 8 := Inf.mk' (z := (.int .u64 0)) (by kernel_rfl) rfl
instance u164 : Und Tryz.prog 164 (TypeDesc.func #[3] #[141] false) := ⟨Tryz.underlying164⟩
instance : ScaT Tryz.prog 164 := ⟨_, Tryz.underlying164, rfl⟩
instance i164 : Inf Tryz.prog 164 [.nilFunc] 1 8 := Inf.mk' (z := .nilFunc) (by kernel_rfl) rfl
instance u165 : Und Tryz.prog 165 (TypeDesc.func #[] #[156] false) := ⟨Tryz.underlying165⟩
instance : ScaT Tryz.prog 165 := ⟨_, Tryz.underlying165, rfl⟩
instance i165 : Inf Tryz.prog 165 [.nilFunc] 1 8 := Inf.mk' (z := .nilFunc) (by kernel_rfl) rfl
instance u166 : Und Tryz.prog 166 (TypeDesc.func #[46, 3, 167] #[3] false) := ⟨Tryz.underlying166⟩
instance : ScaT Tryz.prog 166 := ⟨_, Tryz.underlying166, rfl⟩
instance i166 : Inf Tryz.prog 166 [.nilFunc] 1 8 := Inf.mk' (z := .nilFunc) (by kernel_rfl) rfl
instance u167 : Und Tryz.prog 167 (TypeDesc.pointer 3) := ⟨Tryz.underlying167⟩
instance : ScaT Tryz.prog 167 := ⟨_, Tryz.underlying167, rfl⟩
instance i167 : Inf Tryz.prog 167 [(.pointer none)] 1 8 := Inf.mk' (z := (.pointer none)) (by kernel_rfl) rfl
instance u168 : Und Tryz.prog 168 (TypeDesc.func #[46, 3, 3, 3, 167] #[3] false) := ⟨Tryz.underlying168⟩
instance : ScaT Tryz.prog 168 := ⟨_, Tryz.underlying168, rfl⟩
instance i168 : Inf Tryz.prog 168 [.nilFunc] 1 8 := Inf.mk' (z := .nilFunc) (by kernel_rfl) rfl
instance u169 : Und Tryz.prog 169 (TypeDesc.func #[106, 3, 167] #[3] false) := ⟨Tryz.underlying169⟩
instance : ScaT Tryz.prog 169 := ⟨_, Tryz.underlying169, rfl⟩
instance i169 : Inf Tryz.prog 169 [.nilFunc] 1 8 := Inf.mk' (z := .nilFunc) (by kernel_rfl) rfl
instance u170 : Und Tryz.prog 170 (TypeDesc.func #[106, 3, 3, 3, 167] #[3] false) := ⟨Tryz.underlying170⟩
instance : ScaT Tryz.prog 170 := ⟨_, Tryz.underlying170, rfl⟩
instance i170 : Inf Tryz.prog 170 [.nilFunc] 1 8 := Inf.mk' (z := .nilFunc) (by kernel_rfl) rfl
instance u171 : Und Tryz.prog 171 (TypeDesc.pointer 163) := ⟨Tryz.underlying171⟩
instance : ScaT Tryz.prog 171 := ⟨_, Tryz.underlying171, rfl⟩
instance i171 : Inf Tryz.prog 171 [(.pointer none)] 1 8 := Inf.mk' (z := (.pointer none)) (by kernel_rfl) rfl
instance i172 : Inf Tryz.prog 172 [(.tuple #[(.int .i64 0), (.int .i64 0)])] 1 0 := Inf.mk' (z := (.tuple #[(.int .i64 0), (.int .i64 0)])) (by kernel_rfl) rfl
instance u173 : Und Tryz.prog 173 (TypeDesc.func #[46, 3, 3, 167] #[3, 3] false) := ⟨Tryz.underlying173⟩
instance : ScaT Tryz.prog 173 := ⟨_, Tryz.underlying173, rfl⟩
instance i173 : Inf Tryz.prog 173 [.nilFunc] 1 8 := Inf.mk' (z := .nilFunc) (by kernel_rfl) rfl
instance u174 : Und Tryz.prog 174 (TypeDesc.func #[106, 3, 3, 167] #[3, 3] false) := ⟨Tryz.underlying174⟩
instance : ScaT Tryz.prog 174 := ⟨_, Tryz.underlying174, rfl⟩
instance i174 : Inf Tryz.prog 174 [.nilFunc] 1 8 := Inf.mk' (z := .nilFunc) (by kernel_rfl) rfl
instance u175 : Und Tryz.prog 175 (TypeDesc.func #[] #[9] false) := ⟨Tryz.underlying175⟩
instance : ScaT Tryz.prog 175 := ⟨_, Tryz.underlying175, rfl⟩
instance i175 : Inf Tryz.prog 175 [.nilFunc] 1 8 := Inf.mk' (z := .nilFunc) (by kernel_rfl) rfl
instance : AggT Tryz.prog 176 := ⟨_, Tryz.underlying176, rfl⟩
instance : Str Tryz.prog 176 [(0, 1), (1, 1), (2, 1), (3, 1)] := ⟨_, Tryz.underlying176, fun w => by kernel_rfl⟩
instance i176 : Inf Tryz.prog 176 [(.pointer none), (.pointer none), (.pointer none), (.string ⟨#[]⟩)] 4 40 := Inf.mk' (z := (.agg #[(.pointer none), (.pointer none), (.pointer none), (.string ⟨#[]⟩)])) (by kernel_rfl) rfl
instance : AggT Tryz.prog 177 := ⟨_, Tryz.underlying177, rfl⟩
instance : Str Tryz.prog 177 [(0, 1), (1, 1), (2, 1), (3, 1)] := ⟨_, Tryz.underlying177, fun w => by kernel_rfl⟩
instance i177 : Inf Tryz.prog 177 [(.pointer none), (.pointer none), (.pointer none), (.string ⟨#[]⟩)] 4 40 := Inf.mk' (z := (.agg #[(.pointer none), (.pointer none), (.pointer none), (.string ⟨#[]⟩)])) (by kernel_rfl) rfl
instance u178 : Und Tryz.prog 178 (TypeDesc.array 0 16) := ⟨Tryz.underlying178⟩
instance : AggT Tryz.prog 178 := ⟨_, Tryz.underlying178, rfl⟩
instance : AggT Tryz.prog 179 := ⟨_, Tryz.underlying179, rfl⟩
instance : AggT Tryz.prog 180 := ⟨_, Tryz.underlying180, rfl⟩
instance u181 : Und Tryz.prog 181 (TypeDesc.int .u8) := ⟨Tryz.underlying181⟩
instance : ScaT Tryz.prog 181 := ⟨_, Tryz.underlying181, rfl⟩
instance i181 : Inf Tryz.prog 181 [(.int .u8 0)] 1 1 := Inf.mk' (z := (.int .u8 0)) (by kernel_rfl) rfl
instance u182 : Und Tryz.prog 182 (TypeDesc.int .u8) := ⟨Tryz.underlying182⟩
instance : ScaT Tryz.prog 182 := ⟨_, Tryz.underlying182, rfl⟩
instance i182 : Inf Tryz.prog 182 [(.int .u8 0)] 1 1 := Inf.mk' (z := (.int .u8 0)) (by kernel_rfl) rfl
instance u183 : Und Tryz.prog 183 (TypeDesc.func #[189, 189] #[4] false) := ⟨Tryz.underlying183⟩
instance : ScaT Tryz.prog 183 := ⟨_, Tryz.underlying183, rfl⟩
instance i183 : Inf Tryz.prog 183 [.nilFunc] 1 8 := Inf.mk' (z := .nilFunc) (by kernel_rfl) rfl
instance u184 : Und Tryz.prog 184 (TypeDesc.pointer 5) := ⟨Tryz.underlying184⟩
instance : ScaT Tryz.prog 184 := ⟨_, Tryz.underlying184, rfl⟩
instance i184 : Inf Tryz.prog 184 [(.pointer none)] 1 8 := Inf.mk' (z := (.pointer none)) (by kernel_rfl) rfl
instance u185 : Und Tryz.prog 185 (TypeDesc.int .i32) := ⟨Tryz.underlying185⟩
instance : ScaT Tryz.prog 185 := ⟨_, Tryz.underlying185, rfl⟩
instance i185 : Inf Tryz.prog 185 [(.int .i32 0)] 1 4 := Inf.mk' (z := (.int .i32 0)) (by kernel_rfl) rfl
instance u186 : Und Tryz.prog 186 (TypeDesc.int .i32) := ⟨Tryz.underlying186⟩
instance : ScaT Tryz.prog 186 := ⟨_, Tryz.underlying186, rfl⟩
instance i186 : Inf Tryz.prog 186 [(.int .i32 0)] 1 4 := Inf.mk' (z := (.int .i32 0)) (by kernel_rfl) rfl
instance : AggT Tryz.prog 187 := ⟨_, Tryz.underlying187, rfl⟩
instance : Str Tryz.prog 187 [(0, 1), (1, 1), (2, 1), (3, 1), (4, 1), (5, 1), (6, 1), (7, 1), (8, 1), (9, 1), (10, 1)] := ⟨_, Tryz.underlying187, fun w => by kernel_rfl⟩
instance i187 : Inf Tryz.prog 187 [(.int .u64 0), (.int .u64 0), (.int .u32 0), (.int .u8 0), (.int .u8 0), (.int .u8 0), (.int .u8 0), .nilFunc, (.pointer none), (.int .i32 0), (.int .i32 0)] 11 48 := Inf.mk' (z := (.agg #[(.int .u64 0), (.int .u64 0), (.int .u32 0), (.int .u8 0), (.int .u8 0), (.int .u8 0), (.int .u8 0), .nilFunc, (.pointer none), (.int .i32 0), (.int .i32 0)])) (by kernel_rfl) rfl
instance : AggT Tryz.prog 188 := ⟨_, Tryz.underlying188, rfl⟩
instance : Str Tryz.prog 188 [(0, 1), (1, 1), (2, 1), (3, 1), (4, 1), (5, 1), (6, 1), (7, 1), (8, 1), (9, 1), (10, 1)] := ⟨_, Tryz.underlying188, fun w => by kernel_rfl⟩
instance i188 : Inf Tryz.prog 188 [(.int .u64 0), (.int .u64 0), (.int .u32 0), (.int .u8 0), (.int .u8 0), (.int .u8 0), (.int .u8 0), .nilFunc, (.pointer none), (.int .i32 0), (.int .i32 0)] 11 48 := Inf.mk' (z := (.agg #[(.int .u64 0), (.int .u64 0), (.int .u32 0), (.int .u8 0), (.int .u8 0), (.int .u8 0), (.int .u8 0), .nilFunc, (.pointer none), (.int .i32 0), (.int .i32 0)])) (by kernel_rfl) rfl
instance : ScaT Tryz.prog 189 := ⟨_, Tryz.underlying189, rfl⟩
instance i189 : Inf Tryz.prog 189 [(.pointer none)] 1 8 := Inf.mk' (z := (.pointer none)) (by kernel_rfl) rfl
instance : FA Tryz.prog 7 0 0 := FA.mk' Tryz.underlying7 rfl rfl rfl i2 (by decide)
instance : FA Tryz.prog 7 1 1 := FA.mk' Tryz.underlying7 rfl rfl rfl i3 (by decide)
instance : FA Tryz.prog 7 2 2 := FA.mk' Tryz.underlying7 rfl rfl rfl i4 (by decide)
instance : FA Tryz.prog 7 3 3 := FA.mk' Tryz.underlying7 rfl rfl rfl i6 (by decide)
instance : FA Tryz.prog 8 0 0 := FA.mk' Tryz.underlying8 rfl rfl rfl i2 (by decide)
instance : FA Tryz.prog 8 1 1 := FA.mk' Tryz.underlying8 rfl rfl rfl i3 (by decide)
instance : FA Tryz.prog 8 2 2 := FA.mk' Tryz.underlying8 rfl rfl rfl i4 (by decide)
instance : FA Tryz.prog 8 3 3 := FA.mk' Tryz.underlying8 rfl rfl rfl i6 (by decide)
instance : FA Tryz.prog 13 0 0 := FA.mk' Tryz.underlying13 rfl rfl rfl i9 (by decide)
instance : FA Tryz.prog 13 1 1 := FA.mk' Tryz.underlying13 rfl rfl rfl i12 (by decide)
instance : FA Tryz.prog 14 0 0 := FA.mk' Tryz.underlying14 rfl rfl rfl i9 (by decide)
instance : FA Tryz.prog 14 1 1 := FA.mk' Tryz.underlying14 rfl rfl rfl i12 (by decide)
instance : FA Tryz.prog 18 0 0 := FA.mk' Tryz.underlying18 rfl rfl rfl i17 (by decide)
instance : FA Tryz.prog 19 0 0 := FA.mk' Tryz.underlying19 rfl rfl rfl i17 (by decide)
instance : FA Tryz.prog 30 0 0 := FA.mk' Tryz.underlying30 rfl rfl rfl i27 (by decide)
instance : FA Tryz.prog 30 1 1 := FA.mk' Tryz.underlying30 rfl rfl rfl i3 (by decide)
instance : FA Tryz.prog 30 2 2 := FA.mk' Tryz.underlying30 rfl rfl rfl i28 (by decide)
instance : FA Tryz.prog 30 3 3 := FA.mk' Tryz.underlying30 rfl rfl rfl i29 (by decide)
instance : FA Tryz.prog 31 0 0 := FA.mk' Tryz.underlying31 rfl rfl rfl i27 (by decide)
instance : FA Tryz.prog 31 1 1 := FA.mk' Tryz.underlying31 rfl rfl rfl i3 (by decide)
instance : FA Tryz.prog 31 2 2 := FA.mk' Tryz.underlying31 rfl rfl rfl i28 (by decide)
instance : FA Tryz.prog 31 3 3 := FA.mk' Tryz.underlying31 rfl rfl rfl i29 (by decide)
instance : FA Tryz.prog 34 0 0 := FA.mk' Tryz.underlying34 rfl rfl rfl i3 (by decide)
instance : FA Tryz.prog 34 1 1 := FA.mk' Tryz.underlying34 rfl rfl rfl i3 (by decide)
instance : FA Tryz.prog 34 2 2 := FA.mk' Tryz.underlying34 rfl rfl rfl i3 (by decide)
instance : FA Tryz.prog 34 3 3 := FA.mk' Tryz.underlying34 rfl rfl rfl i3 (by decide)
instance : FA Tryz.prog 35 0 0 := FA.mk' Tryz.underlying35 rfl rfl rfl i3 (by decide)
instance : FA Tryz.prog 35 1 1 := FA.mk' Tryz.underlying35 rfl rfl rfl i3 (by decide)
instance : FA Tryz.prog 35 2 2 := FA.mk' Tryz.underlying35 rfl rfl rfl i3 (by decide)
instance : FA Tryz.prog 35 3 3 := FA.mk' Tryz.underlying35 rfl rfl rfl i3 (by decide)
instance : FA Tryz.prog 37 0 0 := FA.mk' Tryz.underlying37 rfl rfl rfl i36 (by decide)
instance : FA Tryz.prog 37 1 1 := FA.mk' Tryz.underlying37 rfl rfl rfl i3 (by decide)
instance : FA Tryz.prog 37 2 2 := FA.mk' Tryz.underlying37 rfl rfl rfl i3 (by decide)
instance : FA Tryz.prog 38 0 0 := FA.mk' Tryz.underlying38 rfl rfl rfl i36 (by decide)
instance : FA Tryz.prog 38 1 1 := FA.mk' Tryz.underlying38 rfl rfl rfl i3 (by decide)
instance : FA Tryz.prog 38 2 2 := FA.mk' Tryz.underlying38 rfl rfl rfl i3 (by decide)
instance : FA Tryz.prog 39 0 0 := FA.mk' Tryz.underlying39 rfl rfl rfl i33 (by decide)
instance : FA Tryz.prog 39 1 1 := FA.mk' Tryz.underlying39 rfl rfl rfl i3 (by decide)
instance : FA Tryz.prog 39 2 2 := FA.mk' Tryz.underlying39 rfl rfl rfl i9 (by decide)
instance : FA Tryz.prog 39 3 3 := FA.mk' Tryz.underlying39 rfl rfl rfl i9 (by decide)
instance : FA Tryz.prog 39 4 4 := FA.mk' Tryz.underlying39 rfl rfl rfl i3 (by decide)
instance : FA Tryz.prog 39 5 5 := FA.mk' Tryz.underlying39 rfl rfl rfl i3 (by decide)
instance : FA Tryz.prog 39 6 6 := FA.mk' Tryz.underlying39 rfl rfl rfl i3 (by decide)
instance : FA Tryz.prog 39 7 7 := FA.mk' Tryz.underlying39 rfl rfl rfl i28 (by decide)
instance : FA Tryz.prog 39 8 8 := FA.mk' Tryz.underlying39 rfl rfl rfl i35 (by decide)
instance : FA Tryz.prog 39 9 12 := FA.mk' Tryz.underlying39 rfl rfl rfl i38 (by decide)
instance : FA Tryz.prog 40 0 0 := FA.mk' Tryz.underlying40 rfl rfl rfl i33 (by decide)
instance : FA Tryz.prog 40 1 1 := FA.mk' Tryz.underlying40 rfl rfl rfl i3 (by decide)
instance : FA Tryz.prog 40 2 2 := FA.mk' Tryz.underlying40 rfl rfl rfl i9 (by decide)
instance : FA Tryz.prog 40 3 3 := FA.mk' Tryz.underlying40 rfl rfl rfl i9 (by decide)
instance : FA Tryz.prog 40 4 4 := FA.mk' Tryz.underlying40 rfl rfl rfl i3 (by decide)
instance : FA Tryz.prog 40 5 5 := FA.mk' Tryz.underlying40 rfl rfl rfl i3 (by decide)
instance : FA Tryz.prog 40 6 6 := FA.mk' Tryz.underlying40 rfl rfl rfl i3 (by decide)
instance : FA Tryz.prog 40 7 7 := FA.mk' Tryz.underlying40 rfl rfl rfl i28 (by decide)
instance : FA Tryz.prog 40 8 8 := FA.mk' Tryz.underlying40 rfl rfl rfl i35 (by decide)
instance : FA Tryz.prog 40 9 12 := FA.mk' Tryz.underlying40 rfl rfl rfl i38 (by decide)
instance : FA Tryz.prog 43 0 0 := FA.mk' Tryz.underlying43 rfl rfl rfl i40 (by decide)
instance : FA Tryz.prog 43 1 15 := FA.mk' Tryz.underlying43 rfl rfl rfl i4 (by decide)
instance : FA Tryz.prog 44 0 0 := FA.mk' Tryz.underlying44 rfl rfl rfl i40 (by decide)
instance : FA Tryz.prog 44 1 15 := FA.mk' Tryz.underlying44 rfl rfl rfl i4 (by decide)
instance : FA Tryz.prog 68 0 0 := FA.mk' Tryz.underlying68 rfl rfl rfl i65 (by decide)
instance : FA Tryz.prog 68 1 1 := FA.mk' Tryz.underlying68 rfl rfl rfl i66 (by decide)
instance : FA Tryz.prog 68 2 2 := FA.mk' Tryz.underlying68 rfl rfl rfl i67 (by decide)
instance : FA Tryz.prog 68 3 3 := FA.mk' Tryz.underlying68 rfl rfl rfl i3 (by decide)
instance : FA Tryz.prog 68 4 4 := FA.mk' Tryz.underlying68 rfl rfl rfl i3 (by decide)
instance : FA Tryz.prog 68 5 5 := FA.mk' Tryz.underlying68 rfl rfl rfl i3 (by decide)
instance : FA Tryz.prog 69 0 0 := FA.mk' Tryz.underlying69 rfl rfl rfl i65 (by decide)
instance : FA Tryz.prog 69 1 1 := FA.mk' Tryz.underlying69 rfl rfl rfl i66 (by decide)
instance : FA Tryz.prog 69 2 2 := FA.mk' Tryz.underlying69 rfl rfl rfl i67 (by decide)
instance : FA Tryz.prog 69 3 3 := FA.mk' Tryz.underlying69 rfl rfl rfl i3 (by decide)
instance : FA Tryz.prog 69 4 4 := FA.mk' Tryz.underlying69 rfl rfl rfl i3 (by decide)
instance : FA Tryz.prog 69 5 5 := FA.mk' Tryz.underlying69 rfl rfl rfl i3 (by decide)
instance : FA Tryz.prog 74 0 0 := FA.mk' Tryz.underlying74 rfl rfl rfl i9 (by decide)
instance : FA Tryz.prog 74 1 1 := FA.mk' Tryz.underlying74 rfl rfl rfl i9 (by decide)
instance : FA Tryz.prog 75 0 0 := FA.mk' Tryz.underlying75 rfl rfl rfl i9 (by decide)
instance : FA Tryz.prog 75 1 1 := FA.mk' Tryz.underlying75 rfl rfl rfl i9 (by decide)
instance : FA Tryz.prog 84 0 0 := FA.mk' Tryz.underlying84 rfl rfl rfl i3 (by decide)
instance : FA Tryz.prog 84 1 1 := FA.mk' Tryz.underlying84 rfl rfl rfl i3 (by decide)
instance : FA Tryz.prog 84 2 2 := FA.mk' Tryz.underlying84 rfl rfl rfl i9 (by decide)
instance : FA Tryz.prog 84 3 3 := FA.mk' Tryz.underlying84 rfl rfl rfl i4 (by decide)
instance : FA Tryz.prog 85 0 0 := FA.mk' Tryz.underlying85 rfl rfl rfl i3 (by decide)
instance : FA Tryz.prog 85 1 1 := FA.mk' Tryz.underlying85 rfl rfl rfl i3 (by decide)
instance : FA Tryz.prog 85 2 2 := FA.mk' Tryz.underlying85 rfl rfl rfl i9 (by decide)
instance : FA Tryz.prog 85 3 3 := FA.mk' Tryz.underlying85 rfl rfl rfl i4 (by decide)
instance : FA Tryz.prog 91 0 0 := FA.mk' Tryz.underlying91 rfl rfl rfl i88 (by decide)
instance : FA Tryz.prog 91 1 1 := FA.mk' Tryz.underlying91 rfl rfl rfl i89 (by decide)
instance : FA Tryz.prog 91 2 2 := FA.mk' Tryz.underlying91 rfl rfl rfl i90 (by decide)
instance : FA Tryz.prog 91 3 3 := FA.mk' Tryz.underlying91 rfl rfl rfl i3 (by decide)
instance : FA Tryz.prog 91 4 4 := FA.mk' Tryz.underlying91 rfl rfl rfl i3 (by decide)
instance : FA Tryz.prog 91 5 5 := FA.mk' Tryz.underlying91 rfl rfl rfl i3 (by decide)
instance : FA Tryz.prog 92 0 0 := FA.mk' Tryz.underlying92 rfl rfl rfl i88 (by decide)
instance : FA Tryz.prog 92 1 1 := FA.mk' Tryz.underlying92 rfl rfl rfl i89 (by decide)
instance : FA Tryz.prog 92 2 2 := FA.mk' Tryz.underlying92 rfl rfl rfl i90 (by decide)
instance : FA Tryz.prog 92 3 3 := FA.mk' Tryz.underlying92 rfl rfl rfl i3 (by decide)
instance : FA Tryz.prog 92 4 4 := FA.mk' Tryz.underlying92 rfl rfl rfl i3 (by decide)
instance : FA Tryz.prog 92 5 5 := FA.mk' Tryz.underlying92 rfl rfl rfl i3 (by decide)
instance : FA Tryz.prog 94 0 0 := FA.mk' Tryz.underlying94 rfl rfl rfl i3 (by decide)
instance : FA Tryz.prog 94 1 1 := FA.mk' Tryz.underlying94 rfl rfl rfl i9 (by decide)
instance : FA Tryz.prog 94 2 2 := FA.mk' Tryz.underlying94 rfl rfl rfl i9 (by decide)
instance : FA Tryz.prog 95 0 0 := FA.mk' Tryz.underlying95 rfl rfl rfl i3 (by decide)
instance : FA Tryz.prog 95 1 1 := FA.mk' Tryz.underlying95 rfl rfl rfl i9 (by decide)
instance : FA Tryz.prog 95 2 2 := FA.mk' Tryz.underlying95 rfl rfl rfl i9 (by decide)
instance : FA Tryz.prog 100 0 0 := FA.mk' Tryz.underlying100 rfl rfl rfl i9 (by decide)
instance : FA Tryz.prog 100 1 1 := FA.mk' Tryz.underlying100 rfl rfl rfl i3 (by decide)
instance : FA Tryz.prog 100 2 2 := FA.mk' Tryz.underlying100 rfl rfl rfl i3 (by decide)
instance : FA Tryz.prog 100 3 3 := FA.mk' Tryz.underlying100 rfl rfl rfl i9 (by decide)
instance : FA Tryz.prog 100 4 4 := FA.mk' Tryz.underlying100 rfl rfl rfl i4 (by decide)
instance : FA Tryz.prog 101 0 0 := FA.mk' Tryz.underlying101 rfl rfl rfl i9 (by decide)
instance : FA Tryz.prog 101 1 1 := FA.mk' Tryz.underlying101 rfl rfl rfl i3 (by decide)
instance : FA Tryz.prog 101 2 2 := FA.mk' Tryz.underlying101 rfl rfl rfl i3 (by decide)
instance : FA Tryz.prog 101 3 3 := FA.mk' Tryz.underlying101 rfl rfl rfl i9 (by decide)
instance : FA Tryz.prog 101 4 4 := FA.mk' Tryz.underlying101 rfl rfl rfl i4 (by decide)
instance : FA Tryz.prog 102 0 0 := FA.mk' Tryz.underlying102 rfl rfl rfl i9 (by decide)
instance : FA Tryz.prog 102 1 1 := FA.mk' Tryz.underlying102 rfl rfl rfl i29 (by decide)
instance : FA Tryz.prog 103 0 0 := FA.mk' Tryz.underlying103 rfl rfl rfl i9 (by decide)
instance : FA Tryz.prog 103 1 1 := FA.mk' Tryz.underlying103 rfl rfl rfl i29 (by decide)
instance : FA Tryz.prog 104 0 0 := FA.mk' Tryz.underlying104 rfl rfl rfl i9 (by decide)
instance : FA Tryz.prog 104 1 1 := FA.mk' Tryz.underlying104 rfl rfl rfl i3 (by decide)
instance : FA Tryz.prog 105 0 0 := FA.mk' Tryz.underlying105 rfl rfl rfl i9 (by decide)
instance : FA Tryz.prog 105 1 1 := FA.mk' Tryz.underlying105 rfl rfl rfl i3 (by decide)
instance : FA Tryz.prog 176 0 0 := FA.mk' Tryz.underlying176 rfl rfl rfl i17 (by decide)
instance : FA Tryz.prog 176 1 1 := FA.mk' Tryz.underlying176 rfl rfl rfl i17 (by decide)
instance : FA Tryz.prog 176 2 2 := FA.mk' Tryz.underlying176 rfl rfl rfl i17 (by decide)
instance : FA Tryz.prog 176 3 3 := FA.mk' Tryz.underlying176 rfl rfl rfl i9 (by decide)
instance : FA Tryz.prog 177 0 0 := FA.mk' Tryz.underlying177 rfl rfl rfl i17 (by decide)
instance : FA Tryz.prog 177 1 1 := FA.mk' Tryz.underlying177 rfl rfl rfl i17 (by decide)
instance : FA Tryz.prog 177 2 2 := FA.mk' Tryz.underlying177 rfl rfl rfl i17 (by decide)
instance : FA Tryz.prog 177 3 3 := FA.mk' Tryz.underlying177 rfl rfl rfl i9 (by decide)
instance : FA Tryz.prog 187 0 0 := FA.mk' Tryz.underlying187 rfl rfl rfl i12 (by decide)
instance : FA Tryz.prog 187 1 1 := FA.mk' Tryz.underlying187 rfl rfl rfl i12 (by decide)
instance : FA Tryz.prog 187 2 2 := FA.mk' Tryz.underlying187 rfl rfl rfl i154 (by decide)
instance : FA Tryz.prog 187 3 3 := FA.mk' Tryz.underlying187 rfl rfl rfl i181 (by decide)
instance : FA Tryz.prog 187 4 4 := FA.mk' Tryz.underlying187 rfl rfl rfl i5 (by decide)
instance : FA Tryz.prog 187 5 5 := FA.mk' Tryz.underlying187 rfl rfl rfl i5 (by decide)
instance : FA Tryz.prog 187 6 6 := FA.mk' Tryz.underlying187 rfl rfl rfl i182 (by decide)
instance : FA Tryz.prog 187 7 7 := FA.mk' Tryz.underlying187 rfl rfl rfl i183 (by decide)
instance : FA Tryz.prog 187 8 8 := FA.mk' Tryz.underlying187 rfl rfl rfl i184 (by decide)
instance : FA Tryz.prog 187 9 9 := FA.mk' Tryz.underlying187 rfl rfl rfl i185 (by decide)
instance : FA Tryz.prog 187 10 10 := FA.mk' Tryz.underlying187 rfl rfl rfl i186 (by decide)
instance : FA Tryz.prog 188 0 0 := FA.mk' Tryz.underlying188 rfl rfl rfl i12 (by decide)
instance : FA Tryz.prog 188 1 1 := FA.mk' Tryz.underlying188 rfl rfl rfl i12 (by decide)
instance : FA Tryz.prog 188 2 2 := FA.mk' Tryz.underlying188 rfl rfl rfl i154 (by decide)
instance : FA Tryz.prog 188 3 3 := FA.mk' Tryz.underlying188 rfl rfl rfl i181 (by decide)
instance : FA Tryz.prog 188 4 4 := FA.mk' Tryz.underlying188 rfl rfl rfl i5 (by decide)
instance : FA Tryz.prog 188 5 5 := FA.mk' Tryz.underlying188 rfl rfl rfl i5 (by decide)
instance : FA Tryz.prog 188 6 6 := FA.mk' Tryz.underlying188 rfl rfl rfl i182 (by decide)
instance : FA Tryz.prog 188 7 7 := FA.mk' Tryz.underlying188 rfl rfl rfl i183 (by decide)
instance : FA Tryz.prog 188 8 8 := FA.mk' Tryz.underlying188 rfl rfl rfl i184 (by decide)
instance : FA Tryz.prog 188 9 9 := FA.mk' Tryz.underlying188 rfl rfl rfl i185 (by decide)
instance : FA Tryz.prog 188 10 10 := FA.mk' Tryz.underlying188 rfl rfl rfl i186 (by decide)
instance : HasBody Tryz.prog 2 := HasBody.mk' Tryz.func2 rfl (by kernel_rfl)
instance : HasBody Tryz.prog 3 := HasBody.mk' Tryz.func3 rfl (by kernel_rfl)
instance : HasBody Tryz.prog 4 := HasBody.mk' Tryz.func4 rfl (by kernel_rfl)
instance : HasBody Tryz.prog 5 := HasBody.mk' Tryz.func5 rfl (by kernel_rfl)
instance : HasBody Tryz.prog 6 := HasBody.mk' Tryz.func6 rfl (by kernel_rfl)
instance : HasBody Tryz.prog 7 := HasBody.mk' Tryz.func7 rfl (by kernel_rfl)
instance : HasBody Tryz.prog 8 := HasBody.mk' Tryz.func8 rfl (by kernel_rfl)
instance : HasBody Tryz.prog 9 := HasBody.mk' Tryz.func9 rfl (by kernel_rfl)
instance : HasBody Tryz.prog 10 := HasBody.mk' Tryz.func10 rfl (by kernel_rfl)
instance : HasBody Tryz.prog 11 := HasBody.mk' Tryz.func11 rfl (by kernel_rfl)
instance : HasBody Tryz.prog 12 := HasBody.mk' Tryz.func12 rfl (by kernel_rfl)
instance : HasBody Tryz.prog 13 := HasBody.mk' Tryz.func13 rfl (by kernel_rfl)
instance : HasBody Tryz.prog 14 := HasBody.mk' Tryz.func14 rfl (by kernel_rfl)
instance : HasBody Tryz.prog 15 := HasBody.mk' Tryz.func15 rfl (by kernel_rfl)
instance : HasBody Tryz.prog 16 := HasBody.mk' Tryz.func16 rfl (by kernel_rfl)
instance : HasBody Tryz.prog 17 := HasBody.mk' Tryz.func17 rfl (by kernel_rfl)
instance : HasBody Tryz.prog 18 := HasBody.mk' Tryz.func18 rfl (by kernel_rfl)
instance : HasBody Tryz.prog 19 := HasBody.mk' Tryz.func19 rfl (by kernel_rfl)
instance : HasBody Tryz.prog 20 := HasBody.mk' Tryz.func20 rfl (by kernel_rfl)
instance : HasBody Tryz.prog 21 := HasBody.mk' Tryz.func21 rfl (by kernel_rfl)
instance : HasBody Tryz.prog 22 := HasBody.mk' Tryz.func22 rfl (by kernel_rfl)
instance : HasBody Tryz.prog 23 := HasBody.mk' Tryz.func23 rfl (by kernel_rfl)
instance : HasBody Tryz.prog 24 := HasBody.mk' Tryz.func24 rfl (by kernel_rfl)
instance : HasBody Tryz.prog 25 := HasBody.mk' Tryz.func25 rfl (by kernel_rfl)
instance : HasBody Tryz.prog 26 := HasBody.mk' Tryz.func26 rfl (by kernel_rfl)
instance : HasBody Tryz.prog 27 := HasBody.mk' Tryz.func27 rfl (by kernel_rfl)
instance : HasBody Tryz.prog 28 := HasBody.mk' Tryz.func28 rfl (by kernel_rfl)
instance : HasBody Tryz.prog 29 := HasBody.mk' Tryz.func29 rfl (by kernel_rfl)
instance : HasBody Tryz.prog 30 := HasBody.mk' Tryz.func30 rfl (by kernel_rfl)
instance : HasBody Tryz.prog 31 := HasBody.mk' Tryz.func31 rfl (by kernel_rfl)
instance : HasBody Tryz.prog 32 := HasBody.mk' Tryz.func32 rfl (by kernel_rfl)
instance : HasBody Tryz.prog 33 := HasBody.mk' Tryz.func33 rfl (by kernel_rfl)
instance : HasBody Tryz.prog 34 := HasBody.mk' Tryz.func34 rfl (by kernel_rfl)
instance : HasBody Tryz.prog 35 := HasBody.mk' Tryz.func35 rfl (by kernel_rfl)
instance : HasBody Tryz.prog 36 := HasBody.mk' Tryz.func36 rfl (by kernel_rfl)
instance : HasBody Tryz.prog 37 := HasBody.mk' Tryz.func37 rfl (by kernel_rfl)
instance : HasBody Tryz.prog 38 := HasBody.mk' Tryz.func38 rfl (by kernel_rfl)
instance : HasBody Tryz.prog 39 := HasBody.mk' Tryz.func39 rfl (by kernel_rfl)
instance : HasBody Tryz.prog 40 := HasBody.mk' Tryz.func40 rfl (by kernel_rfl)
instance : HasBody Tryz.prog 41 := HasBody.mk' Tryz.func41 rfl (by kernel_rfl)
instance : HasBody Tryz.prog 42 := HasBody.mk' Tryz.func42 rfl (by kernel_rfl)
instance : HasBody Tryz.prog 43 := HasBody.mk' Tryz.func43 rfl (by kernel_rfl)
instance : HasBody Tryz.prog 44 := HasBody.mk' Tryz.func44 rfl (by kernel_rfl)
instance : HasBody Tryz.prog 45 := HasBody.mk' Tryz.func45 rfl (by kernel_rfl)
instance : HasBody Tryz.prog 46 := HasBody.mk' Tryz.func46 rfl (by kernel_rfl)
instance : HasBody Tryz.prog 47 := HasBody.mk' Tryz.func47 rfl (by kernel_rfl)
instance : HasBody Tryz.prog 48 := HasBody.mk' Tryz.func48 rfl (by kernel_rfl)
instance : HasBody Tryz.prog 49 := HasBody.mk' Tryz.func49 rfl (by kernel_rfl)
instance : HasBody Tryz.prog 50 := HasBody.mk' Tryz.func50 rfl (by kernel_rfl)
instance : HasBody Tryz.prog 51 := HasBody.mk' Tryz.func51 rfl (by kernel_rfl)
instance : HasBody Tryz.prog 52 := HasBody.mk' Tryz.func52 rfl (by kernel_rfl)
instance : HasBody Tryz.prog 53 := HasBody.mk' Tryz.func53 rfl (by kernel_rfl)
instance : HasBody Tryz.prog 54 := HasBody.mk' Tryz.func54 rfl (by kernel_rfl)
instance : HasBody Tryz.prog 55 := HasBody.mk' Tryz.func55 rfl (by kernel_rfl)
instance : HasBody Tryz.prog 56 := HasBody.mk' Tryz.func56 rfl (by kernel_rfl)
instance : HasBody Tryz.prog 57 := HasBody.mk' Tryz.func57 rfl (by kernel_rfl)
instance : HasBody Tryz.prog 58 := HasBody.mk' Tryz.func58 rfl (by kernel_rfl)
instance : HasBody Tryz.prog 59 := HasBody.mk' Tryz.func59 rfl (by kernel_rfl)
instance : HasBody Tryz.prog 60 := HasBody.mk' Tryz.func60 rfl (by kernel_rfl)
instance : HasBody Tryz.prog 61 := HasBody.mk' Tryz.func61 rfl (by kernel_rfl)
instance : HasBody Tryz.prog 62 := HasBody.mk' Tryz.func62 rfl (by kernel_rfl)
instance : HasBody Tryz.prog 63 := HasBody.mk' Tryz.func63 rfl (by kernel_rfl)
instance : HasBody Tryz.prog 64 := HasBody.mk' Tryz.func64 rfl (by kernel_rfl)
instance : HasBody Tryz.prog 65 := HasBody.mk' Tryz.func65 rfl (by kernel_rfl)
instance : HasBody Tryz.prog 66 := HasBody.mk' Tryz.func66 rfl (by kernel_rfl)
instance : HasBody Tryz.prog 67 := HasBody.mk' Tryz.func67 rfl (by kernel_rfl)
instance : HasBody Tryz.prog 68 := HasBody.mk' Tryz.func68 rfl (by kernel_rfl)
instance : HasBody Tryz.prog 69 := HasBody.mk' Tryz.func69 rfl (by kernel_rfl)
instance : HasBody Tryz.prog 70 := HasBody.mk' Tryz.func70 rfl (by kernel_rfl)
instance : HasBody Tryz.prog 71 := HasBody.mk' Tryz.func71 rfl (by kernel_rfl)
instance : HasBody Tryz.prog 72 := HasBody.mk' Tryz.func72 rfl (by kernel_rfl)
instance : HasBody Tryz.prog 73 := HasBody.mk' Tryz.func73 rfl (by kernel_rfl)
instance : HasBody Tryz.prog 74 := HasBody.mk' Tryz.func74 rfl (by kernel_rfl)
instance : HasBody Tryz.prog 75 := HasBody.mk' Tryz.func75 rfl (by kernel_rfl)
instance : HasBody Tryz.prog 76 := HasBody.mk' Tryz.func76 rfl (by kernel_rfl)
instance : HasBody Tryz.prog 77 := HasBody.mk' Tryz.func77 rfl (by kernel_rfl)
instance : HasBody Tryz.prog 78 := HasBody.mk' Tryz.func78 rfl (by kernel_rfl)
instance : HasBody Tryz.prog 79 := HasBody.mk' Tryz.func79 rfl (by kernel_rfl)
instance : HasBody Tryz.prog 80 := HasBody.mk' Tryz.func80 rfl (by kernel_rfl)
instance : HasBody Tryz.prog 82 := HasBody.mk' Tryz.func82 rfl (by kernel_rfl)
instance : HasBody Tryz.prog 83 := HasBody.mk' Tryz.func83 rfl (by kernel_rfl)
instance : HasBody Tryz.prog 84 := HasBody.mk' Tryz.func84 rfl (by kernel_rfl)
instance : HasBody Tryz.prog 85 := HasBody.mk' Tryz.func85 rfl (by kernel_rfl)
instance : HasBody Tryz.prog 86 := HasBody.mk' Tryz.func86 rfl (by kernel_rfl)
instance : HasBody Tryz.prog 87 := HasBody.mk' Tryz.func87 rfl (by kernel_rfl)
instance : HasBody Tryz.prog 88 := HasBody.mk' Tryz.func88 rfl (by kernel_rfl)
instance : HasBody Tryz.prog 89 := HasBody.mk' Tryz.func89 rfl (by kernel_rfl)
instance : HasBody Tryz.prog 90 := HasBody.mk' Tryz.func90 rfl (by kernel_rfl)
instance : HasBody Tryz.prog 91 := HasBody.mk' Tryz.func91 rfl (by kernel_rfl)
instance : HasBody Tryz.prog 92 := HasBody.mk' Tryz.func92 rfl (by kernel_rfl)
instance : HasBody Tryz.prog 93 := HasBody.mk' Tryz.func93 rfl (by kernel_rfl)
instance : HasBody Tryz.prog 94 := HasBody.mk' Tryz.func94 rfl (by kernel_rfl)
instance : HasBody Tryz.prog 95 := HasBody.mk' Tryz.func95 rfl (by kernel_rfl)
instance : HasBody Tryz.prog 96 := HasBody.mk' Tryz.func96 rfl (by kernel_rfl)
instance : HasBody Tryz.prog 97 := HasBody.mk' Tryz.func97 rfl (by kernel_rfl)
instance : HasBody Tryz.prog 98 := HasBody.mk' Tryz.func98 rfl (by kernel_rfl)
instance : HasBody Tryz.prog 99 := HasBody.mk' Tryz.func99 rfl (by kernel_rfl)
instance : HasBody Tryz.prog 100 := HasBody.mk' Tryz.func100 rfl (by kernel_rfl)
instance : HasBody Tryz.prog 101 := HasBody.mk' Tryz.func101 rfl (by kernel_rfl)
instance : HasBody Tryz.prog 102 := HasBody.mk' Tryz.func102 rfl (by kernel_rfl)
instance : HasBody Tryz.prog 103 := HasBody.mk' Tryz.func103 rfl (by kernel_rfl)
instance : HasBody Tryz.prog 104 := HasBody.mk' Tryz.func104 rfl (by kernel_rfl)
instance : HasBody Tryz.prog 105 := HasBody.mk' Tryz.func105 rfl (by kernel_rfl)
instance : HasBody Tryz.prog 106 := HasBody.mk' Tryz.func106 rfl (by kernel_rfl)
instance : HasBody Tryz.prog 107 := HasBody.mk' Tryz.func107 rfl (by kernel_rfl)
instance : HasBody Tryz.prog 108 := HasBody.mk' Tryz.func108 rfl (by kernel_rfl)
instance : HasBody Tryz.prog 109 := HasBody.mk' Tryz.func109 rfl (by kernel_rfl)
instance : HasBody Tryz.prog 110 := HasBody.mk' Tryz.func110 rfl (by kernel_rfl)
instance : HasBody Tryz.prog 111 := HasBody.mk' Tryz.func111 rfl (by kernel_rfl)
instance : HasBody Tryz.prog 112 := HasBody.mk' Tryz.func112 rfl (by kernel_rfl)
instance : HasBody Tryz.prog 113 := HasBody.mk' Tryz.func113 rfl (by kernel_rfl)
instance : HasBody Tryz.prog 114 := HasBody.mk' Tryz.func114 rfl (by kernel_rfl)
instance : HasBody Tryz.prog 115 := HasBody.mk' Tryz.func115 rfl (by kernel_rfl)
instance : HasBody Tryz.prog 116 := HasBody.mk' Tryz.func116 rfl (by kernel_rfl)
instance : HasBody Tryz.prog 117 := HasBody.mk' Tryz.func117 rfl (by kernel_rfl)
instance : HasBody Tryz.prog 118 := HasBody.mk' Tryz.func118 rfl (by kernel_rfl)
instance : HasBody Tryz.prog 119 := HasBody.mk' Tryz.func119 rfl (by kernel_rfl)
instance : HasBody Tryz.prog 120 := HasBody.mk' Tryz.func120 rfl (by kernel_rfl)
instance : HasBody Tryz.prog 121 := HasBody.mk' Tryz.func121 rfl (by kernel_rfl)
instance : HasBody Tryz.prog 122 := HasBody.mk' Tryz.func122 rfl (by kernel_rfl)
instance : HasBody Tryz.prog 123 := HasBody.mk' Tryz.func123 rfl (by kernel_rfl)
instance : HasBody Tryz.prog 124 := HasBody.mk' Tryz.func124 rfl (by kernel_rfl)
instance : HasBody Tryz.prog 125 := HasBody.mk' Tryz.func125 rfl (by kernel_rfl)
instance : HasBody Tryz.prog 126 := HasBody.mk' Tryz.func126 rfl (by kernel_rfl)
instance : HasBody Tryz.prog 127 := HasBody.mk' Tryz.func127 rfl (by kernel_rfl)
instance : HasBody Tryz.prog 128 := HasBody.mk' Tryz.func128 rfl (by kernel_rfl)
instance : HasBody Tryz.prog 129 := HasBody.mk' Tryz.func129 rfl (by kernel_rfl)
instance : HasBody Tryz.prog 130 := HasBody.mk' Tryz.func130 rfl (by kernel_rfl)
instance : HasBody Tryz.prog 131 := HasBody.mk' Tryz.func131 rfl (by kernel_rfl)
instance : HasBody Tryz.prog 132 := HasBody.mk' Tryz.func132 rfl (by kernel_rfl)
end Go.Proofs.YtbffngeameenoaaGreat
end

section
set_option linter.unusedVariables false
set_option linter.unusedSimpArgs false
namespace Go.Au
open Go

class Mixed (P : Program) : Prop where
  h : P.follows .mixedOrders = true

def dep (l : List Oper) (j : Nat) : List Nat := match l[j]? with
  | none => []
  | some o => (o.after.toList.filter fun e => Region.binds .any e).map (·.on)

/-- An order of what remains that keeps to the edges. -/
inductive Lin (l : List Oper) : List Nat → List Nat → Prop where
  | nil : Lin l [] []
  | cons {rem s : List Nat} {i : Nat} : i ∈ rem → (∀ m ∈ dep l i, m ∉ rem) → Lin l (rem.erase i) s → Lin l rem (i :: s)

theorem Lin.mem {l : List Oper} {rem s : List Nat} (h : Lin l rem s) : ∀ i ∈ s, i ∈ rem := by
  induction h with
  | nil => exact fun i h => h
  | cons hi _ _ ih =>
    intro j hj
    rcases List.mem_cons.1 hj with e | hj
    · subst e; exact hi
    · exact List.mem_of_mem_erase (ih j hj)
theorem Lin.mem' {l : List Oper} {rem s : List Nat} (h : Lin l rem s) : ∀ i ∈ rem, i ∈ s := by
  induction h with
  | nil => exact fun i h => h
  | @cons rem s k hi _ _ ih =>
    intro j hj
    by_cases e : j = k
    · subst e; exact List.mem_cons_self
    · exact List.mem_cons_of_mem _ (ih j ((List.mem_erase_of_ne e).2 hj))

inductive Path (l : List Oper) (rem : List Nat) : Nat → Nat → Prop where
  | one {i j : Nat} : i ∈ dep l j → Path l rem i j
  | step {i m j : Nat} : Path l rem i m → m ∈ rem → m ∈ dep l j → Path l rem i j

theorem Lin.split {l : List Oper} {j : Nat} {p2 : List Nat} : ∀ {p1 rem : List Nat}, Lin l rem (p1 ++ j :: p2) →
    ∃ rem1 : List Nat, (∀ m ∈ dep l j, m ∉ rem1) ∧ Lin l (rem1.erase j) p2 ∧ (∀ m ∈ rem, m ∈ p1 ∨ m ∈ rem1)
  | [], rem, h => by
    cases h with
    | cons hi hr hl => exact ⟨rem, hr, hl, fun m hm => .inr hm⟩
  | x :: p1, rem, h => by
    cases h with
    | cons hi hr hl =>
      obtain ⟨rem1, h1, h2, h3⟩ := Lin.split hl
      refine ⟨rem1, h1, h2, fun m hm => ?_⟩
      by_cases e : m = x
      · subst e; exact .inl List.mem_cons_self
      · rcases h3 m ((List.mem_erase_of_ne e).2 hm) with h | h
        · exact .inl (List.mem_cons_of_mem _ h)
        · exact .inr h

theorem Lin.notBefore {l : List Oper} {rem s : List Nat} (hl : Lin l rem s) {i j : Nat} (hp : Path l rem i j) : ∀ {pre post : List Nat}, s = pre ++ i :: post → j ∉ pre := by
  induction hp with
  | @one j hd =>
    intro pre post e hj
    obtain ⟨p1, p2, rfl⟩ := List.append_of_mem hj
    subst e
    rw [List.append_assoc, List.cons_append] at hl
    obtain ⟨rem1, h1, h2, h3⟩ := hl.split
    exact h1 i hd (List.mem_of_mem_erase (h2.mem i (by simp)))
  | @step m j _ hm hd ih =>
    intro pre post e hj
    have hm' := ih e
    obtain ⟨p1, p2, rfl⟩ := List.append_of_mem hj
    subst e
    rw [List.append_assoc, List.cons_append] at hl
    obtain ⟨rem1, h1, h2, h3⟩ := hl.split
    rcases h3 m hm with h | h
    · exact hm' (by simp [h])
    · exact h1 m hd h

theorem Lin.remove {l : List Oper} {i : Nat} {post : List Nat} : ∀ {pre rem : List Nat}, i ∉ pre → Lin l rem (pre ++ i :: post) → Lin l (rem.erase i) (pre ++ post)
  | [], rem, _, h => by cases h with | cons hi hr hl => exact hl
  | x :: pre, rem, hn, h => by
    cases h with
    | cons hi hr hl =>
      have hne : x ≠ i := fun e => hn (by subst e; exact List.mem_cons_self)
      refine .cons ((List.mem_erase_of_ne hne).2 hi) (fun m hm hm' => hr m hm (List.mem_of_mem_erase hm')) ?_
      rw [List.erase_comm]
      exact Lin.remove (fun e => hn (List.mem_cons_of_mem _ e)) hl

def bget : List (Nat × Nat) → Nat → Nat
  | [], _ => 0
  | (j, b) :: r, i => bif Nat.beq j i then b else bget r i
def ancs (l : List Oper) (rem : List Nat) : List Nat → List (Nat × Nat) → List (Nat × Nat)
  | [], acc => acc
  | j :: js, acc => ancs l rem js ((j, (dep l j).foldl (fun s m => (s ||| 2 ^ m) ||| (bif rem.contains m then bget acc m else 0)) 0) :: acc)
def BOk (l : List Oper) (rem : List Nat) (acc : List (Nat × Nat)) : Prop := ∀ j i, (bget acc j).testBit i = true → Path l rem i j
theorem fold_bits {l : List Oper} {rem : List Nat} {acc : List (Nat × Nat)} (h : BOk l rem acc) {j : Nat} : ∀ (ms : List Nat) (s : Nat), (∀ m ∈ ms, m ∈ dep l j) → (∀ i, s.testBit i = true → Path l rem i j) →
    ∀ i, (ms.foldl (fun s m => (s ||| 2 ^ m) ||| (bif rem.contains m then bget acc m else 0)) s).testBit i = true → Path l rem i j
  | [], s, _, hs, i, hi => hs i hi
  | m :: ms, s, hm, hs, i, hi => by
    refine fold_bits h ms _ (fun x hx => hm x (List.mem_cons_of_mem _ hx)) (fun i hi => ?_) i hi
    rw [Nat.testBit_or, Nat.testBit_or, Bool.or_eq_true, Bool.or_eq_true] at hi
    rcases hi with (hi | hi) | hi
    · exact hs i hi
    · rw [Nat.testBit_two_pow] at hi
      have : m = i := by simpa using hi
      subst this
      exact .one (hm m List.mem_cons_self)
    · cases hr : rem.contains m with
      | false => rw [hr, cond_false] at hi; simp at hi
      | true =>
        rw [hr, cond_true] at hi
        exact .step (h m i hi) (by simpa using hr) (hm m List.mem_cons_self)
theorem ancs_ok {l : List Oper} {rem : List Nat} : ∀ (js : List Nat) (acc : List (Nat × Nat)), BOk l rem acc → BOk l rem (ancs l rem js acc)
  | [], _, h => h
  | j :: js, acc, h => by
    refine ancs_ok js _ fun j' i hi => ?_
    unfold bget at hi
    cases hb : Nat.beq j j' with
    | false => rw [hb, cond_false] at hi; exact h j' i hi
    | true =>
      rw [hb, cond_true] at hi
      cases Nat.eq_of_beq_eq_true hb
      exact fold_bits h (dep l j) 0 (fun _ h => h) (fun i hi => by simp at hi) i hi

def opAt (l : List Oper) (i : Nat) : Oper := (l[i]?).getD default
def freeB (P : Program) (m : Bool) (l : List Oper) (rem : List Nat) (i : Nat) : Bool :=
  let acc := ancs l rem rem []
  rem.all fun j => j == i || (bget acc j).testBit i || (indep l.toArray (opAt l i) (opAt l j) && comm P m (opAt l i) (opAt l j))

section
variable {P : Program} {ks : Option (List Nat)} {E : Ex} {D : List Deferred} {L L' R : List HP} {F F' F0 : Frz} {k : List Item} {σ σ' : Sg} {Φ Ψ : Fin} {l : List Oper}

theorem split_first {i : Nat} : ∀ {s : List Nat}, i ∈ s → ∃ pre post, s = pre ++ i :: post ∧ i ∉ pre
  | x :: s, h => by
    by_cases e : x = i
    · subst e; exact ⟨[], s, rfl, by simp⟩
    · rcases List.mem_cons.1 h with h | h
      · exact absurd h.symm e
      · obtain ⟨pre, post, rfl, hn⟩ := split_first h
        exact ⟨x :: pre, post, rfl, by simp [hn]; exact fun h => e h.symm⟩

theorem indep_symm {ops : Array Oper} {o p : Oper} (h : indep ops o p = true) : indep ops p o = true := by
  simp only [indep, Bool.and_eq_true] at h ⊢
  obtain ⟨⟨⟨h1, h2⟩, h3⟩, h4⟩ := h
  refine ⟨⟨⟨?_, ?_⟩, h4⟩, h3⟩
  · cases hp : p.dst with
    | none => rfl
    | some d =>
      rw [hp] at h2
      simp only [Option.all_some, Bool.and_eq_true] at h2 ⊢
      refine ⟨h2, ?_⟩
      cases ho : o.dst with
      | none => rfl
      | some e =>
        rw [ho, hp] at h1
        simp only [Option.all_some, Bool.and_eq_true, bne_iff_ne, ne_eq, Option.some.injEq] at h1 ⊢
        exact fun x => h1.2 x.symm
  · cases ho : o.dst with
    | none => rfl
    | some d =>
      rw [ho] at h1
      simp only [Option.all_some, Bool.and_eq_true] at h1 ⊢
      exact h1.1

/-- Of the operations that remain a free one may be taken first. -/
theorem lin_free {rem s : List Nat} (hs : Lin l rem s) {i : Nat} (hm : i ∈ rem) (hf : freeB P ks.isSome l rem i = true) {K : Act → World → Prop} {a : Act} {w : World} :
    ∃ s', Lin l (rem.erase i) s' ∧ s'.length < s.length ∧ (RX P ks l.toArray K (opAt l i :: s'.map (opAt l)) a w → RX P ks l.toArray K (s.map (opAt l)) a w) := by
  obtain ⟨pre, post, rfl, hn⟩ := split_first (hs.mem' i hm)
  refine ⟨pre ++ post, hs.remove hn, by simp, fun h => ?_⟩
  rw [List.map_append, List.map_cons]
  refine RX.front (fun p hp => ?_) (by rw [← List.map_append]; exact h)
  obtain ⟨j, hj, rfl⟩ := List.mem_map.1 hp
  have hjr : j ∈ rem := hs.mem j (by simp [hj])
  have := List.all_eq_true.1 hf j hjr
  simp only [Bool.or_eq_true, Bool.and_eq_true, beq_iff_eq] at this
  rcases this with (h1 | h1) | h1
  · subst h1; exact absurd hj hn
  · exact absurd hj (hs.notBefore (ancs_ok rem [] (fun _ _ h => by simp [bget] at h) j i h1) rfl)
  · exact h1

theorem to_free {rem s : List Nat} (hs : Lin l rem s) (i : Nat) {o : Oper} (ho : l[i]? = some o) (hm : rem.contains i = true) (hf : freeB P E.ks.isSome l rem i = true)
    (K : ∀ s', Lin l (rem.erase i) s' → TO P E D L F l.toArray (o :: s'.map (opAt l)) k σ Φ) : TO P E D L F l.toArray (s.map (opAt l)) k σ Φ := by
  intro o1 ok w b a cs h1 h2 h3 h4 h5 ag st
  obtain ⟨s', hl, _, hx⟩ := lin_free (P := P) (ks := E.ks) (K := fun a' w' => Ends P E (lone (b.atR a' k) cs w') cs F Φ) (a := a) (w := w) hs (by simpa using hm) hf
  have e : opAt l i = o := by simp [opAt, ho]
  refine hx (e ▸ K s' hl ?_ ok w b a cs h1 h2 h3 h4 h5 ag st)
  rw [List.all_eq_true] at o1 ⊢
  intro p hp
  have hmem : p = o ∨ ∃ j ∈ s', opAt l j = p := by simpa using hp
  apply o1
  rw [List.mem_map]
  rcases hmem with h | ⟨j, hj, h⟩
  · subst h
    exact ⟨i, hs.mem' i (by simpa using hm), e⟩
  · exact ⟨j, hs.mem' j (List.mem_of_mem_erase (hl.mem j hj)), h⟩
theorem to_lin_nil {s : List Nat} (hs : Lin l [] s) (h : T P E D L F k σ Φ) : TO P E D L F l.toArray (s.map (opAt l)) k σ Φ := by
  cases hs with
  | nil => exact to_nil h
  | cons hi _ _ => cases hi
/-- None is free: each that may be next. -/
theorem to_next {rem s : List Nat} (hs : Lin l rem s) (hne : rem.isEmpty = false)
    (K : ∀ i ∈ rem.filter (fun i => (dep l i).all fun m => !rem.contains m), ∀ s', Lin l (rem.erase i) s' → TO P E D L F l.toArray (opAt l i :: s'.map (opAt l)) k σ Φ) :
    TO P E D L F l.toArray (s.map (opAt l)) k σ Φ := by
  cases hs with
  | nil => cases hne
  | @cons _ s' i hi hr hl =>
    exact K i (List.mem_filter.2 ⟨hi, by simpa using hr⟩) s' hl

/-! #### The machine's schedule is such an order -/
def edgesB (l : List Oper) : Bool := (List.range l.length).all fun i => (dep l i).all fun m => Nat.blt m i
theorem edgesB_lt (h : edgesB l = true) {i m : Nat} (hm : m ∈ dep l i) : m < i := by
  by_cases hi : i < l.length
  · have := List.all_eq_true.1 h i (List.mem_range.2 hi)
    have := List.all_eq_true.1 this m hm
    simpa using this
  · simp [dep, List.getElem?_eq_none (Nat.not_lt.1 hi)] at hm

def remOf (n : Nat) (listed : Array Bool) : List Nat := (List.range n).filter fun i => !listed.getD i true
theorem remOf_set {n : Nat} {listed : Array Bool} (hn : listed.size = n) {i : Nat} (hi : i ∈ remOf n listed) : remOf n (listed.setIfInBounds i true) = (remOf n listed).erase i := by
  have hin : i < n := by
    have := (List.mem_filter.1 hi).1
    simpa using this
  have nd : (remOf n listed).Nodup := List.nodup_range.sublist List.filter_sublist
  rw [nd.erase_eq_filter]
  unfold remOf
  rw [List.filter_filter]
  apply List.filter_congr
  intro j hj
  have hjn : j < n := by simpa using hj
  by_cases e : j = i
  · subst e; simp [Array.getD_eq_getD_getElem?, hn, hjn]
  · simp [Array.getD_eq_getD_getElem?, Array.getElem?_setIfInBounds_ne (Ne.symm e), e]
theorem go_lin (he : edgesB l = true) : ∀ (fuel t : Nat) (listed : Array Bool) (acc : List Nat), listed.size = l.length → fuel = (remOf l.length listed).length →
    ∃ s, Region.linearise.go .any l.toArray fuel t listed acc = acc.reverse ++ s ∧ Lin l (remOf l.length listed) s
  | 0, t, listed, acc, hn, hf => by
    refine ⟨[], by simp [Region.linearise.go], ?_⟩
    rw [List.eq_nil_of_length_eq_zero hf.symm]; exact .nil
  | fuel + 1, t, listed, acc, hn, hf => by
    unfold Region.linearise.go
    simp only [List.size_toArray]
    generalize hrs : ((List.range l.length).filter fun i => !listed.getD i true && ((l.toArray[i]?).map (·.after.all fun e => !Region.binds .any e || listed.getD e.on false)).getD false) = rs
    have hmem : ∀ i, i ∈ rs ↔ i ∈ remOf l.length listed ∧ ∀ m ∈ dep l i, m ∉ remOf l.length listed := by
      intro i
      rw [← hrs, List.mem_filter]
      simp only [remOf, List.mem_filter, List.mem_range, Bool.and_eq_true]
      constructor
      · rintro ⟨h1, h2, h3⟩
        refine ⟨⟨h1, h2⟩, fun m hm hm' => ?_⟩
        have hi : l[i]? = some l[i] := List.getElem?_eq_getElem h1
        simp only [dep, hi, List.mem_map, List.mem_filter] at hm
        obtain ⟨e, ⟨he1, he2⟩, rfl⟩ := hm
        simp only [List.getElem?_toArray, hi, Option.map_some, Option.getD_some, Array.all_eq_true_iff_forall_mem] at h3
        have := h3 e (by simpa using he1)
        simp only [he2, Bool.not_true, Bool.false_or] at this
        have h4 := hm'.2
        have hlt : e.on < listed.size := by
          rcases Nat.lt_or_ge e.on listed.size with x | x
          · exact x
          · simp [Array.getD_eq_getD_getElem?, Array.getElem?_eq_none x] at this
        simp [Array.getD_eq_getD_getElem?, Array.getElem?_eq_getElem hlt] at this h4
        rw [this] at h4; cases h4
      · rintro ⟨⟨h1, h2⟩, h3⟩
        refine ⟨h1, h2, ?_⟩
        have hi : l[i]? = some l[i] := List.getElem?_eq_getElem h1
        simp only [List.getElem?_toArray, hi, Option.map_some, Option.getD_some, Array.all_eq_true_iff_forall_mem]
        intro e he'
        cases hb : Region.binds .any e with
        | false => rfl
        | true =>
          simp only [Bool.not_true, Bool.false_or]
          have hd : e.on ∈ dep l i := by
            simp only [dep, hi, List.mem_map, List.mem_filter]
            exact ⟨e, ⟨by simpa using he', hb⟩, rfl⟩
          have hlt := edgesB_lt he hd
          have h4 := h3 _ hd
          have hlt2 : e.on < l.length := by omega
          cases hq : listed.getD e.on false with
          | true => rfl
          | false =>
            exfalso
            apply h4
            refine ⟨hlt2, ?_⟩
            rw [Array.getD_eq_getD_getElem?, Array.getElem?_eq_getElem (by omega)] at hq ⊢
            simp at hq ⊢; exact hq
    have hne : rs ≠ [] := by
      intro e
      have hr : remOf l.length listed ≠ [] := by intro h; rw [h] at hf; cases hf
      -- the least one is ready
      obtain ⟨i, hi, hmin⟩ : ∃ i ∈ remOf l.length listed, ∀ m ∈ remOf l.length listed, i ≤ m := by
        cases hc : remOf l.length listed with
        | nil => exact absurd hc hr
        | cons x xs =>
          refine ⟨x, List.mem_cons_self, fun m hm => ?_⟩
          have hp : (remOf l.length listed).Pairwise (· < ·) := List.Pairwise.filter _ List.pairwise_lt_range
          rw [hc, List.pairwise_cons] at hp
          rcases List.mem_cons.1 hm with h | h
          · omega
          · exact Nat.le_of_lt (hp.1 m h)
      have : i ∈ rs := (hmem i).2 ⟨hi, fun m hm hm' => by have := edgesB_lt he hm; have := hmin m hm'; omega⟩
      rw [e] at this; cases this
    have hlen : 0 < rs.length := List.length_pos_iff.2 hne
    have hidx : t % rs.length < rs.length := Nat.mod_lt _ hlen
    rw [List.getElem?_eq_getElem hidx]
    simp only
    have hi := (hmem _).1 (List.getElem_mem hidx)
    obtain ⟨s, h1, h2⟩ := go_lin he fuel (t / rs.length) (listed.setIfInBounds rs[t % rs.length] true) (rs[t % rs.length] :: acc) (by simpa using hn)
      (by rw [remOf_set hn hi.1, List.length_erase_of_mem hi.1, ← hf]; rfl)
    refine ⟨rs[t % rs.length] :: s, by rw [h1]; simp, .cons hi.1 hi.2 (by rw [← remOf_set hn hi.1]; exact h2)⟩
theorem schedule_lin [hm : Mixed P] (he : edgesB l = true) (t : Nat) : Lin l (List.range l.length) (Region.schedule (P.follows .mixedOrders) l.toArray t) := by
  unfold Region.schedule
  rw [hm.h]
  simp only [Bool.true_or, if_true]
  unfold Region.linearise
  have hr : remOf l.length (Array.replicate l.length false) = List.range l.length := by
    unfold remOf
    apply List.filter_eq_self.2
    intro i hi
    have : i < l.length := by simpa using hi
    simp [Array.getD_eq_getD_getElem?, this]
  obtain ⟨s, h1, h2⟩ := go_lin he l.length t (Array.replicate l.length false) [] (by simp) (by rw [hr]; simp)
  rw [hr] at h2
  simp only [List.size_toArray]
  rw [h1]; simpa using h2

theorem map_opAt {s : List Nat} (h : ∀ i ∈ s, i < l.length) : s.map (fun i => l.toArray[i]?) = (s.map (opAt l)).map some := by
  rw [List.map_map]
  apply List.map_congr_left
  intro i hi
  simp [opAt, h i hi]

/-- A region that draws its order: for every order. -/
theorem t_drawn [Mixed P] {id : Nat} (he : edgesB l = true) (h : ∀ s, Lin l (List.range l.length) s → TO P E D L F l.toArray (s.map (opAt l)) k σ Φ) :
    T P E D L F (.code (.region id l.toArray true) :: k) σ Φ := by
  intro ok w b a cs h1 h2 h3 h4 h5 ag st
  have ok' : l.all (opOk E.n) = true ∧ itemsOk E.n k = true := by simpa [itemsOk, itemOk, codeOk] using ok
  have hl := schedule_lin (P := P) he (w.tape w.drawn (.order b.fn id))
  have st' := st.drawn (w.drawn + 1)
  have ho : ((Region.schedule (P.follows .mixedOrders) l.toArray (w.tape w.drawn (.order b.fn id))).map (opAt l)).all (opOk E.n) = true := by
    rw [List.all_eq_true]
    intro p hp
    obtain ⟨j, hj, rfl⟩ := List.mem_map.1 hp
    have : j < l.length := by simpa using hl.mem j hj
    have hjl : opAt l j ∈ l := by simp [opAt, this]
    exact List.all_eq_true.1 ok'.1 _ hjl
  obtain ⟨a', w', hk, s⟩ := rx_steps (b := b) (cs := cs) (k := k) (map_opAt fun i hi => by simpa using hl.mem i hi) (h _ hl ho ok'.2 _ b a cs h1 h2 h3 h4 h5 ag st')
  exact .of_steps (.head stepR_region_draw s) (.refl _) hk

def freeAll (P : Program) (m : Bool) (l : List Oper) : List Nat → Bool
  | [] => true
  | i :: r => freeB P m l (i :: r) i && freeAll P m l r
theorem lin_text {K : Act → World → Prop} : ∀ {rem s : List Nat} {a : Act} {w : World}, Lin l rem s → rem.Nodup → freeAll P ks.isSome l rem = true → RX P ks l.toArray K (rem.map (opAt l)) a w → RX P ks l.toArray K (s.map (opAt l)) a w
  | [], s, a, w, hs, _, _, h => by
    cases hs with
    | nil => exact h
    | cons hi _ _ => cases hi
  | i :: rem, s, a, w, hs, nd, hf, h => by
    have hf' : freeB P ks.isSome l (i :: rem) i = true ∧ freeAll P ks.isSome l rem = true := by simpa [freeAll] using hf
    obtain ⟨s', hl, _, hx⟩ := lin_free (P := P) (K := K) (a := a) (w := w) hs List.mem_cons_self hf'.1
    rw [List.erase_cons_head] at hl
    exact hx (SX.mono h fun v w' h' => lin_text hl (List.nodup_cons.1 nd).2 hf'.2 h')
/-- Every order comes to what the text's comes to. -/
theorem t_drawn1 [Mixed P] [nm : NM E] {id : Nat} (he : edgesB l = true) (hf : freeAll P false l (List.range l.length) = true) (h : TO P E D L F l.toArray l k σ Φ) :
    T P E D L F (.code (.region id l.toArray true) :: k) σ Φ := by
  refine t_drawn he fun s hs => ?_
  have hl : (List.range l.length).map (opAt l) = l := by
    apply List.ext_getElem?
    intro i
    rw [List.getElem?_map]
    by_cases hi : i < l.length
    · simp [List.getElem?_range hi, opAt, hi]
    · simp [hi]
  intro o1 ok w b a cs h1 h2 h3 h4 h5 ag st
  refine lin_text (ks := E.ks) hs List.nodup_range (by rw [nm.h]; exact hf) ?_
  rw [hl]
  refine h ?_ ok w b a cs h1 h2 h3 h4 h5 ag st
  rw [List.all_eq_true] at o1 ⊢
  intro p hp
  apply o1
  rw [← hl] at hp
  obtain ⟨j, hj, rfl⟩ := List.mem_map.1 hp
  exact List.mem_map.2 ⟨j, hs.mem' j hj, rfl⟩
end
end Go.Au
end
