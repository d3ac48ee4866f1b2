/- Part 2 of the proof.
  Parts: Maps.; Slices.; Slices, more: literals, cuts, elements.; Ranging over functions; rounds.; More operations: texts and bytes, struct values, equality, clear, interfaces around maps, copies of maps.; Loops with a state, maps opened for a range, bytes that are frozen or ours, the end of a row cleared.; What stands in memory of law 21: versions, snapshots, sessions, models, operations.; Names of files: what the program and the reference say of them.; Assertions put together; the last place in a list.; Where a live generation stands.; Deeds of a model: begin, abort, tick, clean, and what only tells of one generation.; How many bytes a model holds.; What only tells: a generation's text, its length, a part of it.; Regions that draw their order, in which blocks keep their cells while other operations lay new ones.
-/
import Derived.Test.YtbffngeameenoaaGreatUA
import Derived.Deep.AppendSrc
import Derived.RangeFuncIn
import Derived.RangeFuncLeaves
import Derived.Lib.ConvBytes
import Derived.Laws.BytesArg
import Derived.Laws.StructEq
import Derived.Laws.AppendOwn
import Derived.Laws.Externs

section
set_option linter.unusedVariables false
set_option linter.unusedSimpArgs false
namespace Go.Au
open Go

instance fb_at1 {b : Nat} {o : Obj} {L : List HP} : FB b (at1 b o :: L) (at1 b o) L := ⟨.refl _⟩
instance fb_at1a {b : Nat} {o : Obj} {L B : List HP} : FB b ((at1 b o :: L) ++ B) (at1 b o) (L ++ B) := ⟨.refl _⟩

/-- two lists whose elements are in a relation, place by place -/
inductive F2 {α β : Type} (R : α → β → Prop) : List α → List β → Prop where
  | nil : F2 R [] []
  | cons {a : α} {b : β} {l : List α} {m : List β} : R a b → F2 R l m → F2 R (a :: l) (b :: m)
section f2
variable {α β : Type} {R S : α → β → Prop}
theorem F2.imp {l : List α} {m : List β} (h : F2 R l m) (hi : ∀ a b, R a b → S a b) : F2 S l m := by
  induction h with
  | nil => exact .nil
  | cons h _ ih => exact .cons (hi _ _ h) ih
theorem F2.length_eq {l : List α} {m : List β} (h : F2 R l m) : l.length = m.length := by
  induction h with
  | nil => rfl
  | cons _ _ ih => simp [ih]
theorem F2.append {l l' : List α} {m m' : List β} (h : F2 R l m) (h' : F2 R l' m') : F2 R (l ++ l') (m ++ m') := by
  induction h with
  | nil => exact h'
  | cons h _ ih => exact .cons h ih
theorem F2.set : ∀ {l : List α} {m : List β} {j : Nat} {x : α} {p : β}, F2 R l m → R x p → F2 R (l.set j x) (m.set j p)
  | _, _, _, _, _, .nil, _ => .nil
  | _ :: _, _ :: _, 0, _, _, .cons h r, hx => .cons hx r
  | _ :: _, _ :: _, j + 1, _, _, .cons h r, hx => .cons h (r.set hx)
theorem F2.erase : ∀ {l : List α} {m : List β} {j : Nat}, F2 R l m → F2 R (l.eraseIdx j) (m.eraseIdx j)
  | _, _, _, .nil => .nil
  | _ :: _, _ :: _, 0, .cons h r => r
  | _ :: _, _ :: _, j + 1, .cons h r => .cons h r.erase
theorem F2.get : ∀ {l : List α} {m : List β} {j : Nat} {x : α}, F2 R l m → l[j]? = some x → ∃ p, m[j]? = some p ∧ R x p
  | _, _, _, _, .nil, h => by cases h
  | _ :: _, p :: _, 0, _, .cons h r, e => by cases e; exact ⟨p, rfl, h⟩
  | _ :: _, _ :: _, j + 1, x, .cons h r, e => r.get (by simpa using e)
theorem F2.get' : ∀ {l : List α} {m : List β} {j : Nat} {p : β}, F2 R l m → m[j]? = some p → ∃ x, l[j]? = some x ∧ R x p
  | _, _, _, _, .nil, h => by cases h
  | x :: _, _ :: _, 0, _, .cons h r, e => by cases e; exact ⟨x, rfl, h⟩
  | _ :: _, _ :: _, j + 1, p, .cons h r, e => r.get' (by simpa using e)
theorem F2.mem {l : List α} {m : List β} (h : F2 R l m) {x : α} (hx : x ∈ l) : ∃ p ∈ m, R x p := by
  obtain ⟨i, hi, rfl⟩ := List.getElem_of_mem hx
  obtain ⟨p, hp, hr⟩ := h.get (List.getElem?_eq_getElem hi)
  exact ⟨p, List.mem_of_getElem? hp, hr⟩
theorem F2.split {l1 l2 : List α} : ∀ {m : List β}, F2 R (l1 ++ l2) m → ∃ m1 m2, m = m1 ++ m2 ∧ F2 R l1 m1 ∧ F2 R l2 m2 := by
  induction l1 with
  | nil => exact fun h => ⟨[], _, rfl, .nil, h⟩
  | cons a l1 ih =>
    intro m h
    cases h with
    | cons h r =>
      obtain ⟨m1, m2, rfl, h1, h2⟩ := ih r
      exact ⟨_ :: m1, m2, rfl, .cons h h1, h2⟩
theorem F2.split' {m1 m2 : List β} : ∀ {l : List α}, F2 R l (m1 ++ m2) → ∃ l1 l2, l = l1 ++ l2 ∧ F2 R l1 m1 ∧ F2 R l2 m2 := by
  induction m1 with
  | nil => exact fun h => ⟨[], _, rfl, .nil, h⟩
  | cons a l1 ih =>
    intro m h
    cases h with
    | cons h r =>
      obtain ⟨m1, m2, rfl, h1, h2⟩ := ih r
      exact ⟨_ :: m1, m2, rfl, .cons h h1, h2⟩
theorem F2.drop {l : List α} {m : List β} (h : F2 R l m) : ∀ n, F2 R (l.drop n) (m.drop n) := by
  induction h with
  | nil => intro n; simp; exact .nil
  | cons h r ih =>
    intro n
    cases n with
    | zero => exact .cons h r
    | succ n => exact ih n
theorem F2.take {l : List α} {m : List β} (h : F2 R l m) : ∀ n, F2 R (l.take n) (m.take n) := by
  induction h with
  | nil => intro n; simp; exact .nil
  | cons h r ih =>
    intro n
    cases n with
    | zero => exact .nil
    | succ n => exact .cons h (ih n)
theorem F2.perm {l l' : List α} (p : l.Perm l') : ∀ {m : List β}, F2 R l m → ∃ m' : List β, m'.Perm m ∧ F2 R l' m' := by
  induction p with
  | nil => exact fun h => ⟨_, .refl _, h⟩
  | cons a _ ih =>
    intro m h
    cases h with
    | cons h r => obtain ⟨m', q, r'⟩ := ih r; exact ⟨_ :: m', q.cons _, .cons h r'⟩
  | swap a b l =>
    intro m h
    cases h with
    | cons h r => cases r with | cons h' r => exact ⟨_, .swap _ _ _, .cons h' (.cons h r)⟩
  | trans _ _ ih1 ih2 =>
    intro m h
    obtain ⟨m1, q1, r1⟩ := ih1 h
    obtain ⟨m2, q2, r2⟩ := ih2 r1
    exact ⟨m2, q2.trans q1, r2⟩
end f2

/-- keys that are numbers or texts -/
class KeyT (P : Program) (kt : TypeId) (κ : outParam Type) (e : outParam (κ → Value)) : Prop where
  ex : ∃ kd, P.underlying kt = some kd ∧ (∀ a, Instr.sameNow kd (e a) (e a) = some true) ∧ (∀ a b, a ≠ b → Instr.sameNow kd (e a) (e b) = some false) ∧
    (∀ a n w, (Instr.checkKey n 10000 kt (e a)).run P w = .ok () w) ∧ (∀ a, Instr.sameBits 10000 (e a) (e a) = true) ∧ (∀ a b, e a = e b → a = b)
theorem bytes_beq (a b : ByteArray) : (a == b) = decide (a = b) := by
  cases a with | mk a => cases b with | mk b =>
  show (a == b) = _
  by_cases h : a = b
  · subst h; simp
  · have : ¬ ((⟨a⟩ : ByteArray) = ⟨b⟩) := fun e => h (by cases e; rfl)
    simp [h, this]
theorem keyT_str {P : Program} {kt : TypeId} (h : P.underlying kt = some .string) : KeyT P kt ByteArray Value.string := by
  refine ⟨_, h, fun a => ?_, fun a b ne => ?_, fun a n w => ?_, fun a => ?_, fun a b e => by cases e; rfl⟩
  · simp [Instr.sameNow, bytes_beq]
  · simp [Instr.sameNow, bytes_beq, ne]
  · show (Instr.checkKey n (9999 + 1) kt _).run P w = _
    rw [Instr.checkKey, Sem.run_bind, run_underlying h]; rfl
  · simp [Instr.sameBits, bytes_beq]
theorem keyT_int {P : Program} {kt : TypeId} {k : IntKind} (h : P.underlying kt = some (.int k)) : KeyT P kt Int (Value.int k) := by
  refine ⟨_, h, fun a => ?_, fun a b ne => ?_, fun a n w => ?_, fun a => ?_, fun a b e => by cases e; rfl⟩
  · simp [Instr.sameNow]
  · simp [Instr.sameNow, ne]
  · show (Instr.checkKey n (9999 + 1) kt _).run P w = _
    rw [Instr.checkKey, Sem.run_bind, run_underlying h]; rfl
  · simp [Instr.sameBits]

/-- a relation between abstract values and values, that stays asz more is frozen -/
structure Rel (β : Type) where
  r : Frz → β → Value → Prop
  mono : ∀ {F G : Frz} {x : β} {v : Value}, FLe F G → r F x v → r G x v

/-- A map's entries are those of an association list, in some order. -/
def MOk {κ β : Type} (e : κ → Value) (ρ : Rel β) (F : Frz) (es : Array MapEntry) (clock : Nat) (m : List (κ × β)) : Prop :=
  (∃ m' : List (κ × β), m'.Perm m ∧ F2 (fun (x : MapEntry) (p : κ × β) => x.key = e p.1 ∧ ρ.r F p.2 x.val) es.toList m') ∧ (m.map (·.1)).Nodup ∧
    (es.toList.map (·.born)).Nodup ∧ ∀ x ∈ es.toList, x.born < clock
theorem MOk.mono {κ β : Type} {e : κ → Value} {ρ : Rel β} {F G : Frz} {es : Array MapEntry} {clock : Nat} {m : List (κ × β)} (le : FLe F G) (h : MOk e ρ F es clock m) : MOk e ρ G es clock m := by
  obtain ⟨⟨m', p, f⟩, r⟩ := h
  exact ⟨⟨m', p, f.imp fun x y h => ⟨h.1, ρ.mono le h.2⟩⟩, r⟩
theorem MOk.perm {κ β : Type} {e : κ → Value} {ρ : Rel β} {F : Frz} {es : Array MapEntry} {clock : Nat} {m m1 : List (κ × β)} (p : m.Perm m1) (h : MOk e ρ F es clock m) : MOk e ρ F es clock m1 := by
  obtain ⟨⟨m', q, f⟩, h1, r⟩ := h
  exact ⟨⟨m', q.trans p, f⟩, (p.map _).nodup_iff.1 h1, r⟩
theorem MOk.length {κ β : Type} {e : κ → Value} {ρ : Rel β} {F : Frz} {es : Array MapEntry} {clock : Nat} {m : List (κ × β)} (h : MOk e ρ F es clock m) : es.size = m.length := by
  obtain ⟨⟨m', q, f⟩, _⟩ := h
  rw [← q.length_eq, ← f.length_eq, Array.length_toList]

/-- A map that is ours alone. -/
def mapP {κ β : Type} (e : κ → Value) (ρ : Rel β) (b : Nat) (m : List (κ × β)) : HP :=
  ⟨fun F h => ∃ es clock, h = [(b, .map es clock)] ∧ MOk e ρ F es clock m, fun le ⟨es, c, eh, k⟩ => ⟨es, c, eh, k.mono le⟩⟩
/-- A map that is frozen. -/
def RoM {κ β : Type} (e : κ → Value) (ρ : Rel β) (F : Frz) (b : Nat) (m : List (κ × β)) : Prop := ∃ es clock, F.ro b = some (.map es clock) ∧ MOk e ρ F es clock m
theorem RoM.mono {κ β : Type} {e : κ → Value} {ρ : Rel β} {F G : Frz} {b : Nat} {m : List (κ × β)} (le : FLe F G) (h : RoM e ρ F b m) : RoM e ρ G b m := by
  obtain ⟨es, c, h1, h2⟩ := h; exact ⟨es, c, le.ro b _ h1, h2.mono le⟩

instance fb_map {κ β : Type} {e : κ → Value} {ρ : Rel β} {b : Nat} {m : List (κ × β)} {L : List HP} : FB b (mapP e ρ b m :: L) (mapP e ρ b m) L := ⟨.refl _⟩
instance fb_mapa {κ β : Type} {e : κ → Value} {ρ : Rel β} {b : Nat} {m : List (κ × β)} {L B : List HP} : FB b ((mapP e ρ b m :: L) ++ B) (mapP e ρ b m) (L ++ B) := ⟨.refl _⟩

theorem St.openMap {w : World} {κ β : Type} {e : κ → Value} {ρ : Rel β} {b : Nat} {m : List (κ × β)} {L : List HP} {F : Frz} (s : St w (mapP e ρ b m :: L) F) :
    ∃ es clock, St w (Au.at1 b (.map es clock) :: L) F ∧ MOk e ρ F es clock m := by
  obtain ⟨h, ⟨h1, h2, rfl, ⟨es, c, e1, k⟩, r⟩, ow⟩ := s
  exact ⟨es, c, ⟨h1 ++ h2, ⟨h1, h2, rfl, e1, r⟩, ow⟩, k⟩
theorem St.shutMap {w : World} {κ β : Type} {e : κ → Value} {ρ : Rel β} {b : Nat} {m : List (κ × β)} {L : List HP} {F : Frz} {es : Array MapEntry} {clock : Nat} (s : St w (Au.at1 b (.map es clock) :: L) F)
    (k : MOk e ρ F es clock m) : St w (mapP e ρ b m :: L) F := by
  obtain ⟨h, ⟨h1, h2, rfl, e1, r⟩, ow⟩ := s
  exact ⟨h1 ++ h2, ⟨h1, h2, rfl, ⟨es, clock, e1, k⟩, r⟩, ow⟩

/-! ### Association lists -/
section al
variable {κ β : Type} [DecidableEq κ]
def aget (m : List (κ × β)) (k : κ) : Option β := (m.find? fun p => p.1 = k).map (·.2)
def adel (m : List (κ × β)) (k : κ) : List (κ × β) := m.filter fun p => p.1 ≠ k
def aset (m : List (κ × β)) (k : κ) (v : β) : List (κ × β) := adel m k ++ [(k, v)]
end al

section find
variable {κ β : Type} {e : κ → Value} {ρ : Rel β} {F : Frz} {P : Program} {kt : TypeId}

theorem findNow_of [h : KeyT P kt κ e] {kd : TypeDesc} (hk : P.underlying kt = some kd) (k : κ) : ∀ {es : List MapEntry} {m : List (κ × β)} (i : Nat), F2 (fun (x : MapEntry) (p : κ × β) => x.key = e p.1 ∧ ρ.r F p.2 x.val) es m →
    (∃ j v x, m[j]? = some (k, v) ∧ es[j]? = some x ∧ x.key = e k ∧ ρ.r F v x.val ∧ Instr.findNow kd (e k) es i = some (some (i + j, x.val))) ∨ ((∀ v, (k, v) ∉ m) ∧ Instr.findNow kd (e k) es i = some none)
  | _, _, i, .nil => .inr ⟨fun v h => (by cases h), rfl⟩
  | x :: es, p :: m, i, .cons hx hr => by
    obtain ⟨kd', h1, h2, h3, _⟩ := h.ex
    cases hk.symm.trans h1
    unfold Instr.findNow
    rw [hx.1]
    by_cases he : k = p.1
    · left
      refine ⟨0, p.2, x, by simp [he], rfl, by rw [hx.1, he], hx.2, ?_⟩
      rw [he, h2]; simp
    · rw [h3 _ _ he]
      rcases findNow_of hk k (i + 1) hr with ⟨j, v, y, h4, h5, h6, h7, h8⟩ | ⟨h4, h5⟩
      · left
        exact ⟨j + 1, v, y, by simpa using h4, by simpa using h5, h6, h7, by simp only [h8]; congr 3; omega⟩
      · right
        refine ⟨fun v hm => ?_, h5⟩
        rcases List.mem_cons.1 hm with h | h
        · exact he (by rw [← h])
        · exact h4 v h

theorem run_findKey [h : KeyT P kt κ e] (k : κ) {es : Array MapEntry} {clock : Nat} {m : List (κ × β)} (hm : MOk e ρ F es clock m) :
    (∃ j v x, (k, v) ∈ m ∧ es[j]? = some x ∧ x.key = e k ∧ ρ.r F v x.val ∧ ∀ w, (Instr.findKey kt (e k) es.toList).run P w = .ok (some (j, x.val)) w) ∨
    ((∀ v, (k, v) ∉ m) ∧ ∀ w, (Instr.findKey kt (e k) es.toList).run P w = .ok none w) := by
  obtain ⟨kd, h1, _⟩ := h.ex
  obtain ⟨⟨m', q, f⟩, _⟩ := hm
  have hr : ∀ r, Instr.findNow kd (e k) es.toList 0 = some r → ∀ w, (Instr.findKey kt (e k) es.toList).run P w = .ok r w := by
    intro r hr w
    unfold Instr.findKey
    rw [Sem.run_bind, run_underlying h1, Result.andThen_ok, hr]; rfl
  rcases findNow_of h1 k 0 f with ⟨j, v, x, a1, a2, a3, a4, a5⟩ | ⟨a1, a2⟩
  · left
    refine ⟨j, v, x, q.mem_iff.1 (List.mem_of_getElem? a1), by simpa using a2, a3, a4, ?_⟩
    intro w; rw [hr _ a5, Nat.zero_add]
  · right
    exact ⟨fun v hv => a1 v (q.mem_iff.2 hv), hr _ a2⟩
end find

section
variable {P : Program} {E : Ex} {D : List Deferred} {L L' R : List HP} {F F' F0 : Frz} {k : List Item} {σ σ' : Sg} {Φ Ψ : Fin} {ops : Array Oper} {os : List Oper}
  {ty : TypeId} {pos : String} {af : Array Edge} {d b o : Nat} {g : Option (Nat × Bool)} {t kt et : TypeId} {x y z : Operand} {v : Value}
  {zs : List Value} {n by_ : Nat} {κ β : Type} {e : κ → Value} {ρ : Rel β} {m : List (κ × β)} {key : κ}

/-- what a lookup hands back -/
def lkv (ok : Bool) (v : Value) (is : Bool) : Value := bif ok then .tuple #[v, .bool is] else v

theorem run_getObj {w : World} {b : Nat} {o : Obj} (h : w.heap[b]? = some o) (ho : ∀ c t f, o ≠ .cells c t f) : (getObj b).run P w = .ok o w := by
  cases o with
  | cells c t f => exact absurd rfl (ho c t f)
  | _ => simp [getObj, Sem.run, h]
theorem run_getMap {w : World} {b : Nat} {es : Array MapEntry} {c : Nat} (h : w.heap[b]? = some (.map es c)) : (getObj b).run P w = .ok (.map es c) w :=
  run_getObj h (by intro c t f e; cases e)
theorem run_lookup [hu : Und P t (.map kt et)] [hk : KeyT P kt κ e] [hi : Inf P et zs n by_] {es : Array MapEntry} {clock : Nat} (hm : MOk e ρ F es clock m) (key : κ) (ok : Bool) :
    (∃ v x, (key, v) ∈ m ∧ ρ.r F v x ∧ ∀ w : World, w.heap[b]? = some (.map es clock) → (Instr.lookup t (.map (some b)) (e key) ok).run P w = .ok (lkv ok x true) w) ∨
    ((∀ v, (key, v) ∉ m) ∧ ∀ w : World, w.heap[b]? = some (.map es clock) → ∀ z, (zeroValue et).run P w = .ok z w → (Instr.lookup t (.map (some b)) (e key) ok).run P w = .ok (lkv ok z false) w) := by
  obtain ⟨kd, h1, _, _, h4, _⟩ := hk.ex
  have hg := fun (w : World) (hw : w.heap[b]? = some (.map es clock)) => run_getMap (P := P) hw
  rcases run_findKey (kt := kt) (ρ := ρ) (P := P) key hm with ⟨j, v, x, a1, a2, a3, a4, a5⟩ | ⟨a1, a2⟩
  · left
    refine ⟨v, x.val, a1, a4, fun w hw => ?_⟩
    unfold Instr.lookup
    cases ok <;> simp [run_und (P := P) (t := t) w, hg w hw, h4, a5, lkv]
  · right
    refine ⟨a1, fun w hw z hz => ?_⟩
    unfold Instr.lookup
    cases ok <;> simp [run_und (P := P) (t := t) w, hg w hw, h4, a2, lkv, hz]

theorem val_of_cells {zv : Value} {zs : List Value} (h : zv.cells.toList = zs) (ha : noAgg zv = true) : zs = [zv] := by rw [← h, cells_one ha]

theorem zero_is {w w' : World} {z1 z2 : Value} (h1 : (zeroValue et).run P w = .ok z1 w) (h2 : (zeroValue et).run P w' = .ok z2 w') : z1 = z2 := by
  unfold zeroValue typeInfo at h1 h2
  cases hi : P.info? et with
  | none => simp [hi] at h1
  | some i =>
    cases hz : i.zero with
    | none => simp [hi, hz] at h1
    | some z => simp [hi, hz] at h1 h2; rw [← h1, ← h2]

/-- the zero value itself -/
class Zer (P : Program) (t : TypeId) (z : outParam Value) : Prop where
  h : ∀ w, (zeroValue t).run P w = .ok z w
theorem Zer.mk' {z : Value} (h : (P.info? t).bind (·.zero) = some z) : Zer P t z := ⟨fun w => by
  cases hi : P.info? t with
  | none => rw [hi] at h; cases h
  | some i =>
    rw [hi, Option.bind_some] at h
    simp [zeroValue, typeInfo, hi, h]⟩

theorem exec_lookup {a : Act} (ag : Agree σ a.tmps) {ok : Bool} {u v r : Value} {w : World} (hx : ev σ x = some u) (hy : ev σ y = some v) (h : (Instr.lookup t u v ok).run P w = .ok r w) :
    (execOp a.eval ⟨some d, .lookup t x y ok, ty, pos, af, g⟩).run P w = .ok (.value r) w := by
  simp [execOp, ev_eval ag hx, ev_eval ag hy, h]

/-- A lookup: found, or not. -/
theorem to_lk [nm : NM E] {ok : Bool} {zv : Value} [fb : FB b L (mapP e ρ b m) R] [Und P t (.map kt et)] [KeyT P kt κ e] [hz : Zer P et zv] [Inf P et zs n by_] (hg : gd σ ops g = some true) (hx : ev σ x = some (.map (some b))) (hy : ev σ y = some (e key))
    (K1 : ∀ v u, (key, v) ∈ m → ρ.r F v u → TO P E D L F ops os k ((d, lkv ok u true) :: σ) Φ)
    (K2 : (∀ v, (key, v) ∉ m) → TO P E D L F ops os k ((d, lkv ok zv false) :: σ) Φ) : TO P E D L F ops (⟨some d, .lookup t x y ok, ty, pos, af, g⟩ :: os) k σ Φ := by
  refine to_sx fun w a ag st => ?_
  unfold SX
  rw [if_pos (gd_wanted (o := ⟨some d, .lookup t x y ok, ty, pos, af, g⟩) ag hg)]
  obtain ⟨es, clock, s1, hm⟩ := (st.perm fb.p).openMap
  rcases run_lookup (P := P) (t := t) (kt := kt) (et := et) (b := b) (zs := zs) (n := n) (by_ := by_) hm key ok with ⟨v, u, h1, h2, h3⟩ | ⟨h1, h3⟩
  · exact ⟨_, fun w' gr => exec_lookup ag hx hy (h3 w' ((stb_gr gr).old _ _ s1.at1)), L, F, .refl _, st, K1 v u h1 h2⟩
  · exact ⟨_, fun w' gr => exec_lookup ag hx hy (h3 w' ((stb_gr gr).old _ _ s1.at1) _ (hz.h w')), L, F, .refl _, st, K2 h1⟩
theorem to_lkR [nm : NM E] {ok : Bool} {zv : Value} (hro : RoM e ρ F0 b m) [le : FLe F0 F] [Und P t (.map kt et)] [KeyT P kt κ e] [hz : Zer P et zv] [Inf P et zs n by_] (hg : gd σ ops g = some true) (hx : ev σ x = some (.map (some b))) (hy : ev σ y = some (e key))
    (K1 : ∀ v u, (key, v) ∈ m → ρ.r F0 v u → TO P E D L F ops os k ((d, lkv ok u true) :: σ) Φ)
    (K2 : (∀ v, (key, v) ∉ m) → TO P E D L F ops os k ((d, lkv ok zv false) :: σ) Φ) : TO P E D L F ops (⟨some d, .lookup t x y ok, ty, pos, af, g⟩ :: os) k σ Φ := by
  refine to_sx fun w a ag st => ?_
  unfold SX
  rw [if_pos (gd_wanted (o := ⟨some d, .lookup t x y ok, ty, pos, af, g⟩) ag hg)]
  obtain ⟨es, clock, h0, hm⟩ := hro
  rcases run_lookup (P := P) (t := t) (kt := kt) (et := et) (b := b) (zs := zs) (n := n) (by_ := by_) hm key ok with ⟨v, u, h1, h2, h3⟩ | ⟨h1, h3⟩
  · exact ⟨_, fun w' gr => exec_lookup ag hx hy (h3 w' ((stb_gr gr).old _ _ (st.ro (le.ro _ _ h0)))), L, F, .refl _, st, K1 v u h1 h2⟩
  · exact ⟨_, fun w' gr => exec_lookup ag hx hy (h3 w' ((stb_gr gr).old _ _ (st.ro (le.ro _ _ h0))) _ (hz.h w')), L, F, .refl _, st, K2 h1⟩
/-- of a nil map -/
theorem to_lkN [nm : NM E] {ok : Bool} {zv : Value} [Und P t (.map kt et)] [hk : KeyT P kt κ e] [hz : Zer P et zv] (hg : gd σ ops g = some true) (hx : ev σ x = some (.map none)) (hy : ev σ y = some (e key))
    (K2 : TO P E D L F ops os k ((d, lkv ok zv false) :: σ) Φ) : TO P E D L F ops (⟨some d, .lookup t x y ok, ty, pos, af, g⟩ :: os) k σ Φ := by
  refine to_rd hg (.inl rfl) (fun w a ag st => exec_lookup ag hx hy ?_) K2
  obtain ⟨kd, h1, _, _, h4, _⟩ := hk.ex
  have hf : (Instr.findKey kt (e key) []).run P w = .ok none w := by
    unfold Instr.findKey
    rw [Sem.run_bind, run_underlying h1]; rfl
  unfold Instr.lookup
  cases ok <;> simp [run_und (P := P) (t := t) w, h4, hf, lkv, hz.h w]

/-- len -/
theorem to_lenM [nm : NM E] {tys : Array TypeId} [fb : FB b L (mapP e ρ b m) R] [Und P t (.map kt et)] (hg : gd σ ops g = some true) (ht : tys = #[t]) (hx : ev σ x = some (.map (some b)))
    (K : TO P E D L F ops os k ((d, .int .i64 m.length) :: σ) Φ) : TO P E D L F ops (⟨some d, .call ⟨.builtin .len, #[x], tys⟩, ty, pos, af, g⟩ :: os) k σ Φ := by
  subst ht
  refine to_rd hg ?_ (fun w a ag st => ?_) K
  · have hu := (inferInstance : Und P t (.map kt et)).h
    left; simp [lvl, hu]
  · obtain ⟨es, clock, s1, hm⟩ := (st.perm fb.p).openMap
    have hg := run_getMap (P := P) s1.at1
    simp [execOp, resolve, invoke, builtin, Builtin.len_, ev_eval ag hx, run_und (P := P) (t := t) w, hg, goInt, hm.length]

/-! #### Changes -/
theorem adel_perm [DecidableEq κ] {m m' : List (κ × β)} (p : m.Perm m') (k : κ) : (adel m k).Perm (adel m' k) := p.filter _
theorem adel_of_not [DecidableEq κ] {m : List (κ × β)} {k : κ} (h : ∀ v, (k, v) ∉ m) : adel m k = m := by
  unfold adel
  apply List.filter_eq_self.2
  intro p hp
  apply decide_eq_true
  intro e
  exact h p.2 (by rw [← e]; exact hp)
theorem erase_perm [DecidableEq κ] : ∀ {m : List (κ × β)} {j : Nat} {k : κ} {v : β}, m[j]? = some (k, v) → (m.map (·.1)).Nodup → m.eraseIdx j = adel m k
  | p :: m, 0, k, v, h, nd => by
    cases h
    rw [List.map_cons, List.nodup_cons] at nd
    have : adel m k = m := adel_of_not fun v' hv => nd.1 (List.mem_map.2 ⟨_, hv, rfl⟩)
    rw [List.eraseIdx_cons_zero]
    conv => lhs; rw [← this]
    simp [adel]
  | p :: m, j + 1, k, v, h, nd => by
    rw [List.map_cons, List.nodup_cons] at nd
    have hk : (k, v) ∈ m := List.mem_of_getElem? (by simpa using h)
    have hne : p.1 ≠ k := fun e => nd.1 (List.mem_map.2 ⟨_, hk, by simp [e]⟩)
    rw [List.eraseIdx_cons_succ, erase_perm (m := m) (by simpa using h) nd.2]
    simp [adel, hne]
theorem set_perm [DecidableEq κ] {m : List (κ × β)} {j : Nat} {k : κ} {v v' : β} (h : m[j]? = some (k, v)) (nd : (m.map (·.1)).Nodup) : (m.set j (k, v')).Perm (aset m k v') := by
  have hlt : j < m.length := by
    rcases Nat.lt_or_ge j m.length with x | x
    · exact x
    · rw [List.getElem?_eq_none x] at h; cases h
  unfold aset
  rw [← erase_perm h nd]
  have : (m.set j (k, v')).Perm ((k, v') :: m.eraseIdx j) := by
    rw [List.set_eq_take_append_cons_drop, if_pos hlt, List.eraseIdx_eq_take_drop_succ]
    exact List.perm_middle
  exact this.trans (List.perm_append_comm (l₁ := [(k, v')]))

theorem nodup_aset [DecidableEq κ] {m : List (κ × β)} (nd : (m.map (·.1)).Nodup) (k : κ) (v : β) : ((aset m k v).map (·.1)).Nodup := by
  unfold aset
  rw [List.map_append, List.nodup_append]
  refine ⟨?_, by simp, ?_⟩
  · exact nd.sublist (List.filter_sublist.map _)
  · intro a ha b hb
    simp [adel] at ha hb
    subst hb
    rintro rfl
    exact ha.2 rfl
theorem nodup_adel [DecidableEq κ] {m : List (κ × β)} (nd : (m.map (·.1)).Nodup) (k : κ) : ((adel m k).map (·.1)).Nodup := nd.sublist (List.filter_sublist.map _)

theorem modify_list (es : Array MapEntry) (i : Nat) (f : MapEntry → MapEntry) {x : MapEntry} (h : es[i]? = some x) : (es.modify i f).toList = es.toList.set i (f x) := by
  have hlt := lt_of_get h
  apply List.ext_getElem?
  intro j
  rw [Array.getElem?_toList, Array.getElem?_modify, List.getElem?_set]
  by_cases e : i = j
  · subst e
    have := hlt
    rw [Array.getElem?_eq_getElem hlt] at h
    cases h; simp [hlt]
  · simp [e]

theorem MOk.update [DecidableEq κ] {es : Array MapEntry} {clock : Nat} (h : MOk e ρ F es clock m) {j : Nat} {x : MapEntry} (hj : es[j]? = some x) (he : x.key = e key) (inj : ∀ a b, e a = e b → a = b) {v' : β} {u : Value} (hv : ρ.r F v' u) :
    MOk e ρ F (es.modify j fun y => { y with key := e key, val := u }) clock (aset m key v') := by
  obtain ⟨⟨m', q, f⟩, nd, h1, h2⟩ := h
  have hl := modify_list es j (fun y => { y with key := e key, val := u }) hj
  obtain ⟨p, hp, hp1, _⟩ := f.get (j := j) (by simpa using hj)
  have hk : p.1 = key := inj _ _ (by rw [← hp1, he])
  have hp' : m'[j]? = some (key, p.2) := by rw [hp, ← hk]
  have nd' : (m'.map (·.1)).Nodup := (q.map _).nodup_iff.2 nd
  refine ⟨⟨m'.set j (key, v'), ?_, ?_⟩, nodup_aset nd _ _, ?_, ?_⟩
  · exact (set_perm hp' nd').trans ((adel_perm q key).append_right _)
  · rw [hl]; exact f.set ⟨rfl, hv⟩
  · rw [hl, List.map_set]
    have : (es.toList.map (·.born)).set j x.born = es.toList.map (·.born) := by
      apply List.ext_getElem?
      intro i
      rw [List.getElem?_set]
      by_cases e : j = i
      · subst e
        have := lt_of_get hj
        simp [this]
        have := hj
        simp [Array.getElem?_eq_getElem (lt_of_get hj)] at this
        rw [this]
      · simp [e]
    rw [this]; exact h1
  · rw [hl]
    intro y hy
    rcases List.mem_or_eq_of_mem_set hy with h | h
    · exact h2 y h
    · subst h; exact h2 x (by simpa using Array.mem_of_getElem? hj)
theorem MOk.push [DecidableEq κ] {es : Array MapEntry} {clock : Nat} (h : MOk e ρ F es clock m) (hn : ∀ v, (key, v) ∉ m) {v' : β} {u : Value} (hv : ρ.r F v' u) :
    MOk e ρ F (es.push { key := e key, val := u, born := clock }) (clock + 1) (aset m key v') := by
  obtain ⟨⟨m', q, f⟩, nd, h1, h2⟩ := h
  refine ⟨⟨m' ++ [(key, v')], ?_, ?_⟩, nodup_aset nd _ _, ?_, ?_⟩
  · unfold aset; rw [adel_of_not hn]; exact q.append_right _
  · rw [Array.toList_push]; exact f.append (.cons ⟨rfl, hv⟩ .nil)
  · rw [Array.toList_push, List.map_append, List.nodup_append]
    refine ⟨h1, by simp, fun a ha b hb => ?_⟩
    simp at ha hb
    obtain ⟨y, hy, rfl⟩ := ha
    have := h2 y (by simpa using hy)
    omega
  · rw [Array.toList_push]
    intro y hy
    rcases List.mem_append.1 hy with h | h
    · have := h2 y h; omega
    · simp at h; subst h; simp
theorem MOk.erase [DecidableEq κ] {es : Array MapEntry} {clock : Nat} (h : MOk e ρ F es clock m) {j : Nat} {x : MapEntry} (hj : es[j]? = some x) (he : x.key = e key) (inj : ∀ a b, e a = e b → a = b) :
    MOk e ρ F (es.eraseIdxIfInBounds j) clock (adel m key) := by
  obtain ⟨⟨m', q, f⟩, nd, h1, h2⟩ := h
  have hlt := lt_of_get hj
  have hl : (es.eraseIdxIfInBounds j).toList = es.toList.eraseIdx j := by simp [Array.eraseIdxIfInBounds, hlt]
  obtain ⟨p, hp, hp1, _⟩ := f.get (j := j) (by simpa using hj)
  have hk : p.1 = key := inj _ _ (by rw [← hp1, he])
  have hp' : m'[j]? = some (key, p.2) := by rw [hp, ← hk]
  have nd' : (m'.map (·.1)).Nodup := (q.map _).nodup_iff.2 nd
  refine ⟨⟨m'.eraseIdx j, ?_, ?_⟩, nodup_adel nd _, ?_, ?_⟩
  · rw [erase_perm hp' nd']; exact adel_perm q key
  · rw [hl]; exact f.erase
  · rw [hl]; exact h1.sublist ((List.eraseIdx_sublist _ _).map _)
  · rw [hl]; exact fun y hy => h2 y ((List.eraseIdx_sublist _ _).subset hy)

/-- m[k] = v -/
theorem to_mu [DecidableEq κ] {v' : β} {u : Value} [fb : FB b L (mapP e ρ b m) R] [Und P t (.map kt et)] [hk : KeyT P kt κ e] (hg : gd σ ops g = some true) (hx : ev σ x = some (.map (some b))) (hy : ev σ y = some (e key))
    (hz : ev σ z = some u) (hv : ρ.r F v' u) (K : TO P E D (mapP e ρ b (aset m key v') :: R) F ops os k σ Φ) : TO P E D L F ops (⟨none, .mapUpdate t x y z, ty, pos, af, g⟩ :: os) k σ Φ := by
  refine to_opW rfl hg rfl fun w a ag st => ?_
  obtain ⟨kd, h1, _, _, h4, h5, h3⟩ := hk.ex
  obtain ⟨es, clock, s1, hm⟩ := (st.perm fb.p).openMap
  have hgo := run_getMap (P := P) s1.at1
  have hso : ∀ o', (setObj b o').run P w = .ok () { w with heap := w.heap.setIfInBounds b o' } := fun o' => by simp [setObj, Sem.run, s1.at1]
  rcases run_findKey (kt := kt) (ρ := ρ) (P := P) key hm with ⟨j, v, xx, a1, a2, a3, a4, a5⟩ | ⟨a1, a2⟩
  · have : (execOp a.eval ⟨none, .mapUpdate t x y z, ty, pos, af, g⟩).run P w = .ok .skip { w with heap := w.heap.setIfInBounds b (.map (es.modify j fun y => { y with key := e key, val := u }) clock) } := by
      simp [execOp, ev_eval ag hx, ev_eval ag hy, ev_eval ag hz, Instr.mapUpdate, run_und (P := P) (t := t) w, hgo, h4, a5, a2, a3, Instr.keyThatStays, h5, hso]
    rw [this]
    exact ⟨_, F, .refl _, (s1.set _).shutMap (hm.update a2 a3 h3 hv), K⟩
  · have : (execOp a.eval ⟨none, .mapUpdate t x y z, ty, pos, af, g⟩).run P w = .ok .skip { w with heap := w.heap.setIfInBounds b (.map (es.push { key := e key, val := u, born := clock }) (clock + 1)) } := by
      simp [execOp, ev_eval ag hx, ev_eval ag hy, ev_eval ag hz, Instr.mapUpdate, run_und (P := P) (t := t) w, hgo, h4, a2, hso]
    rw [this]
    exact ⟨_, F, .refl _, (s1.set _).shutMap (hm.push a1 hv), K⟩
/-- delete(m, k) -/
theorem to_del [DecidableEq κ] {tys : Array TypeId} [fb : FB b L (mapP e ρ b m) R] [Und P t (.map kt et)] [hk : KeyT P kt κ e] {dst : Option Tmp} (hg : gd σ ops g = some true) (ht : tys = #[t, kt]) (hx : ev σ x = some (.map (some b))) (hy : ev σ y = some (e key))
    (K : TO P E D (mapP e ρ b (adel m key) :: R) F ops os k (putd dst (.tuple #[]) σ) Φ) : TO P E D L F ops (⟨dst, .call ⟨.builtin .delete, #[x, y], tys⟩, ty, pos, af, g⟩ :: os) k σ Φ := by
  subst ht
  refine to_opW rfl hg rfl fun w a ag st => ?_
  obtain ⟨kd, h1, _, _, h4, h5, h3⟩ := hk.ex
  obtain ⟨es, clock, s1, hm⟩ := (st.perm fb.p).openMap
  have hgo := run_getMap (P := P) s1.at1
  have hso : ∀ o', (setObj b o').run P w = .ok () { w with heap := w.heap.setIfInBounds b o' } := fun o' => by simp [setObj, Sem.run, s1.at1]
  rcases run_findKey (kt := kt) (ρ := ρ) (P := P) key hm with ⟨j, v, xx, a1, a2, a3, a4, a5⟩ | ⟨a1, a2⟩
  · have : (execOp a.eval ⟨dst, .call ⟨.builtin .delete, #[x, y], #[t, kt]⟩, ty, pos, af, g⟩).run P w = .ok (.value (.tuple #[])) { w with heap := w.heap.setIfInBounds b (.map (es.eraseIdxIfInBounds j) clock) } := by
      simp [execOp, resolve, invoke, builtin, ev_eval ag hx, ev_eval ag hy, Builtin.delete_, run_und (P := P) (t := t) w, hgo, h4, a5, hso]
    rw [this]
    exact ⟨_, F, .refl _, (s1.set _).shutMap (hm.erase a2 a3 h3), K⟩
  · have : (execOp a.eval ⟨dst, .call ⟨.builtin .delete, #[x, y], #[t, kt]⟩, ty, pos, af, g⟩).run P w = .ok (.value (.tuple #[])) { w with heap := w.heap.setIfInBounds b (.map es clock) } := by
      simp [execOp, resolve, invoke, builtin, ev_eval ag hx, ev_eval ag hy, Builtin.delete_, run_und (P := P) (t := t) w, hgo, h4, a2, hso]
    rw [this]
    exact ⟨_, F, .refl _, (s1.set _).shutMap (by rw [adel_of_not a1]; exact hm), K⟩
theorem to_mkM [nm : NM E] (e : κ → Value) (ρ : Rel β) (hg : gd σ ops g = some true) (K : ∀ b, TO P E D (mapP e ρ b [] :: L) F ops os k ((d, .map (some b)) :: σ) Φ) :
    TO P E D L F ops (⟨some d, .makeMap t none, ty, pos, af, g⟩ :: os) k σ Φ := by
  refine to_op hg rfl fun w a ag st => ?_
  have : (execOp a.eval ⟨some d, .makeMap t none, ty, pos, af, g⟩).run P w = .ok (.value (.map (some w.heap.size))) { w with heap := w.heap.push (.map #[] 0) } := by
    simp [execOp, Instr.makeMap]
  rw [this]
  exact ⟨_, F, .refl _, (st.new _).shutMap ⟨⟨[], .refl _, .nil⟩, by simp, by simp, by simp⟩, K _⟩

/-! #### Ranging -/
def iterP (r mb clock : Nat) (done : List MapEntry) : HP := at1 r (.mapIter (some mb) clock (done.map (·.born)).toArray clock)
instance fb_iter {r mb clock : Nat} {done : List MapEntry} {L : List HP} : FB r (iterP r mb clock done :: L) (iterP r mb clock done) L := ⟨.refl _⟩
instance fb_itera {r mb clock : Nat} {done : List MapEntry} {L B : List HP} : FB r ((iterP r mb clock done :: L) ++ B) (iterP r mb clock done) (L ++ B) := ⟨.refl _⟩

/-- Where a map's entries stand: ours, or frozen. -/
class MapAt (L : List HP) (F : Frz) (b : Nat) (es : Array MapEntry) (clock : Nat) : Prop where
  h : ∀ w, St w L F → w.heap[b]? = some (.map es clock)
theorem mapAt_own {b : Nat} {es : Array MapEntry} {clock : Nat} [fb : FB b L (at1 b (.map es clock)) R] : MapAt L F b es clock := ⟨fun w st => (st.perm fb.p).at1⟩
theorem mapAt_ro {b : Nat} {es : Array MapEntry} {clock : Nat} (h : F0.ro b = some (.map es clock)) [le : FLe F0 F] : MapAt L F b es clock := ⟨fun w st => st.ro (le.ro _ _ h)⟩

theorem to_range [nm : NM E] {es : Array MapEntry} {clock : Nat} [Und P t (.map kt et)] (ma : MapAt L F b es clock) (hg : gd σ ops g = some true) (hx : ev σ x = some (.map (some b)))
    (K : ∀ r, TO P E D (iterP r b clock [] :: L) F ops os k ((d, .pointer (some ⟨r, 0, none⟩)) :: σ) Φ) : TO P E D L F ops (⟨some d, .range t x, ty, pos, af, g⟩ :: os) k σ Φ := by
  refine to_op hg rfl fun w a ag st => ?_
  have hgo := run_getMap (P := P) (ma.h w st)
  have : (execOp a.eval ⟨some d, .range t x, ty, pos, af, g⟩).run P w = .ok (.value (.pointer (some ⟨w.heap.size, 0, none⟩))) { w with heap := w.heap.push (.mapIter (some b) clock #[] clock) } := by
    simp [execOp, ev_eval ag hx, Instr.range, run_und (P := P) (t := t) w, hgo]
  rw [this]
  exact ⟨_, F, .refl _, st.new _, K _⟩

theorem born_inj : ∀ {l : List MapEntry}, (l.map (·.born)).Nodup → ∀ {x y : MapEntry}, x ∈ l → y ∈ l → x.born = y.born → x = y
  | z :: l, nd, x, y, hx, hy, e => by
    rw [List.map_cons, List.nodup_cons] at nd
    rcases List.mem_cons.1 hx with h1 | h1 <;> rcases List.mem_cons.1 hy with h2 | h2
    · rw [h1, h2]
    · exact absurd (List.mem_map.2 ⟨y, h2, by rw [← e, h1]⟩) nd.1
    · exact absurd (List.mem_map.2 ⟨x, h1, by rw [e, h2]⟩) nd.1
    · exact born_inj nd.2 h1 h2 e
theorem cand {es : Array MapEntry} {clock : Nat} (hb : ∀ x ∈ es.toList, x.born < clock) (done : List MapEntry) :
    let left := es.filter fun e => !((done.map (·.born)).toArray).contains e.born
    left.filter (·.born < clock) = left ∧ left.filter (fun e => decide (e.born ≥ clock)) = #[] := by
  intro left
  have hl : ∀ x ∈ left, x.born < clock := fun x hx => hb x (by simpa using (Array.mem_filter.1 hx).1)
  constructor
  · rw [Array.filter_eq_self]; intro x hx; simpa using hl x hx
  · rw [Array.filter_eq_empty_iff]; intro x hx; have := hl x hx; simp; omega

theorem to_next_ [nm : NM E] {es : Array MapEntry} {clock r : Nat} {done : List MapEntry} [fb : FB r L (iterP r b clock done) R] (ma : MapAt L F b es clock) (hb : ∀ x ∈ es.toList, x.born < clock) (hnd : (es.toList.map (·.born)).Nodup) (hd : ∀ x ∈ done, x ∈ es.toList)
    (hg : gd σ ops g = some true) (hx : ev σ x = some (.pointer (some ⟨r, 0, none⟩)))
    (K1 : (∀ x ∈ es.toList, x ∈ done) → TO P E D L F ops os k ((d, .tuple #[.bool false]) :: σ) Φ)
    (K2 : ∀ x ∈ es.toList, x ∉ done → TO P E D (iterP r b clock (done ++ [x]) :: R) F ops os k ((d, .tuple #[.bool true, x.key, x.val]) :: σ) Φ) :
    TO P E D L F ops (⟨some d, .next x false, ty, pos, af, g⟩ :: os) k σ Φ := by
  refine to_op hg rfl fun w a ag st => ?_
  have s1 := st.perm fb.p
  have hgi : (getObj r).run P w = .ok (.mapIter (some b) clock (done.map (·.born)).toArray clock) w := by
    have := s1.at1
    simp [getObj, Sem.run, this]
  have hgo := run_getMap (P := P) (ma.h w st)
  have hso : ∀ (w' : World) o', w'.heap = w.heap → (setObj r o').run P w' = .ok () { w' with heap := w'.heap.setIfInBounds r o' } := fun w' o' e => by simp [setObj, Sem.run, e, s1.at1]
  obtain ⟨hc1, hc2⟩ := cand hb done
  have hnotall : ∀ c, (c && !es.isEmpty && es.all fun x => decide (x.born ≥ clock)) = false := by
    intro c
    cases he : es.isEmpty with
    | true => simp
    | false =>
      have hne : es.toList ≠ [] := by simpa using he
      obtain ⟨y, hy⟩ := List.exists_mem_of_ne_nil _ hne
      have := hb y hy
      have hf : (es.all fun x => decide (x.born ≥ clock)) = false := by
        rw [Array.all_eq_false]
        obtain ⟨i, hi, e⟩ := List.getElem_of_mem hy
        exact ⟨i, by simpa using hi, by simp at e ⊢; rw [e]; omega⟩
      rw [hf]; simp
  have hmem : ∀ y, y ∈ (es.filter fun e => !((done.map (·.born)).toArray).contains e.born) ↔ y ∈ es.toList ∧ y ∉ done := by
    intro y
    rw [Array.mem_filter]
    simp only [List.contains_toArray, Bool.not_eq_true', List.contains_eq_mem, decide_eq_false_iff_not, List.mem_map, not_exists, not_and]
    constructor
    · rintro ⟨h1, h2⟩
      exact ⟨by simpa using h1, fun h => h2 y h rfl⟩
    · rintro ⟨h1, h2⟩
      refine ⟨by simpa using h1, fun z hz ez => h2 ?_⟩
      have : z = y := by
        have h3 := hd z hz
        exact born_inj hnd h3 h1 ez
      rw [← this]; exact hz
  generalize hleft : (es.filter fun e => !((done.map (·.born)).toArray).contains e.born) = left at hc1 hc2 hmem
  have hch : ∀ N, 0 < N → ∃ n m, (choose (.mapNext N)).run P w = .ok n { w with drawn := m } ∧ n < N := by
    intro N hN
    rw [run_choose]
    by_cases hf : (Question.mapNext N).forced = true
    · exact ⟨0, w.drawn, by rw [if_pos hf], hN⟩
    · exact ⟨(Question.mapNext N).cut (w.tape w.drawn (.mapNext N)), w.drawn + 1, by rw [if_neg hf], Nat.mod_lt _ hN⟩
  have hrun : ∀ r' : Nat → Nat → Result Value, (∀ n m, n < ((if left.isEmpty = true then #[none] else #[]) ++ Array.map some left).size → (match ((if left.isEmpty = true then #[none] else #[]) ++ Array.map some left)[n]? with
            | some (some e) => (do setObj r (.mapIter (some b) clock ((done.map MapEntry.born).toArray.push e.born) clock); pure (Value.tuple #[.bool true, e.key, e.val]) : Sem Value)
            | some none => pure (.tuple #[.bool false])
            | none => stuck "Next: no such candidate").run P { w with drawn := m } = r' n m) →
      ∃ n m, n < ((if left.isEmpty = true then #[none] else #[]) ++ Array.map some left).size ∧ (execOp a.eval ⟨some d, .next x false, ty, pos, af, g⟩).run P w = (r' n m).andThen fun v w' => .ok (Next.value v) w' := by
    intro r' hr'
    have hpos : 0 < ((if left.isEmpty = true then #[none] else #[]) ++ Array.map some left).size := by
      by_cases he : left.isEmpty = true
      · rw [if_pos he]; simp; omega
      · rw [if_neg he]
        simp only [Array.isEmpty_iff_size_eq_zero] at he
        simp; exact Nat.pos_of_ne_zero (by simpa using he)
    obtain ⟨n, m, h1, h2⟩ := hch _ hpos
    refine ⟨n, m, h2, ?_⟩
    simp only [execOp, ev_eval ag hx, Instr.next, Sem.run_bind, hgi, Result.andThen_ok, hgo]
    rw [hnotall]
    simp only [Bool.false_eq_true, if_false, hleft, hc1, hc2, Array.append_empty, Sem.run_bind, h1, Result.andThen_ok]
    rw [← hr' n m h2]
    rfl
  by_cases he : left.isEmpty = true
  · have hl : left = #[] := by simpa using he
    obtain ⟨n, m, hn, h⟩ := hrun (fun _ m => .ok (.tuple #[.bool false]) { w with drawn := m }) (fun n m hn => by
      subst hl
      have : n = 0 := by simp at hn; exact hn
      subst this; simp)
    rw [h]
    refine ⟨L, F, .refl _, st.drawn _, K1 fun y hy => ?_⟩
    by_cases hd' : y ∈ done
    · exact hd'
    · have := (hmem y).2 ⟨hy, hd'⟩
      simp [hl] at this
  · have hsz : ∀ n : Nat, ((if left.isEmpty = true then #[none] else #[]) ++ Array.map some left)[n]? = (left[n]?).map some := by
      intro n; rw [if_neg he]; simp
    obtain ⟨n, m, hn, h⟩ := hrun (fun n m => match left[n]? with
        | some y => .ok (.tuple #[.bool true, y.key, y.val]) { w with drawn := m, heap := w.heap.setIfInBounds r (.mapIter (some b) clock ((done.map (·.born)).toArray.push y.born) clock) }
        | none => .ok undef w) (fun n m hn => by
      rw [hsz]
      have hlt : n < left.size := by rw [if_neg he] at hn; simpa using hn
      rw [Array.getElem?_eq_getElem hlt]
      simp only [Option.map_some, Sem.run_bind, hso { w with drawn := m } _ rfl, Result.andThen_ok, Sem.run_pure])
    have hlt : n < left.size := by rw [if_neg he] at hn; simpa using hn
    rw [h]
    simp only [Array.getElem?_eq_getElem hlt, Result.andThen_ok]
    have hy := (hmem left[n]).1 (Array.getElem_mem hlt)
    refine ⟨iterP r b clock (done ++ [left[n]]) :: R, F, .refl _, ?_, K2 _ hy.1 hy.2⟩
    have := (s1.drawn m).set (.mapIter (some b) clock ((done.map (·.born)).toArray.push left[n].born) clock)
    simpa [iterP] using this

/-- the entry that the last step came to -/
theorem to_entry [nm : NM E] {es : Array MapEntry} {clock r : Nat} {done : List MapEntry} {e1 : MapEntry} [fb : FB r L (iterP r b clock (done ++ [e1])) R] (ma : MapAt L F b es clock) (hnd : (es.toList.map (·.born)).Nodup) (hd : e1 ∈ es.toList)
    (hg : gd σ ops g = some true) (hx : ev σ x = some (.pointer (some ⟨r, 0, none⟩)))
    (K : TO P E D L F ops os k ((d, .tuple #[e1.key, e1.val]) :: σ) Φ) : TO P E D L F ops (⟨some d, .entry x, ty, pos, af, g⟩ :: os) k σ Φ := by
  refine to_rd hg (.inl rfl) (fun w a ag st => ?_) K
  have s1 := st.perm fb.p
  have hgi : (getObj r).run P w = .ok (.mapIter (some b) clock ((done ++ [e1]).map (·.born)).toArray clock) w := run_getObj s1.at1 (by intro c t f e; cases e)
  have hgo := run_getMap (P := P) (ma.h w st)
  have hf : es.find? (fun y => y.born == e1.born) = some e1 := by
    cases hq : es.find? (fun y => y.born == e1.born) with
    | none =>
      rw [Array.find?_eq_none] at hq
      exact absurd (by simp) (hq e1 (by simpa using hd))
    | some y =>
      have h1 := Array.mem_of_find?_eq_some hq
      have h2 := Array.find?_some hq
      have h3 : y = e1 := born_inj hnd (by simpa using h1) hd (by simpa using h2)
      rw [h3]
  have hb : (((done ++ [e1]).map (·.born)).toArray).back? = some e1.born := by simp
  simp [execOp, ev_eval ag hx, Instr.entry, hgi, hgo]
  simp [hf]
end
end Go.Au
end

section
set_option linter.unusedVariables false
set_option linter.unusedSimpArgs false
namespace Go.Au
open Go

/-- type t holds the values of ρ, n cells each, y bytes -/
class ElT {β : Type} (P : Program) (t : TypeId) (ρ : Rel β) (n : outParam Nat) (y : outParam Nat) : Prop where
  len : ∀ F x v, ρ.r F x v → (cellsL v).length = n ∧ (∀ u ∈ cellsL v, u.oneCell' = true)
  ld : ∀ F x v, ρ.r F x v → ∀ w a, (∀ j u, (cellsL v)[j]? = some u → w.cell? (Addr.add a j) = some u) → (loadVar t a).run P w = .ok v w
  size : ∀ w, (sizeOf t).run P w = .ok n w
  bytes : ∀ w, ∃ i, (typeInfo t).run P w = .ok i w ∧ i.bytes = y
  zero : ∃ z, ∀ w, (zeroValue t).run P w = .ok z w ∧ z.cells.size = n
  pos : 0 < n
  ypos : 0 < y

theorem ElT.sca {β : Type} {P : Program} {t : TypeId} {ρ : Rel β} {zs : List Value} {y : Nat} [Inf P t zs 1 y] [ScaT P t] (hz : zs.length = 1) (hy : 0 < y) (h : ∀ F x v, ρ.r F x v → noAgg v = true ∧ v.oneCell' = true) : ElT P t ρ 1 y where
  len F x v hr := by
    obtain ⟨h1, h2⟩ := h F x v hr
    have : cellsL v = [v] := by cases v <;> first | rfl | cases h1
    rw [this]; simp [h2]
  ld F x v hr w a hc := by
    obtain ⟨h1, h2⟩ := h F x v hr
    have : cellsL v = [v] := by cases v <;> first | rfl | cases h1
    rw [this] at hc
    have := hc 0 v rfl
    exact run_load_one (by simpa [Addr.add] using this)
  size w := run_size (zs := zs) (y := y) w
  bytes w := run_bytes (zs := zs) (n := 1) w
  zero := by
    obtain ⟨i, z, h1, h2, h3, _⟩ := (inferInstance : Inf P t zs 1 y).h
    exact ⟨z, fun w => ⟨by simp [zeroValue, typeInfo, h1, h2], by rw [← Array.length_toList, h3, hz]⟩⟩
  pos := by decide
  ypos := hy
theorem ElT.agg {β : Type} {P : Program} {t : TypeId} {ρ : Rel β} {zs : List Value} {n y : Nat} [Inf P t zs n y] [AggT P t] (hz : zs.length = n) (hn : 0 < n) (hy : 0 < y)
    (h : ∀ F x v, ρ.r F x v → ∃ cs : List Value, v = .agg cs.toArray ∧ cs.length = n ∧ ∀ u ∈ cs, u.oneCell' = true) : ElT P t ρ n y where
  len F x v hr := by
    obtain ⟨cs, rfl, h1, h2⟩ := h F x v hr
    exact ⟨by simpa [cellsL] using h1, by simpa [cellsL] using h2⟩
  ld F x v hr w a hc := by
    obtain ⟨cs, rfl, h1, h2⟩ := h F x v hr
    exact run_load_agg (zs := zs) (n := n) (by_ := y) h1 (by simpa [cellsL] using hc)
  size w := run_size (zs := zs) (y := y) w
  bytes w := run_bytes (zs := zs) (n := n) w
  zero := by
    obtain ⟨i, z, h1, h2, h3, _⟩ := (inferInstance : Inf P t zs n y).h
    exact ⟨z, fun w => ⟨by simp [zeroValue, typeInfo, h1, h2], by rw [← Array.length_toList, h3, hz]⟩⟩
  pos := hn
  ypos := hy

def flat (vs : List Value) : List Value := vs.flatMap cellsL
theorem flat_nil : flat [] = [] := rfl
theorem flat_cons (v : Value) (vs : List Value) : flat (v :: vs) = cellsL v ++ flat vs := by simp [flat]
theorem flat_append (us vs : List Value) : flat (us ++ vs) = flat us ++ flat vs := by simp [flat]
section el
variable {β : Type} {P : Program} {t : TypeId} {ρ : Rel β} {n y : Nat} {F : Frz}
theorem flat_len [e : ElT P t ρ n y] : ∀ {xs : List β} {vs : List Value}, F2 (ρ.r F) xs vs → (flat vs).length = xs.length * n
  | _, _, .nil => by simp [flat]
  | _, _, .cons h r => by rw [flat_cons, List.length_append, flat_len r, (e.len _ _ _ h).1, List.length_cons, Nat.add_mul]; omega
theorem flat_one [e : ElT P t ρ n y] : ∀ {xs : List β} {vs : List Value}, F2 (ρ.r F) xs vs → ∀ u ∈ flat vs, u.oneCell' = true
  | _, _, .nil => by simp [flat]
  | _, _, .cons h r => by
    intro u hu
    rw [flat_cons] at hu
    rcases List.mem_append.1 hu with hu | hu
    · exact (e.len _ _ _ h).2 u hu
    · exact flat_one r u hu
theorem flat_drop [e : ElT P t ρ n y] : ∀ {xs : List β} {vs : List Value} (i : Nat), F2 (ρ.r F) xs vs → (flat vs).drop (i * n) = flat (vs.drop i)
  | _, _, i, .nil => by simp [flat]
  | _, _, 0, .cons h r => by simp
  | _, _, i + 1, .cons h r => by
    have hl := (e.len _ _ _ h).1
    rw [flat_cons, List.drop_succ_cons, ← flat_drop i r, Nat.succ_mul, Nat.add_comm, List.drop_append, hl, List.drop_eq_nil_of_le (by rw [hl]; omega), List.nil_append, Nat.add_sub_cancel_left]
theorem flat_take [e : ElT P t ρ n y] : ∀ {xs : List β} {vs : List Value} (i : Nat), F2 (ρ.r F) xs vs → (flat vs).take (i * n) = flat (vs.take i)
  | _, _, i, .nil => by simp [flat]
  | _, _, 0, .cons h r => by simp [flat]
  | _, _, i + 1, .cons h r => by
    have hl := (e.len _ _ _ h).1
    rw [flat_cons, List.take_succ_cons, flat_cons, ← flat_take i r, Nat.succ_mul, Nat.add_comm, List.take_append, hl, List.take_of_length_le (by rw [hl]; omega), Nat.add_sub_cancel_left]
end el

/-- A slice over frozen memory. -/
def slR {β : Type} (ρ : Rel β) (n : Nat) : Rel (List β) where
  r F xs v := (xs = [] ∧ ∃ a cap, v = .slice a 0 cap) ∨ ∃ b o cap vs, v = .slice (some ⟨b, o, none⟩) xs.length cap ∧ xs ≠ [] ∧ xs.length ≤ cap ∧ F2 (ρ.r F) xs vs ∧ RoC F b o (flat vs)
  mono := by
    rintro F G xs v le (h | ⟨b, o, cap, vs, h1, h2, h2', h3, h4⟩)
    · exact .inl h
    · exact .inr ⟨b, o, cap, vs, h1, h2, h2', h3.imp fun _ _ h => ρ.mono le h, h4.mono⟩
theorem slR_len {β : Type} {ρ : Rel β} {n : Nat} {F : Frz} {xs : List β} {v : Value} (h : (slR ρ n).r F xs v) : ∃ a cap, v = .slice a xs.length cap := by
  rcases h with ⟨rfl, a, cap, rfl⟩ | ⟨b, o, cap, vs, rfl, _⟩
  · exact ⟨a, cap, rfl⟩
  · exact ⟨_, cap, rfl⟩
theorem slR_nil {β : Type} (ρ : Rel β) (n : Nat) (F : Frz) (a : Option Addr) (cap : Nat) : (slR ρ n).r F [] (.slice a 0 cap) := .inl ⟨rfl, a, cap, rfl⟩

/-- A slice that is ours alone: from its row's beginning. -/
def OSl {β : Type} (ρ : Rel β) (n : Nat) (et : TypeId) (v : Value) (xs : List β) : HP where
  P F h := (xs = [] ∧ h = [] ∧ ∃ a, v = .slice a 0 0) ∨ ∃ b cap vs junk, v = .slice (some ⟨b, 0, none⟩) xs.length cap ∧ F2 (ρ.r F) xs vs ∧ (junk.length + xs.length * n = cap * n) ∧ (own b (flat vs ++ junk) et).P F h
  mono := by
    rintro F G h le (h1 | ⟨b, cap, vs, junk, h1, h2, h3, h4⟩)
    · exact .inl h1
    · exact .inr ⟨b, cap, vs, junk, h1, h2.imp fun _ _ h => ρ.mono le h, h3, (own b _ et).mono le h4⟩

/-- the owned slice that a value is -/
class FV (v : Value) (L : List HP) (A : outParam HP) (R : outParam (List HP)) : Prop where
  p : L.Perm (A :: R)
instance fv_tl {v : Value} {B : HP} {L R : List HP} {A : HP} [h : FV v L A R] : FV v (B :: L) A (B :: R) := ⟨(h.p.cons B).trans (.swap A B R)⟩
instance fv_nil {v : Value} {B R : List HP} {A : HP} [h : FV v B A R] : FV v ([] ++ B) A R := ⟨h.p⟩
instance fv_at {v : Value} {X : HP} {L B R : List HP} {A : HP} [h : FV v (L ++ B) A R] : FV v ((X :: L) ++ B) A (X :: R) := ⟨(h.p.cons X).trans (.swap A X R)⟩
instance fv_osl {β : Type} {ρ : Rel β} {n : Nat} {et : TypeId} {v : Value} {xs : List β} {L : List HP} : FV v (OSl ρ n et v xs :: L) (OSl ρ n et v xs) L := ⟨.refl _⟩
instance fv_osla {β : Type} {ρ : Rel β} {n : Nat} {et : TypeId} {v : Value} {xs : List β} {L B : List HP} : FV v ((OSl ρ n et v xs :: L) ++ B) (OSl ρ n et v xs) (L ++ B) := ⟨.refl _⟩

section
variable {P : Program} {E : Ex} {D : List Deferred} {L L' R : List HP} {F F' F0 : Frz} {k : List Item} {σ σ' : Sg} {Φ Ψ : Fin} {ops : Array Oper} {os : List Oper}
  {ty : TypeId} {pos : String} {af : Array Edge} {d b o : Nat} {g : Option (Nat × Bool)} {t et : TypeId} {x y z : Operand} {v u : Value}
  {zs : List Value} {n by_ : Nat} {β : Type} {ρ : Rel β} {xs ys : List β}

theorem St.openSl {w : World} (s : St w (OSl ρ n et v xs :: L) F) : (xs = [] ∧ (∃ a, v = .slice a 0 0) ∧ St w L F) ∨
    ∃ b cap vs junk, v = .slice (some ⟨b, 0, none⟩) xs.length cap ∧ F2 (ρ.r F) xs vs ∧ (junk.length + xs.length * n = cap * n) ∧ St w (own b (flat vs ++ junk) et :: L) F := by
  obtain ⟨h, ⟨h1, h2, rfl, e, r⟩, ow⟩ := s
  rcases e with ⟨e1, e2, e3⟩ | ⟨b, cap, vs, junk, e1, e2, e3, e4⟩
  · subst e2; exact .inl ⟨e1, e3, h2, r, by simpa using ow⟩
  · exact .inr ⟨b, cap, vs, junk, e1, e2, e3, h1 ++ h2, ⟨h1, h2, rfl, e4, r⟩, ow⟩
theorem St.shutSl0 {w : World} (s : St w L F) (a : Option Addr) : St w (OSl ρ n et (.slice a 0 0) [] :: L) F := by
  obtain ⟨h, r, ow⟩ := s
  exact ⟨h, ⟨[], h, rfl, .inl ⟨rfl, rfl, a, rfl⟩, r⟩, ow⟩
theorem St.shutSl {w : World} {b cap : Nat} {vs junk : List Value} (h2 : F2 (ρ.r F) xs vs) (h3 : junk.length + xs.length * n = cap * n) (s : St w (own b (flat vs ++ junk) et :: L) F) :
    St w (OSl ρ n et (.slice (some ⟨b, 0, none⟩) xs.length cap) xs :: L) F := by
  obtain ⟨h, ⟨h1, h2', rfl, e, r⟩, ow⟩ := s
  exact ⟨h1 ++ h2', ⟨h1, h2', rfl, .inr ⟨b, cap, vs, junk, rfl, h2, h3, e⟩, r⟩, ow⟩

theorem St.freezeSl {w : World} [el : ElT P et ρ n by_] (s : St w (OSl ρ n et v xs :: L) F) : ∃ F', FLe F F' ∧ St w L F' ∧ (slR ρ n).r F' xs v := by
  rcases s.openSl with ⟨rfl, ⟨a, rfl⟩, s0⟩ | ⟨b, cap, vs, junk, rfl, h2, h3, s⟩
  · exact ⟨F, .refl _, s0, slR_nil _ _ _ _ _⟩
  · obtain ⟨fr, _, s1⟩ := s.openOwn
    obtain ⟨le, s2⟩ := s1.freeze
    refine ⟨_, le, s2, ?_⟩
    by_cases hx : xs = []
    · subst hx; exact slR_nil _ _ _ _ _
    · refine .inr ⟨b, 0, cap, vs, rfl, hx, ?_, h2.imp fun _ _ h => ρ.mono le h, (flat vs ++ junk).toArray, et, fr, by simp [Frz.add], fun j u hj => ?_⟩
      · have hp := el.pos
        rcases Nat.lt_or_ge cap xs.length with hlt | hge
        · have := Nat.mul_lt_mul_of_pos_right hlt hp; omega
        · exact hge
      · have hlt : j < (flat vs).length := by
          rcases Nat.lt_or_ge j (flat vs).length with h | h
          · exact h
          · rw [List.getElem?_eq_none h] at hj; cases hj
        simp [List.getElem?_append_left hlt, hj]

/-- An owned slice is frozen. -/
theorem t_freeze (v : Value) {ρ : Rel β} {et : TypeId} {xs : List β} [fv : FV v L (OSl ρ n et v xs) R] [el : ElT P et ρ n by_] (K : ∀ F', FS F F' → (slR ρ n).r F' xs v → T P E D R F' k σ Φ) : T P E D L F k σ Φ :=
  t_conv fun w st => by
    obtain ⟨F', le, s, h⟩ := (st.perm fv.p).freezeSl (P := P) (by_ := by_)
    exact ⟨R, F', le, s, K F' ⟨le⟩ h⟩
theorem to_freeze (v : Value) {ρ : Rel β} {et : TypeId} {xs : List β} [fv : FV v L (OSl ρ n et v xs) R] [el : ElT P et ρ n by_] (K : ∀ F', FS F F' → (slR ρ n).r F' xs v → TO P E D R F' ops os k σ Φ) : TO P E D L F ops os k σ Φ :=
  to_conv fun w st => by
    obtain ⟨F', le, s, h⟩ := (st.perm fv.p).freezeSl (P := P) (by_ := by_)
    exact ⟨R, F', le, s, K F' ⟨le⟩ h⟩

/-! #### len -/
theorem osl_len {w : World} (s : St w (OSl ρ n et v xs :: L) F) : ∃ a cap, v = .slice a xs.length cap := by
  rcases s.openSl with ⟨rfl, ⟨a, rfl⟩, _⟩ | ⟨b, cap, vs, junk, rfl, _⟩
  · exact ⟨a, 0, rfl⟩
  · exact ⟨_, cap, rfl⟩
theorem exec_len {a : Act} (ag : Agree σ a.tmps) {st et : TypeId} [Und P st (.slice et)] {ad : Option Addr} {len cap : Nat} {w : World} (hx : ev σ x = some (.slice ad len cap)) :
    (execOp a.eval ⟨some d, .call ⟨.builtin .len, #[x], #[st]⟩, ty, pos, af, g⟩).run P w = .ok (.value (.int .i64 len)) w := by
  simp [execOp, resolve, invoke, builtin, Builtin.len_, ev_eval ag hx, run_und (P := P) (t := st) w, goInt]
theorem to_lenO {v : Value} {st : TypeId} {tys : Array TypeId} [hu : Und P st (.slice et)] [fv : FV v L (OSl ρ n et v xs) R] (hg : gd σ ops g = some true) (ht : tys = #[st]) (hx : ev σ x = some v)
    (K : TO P E D L F ops os k ((d, .int .i64 xs.length) :: σ) Φ) : TO P E D L F ops (⟨some d, .call ⟨.builtin .len, #[x], tys⟩, ty, pos, af, g⟩ :: os) k σ Φ := by
  subst ht
  refine to_sx fun w a ag st' => ?_
  obtain ⟨ad, cap, e⟩ := osl_len (st'.perm fv.p)
  subst e
  exact SX.of0 (v := .int .i64 xs.length) (by unfold PV; rw [if_pos (gd_wanted (o := ⟨some d, .call ⟨.builtin .len, #[x], #[st]⟩, ty, pos, af, g⟩) ag hg)]; exact fun w' => exec_len (et := et) ag hx) ⟨L, F, .refl _, st', K⟩
theorem to_lenR {v : Value} {st et : TypeId} {tys : Array TypeId} [hu : Und P st (.slice et)] (h : (slR ρ n).r F0 xs v) (hg : gd σ ops g = some true) (ht : tys = #[st]) (hx : ev σ x = some v)
    (K : TO P E D L F ops os k ((d, .int .i64 xs.length) :: σ) Φ) : TO P E D L F ops (⟨some d, .call ⟨.builtin .len, #[x], tys⟩, ty, pos, af, g⟩ :: os) k σ Φ := by
  obtain ⟨ad, cap, e⟩ := slR_len h
  subst e; subst ht
  exact to_val hg (fun w a ag => exec_len (et := et) ag hx) K

/-! #### Elements of a frozen slice -/
theorem roc_elem [e : ElT P t ρ n by_] {vs : List Value} {F1 : Frz} (h : F2 (ρ.r F1) xs vs) (hc : RoC F b o (flat vs)) {j : Nat} {q : β} (hj : xs[j]? = some q) : ∃ v, vs[j]? = some v ∧ ρ.r F1 q v ∧ RoC F b (o + j * n) (cellsL v) := by
  obtain ⟨v, hv, hr⟩ := h.get hj
  refine ⟨v, hv, hr, ?_⟩
  have h1 := hc.drop (j * n)
  rw [flat_drop (P := P) (t := t) (y := by_) j h] at h1
  have h2 : vs.drop j = v :: vs.drop (j + 1) := by
    have hlt : j < vs.length := by
      rcases Nat.lt_or_ge j vs.length with h | h
      · exact h
      · rw [List.getElem?_eq_none h] at hv; cases hv
    rw [List.drop_eq_getElem_cons hlt]
    rw [List.getElem?_eq_getElem hlt] at hv
    cases hv; rfl
  rw [h2, flat_cons] at h1
  have h3 := h1.take (cellsL v).length
  rw [List.take_left'] at h3
  · exact h3
  · rfl
theorem slR_elem [e : ElT P t ρ n by_] (h : (slR ρ n).r F xs v) {j : Nat} {q : β} (hj : xs[j]? = some q) : ∃ b o cap u, v = .slice (some ⟨b, o, none⟩) xs.length cap ∧ j < xs.length ∧ ρ.r F q u ∧ RoC F b (o + j * n) (cellsL u) := by
  have hlt : j < xs.length := by
    rcases Nat.lt_or_ge j xs.length with h | h
    · exact h
    · rw [List.getElem?_eq_none h] at hj; cases hj
  rcases h with ⟨rfl, _⟩ | ⟨b, o, cap, vs, rfl, h2, h2', h3, h4⟩
  · cases hj
  · obtain ⟨u, _, hr, hc⟩ := roc_elem (P := P) (t := t) (by_ := by_) h3 h4 hj
    exact ⟨b, o, cap, u, rfl, hlt, hr, hc⟩
/-- the load of an element that is frozen -/
theorem to_ldV [nm : NM E] [le : FLe F0 F] [e : ElT P t ρ n by_] {F1 : Frz} {q : β} (hr : ρ.r F1 q u) (hc : RoC F0 b o (cellsL u)) (hg : gd σ ops g = some true) (hx : ev σ x = some (.pointer (some ⟨b, o, none⟩)))
    (K : TO P E D L F ops os k ((d, u) :: σ) Φ) : TO P E D L F ops (⟨some d, .load t x, ty, pos, af, g⟩ :: os) k σ Φ :=
  to_loadF hg hx (fun w st => e.ld _ _ _ hr w _ (fun j u hu => by
    obtain ⟨arr, t1, fr, e, c⟩ := hc
    rw [Addr.add_none, st.cellRo (le.ro _ _ e)]; exact c j u hu)) K

/-! #### append -/
theorem next_le (need cap : Nat) (h : cap < need) : Builtin.nextslicecap need cap ≤ 2 * need := by
  unfold Builtin.nextslicecap
  have hg : ∀ r c, c < need ∨ c ≤ 2 * need → 256 ≤ need → c ≤ 2 * need → Builtin.growBy need r c ≤ 2 * need := by
    intro r
    induction r with
    | zero => intro c _ _ hc; simpa [Builtin.growBy] using hc
    | succ r ih =>
      intro c _ h256 hc
      unfold Builtin.growBy
      split
      · exact hc
      · rename_i hlt
        exact ih _ (.inr (by omega)) h256 (by omega)
  split
  · omega
  · split
    · omega
    · exact hg 4 cap (.inl h) (by omega) (by omega)
/-- What may be appended: cells that can be read. -/
def SrcA (P : Program) (n : Nat) (L : List HP) (F : Frz) (xt : TypeId) (v : Value) (k : Nat) (cs : List Value) : Prop := ∀ w, St w L F → Go.Src P n xt v k cs w
theorem src_ro {xt e' : TypeId} [hk : Und P xt (.slice e')] [el : ElT P et ρ n by_] [le : FLe F0 F] (h : (slR ρ n).r F0 xs v) : ∃ vs, F2 (ρ.r F0) xs vs ∧ SrcA P n L F xt v xs.length (flat vs) := by
  rcases h with ⟨rfl, a, cap, rfl⟩ | ⟨b, o, cap, vs, rfl, h2, h2', h3, h4⟩
  · refine ⟨[], .nil, fun w st => ?_⟩
    cases a with
    | none => exact Go.Src.ofNil w hk.h cap
    | some a => exact Go.Src.ofSlice w hk.h a 0 cap [] (by simp) (by simp) (by simp)
  · refine ⟨vs, h3, fun w st => Go.Src.ofSlice w hk.h _ _ cap _ (flat_len (P := P) (t := et) (y := by_) h3) (fun j u hj => ?_) (flat_one (P := P) (t := et) (n := n) (y := by_) h3)⟩
    obtain ⟨arr, t1, fr, e, c⟩ := h4
    rw [Addr.add_none, st.cellRo (le.ro _ _ e)]; exact c j u hj
theorem src_own {xt e' : TypeId} [hk : Und P xt (.slice e')] {cs : List Value} {t' : TypeId} {m cap : Nat} [fb : FB b L (own b cs t') R] (hm : cs.length = m * n) (h1 : ∀ u ∈ cs, u.oneCell' = true) :
    SrcA P n L F xt (.slice (some ⟨b, 0, none⟩) m cap) m cs := fun w st =>
  Go.Src.ofSlice w hk.h _ _ cap _ hm (fun j u hj => by rw [Addr.add_none, (st.perm fb.p).cell, Nat.zero_add]; exact hj) h1
theorem src_str {xt : TypeId} [hk : Und P xt .string] (s : ByteArray) : SrcA P 1 L F xt (.string s) s.size (byteCells s) := fun w st => Go.Src.ofString w hk.h s

theorem setN_append (us : List Value) : ∀ (vs asz bs : List Value), asz.length = us.length → (setN (vs ++ asz ++ bs) vs.length us) = vs ++ us ++ bs := by
  induction us with
  | nil => intro vs asz bs h; simp at h; subst h; simp [setN]
  | cons u us ih =>
    intro vs asz bs h
    cases asz with
    | nil => simp at h
    | cons a asz =>
      have h1 : (vs ++ a :: asz ++ bs).set vs.length u = (vs ++ [u]) ++ asz ++ bs := by simp
      rw [setN, h1]
      have := ih (vs ++ [u]) asz bs (by simpa using h)
      rw [List.length_append] at this
      simp only [List.length_singleton] at this
      rw [this]; simp
theorem F2.nil_of {α γ : Type} {R : α → γ → Prop} {m : List γ} (h : F2 R [] m) : m = [] := by cases h; rfl

theorem grow_case {w : World} {st xt hty : TypeId} {src : Value} {us vs : List Value} [hu : Und P st (.slice et)] [el : ElT P et ρ n by_] {base : Option Addr} {len cap : Nat} (hlen : len = xs.length) (hvs : F2 (ρ.r F) xs vs)
    (hold : ∀ w', w'.heap = w.heap → (Builtin.firstCells n len (.slice base len cap)).run P w' = .ok (flat vs).toArray w') (hs : Go.Src P n xt src ys.length (flat us) w) (hy : F2 (ρ.r F) ys us)
    (hb : (xs.length + ys.length) * by_ ≤ 140737488355328) (hg : cap < len + ys.length) (hst : St w R F) :
    ∃ v' w', (Builtin.append_ #[st, xt] hty #[.slice base len cap, src]).run P w = .ok v' w' ∧ St w' (OSl ρ n et v' (xs ++ ys) :: R) F := by
  subst hlen
  have hyp := el.ypos
  have hnp := el.pos
  obtain ⟨z, hz⟩ := el.zero
  have hinfo : ∃ i, P.info? et = some i ∧ i.size = n ∧ i.bytes = by_ ∧ i.zero = some z := by
    have h1 := el.size w
    obtain ⟨i, h2, h3⟩ := el.bytes w
    have h4 := (hz w).1
    unfold sizeOf at h1
    rw [Sem.run_bind, h2, Result.andThen_ok, Sem.run_pure] at h1
    unfold zeroValue at h4
    rw [Sem.run_bind, h2, Result.andThen_ok] at h4
    have h5 : P.info? et = some i := by
      unfold typeInfo at h2
      cases hi : P.info? et with
      | none => simp [hi] at h2
      | some j => simp [hi] at h2; rw [h2]
    refine ⟨i, h5, by injection h1, h3, ?_⟩
    cases hzz : i.zero with
    | none => rw [hzz] at h4; simp at h4
    | some z' => rw [hzz] at h4; simp at h4; rw [h4]
  obtain ⟨i, hi, hi1, hi2, hi3⟩ := hinfo
  subst hi1; subst hi2
  have h1 : xs.length + ys.length ≤ 140737488355328 := by
    have := Nat.le_mul_of_pos_right (xs.length + ys.length) hyp; omega
  have hrun := run_append_grow_src w st xt hty et i z hu.h hi hi3 base xs.length cap (flat vs) (hold w.drew rfl) src ys.length (flat us) hs hg (by omega)
    (by have := Nat.mul_le_mul_right i.bytes (next_le _ _ hg); have h2 : 2 * (xs.length + ys.length) * i.bytes = 2 * ((xs.length + ys.length) * i.bytes) := by rw [Nat.mul_assoc]
        omega)
  refine ⟨_, _, hrun, ?_⟩
  have hcap : xs.length + ys.length ≤ grownCap w (xs.length + ys.length) cap et := by
    unfold grownCap; simp only [Question.cut]; omega
  generalize hgc : grownCap w (xs.length + ys.length) cap et = gc at hcap ⊢
  have hst1 : St w.drew R F := hst.drawn _
  have h3 := hst1.newOwn (flat (vs ++ us) ++ (Builtin.zeroCells z.cells (gc - (xs.length + ys.length))).toList) et
  have h4 := h3.shutSl (xs := xs ++ ys) (cap := gc) (ρ := ρ) (n := i.size) (hvs.append hy) (by
    have : (Builtin.zeroCells z.cells (gc - (xs.length + ys.length))).size = (gc - (xs.length + ys.length)) * i.size := by
      simp [Builtin.zeroCells, (hz w).2]
    rw [Array.length_toList, this, List.length_append, ← Nat.add_mul]
    congr 1; omega)
  rw [List.length_append] at h4
  rw [flat_append] at h4
  have e : (flat vs ++ flat us).toArray ++ Builtin.zeroCells z.cells (gc - (xs.length + ys.length)) = (flat vs ++ flat us ++ (Builtin.zeroCells z.cells (gc - (xs.length + ys.length))).toList).toArray := by
    apply Array.ext'
    rw [Array.toList_append]
  rw [e]
  exact h4

theorem run_append {w : World} {st xt hty : TypeId} {src : Value} {us : List Value} [hu : Und P st (.slice et)] [el : ElT P et ρ n by_]
    (s : St w (OSl ρ n et v xs :: R) F) (hs : Go.Src P n xt src ys.length (flat us) w) (hy : F2 (ρ.r F) ys us)
    (hb : (xs.length + ys.length) * by_ ≤ 140737488355328) :
    ∃ v' w', (Builtin.append_ #[st, xt] hty #[v, src]).run P w = .ok v' w' ∧ St w' (OSl ρ n et v' (xs ++ ys) :: R) F := by
  have hyp := el.ypos
  have hnp := el.pos
  have hlu : (flat us).length = ys.length * n := flat_len (P := P) (t := et) (y := by_) hy
  rcases s.openSl with ⟨rfl, ⟨a, rfl⟩, s0⟩ | ⟨b, cap, vs, junk, rfl, h2, h3, s1⟩
  · by_cases hyn : ys = []
    · subst hyn
      cases F2.nil_of hy
      refine ⟨.slice a 0 0, w, ?_, s⟩
      have hsz := el.size w
      have hl := hs.len w
      have hc := hs.cells
      simp only [flat_nil, List.length_nil] at hl hc
      rcases hs.kind with ⟨e', hk⟩ | hk
      · cases a <;> simp [Builtin.append_, run_und (P := P) (t := st) w, run_underlying hk, hsz, hl, hc, storeCells]
      · cases a <;> simp [Builtin.append_, run_und (P := P) (t := st) w, run_underlying hk, hsz, hl, hc, storeCells]
    · have hpos : 0 < ys.length := List.length_pos_iff.2 hyn
      exact grow_case (xs := []) (ρ := ρ) (by_ := by_) (vs := []) rfl .nil (fun w' _ => by cases a <;> simp [Builtin.firstCells, flat, loadCells, loadCellsFrom]) hs hy hb (by omega) s0
  · have hlv : (flat vs).length = xs.length * n := flat_len (P := P) (t := et) (y := by_) h2
    have hcap : xs.length ≤ cap := by
      rcases Nat.lt_or_ge cap xs.length with hlt | hge
      · have := Nat.mul_lt_mul_of_pos_right hlt hnp; omega
      · exact hge
    by_cases hfit : xs.length + ys.length ≤ cap
    · have hjl : ys.length * n ≤ junk.length := by
        have := Nat.mul_le_mul_right n hfit
        rw [Nat.add_mul] at this; omega
      obtain ⟨w', r', s'⟩ := St.storeCells (P := P) (b := b) (o := xs.length * n) (t := et) (flat us) (flat vs ++ junk) 0 w s1 hs.one (by rw [List.length_append, hlu, hlv]; omega)
      have hobt : ∃ i, P.info? et = some i ∧ i.size = n := by
        have h1 := el.size w
        obtain ⟨i, h2, _⟩ := el.bytes w
        unfold sizeOf at h1
        rw [Sem.run_bind, h2, Result.andThen_ok, Sem.run_pure] at h1
        unfold typeInfo at h2
        cases hi : P.info? et with
        | none => simp [hi] at h2
        | some j => simp [hi] at h2; exact ⟨j, rfl, by rw [h2]; injection h1⟩
      obtain ⟨i, hi, hin⟩ := hobt
      subst hin
      have hc0 : ∀ j, j < (flat us).length → (w.cell? ⟨b, xs.length * i.size + j, none⟩).isSome = true := fun j hj => by
        rw [s1.cell]
        rw [List.getElem?_eq_getElem (by rw [List.length_append]; omega)]; rfl
      have hf0 : ∀ j, j < (flat us).length → w.frozen? ⟨b, xs.length * i.size + j, none⟩ = false := fun j hj => by
        obtain ⟨fr, hfr, s2⟩ := s1.openOwn
        have := hfr.out (xs.length * i.size + j) (by rw [List.length_append]; omega)
        simp only [World.frozen?, s2.at1]; exact this
      have hrun := run_append_room_src w st xt hty et i hu.h hi b 0 xs.length cap src ys.length (flat us) hs hfit (by simpa using hc0) (by simpa using hf0)
      have hst := run_storeCells_cells (P := P) b (xs.length * i.size) (flat us) 0 w (by simpa using hc0) (by simpa using hf0) hs.one
      simp only [Nat.add_zero] at hst r'
      rw [hst] at r'
      injection r' with _ hw
      refine ⟨_, _, hrun, ?_⟩
      rw [Nat.zero_add, hw]
      have hset : setN (flat vs ++ junk) (xs.length * i.size + 0) (flat us) = flat (vs ++ us) ++ junk.drop (ys.length * i.size) := by
        have h5 := setN_append (flat us) (flat vs) (junk.take (ys.length * i.size)) (junk.drop (ys.length * i.size)) (by rw [List.length_take, hlu]; omega)
        rw [List.append_assoc, List.take_append_drop, hlv] at h5
        rw [Nat.add_zero, h5, flat_append]
      rw [hset] at s'
      have h6 := s'.shutSl (xs := xs ++ ys) (cap := cap) (ρ := ρ) (n := i.size) (h2.append hy) (by
        rw [List.length_drop, List.length_append, Nat.add_mul]; omega)
      rw [List.length_append] at h6
      exact h6
    · refine grow_case (xs := xs) (ρ := ρ) (by_ := by_) (vs := vs) rfl h2 (fun w' hw' => ?_) hs hy hb (by omega) s1.drop
      unfold Builtin.firstCells
      rw [← hlv]
      refine run_loadCells_list w' _ (flat vs) fun j u hj => ?_
      rw [Addr.add_none]
      have : w'.cell? ⟨b, 0 + j, none⟩ = w.cell? ⟨b, 0 + j, none⟩ := by simp [World.cell?, hw']
      rw [this, s1.cell, Nat.zero_add]
      have hlt : j < (flat vs).length := by
        rcases Nat.lt_or_ge j (flat vs).length with h | h
        · exact h
        · rw [List.getElem?_eq_none h] at hj; cases hj
      rw [List.getElem?_append_left hlt, hj]

/-- append(v, src..): a source that can be read -/
theorem to_app {st xt : TypeId} {tys : Array TypeId} {src : Value} {us : List Value} [hu : Und P st (.slice et)] [fv : FV v L (OSl ρ n et v xs) R] [el : ElT P et ρ n by_] (hg : gd σ ops g = some true) (ht : tys = #[st, xt])
    (hx : ev σ x = some v) (hy : ev σ y = some src) (hs : SrcA P n L F xt src ys.length (flat us)) (hr : F2 (ρ.r F) ys us) (hb : (xs.length + ys.length) * by_ ≤ 140737488355328) [kc : ∀ v', KpC E.ks L (OSl ρ n et v' (xs ++ ys) :: R)]
    (K : ∀ v', TO P E D (OSl ρ n et v' (xs ++ ys) :: R) F ops os k ((d, v') :: σ) Φ) : TO P E D L F ops (⟨some d, .call ⟨.builtin .append, #[x, y], tys⟩, ty, pos, af, g⟩ :: os) k σ Φ := by
  subst ht
  refine to_opK hg rfl fun w a ag stw => ?_
  obtain ⟨v', w', h1, h2⟩ := run_append (st := st) (xt := xt) (hty := ty) (ys := ys) (stw.perm fv.p) (hs w stw) hr hb
  have : (execOp a.eval ⟨some d, .call ⟨.builtin .append, #[x, y], #[st, xt]⟩, ty, pos, af, g⟩).run P w = .ok (.value v') w' := by
    simp [execOp, resolve, invoke, builtin, ev_eval ag hx, ev_eval ag hy, h1]
  rw [this]
  exact ⟨_, F, .refl _, h2, kc v', K v'⟩
end
end Go.Au
end

section
set_option linter.unusedVariables false
set_option linter.unusedSimpArgs false
namespace Go.Au
open Go

instance fb_oslL {β : Type} {ρ : Rel β} {n : Nat} {et : TypeId} {b len cap : Nat} {xs : List β} {L : List HP} : FB b (OSl ρ n et (.slice (some ⟨b, 0, none⟩) len cap) xs :: L) (OSl ρ n et (.slice (some ⟨b, 0, none⟩) len cap) xs) L := ⟨.refl _⟩
instance fb_oslLa {β : Type} {ρ : Rel β} {n : Nat} {et : TypeId} {b len cap : Nat} {xs : List β} {L B : List HP} : FB b ((OSl ρ n et (.slice (some ⟨b, 0, none⟩) len cap) xs :: L) ++ B) (OSl ρ n et (.slice (some ⟨b, 0, none⟩) len cap) xs) (L ++ B) := ⟨.refl _⟩

def zrep (zs : List Value) : Nat → List Value
  | 0 => []
  | n + 1 => zs ++ zrep zs n
theorem zrep_len (zs : List Value) : ∀ n, (zrep zs n).length = n * zs.length
  | 0 => by simp [zrep]
  | n + 1 => by rw [zrep, List.length_append, zrep_len zs n, Nat.add_mul]; omega
theorem zrep_get (zs : List Value) (hp : 0 < zs.length) : ∀ n i, i < n * zs.length → (zrep zs n)[i]? = zs[i % zs.length]?
  | 0, i, h => by omega
  | n + 1, i, h => by
    rw [zrep]
    by_cases hi : i < zs.length
    · rw [List.getElem?_append_left hi, Nat.mod_eq_of_lt hi]
    · rw [List.getElem?_append_right (by omega), zrep_get zs hp n (i - zs.length) (by rw [Nat.add_mul] at h; omega), ← Nat.mod_eq_sub_mod (by omega)]
theorem zrep_arr {z : Array Value} {zs : List Value} (hz : z.toList = zs) (hp : 0 < zs.length) (n : Nat) : (Array.range (n * zs.length)).map (fun i => z[i % z.size]!) = (zrep zs n).toArray := by
  subst hz
  apply Array.ext'
  apply List.ext_getElem?
  intro i
  simp only [Array.toList_map, Array.toList_range, List.getElem?_map]
  by_cases hi : i < n * z.toList.length
  · rw [zrep_get _ hp n i hi, List.getElem?_range hi]
    have hlt : i % z.size < z.size := Nat.mod_lt _ (by simpa using hp)
    simp [hlt]
  · rw [List.getElem?_eq_none (l := List.range _) (by simpa using hi), List.getElem?_eq_none (l := zrep _ _) (by rw [zrep_len]; omega)]; rfl
theorem zeroCells_eq {z : Array Value} {zs : List Value} (hz : z.toList = zs) (hp : 0 < zs.length) (n : Nat) : Builtin.zeroCells z n = (zrep zs n).toArray := by
  have := zrep_arr hz hp n
  have hs : zs.length = z.size := by rw [← hz, Array.length_toList]
  unfold Builtin.zeroCells
  rw [← this, hs]

section
variable {P : Program} {E : Ex} {D : List Deferred} {L L' R : List HP} {F F' F0 : Frz} {k : List Item} {σ σ' : Sg} {Φ Ψ : Fin} {ops : Array Oper} {os : List Oper}
  {ty : TypeId} {pos : String} {af : Array Edge} {d b o : Nat} {g : Option (Nat × Bool)} {t t' et : TypeId} {x y z : Operand} {v u : Value}
  {zs cs : List Value} {n by_ : Nat} {β : Type} {ρ : Rel β} {xs ys : List β} {len cap j : Nat} {q : β}

/-! #### Slice literals -/
theorem to_bsl {parts : Array (Nat × Operand)} {ws : List (Nat × Value)} [hu : Und P t (.slice et)] [hi : Inf P et zs n by_] [kc : ∀ b, KpC E.ks L (own b cs et :: L)] (hg : gd σ ops g = some true) (hp : evps σ parts.toList = some ws)
    (hf : fillL (fun i => some (i * n, n)) (zrep zs len) ws = some cs) (h0 : (Nat.blt 0 n && leq n zs && Nat.ble (len * n) 16777216) = true)
    (K : ∀ b, TO P E D (own b cs et :: L) F ops os k ((d, .slice (some ⟨b, 0, none⟩) len len) :: σ) Φ) : TO P E D L F ops (⟨some d, .buildSlice t len parts, ty, pos, af, g⟩ :: os) k σ Φ := by
  refine to_opK hg rfl fun w a ag st => ?_
  simp only [Bool.and_eq_true] at h0
  obtain ⟨⟨h1, h2⟩, h3⟩ := h0
  have h1 : 0 < n := by simpa using h1
  have h2 := leq_eq h2
  have h3 := Nat.le_of_ble_eq_true h3
  obtain ⟨z, hz, hzs⟩ := run_zero (P := P) (t := et) w
  have hpp : parts.map (fun p => (p.1, a.eval p.2)) = ws.toArray := by
    apply Array.ext'; simpa using evps_map ag hp
  have hfl := fill_of (pl := fun i => some (i * n, n)) (fun i off size e => by cases e; exact h1) hf
  have hsz : z.cells.size = n := by rw [← Array.length_toList, hzs, h2]
  have hza := zrep_arr hzs (by omega) len
  rw [h2] at hza
  have : (execOp a.eval ⟨some d, .buildSlice t len parts, ty, pos, af, g⟩).run P w = .ok (.value (.slice (some ⟨w.heap.size, 0, none⟩) len len)) { w with heap := w.heap.push (.cells cs.toArray et (0, 0)) } := by
    simp only [execOp]
    rw [hpp, Sem.run_bind]
    unfold Instr.buildSlice
    have h3' : ¬ (len * n > 2 ^ 24) := by have : (2 : Nat) ^ 24 = 16777216 := by decide
                                          omega
    by_cases hl : len * n = 0
    · have hlen : len = 0 := by
        rcases Nat.mul_eq_zero.1 hl with h | h
        · exact h
        · omega
      subst hlen
      have he : (Array.range 0).map (fun i => (#[] : Array Value)[i % (#[] : Array Value).size]!) = (zrep zs 0).toArray := by simp [zrep]
      simp only [Sem.run_bind, run_und (P := P) (t := t) w, Result.andThen_ok, run_size (P := P) (t := et) w, Nat.zero_mul, if_true, Sem.run_pure]
      rw [if_neg (by decide)]
      have hfl' : Instr.fill (fun i => some (i * n, n)) #[] ws = some cs.toArray := hfl
      simp [newRow, hfl', show Array.range 0 = #[] from rfl]
    · simp only [Sem.run_bind, run_und (P := P) (t := t) w, Result.andThen_ok, run_size (P := P) (t := et) w, Sem.run_pure]
      rw [if_neg h3', if_neg hl]
      simp only [Sem.run_bind, Sem.run_pure, Result.andThen_ok, hz, hza, hfl]
      simp [newRow]
  rw [this]
  exact ⟨_, F, .refl _, st.newOwn _ _, kc _, K _⟩

/-- The built row asz a slice of the call's own. -/
theorem to_osl {β : Type} (ρ : Rel β) (xs : List β) {vs : List Value} [fb : FB b L (own b cs et) R] (h : F2 (ρ.r F) xs vs) (he : flat vs = cs) (K : TO P E D (OSl ρ n et (.slice (some ⟨b, 0, none⟩) xs.length xs.length) xs :: R) F ops os k σ Φ) (b : Nat := b) :
    TO P E D L F ops os k σ Φ :=
  to_conv fun w st => ⟨_, F, .refl _, St.shutSl (junk := []) (cap := xs.length) h (by simp) (by rw [he, List.append_nil]; exact st.perm fb.p), K⟩

/-- append(v, q): the one new element lies in a row that was just built. -/
theorem to_app1 {st : TypeId} {tys : Array TypeId} [hu : Und P st (.slice et)] [fv : FV v L (OSl ρ n et v xs) R] {R1 : List HP} [fb : FB b L (own b cs t') R1] [el : ElT P et ρ n by_] (hg : gd σ ops g = some true) (ht : tys = #[st, st])
    (hx : ev σ x = some v) (hy : ev σ y = some (.slice (some ⟨b, 0, none⟩) 1 cap)) (hr : ρ.r F q u) (hc : cellsL u = cs) (hb : (xs.length + 1) * by_ ≤ 140737488355328) [kc : ∀ v', KpC E.ks L (OSl ρ n et v' (xs ++ [q]) :: R)]
    (K : ∀ v', TO P E D (OSl ρ n et v' (xs ++ [q]) :: R) F ops os k ((d, v') :: σ) Φ) : TO P E D L F ops (⟨some d, .call ⟨.builtin .append, #[x, y], tys⟩, ty, pos, af, g⟩ :: os) k σ Φ := by
  refine to_app (ys := [q]) (us := [u]) hg ht hx hy ?_ (.cons hr .nil) hb K
  have hl := el.len _ _ _ hr
  have : flat [u] = cs := by simp [flat, hc]
  rw [this]
  exact src_own (by rw [← hc, hl.1]; simp) (by rw [← hc]; exact hl.2)

/-! #### Cuts -/
def bnd (σ : Sg) : Option Operand → Int → Option Int
  | none, dflt => some dflt
  | some x, _ => match ev σ x with
    | some (.int _ i) => some i
    | _ => none
theorem bnd_some {x : Operand} {dflt i : Int} (h : bnd σ (some x) dflt = some i) : ∃ ki, ev σ x = some (.int ki i) := by
  unfold bnd at h
  cases hv : ev σ x with
  | none => simp [hv] at h
  | some v =>
    simp only [hv] at h
    cases v with
    | int kk jj => simp at h; subst h; exact ⟨kk, rfl⟩
    | _ => simp at h
theorem run_bound {i : Int} {ki : IntKind} {m : Nat} {code : BoundsCode} {w : World} (h0 : 0 ≤ i) (h1 : i ≤ m) : (Instr.sliceBound (.int ki i) m code).run P w = .ok i.toNat w := by
  simp [Instr.sliceBound, asIntOf, h0, h1]
theorem run_sliceBounds {a : Act} (ag : Agree σ a.tmps) {lo hi : Option Operand} {isS : Bool} {l h : Int} {w : World} (hlen : len ≤ cap) (hl : bnd σ lo 0 = some l) (hh : bnd σ hi len = some h) (h0 : 0 ≤ l) (h1 : l ≤ h) (h2 : h ≤ cap) :
    (Instr.sliceBounds isS len cap (lo.map a.eval) (hi.map a.eval) none).run P w = .ok (l.toNat, h.toNat, cap) w := by
  cases lo with
  | none =>
    cases hl
    cases hi with
    | none => cases hh; simp [Instr.sliceBounds]
    | some x =>
      obtain ⟨ki, hx⟩ := bnd_some hh
      simp only [Instr.sliceBounds, Option.map_some, Option.map_none, ev_eval ag hx, Sem.run_bind, Sem.run_pure, Result.andThen_ok]
      rw [run_bound (by omega) h2]; simp
  | some z =>
    obtain ⟨kz, hz⟩ := bnd_some hl
    cases hi with
    | none =>
      cases hh
      simp only [Instr.sliceBounds, Option.map_some, Option.map_none, ev_eval ag hz, Sem.run_bind, Sem.run_pure, Result.andThen_ok]
      rw [run_bound h0 h1]; simp
    | some x =>
      obtain ⟨ki, hx⟩ := bnd_some hh
      simp only [Instr.sliceBounds, Option.map_some, ev_eval ag hx, ev_eval ag hz, Sem.run_bind, Sem.run_pure, Result.andThen_ok]
      rw [run_bound (by omega) h2]
      simp only [Result.andThen_ok]
      rw [run_bound h0 (by omega)]; simp
theorem exec_slice {a : Act} (ag : Agree σ a.tmps) [hu : Und P t (.slice et)] {zs : List Value} {n y : Nat} [Inf P et zs n y] {lo hi : Option Operand} {l h : Int} {base : Option Addr} {w : World} (hx : ev σ x = some (.slice base len cap)) (hlen : len ≤ cap) (hl : bnd σ lo 0 = some l) (hh : bnd σ hi len = some h)
    (h0 : 0 ≤ l) (h1 : l ≤ h) (h2 : h ≤ cap) :
    (execOp a.eval ⟨some d, .slice t x lo hi none, ty, pos, af, g⟩).run P w = .ok (.value (.slice (if cap = l.toNat then base else base.map (·.add (l.toNat * n))) (h.toNat - l.toNat) (cap - l.toNat))) w := by
  simp only [execOp, ev_eval ag hx, Sem.run_bind, Option.map_none]
  unfold Instr.sliceAt
  simp only [Sem.run_bind, run_und (P := P) (t := t) w, Result.andThen_ok]
  unfold Instr.slice
  simp only [Sem.run_bind, run_und (P := P) (t := t) w, Result.andThen_ok, run_sliceBounds ag hlen hl hh h0 h1 h2, run_size (P := P) (t := et) w, Sem.run_pure]
/-- xs[lo:hi] of a frozen slice -/
theorem to_slR {v : Value} {lo hi : Option Operand} {l h : Int} [hu : Und P t (.slice et)] [el : ElT P et ρ n by_] [Inf P et zs n by_] (hr : (slR ρ n).r F0 xs v) (hg : gd σ ops g = some true) (hx : ev σ x = some v)
    (hl : bnd σ lo 0 = some l) (hh : bnd σ hi xs.length = some h) (h0 : 0 ≤ l) (h1 : l ≤ h) (h2 : h ≤ xs.length)
    (K : ∀ v', (slR ρ n).r F0 ((xs.take h.toNat).drop l.toNat) v' → TO P E D L F ops os k ((d, v') :: σ) Φ) : TO P E D L F ops (⟨some d, .slice t x lo hi none, ty, pos, af, g⟩ :: os) k σ Φ := by
  rcases hr with ⟨rfl, a, c, rfl⟩ | ⟨b, o, c, vs, rfl, h3, h4, h5, h6⟩
  · have hz : l = 0 ∧ h = 0 := by simp at h2; omega
    obtain ⟨rfl, rfl⟩ := hz
    exact to_val hg (fun w ac ag => exec_slice (n := n) (zs := zs) (y := by_) ag hx (Nat.zero_le _) hl hh h0 h1 (by omega)) (K _ (.inl ⟨by simp, _, _, rfl⟩))
  · refine to_val hg (fun w ac ag => exec_slice (n := n) (zs := zs) (y := by_) ag hx h4 hl hh h0 h1 (by omega)) (K _ ?_)
    have hlen : ((xs.take h.toNat).drop l.toNat).length = h.toNat - l.toNat := by rw [List.length_drop, List.length_take]; omega
    by_cases he : (xs.take h.toNat).drop l.toNat = []
    · rw [he]
      rw [he] at hlen
      exact .inl ⟨rfl, _, _, by rw [← hlen]; rfl⟩
    · have hne : c ≠ l.toNat := by
        intro e
        have : 0 < ((xs.take h.toNat).drop l.toNat).length := List.length_pos_iff.2 he
        omega
      rw [if_neg hne, ← hlen]
      refine .inr ⟨b, o + l.toNat * n, _, (vs.take h.toNat).drop l.toNat, by rw [Option.map_some, Addr.add_none], he, by omega, (h5.take _).drop _, ?_⟩
      have h7 := (h6.take (h.toNat * n)).drop (l.toNat * n)
      rw [flat_take (P := P) (t := et) (y := by_) _ h5, flat_drop (P := P) (t := et) (y := by_) _ (h5.take h.toNat)] at h7
      exact h7
/-- s[lo:hi] of a text -/
theorem to_slT {s : ByteArray} {lo hi : Option Operand} {l h : Int} [hu : Und P t .string] (hg : gd σ ops g = some true) (hx : ev σ x = some (.string s))
    (hl : bnd σ lo 0 = some l) (hh : bnd σ hi s.size = some h) (h0 : 0 ≤ l) (h1 : l ≤ h) (h2 : h ≤ s.size)
    (K : TO P E D L F ops os k ((d, .string (s.extract l.toNat h.toNat)) :: σ) Φ) : TO P E D L F ops (⟨some d, .slice t x lo hi none, ty, pos, af, g⟩ :: os) k σ Φ :=
  to_val hg (fun w a ag => by
    simp only [execOp, ev_eval ag hx, Sem.run_bind, Option.map_none]
    unfold Instr.sliceAt
    simp only [Sem.run_bind, run_und (P := P) (t := t) w, Result.andThen_ok]
    unfold Instr.slice
    simp only [Sem.run_bind, run_und (P := P) (t := t) w, Result.andThen_ok, Option.isSome_none, Bool.false_eq_true, if_false, run_sliceBounds ag (Nat.le_refl _) hl hh h0 h1 h2, Sem.run_pure]) K

/-! #### Elements of a slice of the call's own -/
/-- Its value is a place in memory. -/
theorem to_lit (v : Value) {ρ : Rel β} {xs : List β} [fv : FV v L (OSl ρ n et v xs) R] (hne : xs ≠ []) (K : ∀ b cap, v = .slice (some ⟨b, 0, none⟩) xs.length cap → TO P E D L F ops os k σ Φ) : TO P E D L F ops os k σ Φ :=
  to_conv fun w st => by
    rcases (st.perm fv.p).openSl with ⟨e, _⟩ | ⟨b, cap, vs, junk, e, _⟩
    · exact absurd e hne
    · exact ⟨L, F, .refl _, st, K b cap e⟩
theorem t_lit (v : Value) {ρ : Rel β} {xs : List β} [fv : FV v L (OSl ρ n et v xs) R] (hne : xs ≠ []) (K : ∀ b cap, v = .slice (some ⟨b, 0, none⟩) xs.length cap → T P E D L F k σ Φ) : T P E D L F k σ Φ :=
  t_conv fun w st => by
    rcases (st.perm fv.p).openSl with ⟨e, _⟩ | ⟨b, cap, vs, junk, e, _⟩
    · exact absurd e hne
    · exact ⟨L, F, .refl _, st, K b cap e⟩
theorem osl_open {w : World} {b : Nat} (st : St w (OSl ρ n et (.slice (some ⟨b, 0, none⟩) len cap) xs :: R) F) : (xs = [] ∧ len = 0 ∧ cap = 0 ∧ St w R F) ∨
    ∃ vs junk, len = xs.length ∧ F2 (ρ.r F) xs vs ∧ junk.length + xs.length * n = cap * n ∧ St w (own b (flat vs ++ junk) et :: R) F := by
  rcases st.openSl with ⟨e, ⟨a, e1⟩, s⟩ | ⟨b', cap', vs, junk, e, h2, h3, s⟩
  · cases e1; exact .inl ⟨e, rfl, rfl, s⟩
  · cases e; exact .inr ⟨vs, junk, rfl, h2, h3, s⟩
theorem split_at {vs : List Value} (hj : j < vs.length) : vs = vs.take j ++ vs[j] :: vs.drop (j + 1) := by
  rw [List.getElem_cons_drop, List.take_append_drop]
/-- an element's load -/
theorem to_ldO [nm : NM E] [fb : FB b L (OSl ρ n et (.slice (some ⟨b, 0, none⟩) len cap) xs) R] [el : ElT P t ρ n by_] (hg : gd σ ops g = some true) (hx : ev σ x = some (.pointer (some ⟨b, o, none⟩))) (ho : o = 0 + j * n) (hj : xs[j]? = some q)
    (K : ∀ u, ρ.r F q u → TO P E D L F ops os k ((d, u) :: σ) Φ) : TO P E D L F ops (⟨some d, .load t x, ty, pos, af, g⟩ :: os) k σ Φ := by
  refine to_sx fun w a ag st => ?_
  rcases osl_open (st.perm fb.p) with ⟨rfl, _⟩ | ⟨vs, junk, _, h2, h3, s⟩
  · cases hj
  · obtain ⟨u, hu, hr⟩ := h2.get hj
    have hl : ∀ w', Grown w w' → (loadVar t ⟨b, o, none⟩).run P w' = .ok u w' := fun w' gr => el.ld _ _ _ hr w' _ fun i c hc => by
      rw [Addr.add_none, (s.grown gr).cell]
      have hlt : j < vs.length := by
        rcases Nat.lt_or_ge j vs.length with h | h
        · exact h
        · rw [List.getElem?_eq_none h] at hu; cases hu
      have h5 := flat_drop (P := P) (t := t) (y := by_) j h2
      rw [List.drop_eq_getElem_cons hlt, flat_cons] at h5
      rw [List.getElem?_eq_getElem hlt] at hu
      cases hu
      have hil : i < (cellsL vs[j]).length := by
        rcases Nat.lt_or_ge i (cellsL vs[j]).length with h | h
        · exact h
        · rw [List.getElem?_eq_none h] at hc; cases hc
      have h6 : (flat vs)[j * n + i]? = some c := by
        rw [← List.getElem?_drop, h5, List.getElem?_append_left hil, hc]
      subst ho
      rw [Nat.zero_add, List.getElem?_append_left, h6]
      rcases Nat.lt_or_ge (j * n + i) (flat vs).length with h | h
      · exact h
      · rw [List.getElem?_eq_none h] at h6; cases h6
    unfold SX
    rw [if_pos (gd_wanted (o := ⟨some d, .load t x, ty, pos, af, g⟩) ag hg)]
    exact ⟨u, fun w' gr => by simp [execOp, Instr.loadAt, Instr.sureAddr, ev_eval ag hx, hl w' (stb_gr gr)], L, F, .refl _, st, K u hr⟩
theorem setN_mid (us : List Value) : ∀ (asz cs bs : List Value), cs.length = us.length → setN (asz ++ (cs ++ bs)) asz.length us = asz ++ (us ++ bs) := by
  intro asz cs bs h
  have := setN_append us asz cs bs h
  simpa using this
theorem setN_sub (us asz cs bs : List Value) (f : Nat) (h : f + us.length ≤ cs.length) : setN (asz ++ (cs ++ bs)) (asz.length + f) us = asz ++ (setN cs f us ++ bs) := by
  have h1 : cs = cs.take f ++ ((cs.drop f).take us.length ++ (cs.drop f).drop us.length) := by rw [List.take_append_drop, List.take_append_drop]
  have h2 : asz ++ (cs ++ bs) = (asz ++ cs.take f) ++ ((cs.drop f).take us.length ++ ((cs.drop f).drop us.length ++ bs)) := by
    conv => lhs; rw [h1]
    simp only [List.append_assoc]
  have h3 : asz.length + f = (asz ++ cs.take f).length := by rw [List.length_append, List.length_take]; omega
  rw [h2, h3, setN_mid _ _ _ _ (by rw [List.length_take, List.length_drop]; omega)]
  have h4 : setN cs f us = cs.take f ++ (us ++ (cs.drop f).drop us.length) := by
    conv => lhs; rw [h1]
    have h5 : f = (cs.take f).length := by rw [List.length_take]; omega
    conv => lhs; arg 2; rw [h5]
    rw [setN_mid _ _ _ _ (by rw [List.length_take, List.length_drop]; omega)]
  rw [h4]; simp only [List.append_assoc]
/-- a store into a part of an element -/
theorem to_stF {q' : β} {f m : Nat} {zt : List Value} {yt : Nat} [fb : FB b L (OSl ρ n et (.slice (some ⟨b, 0, none⟩) len cap) xs) R] [el : ElT P et ρ n by_] [Inf P t zt m yt] (hg : gd σ ops g = some true) (hx : ev σ x = some (.pointer (some ⟨b, o, none⟩))) (hy : ev σ y = some v)
    (ho : o = 0 + j * n + f) (hj : xs[j]? = some q) (hvl : (cellsL v).length = m) (hv1 : ∀ c ∈ cellsL v, c.oneCell' = true) (hf : f + m ≤ n) (hu : ∀ u, ρ.r F q u → ∃ u', ρ.r F q' u' ∧ setN (cellsL u) f (cellsL v) = cellsL u')
    (K : TO P E D (OSl ρ n et (.slice (some ⟨b, 0, none⟩) len cap) (xs.set j q') :: R) F ops os k σ Φ) : TO P E D L F ops (⟨none, .store t x y, ty, pos, af, g⟩ :: os) k σ Φ := by
  refine to_opW rfl hg rfl fun w a ag st => ?_
  rcases osl_open (st.perm fb.p) with ⟨rfl, _⟩ | ⟨vs, junk, hlen, h2, h3, s⟩
  · cases hj
  · obtain ⟨u, hu1, hr⟩ := h2.get hj
    obtain ⟨u', hr', hset⟩ := hu u hr
    have hlt : j < vs.length := by
      rcases Nat.lt_or_ge j vs.length with h | h
      · exact h
      · rw [List.getElem?_eq_none h] at hu1; cases hu1
    have hue : vs[j] = u := by rw [List.getElem?_eq_getElem hlt] at hu1; exact Option.some.inj hu1
    have hfl : flat vs ++ junk = flat (vs.take j) ++ (cellsL u ++ (flat (vs.drop (j + 1)) ++ junk)) := by
      conv => lhs; rw [split_at hlt, hue]
      rw [flat_append, flat_cons]; simp only [List.append_assoc]
    have hlj : (flat (vs.take j)).length = j * n := by
      rw [← flat_take (P := P) (t := et) (y := by_) j h2, List.length_take, flat_len (P := P) (t := et) (y := by_) h2]
      have : j * n ≤ xs.length * n := Nat.mul_le_mul_right _ (by rw [h2.length_eq]; omega)
      omega
    have hul := (el.len _ _ _ hr).1
    have hlv : (flat vs).length = xs.length * n := flat_len (P := P) (t := et) (y := by_) h2
    have hjx : j + 1 ≤ xs.length := by rw [h2.length_eq]; omega
    have hbound : o + 0 + (cellsL v).length ≤ (flat vs ++ junk).length := by
      have := Nat.mul_le_mul_right n hjx
      rw [Nat.add_mul] at this
      rw [List.length_append, hlv, hvl]; omega
    obtain ⟨w', r', s'⟩ := St.storeCells (P := P) (o := o) (cellsL v) _ 0 w s hv1 hbound
    have hrun : (execOp a.eval ⟨none, .store t x y, ty, pos, af, g⟩).run P w = .ok .skip w' := by
      have hsz : v.cells.size = m := by rw [← Array.length_toList, cells_toList, hvl]
      simp only [execOp, Instr.storeAt, Instr.sureAddr, ev_eval ag hx, ev_eval ag hy, storeVar, Sem.run_bind, Sem.run_pure, Result.andThen_ok, run_size (P := P) (t := t) w, hsz, ne_eq, not_true_eq_false, if_false]
      rw [cells_toList, r']; rfl
    rw [hrun]
    refine ⟨_, F, .refl _, ?_, K⟩
    have hs1 : setN (flat vs ++ junk) (o + 0) (cellsL v) = flat (vs.set j u') ++ junk := by
      have ho' : o + 0 = (flat (vs.take j)).length + f := by rw [hlj, ho]; omega
      rw [hfl, ho', setN_sub _ _ _ _ _ (by rw [hul, hvl]; exact hf), hset]
      have : vs.set j u' = vs.take j ++ u' :: vs.drop (j + 1) := by rw [List.set_eq_take_append_cons_drop, if_pos hlt]
      rw [this, flat_append, flat_cons]; simp only [List.append_assoc]
    rw [hs1] at s'
    have := s'.shutSl (xs := xs.set j q') (cap := cap) (ρ := ρ) (n := n) (h2.set hr') (by rw [List.length_set]; exact h3)
    rw [List.length_set, ← hlen] at this
    exact this
/-- the store of a whole element -/
theorem to_stO {q' : β} [fb : FB b L (OSl ρ n et (.slice (some ⟨b, 0, none⟩) len cap) xs) R] [el : ElT P et ρ n by_] [Inf P et zs n by_] (hg : gd σ ops g = some true) (hx : ev σ x = some (.pointer (some ⟨b, o, none⟩))) (hy : ev σ y = some v)
    (ho : o = 0 + j * n) (hj : j < xs.length) (hr : ρ.r F q' v)
    (K : TO P E D (OSl ρ n et (.slice (some ⟨b, 0, none⟩) len cap) (xs.set j q') :: R) F ops os k σ Φ) : TO P E D L F ops (⟨none, .store et x y, ty, pos, af, g⟩ :: os) k σ Φ := by
  have hl := el.len _ _ _ hr
  refine to_stF (f := 0) (m := n) (zt := zs) (yt := by_) (j := j) (q := xs[j]) (q' := q') hg hx hy (by omega) (List.getElem?_eq_getElem hj) hl.1 hl.2 (by omega) (fun u hu => ⟨v, hr, ?_⟩) K
  have hu := (el.len _ _ _ hu).1
  have := setN_mid (cellsL v) [] (cellsL u) [] (by rw [hu, hl.1])
  simpa using this
/-- a single cell of an element that its abstract value tells -/
theorem to_ldF [nm : NM E] {f : Nat} {c : Value} [fb : FB b L (OSl ρ n et (.slice (some ⟨b, 0, none⟩) len cap) xs) R] [el : ElT P et ρ n by_] [ScaT P t] (hg : gd σ ops g = some true) (hx : ev σ x = some (.pointer (some ⟨b, o, none⟩)))
    (ho : o = 0 + j * n + f) (hj : xs[j]? = some q) (hu : ∀ u, ρ.r F q u → (cellsL u)[f]? = some c)
    (K : TO P E D L F ops os k ((d, c) :: σ) Φ) : TO P E D L F ops (⟨some d, .load t x, ty, pos, af, g⟩ :: os) k σ Φ := by
  refine to_loadF hg hx (fun w st => ?_) K
  rcases osl_open (st.perm fb.p) with ⟨rfl, _⟩ | ⟨vs, junk, _, h2, h3, s⟩
  · cases hj
  · obtain ⟨u, hu1, hr⟩ := h2.get hj
    have hc := hu u hr
    refine run_load_one ?_
    rw [s.cell]
    have hlt : j < vs.length := by
      rcases Nat.lt_or_ge j vs.length with h | h
      · exact h
      · rw [List.getElem?_eq_none h] at hu1; cases hu1
    have h5 := flat_drop (P := P) (t := et) (y := by_) j h2
    rw [List.drop_eq_getElem_cons hlt, flat_cons] at h5
    rw [List.getElem?_eq_getElem hlt] at hu1
    cases hu1
    have hil : f < (cellsL vs[j]).length := by
      rcases Nat.lt_or_ge f (cellsL vs[j]).length with h | h
      · exact h
      · rw [List.getElem?_eq_none h] at hc; cases hc
    have h6 : (flat vs)[j * n + f]? = some c := by
      rw [← List.getElem?_drop, h5, List.getElem?_append_left hil, hc]
    subst ho
    rw [Nat.zero_add, List.getElem?_append_left, h6]
    rcases Nat.lt_or_ge (j * n + f) (flat vs).length with h | h
    · exact h
    · rw [List.getElem?_eq_none h] at h6; cases h6
end
end Go.Au
end

section
set_option linter.unusedVariables false
set_option linter.unusedSimpArgs false
namespace Go.Au
open Go

def mk (r : Nat) : Deferred := { target := .collected r, args := #[] }
def yv (l : Nat) : Value := .func (.yield l) #[] #[]

section
variable {P : Program} {E : Ex} {D : List Deferred} {L L' L0 R : List HP} {F F' F0 : Frz} {k : List Item} {σ σ' : Sg} {Φ Ψ : Fin} {ops : Array Oper} {os : List Oper}
  {f n l r : Nat} {fn : Func} {vs args : List Value} {v fv : Value} {c : Code}

/-! #### Leaving a function that ranged over a function -/
theorem take_run {w : World} (s : St w (at1 r (.deferred (some [])) :: L) F) : (Instr.takeDeferred r).run P w = .ok [] { w with heap := w.heap.setIfInBounds r (.deferred none) } := by
  have h := s.at1
  simp [Instr.takeDeferred, run_getObj h (by intro c t f e; cases e), setObj, Sem.run, h]
theorem t_retM {L1 : List HP} (B : List HP) [fb : FB r L (at1 r (.deferred (some []))) L0] (hf : P.funcs[f]? = some fn) (ro : ROk P σ (at1 r (.deferred none) :: L0) F fn.results.toList vs)
    [ex : Ext B (at1 r (.deferred none) :: L0) L1] [dr : Drp L1 R] (hq : Ψ (packed vs) B F) :
    T P ⟨f, n, none, none⟩ [mk r] L F (.code .ret :: k) σ (Post Ψ R) := by
  intro _ w b a cs h1 h2 h3 _ h5 ag st
  have s1 := st.perm fb.p
  have s2 := s1.set (.deferred none)
  have hst : step P (lone { b.atR a (.code .ret :: k) with mode := .returning } cs w) = .next (lone { ({ b.atR a (.code .ret :: k) with mode := .returning } : Frame) with defers := [] ++ [] } cs { w with heap := w.heap.setIfInBounds r (.deferred none) }) :=
    step_collected (d := mk r) (by simp [Frame.atR]) (by simp [Frame.atR, h5]) rfl (take_run s1)
  refine ⟨_, _, _, B ++ R, F, .head (stepR_ret h3) (.one hst), ?_, h1, .refl _, ⟨B, rfl, hq⟩, dr.h _ F B (s2.perm ex.p)⟩
  have := ro.results (P := P) (fn := fn) (a := a) ag s2
  exact ⟨rfl, rfl, h2, fn, h1 ▸ hf, this⟩
theorem t_endM {L1 : List HP} (B : List HP) [fb : FB r L (at1 r (.deferred (some []))) L0] (hf : P.funcs[f]? = some fn) (ro : ROk P σ (at1 r (.deferred none) :: L0) F fn.results.toList vs)
    [ex : Ext B (at1 r (.deferred none) :: L0) L1] [dr : Drp L1 R] (hq : Ψ (packed vs) B F) :
    T P ⟨f, n, none, none⟩ [mk r] L F [] σ (Post Ψ R) := by
  intro _ w b a cs h1 h2 h3 _ h5 ag st
  have s1 := st.perm fb.p
  have s2 := s1.set (.deferred none)
  have hst : step P (lone { b.atR a [] with mode := .returning } cs w) = .next (lone { ({ b.atR a [] with mode := .returning } : Frame) with defers := [] ++ [] } cs { w with heap := w.heap.setIfInBounds r (.deferred none) }) :=
    step_collected (d := mk r) (by simp [Frame.atR]) (by simp [Frame.atR, h5]) rfl (take_run s1)
  refine ⟨_, _, _, B ++ R, F, .head (stepR_end h3) (.one hst), ?_, h1, .refl _, ⟨B, rfl, hq⟩, dr.h _ F B (s2.perm ex.p)⟩
  have := ro.results (P := P) (fn := fn) (a := a) ag s2
  exact ⟨rfl, rfl, h2, fn, h1 ▸ hf, this⟩

/-! #### A round -/
theorem loop_run {w : World} {lo : Loop} (s : St w (at1 l (.loop lo) :: L) F) : (Instr.getLoop l).run P w = .ok lo w := by
  have h := s.at1
  simp [Instr.getLoop, run_getObj h (by intro c t f e; cases e)]
theorem setLoop_run {w : World} {lo : Loop} (s : St w (at1 l (.loop lo) :: L) F) (lo' : Loop) : (setObj l (.loop lo')).run P w = .ok () { w with heap := w.heap.setIfInBounds l (.loop lo') } := by
  have h := s.at1
  simp [setObj, Sem.run, h]

theorem t_beginRound {lo : Loop} [fb : FB l L (at1 l (.loop lo)) L0] (hr : lo.state = .ready) (h : T P ⟨f, n, some l, none⟩ D (at1 l (.loop { lo with state := .busy }) :: L0) F k σ Φ) :
    T P ⟨f, n, some l, none⟩ D L F (.beginRound :: k) σ Φ := by
  intro ok w b a cs h1 h2 h3 h4 h5 ag st
  have s1 := st.perm fb.p
  have hb : (Instr.beginRound l).run P w = .ok () { w with heap := w.heap.setIfInBounds l (.loop { lo with state := .busy }) } := by
    simp [Instr.beginRound, loop_run s1, setLoop_run s1, hr]
  exact .of_steps (.one (stepR_beginRound h3 hb)) (.refl _) (h (by simpa [itemsOk, itemOk] using ok) _ b a cs h1 h2 h3 h4 h5 ag (s1.set _))
theorem endRound_run {w : World} {lo : Loop} (s : St w (at1 l (.loop lo) :: L) F) (jump : Option Code) :
    (Instr.endRound l jump).run P w = .ok (.bool jump.isNone) { w with heap := w.heap.setIfInBounds l (.loop { lo with state := if jump.isNone then .ready else .done, pending := jump }) } := by
  simp [Instr.endRound, loop_run s, setLoop_run s]
/-- A round's end: on with the next one. -/
theorem t_next {lo : Loop} {L1 : List HP} (B : List HP) [fb : FB l L (at1 l (.loop lo)) L0] [ex : Ext B (at1 l (.loop { lo with state := .ready, pending := none }) :: L0) L1] [dr : Drp L1 R]
    (hq : Ψ (.bool true) B F) : T P ⟨f, n, some l, none⟩ D L F [] σ (Post Ψ R) := by
  intro ok w b a cs h1 h2 h3 h4 h5 ag st
  have s1 := st.perm fb.p
  intro c cs' e
  subst e
  exact ⟨_, _, B ++ R, F, .one (stepR_round_end h3 h2 (endRound_run s1 none)), .refl _, ⟨B, rfl, hq⟩, dr.h _ F B ((s1.set _).perm ex.p)⟩
/-- A round that returns out of the function. -/
theorem t_retR {lo : Loop} {L1 : List HP} (B : List HP) [fb : FB l L (at1 l (.loop lo)) L0] [ex : Ext B (at1 l (.loop { lo with state := .done, pending := some .ret }) :: L0) L1] [dr : Drp L1 R]
    (hq : Ψ (.bool false) B F) : T P ⟨f, n, some l, none⟩ D L F (.code .ret :: k) σ (Post Ψ R) := by
  intro ok w b a cs h1 h2 h3 h4 h5 ag st
  have s1 := st.perm fb.p
  intro c cs' e
  subst e
  exact ⟨_, _, B ++ R, F, .one (stepR_round_ret h3 h2 (endRound_run s1 (some .ret))), .refl _, ⟨B, rfl, hq⟩, dr.h _ F B ((s1.set _).perm ex.p)⟩
/-- A round that leaves the loop. -/
theorem t_exitR {lo : Loop} {L1 : List HP} {i : Nat} (B : List HP) (hk : exitTo i k = none) [fb : FB l L (at1 l (.loop lo)) L0] [ex : Ext B (at1 l (.loop { lo with state := .done, pending := some (.exit i) }) :: L0) L1] [dr : Drp L1 R]
    (hq : Ψ (.bool false) B F) : T P ⟨f, n, some l, none⟩ D L F (.code (.exit i) :: k) σ (Post Ψ R) := by
  intro ok w b a cs h1 h2 h3 h4 h5 ag st
  have s1 := st.perm fb.p
  intro c cs' e
  subst e
  exact ⟨_, _, B ++ R, F, .one (stepR_round_exit h3 h2 hk (endRound_run s1 (some (.exit i)))), .refl _, ⟨B, rfl, hq⟩, dr.h _ F B ((s1.set _).perm ex.p)⟩

def bindS : List Tmp → List Value → Sg → Sg
  | p :: ps, v :: vs, σ => bindS ps vs ((p, v) :: σ)
  | _, _, σ => σ
theorem bind_agree {n : Nat} : ∀ {ps : List Tmp} {vs : List Value} {σ : Sg} {tm : Array Value}, ps.all (Nat.blt · n) = true → tm.size = n → Agree σ tm →
    Agree (bindS ps vs σ) ((ps.zip vs).foldl (fun tmps (p : Tmp × Value) => tmps.setIfInBounds p.1 p.2) tm) ∧ ((ps.zip vs).foldl (fun tmps (p : Tmp × Value) => tmps.setIfInBounds p.1 p.2) tm).size = n
  | [], _, σ, tm, _, hn, ag => ⟨ag, hn⟩
  | p :: ps, [], σ, tm, _, hn, ag => ⟨ag, hn⟩
  | p :: ps, v :: vs, σ, tm, hp, hn, ag => by
    simp only [List.all_cons, Bool.and_eq_true] at hp
    exact bind_agree (ps := ps) (vs := vs) hp.2 (by simpa using hn) (ag.put (by rw [hn]; simpa using hp.1) v)

/-- THE CALL OF yield: one round. -/
theorem cv_yield {lo : Loop} {A : List HP} {ps : List Tmp} (hps : lo.params = ps.toArray) (hlen : args.length = ps.length) (hn : lo.tmps.size = n) (ag : Agree σ lo.tmps)
    (hok : (ps.all (Nat.blt · n) && (codeOk n lo.assign && codeOk n lo.body)) = true)
    (h : ∀ R, T P ⟨lo.fn, n, some l, none⟩ [] (at1 l (.loop lo) :: A ++ R) F [.code lo.assign, .beginRound, .code lo.body] (bindS ps args σ) (Post Ψ R)) :
    CV P (yv l) args (at1 l (.loop lo) :: A) F Ψ := by
  intro R w st
  simp only [Bool.and_eq_true] at hok
  have hfold : (lo.params.zip args.toArray).foldl (fun tmps (x : Tmp × Value) => tmps.setIfInBounds x.1 x.2) lo.tmps = (ps.zip args).foldl (fun tmps (p : Tmp × Value) => tmps.setIfInBounds p.1 p.2) lo.tmps := by
    rw [hps, ← Array.foldl_toList]; simp
  have hba := bind_agree (vs := args) hok.1 hn ag
  have hrun : (callSem (yv l) args).run P w = .ok (.round l lo.fn ((ps.zip args).foldl (fun tmps (p : Tmp × Value) => tmps.setIfInBounds p.1 p.2) lo.tmps) lo.assign lo.body) w := by
    have hsz : ¬ (args.length ≠ lo.params.size) := by rw [hps]; simpa using hlen
    have st' : St w (at1 l (.loop lo) :: (A ++ R)) F := st
    simp only [callSem, yv, Deferred.ofValue, Sem.run_bind, Sem.run_pure, Result.andThen_ok, invoke, Instr.yield]
    have hargs : (#[] : Array Value) ++ args.toArray = args.toArray := by simp
    rw [hargs, loop_run st']
    simp only [Result.andThen_ok, List.size_toArray]
    rw [if_neg hsz]
    simp only [Sem.run_bind, Sem.run_pure, Result.andThen_ok]
    rw [← hfold]
  rw [hrun]
  unfold Meets
  intro c cs
  have hfr : Frame.round l lo.fn ((ps.zip args).foldl (fun tmps (p : Tmp × Value) => tmps.setIfInBounds p.1 p.2) lo.tmps) lo.assign lo.body .normal =
      Frame.atR { (default : Frame) with fn := lo.fn, kind := .normal, roundOf := some l } { tmps := (ps.zip args).foldl (fun tmps (p : Tmp × Value) => tmps.setIfInBounds p.1 p.2) lo.tmps, defers := [] } [.code lo.assign, .beginRound, .code lo.body] := by
    simp [Frame.round, Frame.atR]
  have := h R (by simp [itemsOk, itemOk, hok.2.1, hok.2.2]) w { (default : Frame) with fn := lo.fn, kind := .normal, roundOf := some l }
    { tmps := (ps.zip args).foldl (fun tmps (p : Tmp × Value) => tmps.setIfInBounds p.1 p.2) lo.tmps, defers := [] } (c :: cs) rfl rfl rfl hba.2 rfl hba.1 st
  obtain ⟨w', v, L', F', hs, le, ⟨B, rfl, hq⟩, st'⟩ := this c cs rfl
  exact ⟨v, w', ⟨B, F', le, hq, st'⟩, by rw [hfr]; exact hs⟩

/-! #### The statement -/
def pendOk : Option Code → Bool
  | none => true
  | some .ret => true
  | some (.exit _) => true
  | _ => false
theorem endLoop_run {w : World} {lo : Loop} (s : St w (at1 l (.loop lo) :: L) F) (hb : lo.state ≠ .busy) : (Instr.endLoop l).run P w = .ok lo.pending { w with heap := w.heap.setIfInBounds l (.loop { lo with state := .exhausted }) } := by
  have : (lo.state == LoopState.busy) = false := by simpa using hb
  simp [Instr.endLoop, loop_run s, setLoop_run s, hb]

/-- `for .. := range g { .. }` in a function's own frame. -/
theorem t_rangeFunc {g : Operand} {ps : Array Tmp} {assign body : Code} {A R0 : List HP} {caps : List Value} (hro : E.ro = none) (hg : ev σ g = some (.func (.func f) #[] caps.toArray)) [HasBody P f] [ex : Ext A L R0]
    (H : ∀ l r (tm : Array Value), tm.size = E.n → Agree σ tm →
      ∃ Ξ : Fin, Sp P f (yv l :: caps) (at1 l (.loop { state := .ready, pending := none, fn := E.f, tmps := tm, params := ps, assign, body, defers := r }) :: A) F Ξ ∧
        ∀ v B F', FS F F' → Ξ v B F' → ∃ lo L1, B = at1 l (.loop lo) :: L1 ∧ lo.state ≠ .busy ∧ pendOk lo.pending = true ∧
          T P E (mk r :: D) (at1 r (.deferred (some [])) :: (L1 ++ R0)) F' ((lo.pending.map Item.code).toList ++ k) σ Φ) :
    T P E D L F (.code (.rangeFunc g ps assign body) :: k) σ Φ := by
  intro ok w b a cs h1 h2 h3 h4 h5 ag st
  have st0 := (st.perm ex.p).new (.deferred (some []))
  obtain ⟨Ξ, hsp, hk⟩ := H (w.heap.size + 1) w.heap.size a.tmps h4 ag
  have st1 := st0.new (.loop { state := .ready, pending := none, fn := E.f, tmps := a.tmps, params := ps, assign, body, defers := w.heap.size })
  have he : (Instr.enterLoop b.fn a.tmps ps assign body b.roundOf).run P w = .ok (w.heap.size + 1, [mk w.heap.size])
      { w with heap := (w.heap.push (.deferred (some []))).push (.loop { state := .ready, pending := none, fn := E.f, tmps := a.tmps, params := ps, assign, body, defers := w.heap.size }) } := by
    rw [h3, hro, h1]
    simp [Instr.enterLoop, mk]
    rfl
  have hres : ∀ w', (resolve a.eval (rangeCall g (w.heap.size + 1)) 0).run P w' = .ok { target := .fn (.func f) caps.toArray, args := #[yv (w.heap.size + 1)] } w' := fun w' => by
    have hg' := ev_eval ag hg
    have hx : ∀ ρ : Operand → Value, resolve ρ (rangeCall g (w.heap.size + 1)) 0 = Deferred.ofValue (ρ g) #[ρ (.const (yv (w.heap.size + 1)))] := fun ρ => by simp [resolve, rangeCall, yv]
    rw [hx, hg']
    simp [Deferred.ofValue, Act.eval, yv]
  have hinv : ∀ w', (invoke (.fn (.func f) caps.toArray) #[yv (w.heap.size + 1)]).run P w' = .ok (.enter f (yv (w.heap.size + 1) :: caps).toArray) w' := fun w' => by
    simp [invoke, callFunc_enter]
  have henter := stepR_rangeFunc (P := P) (b := b) (a := a) (k := k) (cs := cs) (w := w) he (hres _) (hinv _)
  have hsz : (w.heap.push (.deferred (some []))).size = w.heap.size + 1 := by simp
  have st2 : St { w with heap := (w.heap.push (.deferred (some []))).push (.loop { state := .ready, pending := none, fn := E.f, tmps := a.tmps, params := ps, assign, body, defers := w.heap.size }) }
      ((at1 (w.heap.size + 1) (.loop { state := .ready, pending := none, fn := E.f, tmps := a.tmps, params := ps, assign, body, defers := w.heap.size }) :: A) ++ (at1 w.heap.size (.deferred (some [])) :: R0)) F := by
    rw [hsz] at st1
    refine st1.perm (.cons _ ?_)
    exact (List.perm_middle).symm
  obtain ⟨e, w3, fr, hR, hsteps, hfn, hleave⟩ := hsp _ _ st2 (b.atR { a with defers := [mk w.heap.size] ++ a.defers } (.inRangeFunc (w.heap.size + 1) :: k) :: cs)
  cases e with
  | panicked _ => exact hR.elim
  | outgrown => exact hR.elim
  | returned v =>
    obtain ⟨B, F', le, hx, st3⟩ := hR
    obtain ⟨lo, L1, hB, hb, hp, hT⟩ := hk v B F' ⟨le⟩ hx
    subst hB
    have s4 : Steps P (lone fr (b.atR { a with defers := [mk w.heap.size] ++ a.defers } (.inRangeFunc (w.heap.size + 1) :: k) :: cs) w3) (lone (b.atR { a with defers := [mk w.heap.size] ++ a.defers } (.endRangeFunc (w.heap.size + 1) :: k)) cs w3) :=
      .one (by rw [← finish_atR_inRangeFunc (w.heap.size + 1) v]; exact step_leave_returned hleave)
    have hend := endLoop_run (P := P) st3 hb
    have s5 := stepR_endRangeFunc (P := P) (b := b) (a := { a with defers := [mk w.heap.size] ++ a.defers }) (k := k) (cs := cs) hend
    refine .of_steps ((Steps.head henter hsteps).trans (s4.trans (.one s5))) le (hT ?_ _ b _ cs h1 h2 h3 h4 (by simp [h5]) ag ?_)
    · have : itemsOk E.n k = true := by
        simp only [itemsOk, Bool.and_eq_true] at ok; exact ok.2
      cases hpe : lo.pending with
      | none => simpa using this
      | some c =>
        rw [hpe] at hp
        cases c <;> first | (cases hp; done) | simpa [itemsOk, itemOk, codeOk] using this
    · have s6 := (st3.set (.loop { lo with state := .exhausted })).drop
      refine s6.perm ?_
      exact List.perm_middle
end
end Go.Au
end

section
set_option linter.unusedVariables false
set_option linter.unusedSimpArgs false
namespace Go.Au
open Go

/-! ### Plain relations -/
def intR : Rel Int := ⟨fun _ x v => v = .int .i64 x, fun _ h => h⟩
def strR : Rel ByteArray := ⟨fun _ x v => v = .string x, fun _ h => h⟩
def boolR : Rel Bool := ⟨fun _ x v => v = .bool x, fun _ h => h⟩
def u8R : Rel UInt8 := ⟨fun _ x v => v = .int .u8 x.toNat, fun _ h => h⟩

section
variable {P : Program} {E : Ex} {D : List Deferred} {L L' R : List HP} {F F' F0 : Frz} {k : List Item} {σ σ' : Sg} {Φ Ψ : Fin} {ops : Array Oper} {os : List Oper}
  {ty : TypeId} {pos : String} {af : Array Edge} {d b o : Nat} {g : Option (Nat × Bool)} {t t' et src dst kt : TypeId} {x y z : Operand} {v u : Value}
  {zs cs : List Value} {n by_ : Nat} {β : Type} {ρ : Rel β} {xs ys : List β} {len cap j : Nat} {q : β}

theorem to_gd {o : Oper} {t : Nat} {b : Bool} (hs : gslot ops o.guard = some t) (hb : look σ t = some (.bool b)) (ht : b = true → TO P E D L F ops (o :: os) k ((t, .bool true) :: σ) Φ)
    (hf : b = false → TO P E D L F ops (o :: os) k ((t, .bool false) :: σ) Φ) : TO P E D L F ops (o :: os) k σ Φ := to_bool t hb ht hf
/-- a pure operation that is no arithmetic -/
def nar : Op → Bool
  | .binOp .add .. | .binOp .sub .. | .binOp .mul .. => false
  | _ => true
theorem to_q {op : Op} {v : Value} {g : Option (Nat × Bool)} (hn : nar op = true) (hg : gd σ ops g = some true) (hv : pev σ op = some v) (K : TO P E D L F ops os k ((d, v) :: σ) Φ) : TO P E D L F ops (⟨some d, op, ty, pos, af, g⟩ :: os) k σ Φ := to_p hg hv K

def bcs (l : List UInt8) : List Value := l.map fun b => Value.int .u8 b.toNat
theorem f2_bytes (l : List UInt8) : F2 (u8R.r F) l (bcs l) := by
  induction l with
  | nil => exact .nil
  | cons a l ih => exact .cons rfl ih
theorem flat_bytes (l : List UInt8) : flat (bcs l) = bcs l := by
  induction l with
  | nil => rfl
  | cons a l ih => rw [bcs, List.map_cons, flat_cons, ← bcs, ih]; rfl
theorem f2_bytes_eq {l : List UInt8} {vs : List Value} (h : F2 (u8R.r F) l vs) : vs = bcs l := by
  induction h with
  | nil => rfl
  | cons e _ ih => rw [bcs, List.map_cons, ← bcs, ← ih, e]

/-- []byte(s) -/
theorem to_cvSB [nm : NM E] {s : ByteArray} [hs : Und P src .string] [hd : Und P dst (.slice et)] [he : Und P et (.int .u8)] (hg : gd σ ops g = some true) (hx : ev σ x = some (.string s))
    (K : ∀ b cap, TO P E D (OSl u8R 1 et (.slice (some ⟨b, 0, none⟩) s.data.toList.length cap) s.data.toList :: L) F ops os k ((d, .slice (some ⟨b, 0, none⟩) s.data.toList.length cap) :: σ) Φ) : TO P E D L F ops (⟨some d, .convert src dst x, ty, pos, af, g⟩ :: os) k σ Φ := by
  refine to_op hg (by simp [lvl, hd.h]) fun w a ag st => ?_
  have h1 := Lib.run_convert_string_bytes (P := P) w src dst et s hs.h hd.h he.h
  have h2 : (execOp a.eval ⟨some d, .convert src dst x, ty, pos, af, g⟩).run P w = .ok (.value (.slice (some ⟨w.heap.size, 0, none⟩) s.size (grownCap w s.size 0 et))) (Lib.bytesWorld w et s) := by
    simp only [execOp, ev_eval ag hx]
    rw [Sem.run_bind, h1, Result.andThen_ok, Sem.run_pure]
  rw [h2]
  have hsz0 : s.data.toList.length = s.size := by rw [Array.length_toList]; rfl
  refine ⟨_, F, .refl _, ?_, by rw [← hsz0]; exact K _ _⟩
  have hcs : Lib.bytesCells w et s = ((flat (bcs s.data.toList)) ++ List.replicate (grownCap w s.size 0 et - s.size) (Value.int .u8 0)).toArray := by
    rw [flat_bytes]; unfold Lib.bytesCells
    apply Array.ext'; simp [bcs]
  have hW : Lib.bytesWorld w et s = { w with heap := w.heap.push (.cells (Lib.bytesCells w et s) et ((Lib.bytesCells w et s).size, (Lib.bytesCells w et s).size + 1)), drawn := w.drawn + 1 } := by
    have hh : (Lib.bytesWorld w et s).heap = w.heap.push (.cells (Lib.bytesCells w et s) et ((Lib.bytesCells w et s).size, (Lib.bytesCells w et s).size + 1)) := by
      apply Array.ext_getElem?
      intro i
      rcases Nat.lt_trichotomy i w.heap.size with h | h | h
      · rw [Lib.bytesWorld_at_old w et s i h, Array.getElem?_push, if_neg (by omega)]
      · subst h; rw [Lib.bytesWorld_at_new]; simp
      · rw [Array.getElem?_eq_none (by rw [Lib.bytesWorld_size]; omega), Array.getElem?_eq_none (by simp; omega)]
    calc Lib.bytesWorld w et s = { Lib.bytesWorld w et s with heap := (Lib.bytesWorld w et s).heap } := rfl
      _ = _ := by rw [hh]; rfl
  rw [hW, hcs]
  have s1 := (st.drawn (w.drawn + 1)).new (.cells ((flat (bcs s.data.toList)) ++ List.replicate (grownCap w s.size 0 et - s.size) (Value.int .u8 0)).toArray et
    (((flat (bcs s.data.toList)) ++ List.replicate (grownCap w s.size 0 et - s.size) (Value.int .u8 0)).toArray.size,
    ((flat (bcs s.data.toList)) ++ List.replicate (grownCap w s.size 0 et - s.size) (Value.int .u8 0)).toArray.size + 1))
  have s2 := s1.shutOwn (.inr (by simp))
  have hsz : s.data.toList.length = s.size := by rw [Array.length_toList]; rfl
  have h3 := s2.shutSl (ρ := u8R) (n := 1) (xs := s.data.toList) (cap := grownCap w s.size 0 et) (f2_bytes _) (by
    have := grownCap_ge w s.size 0 et
    rw [List.length_replicate, hsz]; omega)
  exact h3

/-- string(p) -/
theorem str_back (l : List UInt8) : strOfNums (l.map fun b => (b.toNat : Int)) = ⟨l.toArray⟩ := by
  unfold strOfNums
  congr 2
  induction l with
  | nil => rfl
  | cons a l ih => simpa using ih
theorem conv_bytes {w : World} [hs : Und P src (.slice et)] [hd : Und P dst .string] [he : Und P et (.int .u8)] {xs : List UInt8} (h : ∀ i u, (bcs xs)[i]? = some u → w.cell? ⟨b, o + i, none⟩ = some u) :
    (convert src dst (.slice (some ⟨b, o, none⟩) xs.length cap)).run P w = .ok (.string ⟨xs.toArray⟩) w := by
  have := run_convert_bytes_arg (P := P) w src et hs.h he.h b o xs.length cap (xs.map fun b => (b.toNat : Int)) (by simp) (fun i hi => by
    refine h i _ ?_
    simp [bcs, List.getD, List.getElem?_eq_getElem hi]) dst hd.h
  rw [this, str_back]
theorem conv_nil {w : World} [hs : Und P src (.slice et)] [hd : Und P dst .string] [he : Und P et (.int .u8)] (a : Option Addr) :
    (convert src dst (.slice a 0 cap)).run P w = .ok (.string ⟨#[]⟩) w := by
  cases a with
  | none => exact run_convert_bytes_nil w src et hs.h he.h _ _ dst hd.h
  | some a =>
    rw [run_convert_bytes_string w src dst et _ _ _ hs.h he.h hd.h]
    exact run_bytesToString w a 0 cap [] (by simpa using run_loadCells_list (P := P) w a [] (by simp))
theorem exec_cv {a : Act} (ag : Agree σ a.tmps) {w : World} (hx : ev σ x = some v) (h : (convert src dst v).run P w = .ok u w) :
    (execOp a.eval ⟨some d, .convert src dst x, ty, pos, af, g⟩).run P w = .ok (.value u) w := by
  simp only [execOp, ev_eval ag hx]
  rw [Sem.run_bind, h, Result.andThen_ok, Sem.run_pure]
theorem conv_ro {w : World} [hs : Und P src (.slice et)] [hd : Und P dst .string] [he : Und P et (.int .u8)] {xs : List UInt8} [le : FLe F0 F] (h : (slR u8R 1).r F0 xs v) (st : St w L F) :
    (convert src dst v).run P w = .ok (.string ⟨xs.toArray⟩) w := by
  rcases h with ⟨rfl, a, c, rfl⟩ | ⟨b, o, c, vs, rfl, h3, h4, h5, h6⟩
  · exact conv_nil a
  · refine conv_bytes fun i u hu => ?_
    obtain ⟨arr, t1, fr, e, hc⟩ := h6
    rw [st.cellRo (le.ro _ _ e)]
    refine hc i u ?_
    rw [f2_bytes_eq h5, flat_bytes]; exact hu
theorem to_cvBSR [nm : NM E] {xs : List UInt8} [hs : Und P src (.slice et)] [hd : Und P dst .string] [he : Und P et (.int .u8)] [le : FLe F0 F] (h : (slR u8R 1).r F0 xs v) (hg : gd σ ops g = some true) (hx : ev σ x = some v)
    (K : TO P E D L F ops os k ((d, .string ⟨xs.toArray⟩) :: σ) Φ) : TO P E D L F ops (⟨some d, .convert src dst x, ty, pos, af, g⟩ :: os) k σ Φ :=
  to_rd hg (.inr (by simp [lvl, hd.h])) (fun w a ag st => exec_cv ag hx (conv_ro h st)) K
theorem to_cvBSO [nm : NM E] {xs : List UInt8} [hs : Und P src (.slice et)] [hd : Und P dst .string] [he : Und P et (.int .u8)] [fv : FV v L (OSl u8R 1 t' v xs) R] (hg : gd σ ops g = some true) (hx : ev σ x = some v)
    (K : TO P E D L F ops os k ((d, .string ⟨xs.toArray⟩) :: σ) Φ) : TO P E D L F ops (⟨some d, .convert src dst x, ty, pos, af, g⟩ :: os) k σ Φ :=
  to_rd hg (.inr (by simp [lvl, hd.h])) (fun w a ag st => exec_cv ag hx (by
    rcases (st.perm fv.p).openSl with ⟨rfl, ⟨a, rfl⟩, _⟩ | ⟨b, cap, vs, junk, rfl, h2, h3, s1⟩
    · exact conv_nil a
    · refine conv_bytes fun i u hu => ?_
      rw [s1.cell, Nat.zero_add, f2_bytes_eq h2, flat_bytes]
      have : i < (bcs xs).length := by
        rcases Nat.lt_or_ge i (bcs xs).length with h | h
        · exact h
        · rw [List.getElem?_eq_none h] at hu; cases hu
      rw [List.getElem?_append_left this]; exact hu)) K
/-- s[i] of a text -/
theorem ba_get (s : ByteArray) (j : Nat) : s[j]? = s.data.toList[j]? := by
  by_cases h : j < s.size
  · rw [getElem?_pos s j h, List.getElem?_eq_getElem (by rw [Array.length_toList]; exact h)]; rfl
  · rw [getElem?_neg s j h, List.getElem?_eq_none (by rw [Array.length_toList]; exact Nat.le_of_not_lt h)]
theorem to_ixT {s : ByteArray} {ix : Operand} {ki : IntKind} {i : Int} {c : UInt8} [hs : Und P t .string] (hg : gd σ ops g = some true) (hx : ev σ x = some (.string s)) (hi : ev σ ix = some (.int ki i)) (hj : i = (j : Int)) (hc : s.data.toList[j]? = some c)
    (K : TO P E D L F ops os k ((d, .int .u8 c.toNat) :: σ) Φ) : TO P E D L F ops (⟨some d, .index t x ix, ty, pos, af, g⟩ :: os) k σ Φ := by
  subst hj
  refine to_val hg (fun w a ag => ?_) K
  have hc' : s.data[j]? = some c := by simpa using hc
  simp [execOp, ev_eval ag hx, ev_eval ag hi, Instr.index, asIntOf, run_und (P := P) (t := t) w, ba_get, hc']
/-- a field of a struct value -/
class Fld (P : Program) (t : TypeId) (i : Nat) (off : outParam Nat) : Prop where
  h : ∀ (cs : List Value) v w, nth cs off = some v → (Instr.field t (.agg cs.toArray) i).run P w = .ok v w
theorem Fld.mk' {i ft off : Nat} {fs : Array Field} {f : Field} (hu : P.underlying t = some (.struct fs)) (hf : fs[i]? = some f) (ht : f.type = ft) (ho : f.offset = off) (hs : ScaT P ft) : Fld P t i off := ⟨fun cs v w h => by
  subst ht; subst ho
  rw [nth_eq] at h
  simp [Instr.field, run_underlying hu, hf, part, run_isAgg_f (P := P) (t := f.type) w, asAgg, h]⟩
theorem to_fld {i off : Nat} [fl : Fld P t i off] (hg : gd σ ops g = some true) (hx : ev σ x = some (.agg cs.toArray)) (hc : nth cs off = some v)
    (K : TO P E D L F ops os k ((d, v) :: σ) Φ) : TO P E D L F ops (⟨some d, .field t x i, ty, pos, af, g⟩ :: os) k σ Φ :=
  to_val hg (fun w a ag => by simp [execOp, ev_eval ag hx, fl.h cs v w hc]) K
/-- == of structs -/
theorem to_eqA {c : Bool} {cs' : List Value} {t2 : TypeId} (hgt : P.eqGuardType P.depth t = false) (hg : gd σ ops g = some true) (hx : ev σ x = some (.agg cs.toArray)) (hy : ev σ y = some (.agg cs'.toArray))
    (he : ∀ w, (Op.equalIn 10000 t (.agg cs.toArray) (.agg cs'.toArray)).run P w = .ok c w)
    (K : TO P E D L F ops os k ((d, .bool c) :: σ) Φ) : TO P E D L F ops (⟨some d, .binOp .eql t x y t2, ty, pos, af, g⟩ :: os) k σ Φ :=
  to_val hg (fun w a ag => exec_bin ag hx hy (by rw [Sem.run_bind, run_eqGuard_agg w _ _ _ _ _ _ hgt, Result.andThen_ok, run_eql_struct, he, Result.andThen_ok])) K
theorem to_neA {c : Bool} {cs' : List Value} {t2 : TypeId} (hgt : P.eqGuardType P.depth t = false) (hg : gd σ ops g = some true) (hx : ev σ x = some (.agg cs.toArray)) (hy : ev σ y = some (.agg cs'.toArray))
    (he : ∀ w, (Op.equalIn 10000 t (.agg cs.toArray) (.agg cs'.toArray)).run P w = .ok c w)
    (K : TO P E D L F ops os k ((d, .bool (!c)) :: σ) Φ) : TO P E D L F ops (⟨some d, .binOp .neq t x y t2, ty, pos, af, g⟩ :: os) k σ Φ :=
  to_val hg (fun w a ag => exec_bin ag hx hy (by rw [Sem.run_bind, run_eqGuard_agg w _ _ _ _ _ _ hgt, Result.andThen_ok, run_neq_struct, he, Result.andThen_ok])) K
/-- min of two -/
theorem to_min {tys : Array TypeId} {ki kj : IntKind} {i j : Int} (hg : gd σ ops g = some true) (hx : ev σ x = some (.int ki i)) (hy : ev σ y = some (.int kj j))
    (K : TO P E D L F ops os k ((d, .int ki (if j < i then j else i)) :: σ) Φ) : TO P E D L F ops (⟨some d, .call ⟨.builtin .min, #[x, y], tys⟩, ty, pos, af, g⟩ :: os) k σ Φ :=
  to_val hg (fun w a ag => by simp [execOp, resolve, invoke, builtin, Builtin.min_, Builtin.min2, ev_eval ag hx, ev_eval ag hy]) K
/-- maps in interfaces, copies of maps -/
theorem to_eqM {p : Option Nat} {t2 : TypeId} [hm : Und P t (.map kt et)] (hg : gd σ ops g = some true) (hx : ev σ x = some (.map p)) (hy : ev σ y = some (.map none))
    (K : TO P E D L F ops os k ((d, .bool p.isNone) :: σ) Φ) : TO P E D L F ops (⟨some d, .binOp .eql t x y t2, ty, pos, af, g⟩ :: os) k σ Φ :=
  to_val hg (fun w a ag => exec_bin ag hx hy (eql_run rfl rfl (by
    show (Op.equalIn (9999 + 1) t _ _).run P w = _
    rw [Op.equalIn, Sem.run_bind, run_und (P := P) (t := t) w]; cases p <;> rfl))) K
theorem to_mkI [hm : Und P t (.map kt et)] (hg : gd σ ops g = some true) (hx : ev σ x = some v)
    (K : TO P E D L F ops os k ((d, .iface t v) :: σ) Φ) : TO P E D L F ops (⟨some d, .makeInterface t x, ty, pos, af, g⟩ :: os) k σ Φ :=
  to_val hg (fun w a ag => by simp [execOp, ev_eval ag hx, Instr.makeInterface, run_und (P := P) (t := t) w]) K
theorem to_asM [nm : NM E] {xt : TypeId} [hm : Und P t (.map kt et)] (hg : gd σ ops g = some true) (hx : ev σ x = some (.iface t v))
    (K : TO P E D L F ops os k ((d, v) :: σ) Φ) : TO P E D L F ops (⟨some d, .typeAssert x xt t false, ty, pos, af, g⟩ :: os) k σ Φ :=
  to_rd hg (.inl rfl) (fun w a ag _ => by simp [execOp, ev_eval ag hx, Instr.typeAssert, run_und (P := P) (t := t) w]) K
class CloneF (P : Program) (f : FuncId) : Prop where
  h : ∀ args w, (callFunc f args).run P w = ((Extern.MapsClone.clone args).run P w).andThen fun v w' => .ok (.value v) w'
theorem to_cloneM [nm : NM E] {κ : Type} {e : κ → Value} {m : List (κ × β)} {f : FuncId} {tys : Array TypeId} [cf : CloneF P f] [fb : FB b L (mapP e ρ b m) R] (hg : gd σ ops g = some true) (hx : ev σ x = some (.iface t (.map (some b))))
    (K : ∀ b', TO P E D (mapP e ρ b' m :: L) F ops os k ((d, .iface t (.map (some b'))) :: σ) Φ) : TO P E D L F ops (⟨some d, .call ⟨.value (.func f), #[x], tys⟩, ty, pos, af, g⟩ :: os) k σ Φ := by
  refine to_op hg rfl fun w a ag st => ?_
  obtain ⟨es, clock, s1, hm⟩ := (st.perm fb.p).openMap
  have h1 : (Extern.MapsClone.clone #[.iface t (.map (some b))]).run P w = .ok (.iface t (.map (some w.heap.size))) { w with heap := w.heap.push (.map es clock) } := by
    have e1 : Extern.MapsClone.clone #[.iface t (.map (some b))] = (getObj b >>= fun o => match o with
      | .map entries clock => (newObj (.map entries clock) >>= fun n => pure (.iface t (.map (some n))))
      | _ => stuck "maps.clone: a map expected") := rfl
    rw [e1]
    rw [Sem.run_bind, run_getMap (P := P) s1.at1]
    simp [Result.andThen]
  have h2 : (execOp a.eval ⟨some d, .call ⟨.value (.func f), #[x], tys⟩, ty, pos, af, g⟩).run P w = .ok (.value (.iface t (.map (some w.heap.size)))) { w with heap := w.heap.push (.map es clock) } := by
    have := cf.h #[.iface t (.map (some b))] w
    rw [h1, Result.andThen_ok] at this
    have e2 : execOp a.eval ⟨some d, .call ⟨.value (.func f), #[x], tys⟩, ty, pos, af, g⟩ = callSem (.func (.func f) #[] #[]) [.iface t (.map (some b))] :=
      exec_callv ag rfl (by simp [evs, hx])
    rw [e2]
    simpa [callSem, Deferred.ofValue, invoke] using this
  rw [h2]
  exact ⟨_, F, .refl _, (st.new (.map es clock)).shutMap hm, K _⟩
theorem setObj_run {w : World} {es : Array MapEntry} {c : Nat} (s : St w (at1 b (.map es c) :: L) F) (o' : Obj) : (setObj b o').run P w = .ok () { w with heap := w.heap.setIfInBounds b o' } := by
  have h := s.at1
  simp [setObj, Sem.run, h]
/-- clear of a map -/
theorem to_clearM [nm : NM E] {κ : Type} {e : κ → Value} {m : List (κ × β)} {tys : Array TypeId} [hm : Und P t (.map kt et)] [fb : FB b L (mapP e ρ b m) R] {dst : Option Tmp} (hg : gd σ ops g = some true) (ht : tys = #[t]) (hx : ev σ x = some (.map (some b)))
    (K : TO P E D (mapP e ρ b [] :: R) F ops os k (putd dst (.tuple #[]) σ) Φ) : TO P E D L F ops (⟨dst, .call ⟨.builtin .clear, #[x], tys⟩, ty, pos, af, g⟩ :: os) k σ Φ := by
  subst ht
  refine to_op hg rfl fun w a ag st => ?_
  obtain ⟨es, clock, s1, hmk⟩ := (st.perm fb.p).openMap
  have hgm := run_getMap (P := P) s1.at1
  have h2 : (execOp a.eval ⟨dst, .call ⟨.builtin .clear, #[x], #[t]⟩, ty, pos, af, g⟩).run P w = .ok (.value (.tuple #[])) { w with heap := w.heap.setIfInBounds b (.map #[] clock) } := by
    simp [execOp, resolve, invoke, builtin, Builtin.clear_, ev_eval ag hx, run_und (P := P) (t := t) w, hgm, Result.andThen, setObj_run s1]
  rw [h2]
  refine ⟨_, F, .refl _, (s1.set (.map #[] clock)).shutMap ⟨⟨[], .nil, .nil⟩, ?_, ?_, ?_⟩, K⟩ <;> simp
/-- ^ of bytes -/
theorem xor_byte (c e : UInt8) : IntKind.u8.wrap ((BitVec.ofInt 8 (c.toNat : Int)) ^^^ (BitVec.ofInt 8 (e.toNat : Int))).toNat = ((c ^^^ e).toNat : Int) := by
  have h1 : BitVec.ofInt 8 (c.toNat : Int) = c.toBitVec := by
    apply BitVec.eq_of_toNat_eq; simp
  have h2 : BitVec.ofInt 8 (e.toNat : Int) = e.toBitVec := by
    apply BitVec.eq_of_toNat_eq; simp
  rw [h1, h2]
  have : (c ^^^ e).toNat < 256 := UInt8.toNat_lt _
  have h3 : (c.toBitVec ^^^ e.toBitVec).toNat = (c ^^^ e).toNat := by simp
  rw [h3]
  have h4 : (((c ^^^ e).toNat : Int)) % (2 ^ 8 : Int) = (c ^^^ e).toNat := by omega
  unfold IntKind.wrap
  simp only [IntKind.bits, IntKind.signed, Bool.false_and, Bool.false_eq_true, if_false]
  exact h4
theorem to_xorB {c e : UInt8} {t2 : TypeId} (hg : gd σ ops g = some true) (hx : ev σ x = some (.int .u8 c.toNat)) (hy : ev σ y = some (.int .u8 e.toNat))
    (K : TO P E D L F ops os k ((d, .int .u8 (c ^^^ e).toNat) :: σ) Φ) : TO P E D L F ops (⟨some d, .binOp .xor t x y t2, ty, pos, af, g⟩ :: os) k σ Φ :=
  to_val hg (fun w a ag => exec_bin ag hx hy (by
    have : (eqGuard .xor t x y (.int .u8 c.toNat) (.int .u8 e.toNat)).run P w = .ok () w := by simp [eqGuard]
    rw [Sem.run_bind, this, Result.andThen_ok]
    show (if IntKind.u8 ≠ IntKind.u8 then stuck "BinOp: operands of different kinds" else Op.intBits .xor .u8 c.toNat e.toNat : Sem Value).run P w = _
    rw [if_neg (by simp)]
    show (pure (.int .u8 (IntKind.u8.wrap ((BitVec.ofInt 8 (c.toNat : Int)) ^^^ (BitVec.ofInt 8 (e.toNat : Int))).toNat)) : Sem Value).run P w = _
    rw [xor_byte, Sem.run_pure])) K
end
end Go.Au
end

section
set_option linter.unusedVariables false
set_option linter.unusedSimpArgs false
namespace Go.Au
open Go

section
variable {P : Program} {E : Ex} {D : List Deferred} {L L' L1 R : List HP} {F F' F0 : Frz} {k : List Item} {σ σ' : Sg} {Φ Ψ : Fin} {ops : Array Oper} {os : List Oper}
  {ty : TypeId} {pos : String} {af : Array Edge} {d b o : Nat} {g : Option (Nat × Bool)} {t t' et src dst kt : TypeId} {x y z : Operand} {v u : Value}
  {zs cs : List Value} {n by_ : Nat} {β : Type} {ρ : Rel β} {xs ys : List β} {len cap j : Nat} {q : β}

theorem t_re {A : List HP} {σ1 : Sg} [ex : Ext A L L1] [dr : Drp L1 R] (h : T P E D (A ++ R) F k σ1 Φ) (hs : Sub σ1 σ) : T P E D L F k σ Φ :=
  t_weak (t_conv fun w st => ⟨_, F, .refl _, dr.h w F A (st.perm ex.p), h⟩) hs
theorem to_re {A : List HP} {σ1 : Sg} [ex : Ext A L L1] [dr : Drp L1 R] (h : TO P E D (A ++ R) F ops os k σ1 Φ) (hs : Sub σ1 σ) : TO P E D L F ops os k σ Φ :=
  to_weak (to_conv fun w st => ⟨_, F, .refl _, dr.h w F A (st.perm ex.p), h⟩) hs

/-- A test: the slot's value is then known. -/
theorem t_condT {t : Nat} {x y : Code} {b : Bool} (hc : look σ t = some (.bool b)) (ht : b = true → T P E D L F (.code x :: k) ((t, .bool true) :: σ) Φ)
    (hf : b = false → T P E D L F (.code y :: k) ((t, .bool false) :: σ) Φ) : T P E D L F (.code (.cond (.tmp t) x y) :: k) σ Φ := by
  refine t_cond (t := b) hc (fun h => ?_) (fun h => ?_)
  · subst h; exact t_sub (ht rfl) (look_same hc)
  · subst h; exact t_sub (hf rfl) (look_same hc)
/-- A loop whose state is told by an index. -/
theorem t_loopJ {c : Code} {ι : Type} (μ : ι → Nat) (AA : ι → List HP) (SS : ι → Sg) (GG : ι → Frz → Prop) (i0 : ι) [ex : Ext (AA i0) L L1] [dr : Drp L1 R] (hs : Sub (SS i0) σ) (hg : GG i0 F)
    (round : ∀ i F', FS F F' → GG i F' → (∀ j F'', FS F' F'' → μ j < μ i → GG j F'' → T P E D (AA j ++ R) F'' (.inLoop c :: k) (SS j) Φ) →
      T P E D (AA i ++ R) F' (.code c :: .inLoop c :: k) (SS i) Φ) : T P E D L F (.code (.loop c) :: k) σ Φ := by
  refine t_re (A := AA i0) (R := R) (σ1 := SS i0) ?_ hs
  refine t_loop (fun n L2 F2 σ2 => ∃ i, n = μ i ∧ L2 = AA i ++ R ∧ σ2 = SS i ∧ FLe F F2 ∧ GG i F2) (μ i0) ⟨i0, rfl, rfl, rfl, .refl _, hg⟩ ?_
  rintro n L2 F2 σ2 ⟨i, rfl, rfl, rfl, le, hgi⟩ ih
  refine round i F2 ⟨le⟩ hgi fun j F3 hs3 hlt hgj => ?_
  exact ih (μ j) _ F3 _ hlt ⟨j, rfl, rfl, rfl, le.trans hs3.h, hgj⟩

/-- An empty slice is ours. -/
theorem t_emp (ρ : Rel β) (n : Nat) (et : TypeId) (a : Option Addr) (K : T P E D (OSl ρ n et (.slice a 0 0) [] :: L) F k σ Φ) : T P E D L F k σ Φ :=
  t_conv fun w st => ⟨_, F, .refl _, st.shutSl0 a, K⟩
theorem to_emp (ρ : Rel β) (n : Nat) (et : TypeId) (a : Option Addr) (K : TO P E D (OSl ρ n et (.slice a 0 0) [] :: L) F ops os k σ Φ) : TO P E D L F ops os k σ Φ :=
  to_conv fun w st => ⟨_, F, .refl _, st.shutSl0 a, K⟩

/-! #### Bytes that are frozen, or ours -/
def byH (c : Bool) (et : TypeId) (v : Value) (l : List UInt8) : HP where
  P F h := match c with
    | true => (slR u8R 1).r F l v ∧ h = []
    | false => (OSl u8R 1 et v l).P F h
  mono := by
    intro F G h le hp
    cases c with
    | true => exact ⟨(slR u8R 1).mono le hp.1, hp.2⟩
    | false => exact (OSl u8R 1 et v l).mono le hp
class FY (v : Value) (L : List HP) (A : outParam HP) (R : outParam (List HP)) : Prop where
  p : L.Perm (A :: R)
instance fy_tl {v : Value} {B : HP} {L R : List HP} {A : HP} [h : FY v L A R] : FY v (B :: L) A (B :: R) := ⟨(h.p.cons B).trans (.swap A B R)⟩
instance fy_nil {v : Value} {B R : List HP} {A : HP} [h : FY v B A R] : FY v ([] ++ B) A R := ⟨h.p⟩
instance fy_at {v : Value} {X : HP} {L B R : List HP} {A : HP} [h : FY v (L ++ B) A R] : FY v ((X :: L) ++ B) A (X :: R) := ⟨(h.p.cons X).trans (.swap A X R)⟩
instance fy_hd {c : Bool} {et : TypeId} {v : Value} {l : List UInt8} {L : List HP} : FY v (byH c et v l :: L) (byH c et v l) L := ⟨.refl _⟩
instance fy_hda {c : Bool} {et : TypeId} {v : Value} {l : List UInt8} {L B : List HP} : FY v ((byH c et v l :: L) ++ B) (byH c et v l) (L ++ B) := ⟨.refl _⟩
theorem by_cases {w : World} {c : Bool} {l : List UInt8} (st : St w (byH c et v l :: L) F) : (slR u8R 1).r F l v ∧ St w L F ∨ St w (OSl u8R 1 et v l :: L) F := by
  cases c with
  | true =>
    obtain ⟨h, ⟨h1, h2, rfl, ⟨hr, rfl⟩, s⟩, ow⟩ := st
    exact .inl ⟨hr, h2, s, ow⟩
  | false => exact .inr st
theorem by_of_true {w : World} {l : List UInt8} (h : (slR u8R 1).r F l v) (st : St w L F) : St w (byH true et v l :: L) F := by
  obtain ⟨h0, s, ow⟩ := st
  exact ⟨h0, ⟨[], h0, rfl, ⟨h, rfl⟩, s⟩, ow⟩
theorem to_lenY {c : Bool} {l : List UInt8} {st e' : TypeId} {tys : Array TypeId} [hu : Und P st (.slice e')] [fy : FY v L (byH c et v l) R] (hg : gd σ ops g = some true) (ht : tys = #[st]) (hx : ev σ x = some v)
    (K : TO P E D L F ops os k ((d, .int .i64 l.length) :: σ) Φ) : TO P E D L F ops (⟨some d, .call ⟨.builtin .len, #[x], tys⟩, ty, pos, af, g⟩ :: os) k σ Φ := by
  refine to_conv fun w stw => ?_
  refine ⟨L, F, .refl _, stw, ?_⟩
  have : ∃ a cap, v = .slice a l.length cap := by
    rcases by_cases (stw.perm fy.p) with ⟨h, _⟩ | s
    · exact slR_len h
    · exact osl_len s
  obtain ⟨a, cap, rfl⟩ := this
  exact to_lenS hg ht hx K
theorem to_cvY [nm : NM E] {c : Bool} {l : List UInt8} [hs : Und P src (.slice et)] [hd : Und P dst .string] [he : Und P et (.int .u8)] [fy : FY v L (byH c t' v l) R] (hg : gd σ ops g = some true) (hx : ev σ x = some v)
    (K : TO P E D L F ops os k ((d, .string ⟨l.toArray⟩) :: σ) Φ) : TO P E D L F ops (⟨some d, .convert src dst x, ty, pos, af, g⟩ :: os) k σ Φ := by
  refine to_rd hg (.inr (by simp [lvl, hd.h])) (fun w a ag st => exec_cv ag hx ?_) K
  rcases by_cases (st.perm fy.p) with ⟨h, s⟩ | s
  · exact conv_ro (le := .refl _) h s
  · rcases s.openSl with ⟨rfl, ⟨a, rfl⟩, _⟩ | ⟨b, cap, vs, junk, rfl, h2, h3, s1⟩
    · exact conv_nil a
    · refine conv_bytes fun i u hu => ?_
      rw [s1.cell, Nat.zero_add, f2_bytes_eq h2, flat_bytes]
      have : i < (bcs l).length := by
        rcases Nat.lt_or_ge i (bcs l).length with h | h
        · exact h
        · rw [List.getElem?_eq_none h] at hu; cases hu
      rw [List.getElem?_append_left this]; exact hu

/-! #### Maps by what they hold -/
section maps
variable {κ : Type} {e : κ → Value} {m : List (κ × β)} {key : κ}
theorem aget_of_mem [DecidableEq κ] {k : κ} {v : β} : ∀ {m : List (κ × β)}, (m.map (·.1)).Nodup → (k, v) ∈ m → aget m k = some v
  | [], _, h => nomatch h
  | (k', v') :: m, nd, h => by
    rw [List.map_cons, List.nodup_cons] at nd
    rcases List.mem_cons.1 h with h | h
    · cases h; simp [aget]
    · have hne : k' ≠ k := fun e => nd.1 (List.mem_map.2 ⟨(k, v), h, e.symm⟩)
      have ih := aget_of_mem nd.2 h
      unfold aget at ih ⊢
      rw [List.find?_cons_of_neg (by simpa using hne)]; exact ih
theorem aget_none [DecidableEq κ] {k : κ} {m : List (κ × β)} (h : ∀ v, (k, v) ∉ m) : aget m k = none := by
  unfold aget
  rw [List.find?_eq_none.2, Option.map_none]
  rintro ⟨k', v'⟩ hm
  simp only [decide_eq_true_eq]
  rintro rfl
  exact h v' hm
theorem mem_of_aget [DecidableEq κ] {k : κ} {v : β} {m : List (κ × β)} (h : aget m k = some v) : (k, v) ∈ m := by
  unfold aget at h
  cases hf : m.find? (fun p => p.1 = k) with
  | none => rw [hf] at h; cases h
  | some p =>
    rw [hf] at h; cases h
    have := List.find?_some hf
    simp only [decide_eq_true_eq] at this
    subst this
    exact List.mem_of_find?_eq_some hf
theorem to_nd [fb : FB b L (mapP e ρ b m) R] (K : (m.map (·.1)).Nodup → TO P E D L F ops os k σ Φ) : TO P E D L F ops os k σ Φ :=
  to_conv fun w st => ⟨L, F, .refl _, st, K (by obtain ⟨es, clock, _, hm⟩ := (st.perm fb.p).openMap; exact hm.2.1)⟩
theorem t_nd (b : Nat) [fb : FB b L (mapP e ρ b m) R] (K : (m.map (·.1)).Nodup → T P E D L F k σ Φ) : T P E D L F k σ Φ :=
  t_conv fun w st => ⟨L, F, .refl _, st, K (by obtain ⟨es, clock, _, hm⟩ := (st.perm fb.p).openMap; exact hm.2.1)⟩
theorem to_lkg [nm : NM E] [DecidableEq κ] {ok : Bool} {zv : Value} [fb : FB b L (mapP e ρ b m) R] [Und P t (.map kt et)] [KeyT P kt κ e] [hz : Zer P et zv] [Inf P et zs n by_] (hg : gd σ ops g = some true) (hx : ev σ x = some (.map (some b))) (hy : ev σ y = some (e key))
    (K1 : ∀ v u, aget m key = some v → ρ.r F v u → TO P E D L F ops os k ((d, lkv ok u true) :: σ) Φ)
    (K2 : aget m key = none → TO P E D L F ops os k ((d, lkv ok zv false) :: σ) Φ) : TO P E D L F ops (⟨some d, .lookup t x y ok, ty, pos, af, g⟩ :: os) k σ Φ :=
  to_nd (b := b) fun nd => to_lk hg hx hy (fun v u h => K1 v u (aget_of_mem nd h)) (fun h => K2 (aget_none h))
theorem to_lkRg [nm : NM E] [DecidableEq κ] {ok : Bool} {zv : Value} (hro : RoM e ρ F0 b m) [le : FLe F0 F] [Und P t (.map kt et)] [KeyT P kt κ e] [hz : Zer P et zv] [Inf P et zs n by_] (hg : gd σ ops g = some true) (hx : ev σ x = some (.map (some b))) (hy : ev σ y = some (e key))
    (K1 : ∀ v u, aget m key = some v → ρ.r F0 v u → TO P E D L F ops os k ((d, lkv ok u true) :: σ) Φ)
    (K2 : aget m key = none → TO P E D L F ops os k ((d, lkv ok zv false) :: σ) Φ) : TO P E D L F ops (⟨some d, .lookup t x y ok, ty, pos, af, g⟩ :: os) k σ Φ :=
  to_lkR hro hg hx hy (fun v u h => K1 v u (aget_of_mem hro.choose_spec.choose_spec.2.2.1 h)) (fun h => K2 (aget_none h))

/-! #### A map's entries, opened -/
theorem F2.fn {α γ : Type} {S : α → γ → Prop} {l : List α} {m : List γ} (h : F2 S l m) (nd : l.Nodup) (c0 : l = [] ∨ Nonempty γ) : l = [] ∧ m = [] ∨ ∃ φ : α → γ, m = l.map φ ∧ ∀ x ∈ l, S x (φ x) := by
  classical
  induction h with
  | nil => exact .inl ⟨rfl, rfl⟩
  | @cons a c l m hs h ih =>
    rw [List.nodup_cons] at nd
    refine .inr ?_
    rcases ih nd.2 (.inr ⟨c⟩) with ⟨rfl, rfl⟩ | ⟨φ, rfl, hφ⟩
    · exact ⟨fun _ => c, rfl, fun x hx => by cases List.mem_singleton.1 hx; exact hs⟩
    · refine ⟨fun x => if x = a then c else φ x, ?_, fun x hx => ?_⟩
      · rw [List.map_cons, if_pos rfl]
        congr 1
        refine List.map_congr_left fun x hx => ?_
        have : x ≠ a := fun e => nd.1 (e ▸ hx)
        rw [if_neg this]
      · rcases List.mem_cons.1 hx with rfl | hx
        · simpa using hs
        · have : x ≠ a := fun e => nd.1 (e ▸ hx)
          simpa [this] using hφ x hx
/-- The entries of a map, each with what it stands for. -/
structure MOp {κ β : Type} (e : κ → Value) (ρ : Rel β) (F : Frz) (es : Array MapEntry) (clock : Nat) (m : List (κ × β)) (φ : MapEntry → κ × β) : Prop where
  perm : (es.toList.map φ).Perm m
  rel : ∀ x ∈ es.toList, x.key = e (φ x).1 ∧ ρ.r F (φ x).2 x.val
  nd : es.toList.Nodup
  nb : (es.toList.map (·.born)).Nodup
  bl : ∀ x ∈ es.toList, x.born < clock
  nk : (m.map (·.1)).Nodup
  ok : MOk e ρ F es clock m
theorem MOk.op {es : Array MapEntry} {clock : Nat} (h : MOk e ρ F es clock m) : (es = #[] ∧ m = []) ∨ ∃ φ, MOp e ρ F es clock m φ := by
  have h0 := h
  obtain ⟨⟨m', p, f2⟩, nk, nb, bl⟩ := h
  have nd : es.toList.Nodup := List.Pairwise.of_map (fun x : MapEntry => x.born) (fun a b h e => h (e ▸ rfl)) nb
  cases hm : m' with
  | nil =>
    subst hm
    have : es.toList.length = 0 := f2.length_eq
    left
    refine ⟨by apply Array.ext'; exact List.eq_nil_of_length_eq_zero this, (List.nil_perm.1 p)⟩
  | cons c r =>
    rcases f2.fn nd (.inr ⟨c⟩) with ⟨_, h2⟩ | ⟨φ, e2, hφ⟩
    · rw [h2] at hm; cases hm
    · exact .inr ⟨φ, e2 ▸ p, hφ, nd, nb, bl, nk, h0⟩
theorem t_openM (b : Nat) [Nonempty (κ × β)] [fb : FB b L (mapP e ρ b m) R] (K : ∀ es clock φ, MOp e ρ F es clock m φ → T P E D (at1 b (.map es clock) :: R) F k σ Φ) : T P E D L F k σ Φ :=
  t_conv fun w st => by
    obtain ⟨es, clock, s1, hm⟩ := (st.perm fb.p).openMap
    refine ⟨_, F, .refl _, s1, ?_⟩
    rcases hm.op with ⟨rfl, rfl⟩ | ⟨φ, h⟩
    · exact K _ _ (fun _ => Classical.choice inferInstance) ⟨by simp, by simp, by simp, by simp, by simp, by simp, hm⟩
    · exact K _ _ φ h
theorem to_openM (b : Nat) [Nonempty (κ × β)] [fb : FB b L (mapP e ρ b m) R] (K : ∀ es clock φ, MOp e ρ F es clock m φ → TO P E D (at1 b (.map es clock) :: R) F ops os k σ Φ) : TO P E D L F ops os k σ Φ :=
  to_conv fun w st => by
    obtain ⟨es, clock, s1, hm⟩ := (st.perm fb.p).openMap
    refine ⟨_, F, .refl _, s1, ?_⟩
    rcases hm.op with ⟨rfl, rfl⟩ | ⟨φ, h⟩
    · exact K _ _ (fun _ => Classical.choice inferInstance) ⟨by simp, by simp, by simp, by simp, by simp, by simp, hm⟩
    · exact K _ _ φ h
theorem to_shutM {es : Array MapEntry} {clock : Nat} (b : Nat) (hm : MOk e ρ F es clock m) [fb : FB b L (at1 b (.map es clock)) R] (K : TO P E D (mapP e ρ b m :: R) F ops os k σ Φ) : TO P E D L F ops os k σ Φ :=
  to_conv fun w st => ⟨_, F, .refl _, (st.perm fb.p).shutMap hm, K⟩
theorem MOp.mono {es : Array MapEntry} {clock : Nat} {φ : MapEntry → κ × β} (h : MOp e ρ F es clock m φ) (le : FLe F F') : MOp e ρ F' es clock m φ :=
  ⟨h.perm, fun x hx => ⟨(h.rel x hx).1, ρ.mono le (h.rel x hx).2⟩, h.nd, h.nb, h.bl, h.nk, h.ok.mono le⟩
theorem t_shutM {es : Array MapEntry} {clock : Nat} (b : Nat) (hm : MOk e ρ F es clock m) [fb : FB b L (at1 b (.map es clock)) R] (K : T P E D (mapP e ρ b m :: R) F k σ Φ) : T P E D L F k σ Φ :=
  t_conv fun w st => ⟨_, F, .refl _, (st.perm fb.p).shutMap hm, K⟩
theorem done_perm {es done : List MapEntry} (nd : es.Nodup) (dn : done.Nodup) (h1 : ∀ x ∈ done, x ∈ es) (h2 : ∀ x ∈ es, x ∈ done) : done.Perm es :=
  (List.perm_ext_iff_of_nodup dn nd).2 fun x => ⟨h1 x, h2 x⟩
end maps
end
end Go.Au
end

section
set_option maxRecDepth 100000
set_option linter.unusedVariables false
namespace Go.Proofs.YtbffngeameenoaaGreat
open Go Go.Au

structure Ver where
  gen : Int
  time : Int
  text : ByteArray
  gone : Bool
deriving DecidableEq
def verV (x : Ver) : Value := .agg #[.int .i64 x.gen, .int .i64 x.time, .string x.text, .bool x.gone]
def verR : Rel Ver := ⟨fun _ x v => v = verV x, fun _ h => h⟩
abbrev vsR : Rel (List Ver) := slR verR 4
def shotR : Rel (List (ByteArray × Int)) := ⟨fun F m v => ∃ b, v = .map (some b) ∧ RoM Value.string intR F b m, fun le ⟨b, h1, h2⟩ => ⟨b, h1, h2.mono le⟩⟩
def sesR : Rel (ByteArray × ByteArray) := ⟨fun _ x v => v = .agg #[.string x.1, .string x.2], fun _ h => h⟩
def heldR : Rel (ByteArray × Int) := ⟨fun _ x v => v = .agg #[.string x.1, .int .i64 x.2], fun _ h => h⟩
/-- a reference's generation, session, snapshot -/
structure RVer where
  name : ByteArray
  gen : Int
  time : Int
  text : ByteArray
  gone : Bool
deriving DecidableEq
def rverV (x : RVer) : Value := .agg #[.string x.name, .int .i64 x.gen, .int .i64 x.time, .string x.text, .bool x.gone]
def rverR : Rel RVer := ⟨fun _ x v => v = rverV x, fun _ h => h⟩
structure RSes where
  n : Int
  name : ByteArray
  text : ByteArray
deriving DecidableEq
def rsesR : Rel RSes := ⟨fun _ x v => v = .agg #[.int .i64 x.n, .string x.name, .string x.text], fun _ h => h⟩
def rshotR : Rel (ByteArray × List (ByteArray × Int)) := ⟨fun F x v => ∃ hv, v = .agg #[.string x.1, hv] ∧ (slR heldR 2).r F x.2 hv, fun le ⟨hv, h1, h2⟩ => ⟨hv, h1, (slR heldR 2).mono le h2⟩⟩

instance kstr : KeyT Tryz.prog 9 ByteArray Value.string := keyT_str Tryz.underlying9
instance kint : KeyT Tryz.prog 3 Int (Value.int .i64) := keyT_int Tryz.underlying3
instance el_ver : ElT Tryz.prog 85 verR 4 40 := ElT.agg rfl (by omega) (by omega) fun F x v h => ⟨_, h, rfl, by simp [Value.oneCell']⟩
instance el_rver : ElT Tryz.prog 101 rverR 5 56 := ElT.agg rfl (by omega) (by omega) fun F x v h => ⟨_, h, rfl, by simp [Value.oneCell']⟩
instance el_ses : ElT Tryz.prog 75 sesR 2 32 := ElT.agg rfl (by omega) (by omega) fun F x v h => ⟨_, h, rfl, by simp [Value.oneCell']⟩
instance el_rses : ElT Tryz.prog 95 rsesR 3 40 := ElT.agg rfl (by omega) (by omega) fun F x v h => ⟨_, h, rfl, by simp [Value.oneCell']⟩
instance el_held : ElT Tryz.prog 105 heldR 2 24 := ElT.agg rfl (by omega) (by omega) fun F x v h => ⟨_, h, rfl, by simp [Value.oneCell']⟩
theorem sl_one {β : Type} {ρ : Rel β} {n : Nat} {F : Frz} {xs : List β} {v : Value} (h : (slR ρ n).r F xs v) : v.oneCell' = true := by
  rcases h with ⟨rfl, a, cap, rfl⟩ | ⟨b, o, cap, vs, rfl, _⟩ <;> rfl
instance el_rshot : ElT Tryz.prog 103 rshotR 2 40 := ElT.agg rfl (by omega) (by omega) fun F x v h => by
  obtain ⟨hv, e, hr⟩ := h
  exact ⟨_, e, rfl, fun u hu => by
    simp only [List.mem_cons, List.not_mem_nil, or_false] at hu
    rcases hu with rfl | rfl
    · rfl
    · exact sl_one hr⟩
instance el_u8 : ElT Tryz.prog 5 u8R 1 1 := ElT.sca rfl (by omega) fun F x v h => by cases h; exact ⟨rfl, rfl⟩
instance el_int : ElT Tryz.prog 3 intR 1 8 := ElT.sca rfl (by omega) fun F x v h => by cases h; exact ⟨rfl, rfl⟩
instance el_str : ElT Tryz.prog 9 strR 1 16 := ElT.sca rfl (by omega) fun F x v h => by cases h; exact ⟨rfl, rfl⟩
instance zr_vs : Zer Tryz.prog 77 (.slice none 0 0) := Zer.mk' (by kernel_rfl)
instance zr_shot : Zer Tryz.prog 80 (.map none) := Zer.mk' (by kernel_rfl)
instance zr_ses : Zer Tryz.prog 75 (.agg #[.string ⟨#[]⟩, .string ⟨#[]⟩]) := Zer.mk' (by kernel_rfl)
instance zr_int : Zer Tryz.prog 3 (.int .i64 0) := Zer.mk' (by kernel_rfl)
instance zr_bool : Zer Tryz.prog 4 (.bool false) := Zer.mk' (by kernel_rfl)
instance mix : Mixed Tryz.prog := ⟨by kernel_rfl⟩
instance cln : CloneF Tryz.prog 81 := ⟨fun args w => run_callFunc_extern Tryz.func81 (by kernel_rfl) (by kernel_rfl) (by kernel_rfl) (e := Extern.MapsClone.clone) (by kernel_rfl) args w⟩

/-- A model in memory. -/
structure XM where
  files : List (ByteArray × List Ver)
  shots : List (ByteArray × List (ByteArray × Int))
  sess : List (Int × (ByteArray × ByteArray))
  began : Int
  now : Int
  quota : Int
abbrev XC (f s o : Nat) (began now quota : Int) : List Value := [.map (some f), .map (some s), .map (some o), .int .i64 began, .int .i64 now, .int .i64 quota]
abbrev XP (b f s o : Nat) (x : XM) : List HP := [own b (XC f s o x.began x.now x.quota) 69, mapP Value.string vsR f x.files, mapP Value.string shotR s x.shots, mapP (Value.int .i64) sesR o x.sess]
abbrev ptr (b : Nat) : Value := .pointer (some ⟨b, 0, none⟩)
/-- An operation's value. -/
structure Op1 where
  do_ : Int
  n : Int
  name : ByteArray
  shot : ByteArray
  gen : Int
  from_ : Int
  size : Int
  bytes : List UInt8
  last : Int
  young : Int
  step : Int
  count : Int
abbrev opC (o : Op1) (bv cv ct ca : Value) : List Value := [.int .i64 o.do_, .int .i64 o.n, .string o.name, .string o.shot, .int .i64 o.gen, .int .i64 o.from_, .int .i64 o.size, bv, .int .i64 o.last, .int .i64 o.young, .int .i64 o.step, .int .i64 o.count, cv, ct, ca]
abbrev opV (o : Op1) (bv cv ct ca : Value) : Value := .agg (opC o bv cv ct ca).toArray
abbrev nilS : Value := .slice none 0 0
abbrev ansV (e n : Int) (bv nv : Value) : Value := .agg #[.int .i64 e, .int .i64 n, bv, nv]
theorem wrong_sp (e : Int) (F : Frz) : Sp Tryz.prog 26 [.int .i64 e] [] F (fun v B F' => v = ansV e 0 nilS nilS ∧ B = []) := by
  refine sp_of Tryz.func26 rfl (by kernel_rfl) rfl fun R => ?_
  repeat (first | refine t_seq ?_ | refine t_region ?_ | refine to_nil ?_ | refine to_q rfl rfl rfl ?_ | refine to_stA rfl rfl rfl rfl rfl rfl ?_ | refine to_alloc rfl fun _ => ?_ | refine to_bs rfl rfl rfl rfl ?_)
  exact t_ret [] Tryz.func26 (.cellA rfl rfl .nil) ⟨rfl, rfl⟩
theorem rwrong_sp (e : Int) (F : Frz) : Sp Tryz.prog 50 [.int .i64 e] [] F (fun v B F' => v = ansV e 0 nilS nilS ∧ B = []) := by
  refine sp_of Tryz.func50 rfl (by kernel_rfl) rfl fun R => ?_
  repeat (first | refine t_seq ?_ | refine t_region ?_ | refine to_nil ?_ | refine to_q rfl rfl rfl ?_ | refine to_stA rfl rfl rfl rfl rfl rfl ?_ | refine to_alloc rfl fun _ => ?_ | refine to_bs rfl rfl rfl rfl ?_)
  exact t_ret [] Tryz.func50 (.cellA rfl rfl .nil) ⟨rfl, rfl⟩
theorem lost_sp (b f s o : Nat) (x : XM) (n e : Int) (F : Frz) : Sp Tryz.prog 65 [ptr b, .int .i64 n, .int .i64 e] (XP b f s o x) F
    (fun v B F' => v = ansV e 0 nilS nilS ∧ B = XP b f s o { x with sess := adel x.sess n }) := by
  refine sp_of Tryz.func65 rfl (by kernel_rfl) rfl fun R => ?_
  repeat (first | refine t_seq ?_ | refine t_region ?_ | refine to_nil ?_ | refine to_q rfl rfl rfl ?_ | refine to_fa rfl rfl ?_ | refine to_ld rfl rfl rfl ?_ | refine to_alloc rfl fun _ => ?_)
  refine to_del rfl rfl rfl (key := n) rfl ?_
  repeat (first | refine t_seq ?_ | refine t_region ?_ | refine to_nil ?_ | refine to_q rfl rfl rfl ?_)
  refine to_call rfl rfl (wrong_sp e _) fun v B F' _ h => ?_
  obtain ⟨rfl, rfl⟩ := h
  repeat (first | refine to_nil ?_ | refine to_stA rfl rfl rfl rfl rfl rfl ?_)
  exact t_ret (XP b f s o { x with sess := adel x.sess n }) Tryz.func65 (.cellA rfl rfl .nil) ⟨rfl, rfl⟩
end Go.Proofs.YtbffngeameenoaaGreat
end

section
set_option maxRecDepth 100000
set_option linter.unusedVariables false
set_option linter.unusedSimpArgs false
namespace Go.Proofs.YtbffngeameenoaaGreat
open Go Go.Au
attribute [local irreducible] T TO

def okc (c : UInt8) : Bool := decide (33 ≤ c.toNat) && decide (c.toNat ≤ 126)
def nameOk (s : ByteArray) : Bool := s.data.toList.all okc && (decide (1 ≤ s.size) && decide (s.size ≤ 32))
theorem ba_len (s : ByteArray) : s.data.toList.length = s.size := by rw [Array.length_toList]; rfl
theorem ba_beq (a b : ByteArray) : (a.toList == b.toList) = decide (a = b) := by
  rw [ByteArray.toList_eq, ByteArray.toList_eq]
  obtain ⟨⟨a⟩⟩ := a
  obtain ⟨⟨b⟩⟩ := b
  by_cases h : a = b
  · simp [h]
  · simp [h]
theorem ba_empty (s : ByteArray) : s = ⟨#[]⟩ ↔ s.size = 0 := by
  obtain ⟨⟨a⟩⟩ := s
  constructor
  · intro h; rw [h]; rfl
  · intro h
    have : a.length = 0 := h
    rw [List.eq_nil_of_length_eq_zero this]
theorem ne_emp (s : ByteArray) : (!(s.toList == (⟨#[]⟩ : ByteArray).toList)) = decide (1 ≤ s.size) := by
  rw [ba_beq, Bool.eq_iff_iff]
  simp only [Bool.not_eq_true', decide_eq_false_iff_not, decide_eq_true_eq, ba_empty]
  omega
theorem all_of {s : ByteArray} {i : Nat} (hi : s.size ≤ i) (h : ∀ j c, j < i → s.data.toList[j]? = some c → okc c = true) : s.data.toList.all okc = true := by
  rw [List.all_eq_true]
  intro c hc
  obtain ⟨j, hj, e⟩ := List.getElem_of_mem hc
  exact h j c (by rw [ba_len] at hj; omega) (by rw [List.getElem?_eq_getElem hj, e])
theorem not_all {s : ByteArray} {i : Nat} {c : UInt8} (hi : s.data.toList[i]? = some c) (h : okc c = false) : nameOk s = false := by
  have : s.data.toList.all okc = false := by
    rw [List.all_eq_false]
    exact ⟨c, List.mem_of_getElem? hi, by simp [h]⟩
  simp [nameOk, this]
theorem next_ok {s : ByteArray} {i : Nat} {c : UInt8} (hi : s.data.toList[i]? = some c) (hc : okc c = true) (h : ∀ j c, j < i → s.data.toList[j]? = some c → okc c = true) :
    ∀ j c, j < i + 1 → s.data.toList[j]? = some c → okc c = true := by
  intro j c' hj e
  rcases Nat.lt_or_ge j i with h' | h'
  · exact h j c' h' e
  · have : j = i := by omega
    subst this
    rw [hi] at e; cases e; exact hc
theorem name_sp (s : ByteArray) (hs : s.size ≤ 9223372036854775807) (F : Frz) : Sp Tryz.prog 64 [.string s] [] F (fun v B F' => v = .bool (nameOk s) ∧ B = []) := by
  refine sp_of Tryz.func64 rfl (by kernel_rfl) rfl fun R => ?_
  repeat (first | refine t_seq ?_ | refine t_block ?_ | refine t_region ?_ | refine to_nil ?_ | refine to_q rfl rfl rfl ?_ | refine to_lenT rfl rfl rfl ?_)
  refine t_loopJ (R := R) (fun i : Nat => s.size - i) (fun _ => []) (fun i => [(0, .string s), (5, .int .i64 s.size), (6, .int .i64 i)]) (fun i _ => i ≤ s.size ∧ ∀ j c, j < i → s.data.toList[j]? = some c → okc c = true) 0 (by repeat (first | exact trivial | refine ⟨rfl, ?_⟩)) ⟨by omega, by omega⟩ ?_
  intro i F1 _ hg ih
  obtain ⟨hi, hall⟩ := hg
  repeat (first | refine t_seq ?_ | refine t_region ?_ | refine to_nil ?_ | refine to_q rfl rfl rfl ?_)
  refine t_condT rfl (fun h => ?_) (fun h => ?_)
  · simp only [decide_eq_true_eq] at h
    have hlt : i < s.data.toList.length := by rw [ba_len]; omega
    have hc := List.getElem?_eq_getElem hlt
    generalize s.data.toList[i] = c at hc
    repeat (first | refine t_seq ?_ | refine t_block ?_ | refine t_region ?_ | refine to_nil ?_ | refine t_skip ?_ | refine to_q rfl rfl rfl ?_)
    refine to_ixT (j := i) (c := c) rfl rfl rfl rfl hc ?_
    repeat (refine to_q rfl rfl rfl ?_)
    refine to_gd rfl rfl (fun h1 => ?_) (fun h1 => ?_)
    · simp only [decide_eq_true_eq] at h1
      repeat (first | refine t_seq ?_ | refine t_region ?_ | refine to_nil ?_ | refine to_no rfl ?_ | refine to_q rfl rfl rfl ?_ | refine t_cond (t := true) rfl (fun _ => ?_) (fun h => nomatch h))
      exact t_ret [] Tryz.func64 (.tmp rfl .nil) ⟨by rw [not_all hc (by simp [okc]; omega)]; rfl, rfl⟩
    · simp only [decide_eq_false_iff_not] at h1
      repeat (refine to_q rfl rfl rfl ?_)
      refine to_ixT (j := i) (c := c) rfl rfl rfl rfl hc ?_
      repeat (first | refine to_nil ?_ | refine to_q rfl rfl rfl ?_)
      refine t_condT rfl (fun h2 => ?_) (fun h2 => ?_)
      · simp only [decide_eq_true_eq] at h2
        repeat (first | refine t_seq ?_ | refine t_region ?_ | refine to_nil ?_ | refine to_q rfl rfl rfl ?_)
        exact t_ret [] Tryz.func64 (.tmp rfl .nil) ⟨by rw [not_all hc (by simp [okc]; omega)]; rfl, rfl⟩
      · simp only [decide_eq_false_iff_not] at h2
        repeat (first | refine t_region ?_ | refine to_nil ?_ | refine t_skip ?_ | refine t_inBlock ?_ | refine to_q rfl rfl rfl ?_ | refine to_add rfl rfl rfl (by omega) (by omega) ?_)
        refine t_re (A := []) (R := R) (ih (i + 1) F1 ⟨.refl _⟩ (by omega) ⟨by omega, next_ok hc (by simp [okc]; omega) hall⟩) (by repeat (first | exact trivial | refine ⟨rfl, ?_⟩))
  · simp only [decide_eq_false_iff_not] at h
    repeat (first | refine t_seq ?_ | refine t_region ?_ | refine to_q rfl rfl rfl ?_ | refine t_exit rfl ?_)
    have hall' := all_of (by omega) hall
    refine to_gd rfl rfl (fun h1 => ?_) (fun h1 => ?_)
    · repeat (first | refine to_nil ?_ | refine to_q rfl rfl rfl ?_ | refine to_lenT rfl rfl rfl ?_)
      exact t_ret [] Tryz.func64 (.tmp rfl .nil) ⟨by rw [ne_emp] at h1; simp only [decide_eq_true_eq, decide_eq_false_iff_not] at h1; show Value.bool _ = Value.bool _; congr 1; rw [Bool.eq_iff_iff]; simp [nameOk, hall']; try omega, rfl⟩
    · repeat (first | refine to_nil ?_ | refine to_no rfl ?_ | refine to_q rfl rfl rfl ?_)
      exact t_ret [] Tryz.func64 (.tmp rfl .nil) ⟨by rw [ne_emp] at h1; simp only [decide_eq_true_eq, decide_eq_false_iff_not] at h1; show Value.bool _ = Value.bool _; congr 1; rw [Bool.eq_iff_iff]; simp [nameOk, hall']; try omega, rfl⟩
theorem rname_sp (s : ByteArray) (hs : s.size ≤ 9223372036854775807) (F : Frz) : Sp Tryz.prog 49 [.string s] [] F (fun v B F' => v = .bool (nameOk s) ∧ B = []) := by
  refine sp_of Tryz.func49 rfl (by kernel_rfl) rfl fun R => ?_
  repeat (first | refine t_seq ?_ | refine t_region ?_ | refine to_nil ?_ | refine to_q rfl rfl rfl ?_ | refine to_lenT rfl rfl rfl ?_)
  refine to_gd rfl rfl (fun h0 => ?_) (fun h0 => ?_)
  · simp only [decide_eq_true_eq] at h0
    repeat (first | refine t_seq ?_ | refine t_region ?_ | refine to_nil ?_ | refine to_no rfl ?_ | refine to_q rfl rfl rfl ?_ | refine t_cond (t := true) rfl (fun _ => ?_) (fun h => nomatch h))
    exact t_ret [] Tryz.func49 (.tmp rfl .nil) ⟨by simp [packed, nameOk]; omega, rfl⟩
  · simp only [decide_eq_false_iff_not] at h0
    repeat (first | refine to_nil ?_ | refine to_q rfl rfl rfl ?_ | refine to_lenT rfl rfl rfl ?_)
    refine t_condT rfl (fun h1 => ?_) (fun h1 => ?_)
    · simp only [decide_eq_true_eq] at h1
      repeat (first | refine t_seq ?_ | refine t_region ?_ | refine to_nil ?_ | refine to_q rfl rfl rfl ?_)
      exact t_ret [] Tryz.func49 (.tmp rfl .nil) ⟨by simp [packed, nameOk]; omega, rfl⟩
    simp only [decide_eq_false_iff_not] at h1
    repeat (first | refine t_seq ?_ | refine t_block ?_ | refine t_region ?_ | refine to_nil ?_ | refine t_skip ?_ | refine to_q rfl rfl rfl ?_)
    refine t_loopJ (R := R) (fun i : Nat => s.size - i) (fun _ => []) (fun i => [(0, .string s), (3, .int .i64 i)]) (fun i _ => i ≤ s.size ∧ ∀ j c, j < i → s.data.toList[j]? = some c → okc c = true) 0 (by repeat (first | exact trivial | refine ⟨rfl, ?_⟩)) ⟨by omega, by omega⟩ ?_
    intro i F1 _ hg ih
    obtain ⟨hi, hall⟩ := hg
    repeat (first | refine t_seq ?_ | refine t_region ?_ | refine to_nil ?_ | refine to_q rfl rfl rfl ?_ | refine to_lenT rfl rfl rfl ?_)
    refine t_condT rfl (fun h => ?_) (fun h => ?_)
    · simp only [decide_eq_true_eq] at h
      have hlt : i < s.data.toList.length := by rw [ba_len]; omega
      have hc := List.getElem?_eq_getElem hlt
      generalize s.data.toList[i] = c at hc
      repeat (first | refine t_seq ?_ | refine t_block ?_ | refine t_region ?_ | refine t_skip ?_ | refine to_q rfl rfl rfl ?_)
      refine to_ixT (j := i) (c := c) rfl rfl rfl rfl hc ?_
      repeat (refine to_q rfl rfl rfl ?_)
      refine to_gd rfl rfl (fun h1 => ?_) (fun h1 => ?_)
      · simp only [decide_eq_true_eq] at h1
        repeat (first | refine t_seq ?_ | refine t_region ?_ | refine to_nil ?_ | refine to_no rfl ?_ | refine to_q rfl rfl rfl ?_ | refine t_cond (t := true) rfl (fun _ => ?_) (fun h => nomatch h))
        exact t_ret [] Tryz.func49 (.tmp rfl .nil) ⟨by rw [not_all hc (by simp [okc]; omega)]; rfl, rfl⟩
      · simp only [decide_eq_false_iff_not] at h1
        repeat (refine to_q rfl rfl rfl ?_)
        refine to_ixT (j := i) (c := c) rfl rfl rfl rfl hc ?_
        repeat (first | refine to_nil ?_ | refine to_q rfl rfl rfl ?_)
        refine t_condT rfl (fun h2 => ?_) (fun h2 => ?_)
        · simp only [decide_eq_true_eq] at h2
          repeat (first | refine t_seq ?_ | refine t_region ?_ | refine to_nil ?_ | refine to_q rfl rfl rfl ?_)
          exact t_ret [] Tryz.func49 (.tmp rfl .nil) ⟨by rw [not_all hc (by simp [okc]; omega)]; rfl, rfl⟩
        · simp only [decide_eq_false_iff_not] at h2
          repeat (first | refine t_region ?_ | refine to_nil ?_ | refine t_skip ?_ | refine t_inBlock ?_ | refine to_q rfl rfl rfl ?_ | refine to_add rfl rfl rfl (by omega) (by omega) ?_)
          refine t_re (A := []) (R := R) (ih (i + 1) F1 ⟨.refl _⟩ (by omega) ⟨by omega, next_ok hc (by simp [okc]; omega) hall⟩) (by repeat (first | exact trivial | refine ⟨rfl, ?_⟩))
    · simp only [decide_eq_false_iff_not] at h
      repeat (first | refine t_seq ?_ | refine t_region ?_ | refine to_nil ?_ | refine to_q rfl rfl rfl ?_ | refine t_exit rfl ?_)
      have hall' := all_of (by omega) hall
      exact t_ret [] Tryz.func49 (.tmp rfl .nil) ⟨by simp [packed, nameOk, hall']; omega, rfl⟩
end Go.Proofs.YtbffngeameenoaaGreat
end

section
set_option linter.unusedVariables false
set_option linter.unusedSimpArgs false
namespace Go.Au
open Go

instance ext_capp {a : HP} {A B L L1 R : List HP} [h : Fnd a L L1] [k : Ext (A ++ B) L1 R] : Ext ((a :: A) ++ B) L R := ⟨h.p.trans (k.p.cons a)⟩
instance ext_napp {B L R : List HP} [k : Ext B L R] : Ext ([] ++ B) L R := ⟨k.p⟩
/-- Several assertions asz one. -/
def sepL (A : List HP) : HP := ⟨fun F h => Sat F A h, fun le h => h.mono le⟩
section
variable {P : Program} {E : Ex} {D : List Deferred} {A B C L L' L1 R : List HP} {F F' F0 : Frz} {k : List Item} {σ σ' : Sg} {Φ Ψ Ψ' : Fin} {w : World} {f : FuncId} {args : List Value} {fv : Value}

theorem sep_in (st : St w (A ++ L) F) : St w (sepL A :: L) F := by
  obtain ⟨h, s, ow⟩ := st
  obtain ⟨h1, h2, rfl, a, b⟩ := Sat.append.1 s
  exact ⟨h1 ++ h2, ⟨h1, h2, rfl, a, b⟩, ow⟩
theorem sep_out (st : St w (sepL A :: L) F) : St w (A ++ L) F := by
  obtain ⟨h, ⟨h1, h2, rfl, a, b⟩, ow⟩ := st
  exact ⟨h1 ++ h2, Sat.append.2 ⟨h1, h2, rfl, a, b⟩, ow⟩
theorem t_sep (h : T P E D (A ++ L) F k σ Φ) : T P E D (sepL A :: L) F k σ Φ := t_conv fun w st => ⟨_, F, .refl _, sep_out st, h⟩
theorem Sp.sep (h : Sp P f args (sepL A :: C) F Ψ) : Sp P f args (A ++ C) F Ψ := fun R w st => h R w (sep_in (L := C ++ R) (by rw [List.append_assoc] at st; exact st))
theorem Sp.perm (p : A.Perm B) (h : Sp P f args A F Ψ) : Sp P f args B F Ψ := fun R w st => h R w (st.perm (p.append_right R).symm)
theorem CV.sep (h : CV P fv args (A ++ C) F Ψ) : CV P fv args (sepL A :: C) F Ψ := fun R w st => h R w (by rw [List.append_assoc]; exact sep_out (L := C ++ R) st)
theorem CV.sep0 (h : CV P fv args A F Ψ) : CV P fv args [sepL A] F Ψ := CV.sep (C := []) (by rw [List.append_nil]; exact h)
/-- the answer's assertions may be put together too -/
theorem CV.out (h : CV P fv args A F Ψ) (hq : ∀ v B F', FLe F F' → Ψ v B F' → ∃ B', Ψ' v B' F' ∧ ∀ w R, St w (B ++ R) F' → St w (B' ++ R) F') : CV P fv args A F Ψ' := fun R w st =>
  (h R w st).mono fun v w' ⟨B, F', le, hp, s⟩ => by
    obtain ⟨B', h', hs⟩ := hq v B F' le hp
    exact ⟨B', F', le, h', hs _ _ s⟩
theorem Sp.out (h : Sp P f args A F Ψ) (hq : ∀ v B F', FLe F F' → Ψ v B F' → ∃ B', Ψ' v B' F' ∧ ∀ w R, St w (B ++ R) F' → St w (B' ++ R) F') : Sp P f args A F Ψ' := fun R w st =>
  Calls.mono' (h R w st) (onRet_mono fun v w' ⟨B, F', le, hp, s⟩ => by
    obtain ⟨B', h', hs⟩ := hq v B F' le hp
    exact ⟨B', F', le, h', hs _ _ s⟩)
end

/-- Assertions at some value. -/
def exH {α : Type} (p : α → List HP) : HP := ⟨fun F h => ∃ a, Sat F (p a) h, fun le ⟨a, h⟩ => ⟨a, h.mono le⟩⟩
section
variable {P : Program} {E : Ex} {D : List Deferred} {C L R : List HP} {F F' : Frz} {k : List Item} {σ : Sg} {Φ Ψ : Fin} {w : World} {f : FuncId} {args : List Value} {fv : Value} {α : Type} {p : α → List HP}
theorem ex_in (a : α) (st : St w (p a ++ L) F) : St w (exH p :: L) F := by
  obtain ⟨h, s, ow⟩ := st
  obtain ⟨h1, h2, rfl, x, y⟩ := Sat.append.1 s
  exact ⟨h1 ++ h2, ⟨h1, h2, rfl, ⟨a, x⟩, y⟩, ow⟩
theorem ex_out (st : St w (exH p :: L) F) : ∃ a, St w (p a ++ L) F := by
  obtain ⟨h, ⟨h1, h2, rfl, ⟨a, x⟩, y⟩, ow⟩ := st
  exact ⟨a, h1 ++ h2, Sat.append.2 ⟨h1, h2, rfl, x, y⟩, ow⟩
theorem t_ex (h : ∀ a, T P E D (p a ++ L) F k σ Φ) : T P E D (exH p :: L) F k σ Φ := t_conv fun w st => by
  obtain ⟨a, s⟩ := ex_out st
  exact ⟨_, F, .refl _, s, h a⟩
theorem CV.ex (h : ∀ a, CV P fv args (p a ++ C) F Ψ) : CV P fv args (exH p :: C) F Ψ := fun R w st => by
  obtain ⟨a, s⟩ := ex_out (L := C ++ R) st
  exact h a R w (by rw [List.append_assoc]; exact s)
theorem CV.ex0 (h : ∀ a, CV P fv args (p a) F Ψ) : CV P fv args [exH p] F Ψ := CV.ex (C := []) fun a => by rw [List.append_nil]; exact h a
theorem Sp.exI (a : α) (h : Sp P f args (exH p :: C) F Ψ) : Sp P f args (p a ++ C) F Ψ := fun R w st => h R w (ex_in (L := C ++ R) a (by rw [List.append_assoc] at st; exact st))
end

/-! #### Ranging over functions, the loop's record kept closed -/
abbrev loS (lo : Loop) (s : LoopState) (p : Option Code) : Loop := { lo with state := s, pending := p }
section
variable {P : Program} {E : Ex} {D : List Deferred} {A B C L L' L1 R0 : List HP} {F F' F0 : Frz} {k : List Item} {σ σ' : Sg} {Φ Ψ Ψ' : Fin} {w : World} {f fn n l : Nat} {args : List Value} {fv : Value}
theorem t_rangeFn {g : Operand} {ps : Array Tmp} {assign body : Code} {caps : List Value} (hro : E.ro = none) (hg : ev σ g = some (.func (.func f) #[] caps.toArray)) [HasBody P f] [ex : Ext A L R0]
    (H : ∀ l r (lo : Loop), lo.fn = E.f → lo.tmps.size = E.n → Agree σ lo.tmps → lo.params = ps → lo.assign = assign → lo.body = body →
      ∃ Ξ : Fin, Sp P f (yv l :: caps) (at1 l (.loop (loS lo .ready none)) :: A) F Ξ ∧
        ∀ v B F', FS F F' → Ξ v B F' → ∃ s p L1, B = at1 l (.loop (loS lo s p)) :: L1 ∧ s ≠ .busy ∧ pendOk p = true ∧
          T P E (mk r :: D) (at1 r (.deferred (some [])) :: (L1 ++ R0)) F' ((p.map Item.code).toList ++ k) σ Φ) :
    T P E D L F (.code (.rangeFunc g ps assign body) :: k) σ Φ := by
  refine t_rangeFunc (A := A) (R0 := R0) hro hg fun l r tm htm hag => ?_
  obtain ⟨Ξ, h1, h2⟩ := H l r { state := .ready, pending := none, fn := E.f, tmps := tm, params := ps, assign, body, defers := r } rfl htm hag rfl rfl rfl
  refine ⟨Ξ, h1, fun v B F' le hx => ?_⟩
  obtain ⟨s, p, L1, e, hs, hp, ht⟩ := h2 v B F' le hx
  exact ⟨_, L1, e, hs, hp, ht⟩
theorem cv_yieldS {lo : Loop} {ps : List Tmp} {asz bd : Code} (hfn : lo.fn = fn) (hn : lo.tmps.size = n) (ag : Agree σ lo.tmps) (hps : lo.params = ps.toArray) (ha : lo.assign = asz) (hb : lo.body = bd) (hlen : args.length = ps.length)
    (hok : (ps.all (Nat.blt · n) && (codeOk n asz && codeOk n bd)) = true)
    (h : ∀ R, T P ⟨fn, n, some l, none⟩ [] (at1 l (.loop (loS lo .ready none)) :: A ++ R) F [.code asz, .beginRound, .code bd] (bindS ps args σ) (Post Ψ R)) :
    CV P (yv l) args (at1 l (.loop (loS lo .ready none)) :: A) F Ψ := by
  subst hfn; subst ha; subst hb
  exact cv_yield (lo := loS lo .ready none) hps hlen hn ag hok h
section
variable {ops : Array Oper} {os : List Oper} {ty t kt et b d by_ m0 : Nat} {pos : String} {af : Array Edge} {g : Option (Nat × Bool)} {x y : Operand} {zs : List Value} {β κ : Type} {ρ : Rel β} {e : κ → Value} {m : List (κ × β)} {key : κ} {R : List HP}
/-- A map of the call's own is frozen. -/
theorem to_freezeM (b : Nat) [fb : FB b L (mapP e ρ b m) R] (K : ∀ F', FS F F' → RoM e ρ F' b m → TO P E D R F' ops os k σ Φ) : TO P E D L F ops os k σ Φ :=
  to_conv fun w st => by
    obtain ⟨es, clock, s1, hm⟩ := (st.perm fb.p).openMap
    obtain ⟨le, s2⟩ := s1.freeze
    exact ⟨R, _, le, s2, K _ ⟨le⟩ ⟨es, clock, by simp [Frz.add], hm.mono le⟩⟩
theorem t_freezeM (b : Nat) [fb : FB b L (mapP e ρ b m) R] (K : ∀ F', FS F F' → RoM e ρ F' b m → T P E D R F' k σ Φ) : T P E D L F k σ Φ :=
  t_conv fun w st => by
    obtain ⟨es, clock, s1, hm⟩ := (st.perm fb.p).openMap
    obtain ⟨le, s2⟩ := s1.freeze
    exact ⟨R, _, le, s2, K _ ⟨le⟩ ⟨es, clock, by simp [Frz.add], hm.mono le⟩⟩
/-- A lookup at a type whose zero value stands for a value. -/
theorem to_lkD [nm : NM E] [DecidableEq κ] {zv : Value} (z0 : β) (hz0 : ρ.r F z0 zv) [fb : FB b L (mapP e ρ b m) R] [Und P t (.map kt et)] [KeyT P kt κ e] [hz : Zer P et zv] [Inf P et zs n by_] (hg : gd σ ops g = some true) (hx : ev σ x = some (.map (some b))) (hy : ev σ y = some (e key))
    (K : ∀ u, ρ.r F ((aget m key).getD z0) u → TO P E D L F ops os k ((d, u) :: σ) Φ) : TO P E D L F ops (⟨some d, .lookup t x y false, ty, pos, af, g⟩ :: os) k σ Φ :=
  to_lkg hg hx hy (fun v u h hr => K u (by rw [h]; exact hr)) (fun h => K zv (by rw [h]; exact hz0))
theorem to_lkRD [nm : NM E] [DecidableEq κ] {zv : Value} (z0 : β) (hro : RoM e ρ F0 b m) (hz0 : ρ.r F0 z0 zv) [le : FLe F0 F] [Und P t (.map kt et)] [KeyT P kt κ e] [hz : Zer P et zv] [Inf P et zs n by_] (hg : gd σ ops g = some true) (hx : ev σ x = some (.map (some b))) (hy : ev σ y = some (e key))
    (K : ∀ u, ρ.r F0 ((aget m key).getD z0) u → TO P E D L F ops os k ((d, u) :: σ) Φ) : TO P E D L F ops (⟨some d, .lookup t x y false, ty, pos, af, g⟩ :: os) k σ Φ :=
  to_lkRg hro hg hx hy (fun v u h hr => K u (by rw [h]; exact hr)) (fun h => K zv (by rw [h]; exact hz0))
theorem to_lkRO [nm : NM E] [DecidableEq κ] {zv : Value} (z0 : β) (hro : RoM e ρ F0 b m) (hz0 : ρ.r F0 z0 zv) [le : FLe F0 F] [Und P t (.map kt et)] [KeyT P kt κ e] [hz : Zer P et zv] [Inf P et zs n by_] (hg : gd σ ops g = some true) (hx : ev σ x = some (.map (some b))) (hy : ev σ y = some (e key))
    (K : ∀ u, ρ.r F0 ((aget m key).getD z0) u → TO P E D L F ops os k ((d, .tuple #[u, .bool (aget m key).isSome]) :: σ) Φ) : TO P E D L F ops (⟨some d, .lookup t x y true, ty, pos, af, g⟩ :: os) k σ Φ :=
  to_lkRg hro hg hx hy (fun v u h hr => by have := K u (by rw [h]; exact hr); rw [h] at this; exact this) (fun h => by have := K zv (by rw [h]; exact hz0); rw [h] at this; exact this)
theorem to_lkO [nm : NM E] [DecidableEq κ] {zv : Value} (z0 : β) (hz0 : ρ.r F z0 zv) [fb : FB b L (mapP e ρ b m) R] [Und P t (.map kt et)] [KeyT P kt κ e] [hz : Zer P et zv] [Inf P et zs n by_] (hg : gd σ ops g = some true) (hx : ev σ x = some (.map (some b))) (hy : ev σ y = some (e key))
    (K : ∀ u, ρ.r F ((aget m key).getD z0) u → TO P E D L F ops os k ((d, .tuple #[u, .bool (aget m key).isSome]) :: σ) Φ) : TO P E D L F ops (⟨some d, .lookup t x y true, ty, pos, af, g⟩ :: os) k σ Φ :=
  to_lkg hg hx hy (fun v u h hr => by have := K u (by rw [h]; exact hr); rw [h] at this; exact this) (fun h => by have := K zv (by rw [h]; exact hz0); rw [h] at this; exact this)
/-- The form of a slice of the call's own. -/
theorem to_sform (v : Value) {xs : List β} {et n : Nat} [fv : FV v L (OSl ρ n et v xs) R] (K : ∀ a cap, v = .slice a xs.length cap → TO P E D L F ops os k σ Φ) : TO P E D L F ops os k σ Φ :=
  to_conv fun w st => by
    obtain ⟨a, cap, e⟩ := osl_len (st.perm fv.p)
    exact ⟨L, F, .refl _, st, K a cap e⟩
theorem t_sform (v : Value) {xs : List β} {et n : Nat} [fv : FV v L (OSl ρ n et v xs) R] (K : ∀ a cap, v = .slice a xs.length cap → T P E D L F k σ Φ) : T P E D L F k σ Φ :=
  t_conv fun w st => by
    obtain ⟨a, cap, e⟩ := osl_len (st.perm fv.p)
    exact ⟨L, F, .refl _, st, K a cap e⟩
end
end

/-- the last place at which p holds -/
def lastI {α : Type} (p : α → Bool) : List α → Option Nat
  | [] => none
  | x :: xs => match lastI p xs with
    | some i => some (i + 1)
    | none => if p x then some 0 else none
theorem lastI_none {α : Type} {p : α → Bool} : ∀ {xs : List α}, (∀ x ∈ xs, p x = false) → lastI p xs = none
  | [], _ => rfl
  | x :: xs, h => by
    simp [lastI, lastI_none (fun y hy => h y (List.mem_cons_of_mem _ hy)), h x List.mem_cons_self]
theorem lastI_some {α : Type} {p : α → Bool} : ∀ {xs : List α} {i : Nat} {q : α}, xs[i]? = some q → p q = true → (∀ j q', i < j → xs[j]? = some q' → p q' = false) → lastI p xs = some i
  | [], i, q, h, _, _ => by cases h
  | x :: xs, 0, q, h, hp, ha => by
    cases h
    have : lastI p xs = none := lastI_none fun y hy => by
      obtain ⟨j, hj, e⟩ := List.getElem_of_mem hy
      exact ha (j + 1) y (by omega) (by rw [List.getElem?_cons_succ, List.getElem?_eq_getElem hj, e])
    simp [lastI, this, hp]
  | x :: xs, i + 1, q, h, hp, ha => by
    have : lastI p xs = some i := lastI_some (q := q) (by simpa using h) hp fun j q' hj e => ha (j + 1) q' (by omega) (by simpa using e)
    simp [lastI, this]
theorem lastI_spec {α : Type} {p : α → Bool} : ∀ {xs : List α} {i : Nat}, lastI p xs = some i → ∃ q, xs[i]? = some q ∧ p q = true
  | [], i, h => by cases h
  | x :: xs, i, h => by
    simp only [lastI] at h
    cases hl : lastI p xs with
    | some j =>
      rw [hl] at h; simp only [Option.some.injEq] at h; subst h
      simpa using lastI_spec hl
    | none =>
      rw [hl] at h
      cases hp : p x with
      | true => simp [hp] at h; subst h; exact ⟨x, rfl, hp⟩
      | false => simp [hp] at h
end Go.Au
end

section
set_option maxRecDepth 100000
set_option linter.unusedVariables false
set_option linter.unusedSimpArgs false
namespace Go.Proofs.YtbffngeameenoaaGreat
open Go Go.Au
attribute [local irreducible] T TO

/-- The walk backward over versions: each is handed to yield till it says no. -/
theorem back_sp (y sv : Value) (pb : Nat) (xs : List Ver) (F : Frz) (hs : vsR.r F xs sv) (hn : xs.length ≤ 4611686018427387904) (p : Ver → Bool) (J : HP) (K : Nat → HP)
    (hy : ∀ (i : Nat) (q : Ver) F', FS F F' → xs[i]? = some q → CV Tryz.prog y [.int .i64 i, verV q] [J] F' (fun v B F'' => (v = .bool true ∧ p q = false ∧ B = [J]) ∨ (v = .bool false ∧ p q = true ∧ B = [K i]))) :
    Sp Tryz.prog 100 [y, ptr pb] [J, own pb [sv] 77] F
      (fun v B F' => (lastI p xs = none ∧ B = [J, own pb [sv] 77]) ∨ ∃ i, lastI p xs = some i ∧ B = [K i, own pb [sv] 77]) := by
  refine sp_of Tryz.func100 rfl (by kernel_rfl) rfl fun R => ?_
  repeat (first | refine t_seq ?_ | refine t_region ?_ | refine to_ld rfl rfl rfl ?_)
  refine to_lenR (ρ := verR) (n := 4) hs rfl rfl rfl ?_
  repeat (first | refine t_block ?_ | refine to_nil ?_ | refine to_q rfl rfl rfl ?_ | refine to_sub_ rfl rfl rfl (by omega) (by omega) ?_)
  refine t_loopJ (R := R) (fun i : Nat => i) (fun _ => [J, own pb [sv] 77]) (fun i => [(0, y), (1, ptr pb), (3, .int .i64 ((i : Int) - 1))])
    (fun i _ => i ≤ xs.length ∧ ∀ j q', i ≤ j → xs[j]? = some q' → p q' = false) xs.length (by repeat (first | exact trivial | refine ⟨rfl, ?_⟩)) ⟨by omega, fun j q' hj e => ?_⟩ ?_
  · rw [List.getElem?_eq_none hj] at e; cases e
  intro i F1 le1 hg ih
  obtain ⟨hi, hall⟩ := hg
  repeat (first | refine t_seq ?_ | refine t_region ?_ | refine to_nil ?_ | refine to_q rfl rfl rfl ?_)
  refine t_condT rfl (fun h => ?_) (fun h => ?_)
  · simp only [decide_eq_true_eq] at h
    have hlt : i - 1 < xs.length := by omega
    have hc := List.getElem?_eq_getElem hlt
    generalize xs[i - 1] = q at hc
    have hii : (i : Int) - 1 = ((i - 1 : Nat) : Int) := by omega
    repeat (first | refine t_seq ?_ | refine t_block ?_ | refine t_region ?_ | refine t_skip ?_ | refine to_q rfl rfl rfl ?_ | refine to_ld rfl rfl rfl ?_)
    obtain ⟨b, o, cap, u, e1, hl, hr, hro⟩ := slR_elem (P := Tryz.prog) (t := 85) (by_ := 40) hs hc
    subst e1
    cases hr
    refine to_ia rfl rfl rfl hii hl ?_
    refine to_ldV (F1 := F) (ρ := verR) (q := q) rfl hro rfl rfl ?_
    refine to_callv rfl rfl rfl (hii ▸ hy (i - 1) q F1 inferInstance hc) fun v B F2 le2 h2 => ?_
    rcases h2 with ⟨rfl, hp, rfl⟩ | ⟨rfl, hp, rfl⟩
    · repeat (first | refine t_region ?_ | refine to_nil ?_ | refine t_skip ?_ | refine t_inBlock ?_ | refine to_q rfl rfl rfl ?_ | refine to_sub_ rfl rfl rfl (by omega) (by omega) ?_
                    | refine t_cond (t := false) rfl (fun h => nomatch h) (fun _ => ?_))
      refine t_re (A := [J, own pb [_] 77]) (R := R) (ih (i - 1) F2 le2 (by omega) ⟨by omega, fun j q' hj e => ?_⟩) (by rw [← hii]; exact (by repeat (first | exact trivial | refine ⟨rfl, ?_⟩)))
      rcases Nat.lt_or_ge j i with h' | h'
      · have : j = i - 1 := by omega
        subst this
        rw [hc] at e; cases e; exact hp
      · exact hall j q' h' e
    · repeat (first | refine to_nil ?_ | refine to_q rfl rfl rfl ?_ | refine t_cond (t := true) rfl (fun _ => ?_) (fun h => nomatch h))
      exact t_ret [K (i - 1), own pb [_] 77] Tryz.func100 .nil (.inr ⟨i - 1, lastI_some hc hp fun j q' hj e => hall j q' (by omega) e, rfl⟩)
  · simp only [decide_eq_false_iff_not] at h
    repeat (refine t_exit rfl ?_)
    refine t_end [J, own pb [sv] 77] Tryz.func100 .nil (.inl ⟨lastI_none fun q hq => ?_, rfl⟩)
    obtain ⟨j, hj, e⟩ := List.getElem_of_mem hq
    exact hall j q (by omega) (by rw [List.getElem?_eq_getElem hj, e])
theorem backward_sp (a : Option Addr) (len cap : Nat) (F : Frz) : Sp Tryz.prog 89 [.slice a len cap] [] F
    (fun v B F' => ∃ pb, v = .func (.func 100) #[] #[ptr pb] ∧ B = [own pb [.slice a len cap] 77]) := by
  refine sp_of Tryz.func89 rfl (by kernel_rfl) rfl fun R => ?_
  repeat (first | refine t_seq ?_ | refine t_region ?_ | refine to_nil ?_ | refine to_q rfl rfl rfl ?_ | refine to_box1 rfl rfl rfl fun _ => ?_)
  rename_i pb
  exact t_ret [own pb [.slice a len cap] 77] Tryz.func89 (.tmp rfl .nil) ⟨pb, rfl, rfl⟩
abbrev filesOf (x : XM) (name : ByteArray) : List Ver := (aget x.files name).getD []
def liveP (gen : Int) (v : Ver) : Bool := !v.gone && (gen == 0 || v.gen == gen)
def atI (x : XM) (name : ByteArray) (gen : Int) : Int := match lastI (liveP gen) (filesOf x name) with
  | some i => i
  | none => -1
theorem at_sp (b f s o : Nat) (x : XM) (name : ByteArray) (gen : Int) (F : Frz) (hn : (filesOf x name).length ≤ 4611686018427387904) :
    Sp Tryz.prog 63 [ptr b, .string name, .int .i64 gen] (XP b f s o x) F (fun v B F' => v = .int .i64 (atI x name gen) ∧ B = XP b f s o x) := by
  refine sp_of Tryz.func63 rfl (by kernel_rfl) rfl fun R => ?_
  repeat (first | refine t_seq ?_ | refine t_region ?_ | refine to_nil ?_ | refine to_q rfl rfl rfl ?_ | refine to_fa rfl rfl ?_ | refine to_ld rfl rfl rfl ?_ | refine to_alloc rfl fun _ => ?_
                | refine to_box1 rfl rfl rfl fun _ => ?_)
  refine to_lkD (key := name) [] (slR_nil _ _ _ _ _) rfl rfl rfl fun u hu => ?_
  obtain ⟨ua, ucap, rfl⟩ := slR_len hu
  repeat (first | refine t_seq ?_ | refine t_region ?_ | refine to_nil ?_ | refine to_q rfl rfl rfl ?_)
  refine to_call rfl rfl (backward_sp ua _ ucap F) fun v B F1 le h => ?_
  obtain ⟨pb, rfl, rfl⟩ := h
  repeat (first | refine t_block ?_ | refine to_nil ?_)
  rename_i b5 b6
  have hu1 := vsR.mono le.h hu
  generalize hsv : Value.slice ua ((aget x.files name).getD []).length ucap = sv at hu hu1 ⊢
  refine t_rangeFn (A := [own b5 [.int .i64 gen] 3, own b6 [.int .i64 0] 3, own pb [sv] 77]) rfl rfl fun l r lo e1 e2 ag e3 e4 e5 => ?_
  refine ⟨fun v B F' => (lastI (liveP gen) (filesOf x name) = none ∧ B = [at1 l (.loop (loS lo .ready none)), own b5 [.int .i64 gen] 3, own b6 [.int .i64 0] 3, own pb [sv] 77]) ∨
      ∃ i : Nat, lastI (liveP gen) (filesOf x name) = some i ∧ B = [at1 l (.loop (loS lo .done (some .ret))), own b5 [.int .i64 gen] 3, own b6 [.int .i64 i] 3, own pb [sv] 77], ?_, ?_⟩
  · refine Sp.out (Sp.sep (back_sp (yv l) sv pb (filesOf x name) F1 hu1 hn (liveP gen) (sepL [at1 l (.loop (loS lo .ready none)), own b5 [.int .i64 gen] 3, own b6 [.int .i64 0] 3])
      (fun i => sepL [at1 l (.loop (loS lo .done (some .ret))), own b5 [.int .i64 gen] 3, own b6 [.int .i64 i] 3]) fun i q F2 le2 hq => ?_)) ?_
    · refine CV.out (CV.sep0 (cv_yieldS (Ψ := fun v B F'' => (v = .bool true ∧ liveP gen q = false ∧ B = [at1 l (.loop (loS lo .ready none)), own b5 [.int .i64 gen] 3, own b6 [.int .i64 0] 3]) ∨
          (v = .bool false ∧ liveP gen q = true ∧ B = [at1 l (.loop (loS lo .done (some .ret))), own b5 [.int .i64 gen] 3, own b6 [.int .i64 i] 3])) e1 e2 ag (ps := [18, 19]) e3 e4 e5 rfl (by kernel_rfl) fun R => ?_)) ?_
      · repeat (first | refine t_seq ?_ | refine t_block ?_ | refine t_region ?_ | refine to_nil ?_ | refine t_beginRound rfl ?_ | refine to_q rfl rfl rfl ?_ | refine to_fa rfl rfl ?_ | refine to_ld rfl rfl rfl ?_
                      | refine to_stA rfl rfl rfl rfl rfl rfl ?_ | refine to_alloc rfl fun _ => ?_)
        refine to_gd rfl rfl (fun h1 => ?_) (fun h1 => ?_)
        · simp only [Bool.not_eq_true'] at h1
          repeat (first | refine to_q rfl rfl rfl ?_ | refine to_ld rfl rfl rfl ?_)
          refine to_gd rfl rfl (fun h2 => ?_) (fun h2 => ?_)
          · simp only [beq_iff_eq] at h2
            repeat (first | refine t_seq ?_ | refine t_region ?_ | refine to_nil ?_ | refine to_no rfl ?_ | refine to_q rfl rfl rfl ?_ | refine to_st rfl rfl rfl rfl rfl ?_
                          | refine t_cond (t := true) rfl (fun _ => ?_) (fun h => nomatch h))
            refine t_retR [at1 l (.loop (loS lo .done (some .ret))), own b5 [.int .i64 gen] 3, own b6 [.int .i64 i] 3] ?_; exact .inr ⟨rfl, by simp [liveP, h1, h2], rfl⟩
          · repeat (first | refine to_nil ?_ | refine to_q rfl rfl rfl ?_ | refine to_fa rfl rfl ?_ | refine to_ld rfl rfl rfl ?_)
            refine t_condT rfl (fun h3 => ?_) (fun h3 => ?_)
            · repeat (first | refine t_seq ?_ | refine t_region ?_ | refine to_nil ?_ | refine to_q rfl rfl rfl ?_ | refine to_st rfl rfl rfl rfl rfl ?_)
              refine t_retR [at1 l (.loop (loS lo .done (some .ret))), own b5 [.int .i64 gen] 3, own b6 [.int .i64 i] 3] ?_; exact .inr ⟨rfl, by simp [liveP, h1]; right; simpa using h3, rfl⟩
            · repeat (first | refine t_skip ?_ | refine t_inBlock ?_)
              refine t_next [at1 l (.loop (loS lo .ready none)), own b5 [.int .i64 gen] 3, own b6 [.int .i64 0] 3] ?_; exact .inl ⟨rfl, by simp only [liveP, h2, h3]; simp, rfl⟩
        · simp only [Bool.not_eq_false'] at h1
          repeat (first | refine to_nil ?_ | refine t_skip ?_ | refine t_inBlock ?_ | refine to_no rfl ?_ | refine to_q rfl rfl rfl ?_ | refine t_cond (t := false) rfl (fun h => nomatch h) (fun _ => ?_))
          refine t_next [at1 l (.loop (loS lo .ready none)), own b5 [.int .i64 gen] 3, own b6 [.int .i64 0] 3] ?_; exact .inl ⟨rfl, by simp [liveP, h1], rfl⟩
      · rintro v B F3 le3 (⟨rfl, hp, rfl⟩ | ⟨rfl, hp, rfl⟩)
        · exact ⟨_, .inl ⟨rfl, hp, rfl⟩, fun w R st => sep_in st⟩
        · exact ⟨_, .inr ⟨rfl, hp, rfl⟩, fun w R st => sep_in st⟩
    · rintro v B F3 le3 (⟨hl, rfl⟩ | ⟨i, hl, rfl⟩)
      · exact ⟨_, .inl ⟨hl, rfl⟩, fun w R st => sep_out (A := [_, _, _]) (L := _ :: R) st⟩
      · exact ⟨_, .inr ⟨i, hl, rfl⟩, fun w R st => sep_out (A := [_, _, _]) (L := _ :: R) st⟩
  · rintro v B F2 le2 (⟨hl, rfl⟩ | ⟨i, hl, rfl⟩)
    · refine ⟨_, _, _, rfl, by simp, rfl, ?_⟩
      repeat (first | refine t_seq ?_ | refine t_region ?_ | refine to_nil ?_ | refine t_inBlock ?_ | refine to_st rfl rfl rfl rfl rfl ?_)
      exact t_retM (XP b f s o x) Tryz.func63 (.cell rfl rfl .nil) ⟨by simp [atI, hl]; rfl, rfl⟩
    · refine ⟨_, _, _, rfl, by simp, rfl, ?_⟩
      exact t_retM (XP b f s o x) Tryz.func63 (.cell rfl rfl .nil) ⟨by simp [atI, hl]; rfl, rfl⟩
end Go.Proofs.YtbffngeameenoaaGreat
end

section
set_option maxRecDepth 100000
set_option linter.unusedVariables false
set_option linter.unusedSimpArgs false
namespace Go.Proofs.YtbffngeameenoaaGreat
open Go Go.Au
attribute [local irreducible] T TO

def beginX (x : XM) (o : Op1) : Int × Int × XM :=
  if nameOk o.name = false then (2, 0, x) else if x.sess.length = 4 then (6, 0, x) else
    (0, x.began + 1, { x with began := x.began + 1, sess := aset x.sess (x.began + 1) (o.name, ⟨#[]⟩) })
theorem begin_sp (b f s o : Nat) (x : XM) (p : Op1) (bv cv ct ca : Value) (F : Frz) (h1 : p.name.size ≤ 9223372036854775807) (h2 : 0 ≤ x.began) (h3 : x.began ≤ 4611686018427387904) :
    Sp Tryz.prog 27 [ptr b, opV p bv cv ct ca] (XP b f s o x) F (fun v B F' => v = ansV (beginX x p).1 (beginX x p).2.1 nilS nilS ∧ B = XP b f s o (beginX x p).2.2) := by
  refine sp_of Tryz.func27 rfl (by kernel_rfl) rfl fun R => ?_
  repeat (first | refine t_seq ?_ | refine t_block ?_ | refine t_region ?_ | refine to_nil ?_ | refine to_fa rfl rfl ?_ | refine to_ld rfl rfl rfl ?_ | refine to_alloc rfl fun _ => ?_ | refine to_boxA rfl rfl fun _ => ?_)
  refine to_call rfl rfl (name_sp p.name h1 F) fun v B F1 le h => ?_
  obtain ⟨rfl, rfl⟩ := h
  repeat (first | refine to_nil ?_ | refine to_q rfl rfl rfl ?_)
  refine t_condT rfl (fun hn => ?_) (fun hn => ?_)
  · simp only [Bool.not_eq_true'] at hn
    have e : beginX x p = (2, 0, x) := by simp [beginX, hn]
    repeat (first | refine t_seq ?_ | refine t_region ?_)
    refine to_call rfl rfl (wrong_sp 2 _) fun v B F2 le_F2 h_F2 => ?_
    obtain ⟨rfl, rfl⟩ := h_F2
    repeat (first | refine to_nil ?_ | refine to_stA rfl rfl rfl rfl rfl rfl ?_)
    exact t_ret (XP b f s o x) Tryz.func27 (.cellA rfl rfl .nil) (by rw [e]; exact ⟨rfl, rfl⟩)
  simp only [Bool.not_eq_false'] at hn
  repeat (first | refine t_seq ?_ | refine t_region ?_ | refine to_nil ?_ | refine to_q rfl rfl rfl ?_ | refine to_fa rfl rfl ?_ | refine to_ld rfl rfl rfl ?_ | refine to_lenM rfl rfl rfl ?_)
  refine t_condT rfl (fun hl => ?_) (fun hl => ?_)
  · simp only [beq_iff_eq] at hl
    have e : beginX x p = (6, 0, x) := by simp [beginX, hn]; omega
    repeat (first | refine t_seq ?_ | refine t_region ?_)
    refine to_call rfl rfl (wrong_sp 6 _) fun v B F2 le_F2 h_F2 => ?_
    obtain ⟨rfl, rfl⟩ := h_F2
    repeat (first | refine to_nil ?_ | refine to_stA rfl rfl rfl rfl rfl rfl ?_)
    exact t_ret (XP b f s o x) Tryz.func27 (.cellA rfl rfl .nil) (by rw [e]; exact ⟨rfl, rfl⟩)
  simp only [beq_eq_false_iff_ne] at hl
  have e : beginX x p = (0, x.began + 1, { x with began := x.began + 1, sess := aset x.sess (x.began + 1) (p.name, ⟨#[]⟩) }) := by simp [beginX, hn]; omega
  repeat (first | refine t_seq ?_ | refine t_region ?_ | refine to_nil ?_ | refine t_skip ?_ | refine t_inBlock ?_ | refine to_q rfl rfl rfl ?_ | refine to_fa rfl rfl ?_ | refine to_ld rfl rfl rfl ?_
                | refine to_st rfl rfl rfl rfl rfl ?_ | refine to_add rfl rfl rfl (by omega) (by omega) ?_)
  refine t_drawn1 (by kernel_rfl) (by kernel_rfl) ?_
  repeat (first | refine to_q rfl rfl rfl ?_ | refine to_fa rfl rfl ?_ | refine to_ld rfl rfl rfl ?_ | refine to_bs rfl rfl rfl rfl ?_)
  refine to_mu (key := x.began + 1) (v' := (p.name, ⟨#[]⟩)) rfl rfl rfl rfl rfl ?_
  repeat (first | refine t_seq ?_ | refine t_region ?_ | refine to_nil ?_ | refine to_q rfl rfl rfl ?_ | refine to_fa rfl rfl ?_ | refine to_ld rfl rfl rfl ?_ | refine to_stA rfl rfl rfl rfl rfl rfl ?_
                | refine to_bs rfl rfl rfl rfl ?_)
  exact t_ret (XP b f s o { x with began := x.began + 1, sess := aset x.sess (x.began + 1) (p.name, ⟨#[]⟩) }) Tryz.func27 (.cellA rfl rfl .nil) (by rw [e]; exact ⟨rfl, rfl⟩)
def abortX (x : XM) (p : Op1) : Int × Int × XM := if aget x.sess p.n = none then (9, 0, x) else (0, 0, { x with sess := adel x.sess p.n })
theorem abort_sp (b f s o : Nat) (x : XM) (p : Op1) (bv cv ct ca : Value) (F : Frz) :
    Sp Tryz.prog 30 [ptr b, opV p bv cv ct ca] (XP b f s o x) F (fun v B F' => v = ansV (abortX x p).1 (abortX x p).2.1 nilS nilS ∧ B = XP b f s o (abortX x p).2.2) := by
  refine sp_of Tryz.func30 rfl (by kernel_rfl) rfl fun R => ?_
  repeat (first | refine t_seq ?_ | refine t_region ?_ | refine to_nil ?_ | refine to_alloc rfl fun _ => ?_ | refine to_boxA rfl rfl fun _ => ?_)
  refine t_drawn1 (by kernel_rfl) (by kernel_rfl) ?_
  repeat (first | refine to_q rfl rfl rfl ?_ | refine to_fa rfl rfl ?_ | refine to_ld rfl rfl rfl ?_)
  refine to_lkg (key := p.n) rfl rfl rfl (fun v u h1 hr => ?_) (fun h1 => ?_)
  · cases hr
    have e : abortX x p = (0, 0, { x with sess := adel x.sess p.n }) := by simp [abortX, h1]
    repeat (first | refine t_seq ?_ | refine t_region ?_ | refine to_nil ?_ | refine t_skip ?_ | refine to_q rfl rfl rfl ?_ | refine to_fa rfl rfl ?_ | refine to_ld rfl rfl rfl ?_ | refine to_stA rfl rfl rfl rfl rfl rfl ?_
                  | refine to_alloc rfl fun _ => ?_ | refine t_cond (t := false) rfl (fun h => nomatch h) (fun _ => ?_))
    refine to_call rfl rfl (lost_sp b f s o x p.n 0 _) fun v B F2 _ h => ?_
    obtain ⟨rfl, rfl⟩ := h
    repeat (first | refine to_nil ?_ | refine to_stA rfl rfl rfl rfl rfl rfl ?_)
    exact t_ret (XP b f s o { x with sess := adel x.sess p.n }) Tryz.func30 (.cellA rfl rfl .nil) (by rw [e]; exact ⟨rfl, rfl⟩)
  · have e : abortX x p = (9, 0, x) := by simp [abortX, h1]
    repeat (first | refine t_seq ?_ | refine t_region ?_ | refine to_nil ?_ | refine to_q rfl rfl rfl ?_ | refine to_stA rfl rfl rfl rfl rfl rfl ?_ | refine to_alloc rfl fun _ => ?_
                  | refine t_cond (t := true) rfl (fun _ => ?_) (fun h => nomatch h))
    refine to_call rfl rfl (wrong_sp 9 _) fun v B F2 _ h => ?_
    obtain ⟨rfl, rfl⟩ := h
    repeat (first | refine to_nil ?_ | refine to_stA rfl rfl rfl rfl rfl rfl ?_)
    exact t_ret (XP b f s o x) Tryz.func30 (.cellA rfl rfl .nil) (by rw [e]; exact ⟨rfl, rfl⟩)
def tickX (x : XM) (p : Op1) : Int × Int × XM := if p.n < 0 ∨ p.n > 9007199254740991 - x.now then (2, 0, x) else (0, 0, { x with now := x.now + p.n })
theorem tick_sp (b f s o : Nat) (x : XM) (p : Op1) (bv cv ct ca : Value) (F : Frz) (h1 : 0 ≤ x.now) (h2 : x.now ≤ 9007199254740991) (h3 : p.n ≤ 9223372036854775807) :
    Sp Tryz.prog 35 [ptr b, opV p bv cv ct ca] (XP b f s o x) F (fun v B F' => v = ansV (tickX x p).1 (tickX x p).2.1 nilS nilS ∧ B = XP b f s o (tickX x p).2.2) := by
  refine sp_of Tryz.func35 rfl (by kernel_rfl) rfl fun R => ?_
  repeat (first | refine t_seq ?_ | refine t_region ?_ | refine to_nil ?_ | refine to_alloc rfl fun _ => ?_ | refine to_boxA rfl rfl fun _ => ?_)
  refine t_drawn1 (by kernel_rfl) (by kernel_rfl) ?_
  repeat (first | refine to_q rfl rfl rfl ?_ | refine to_fa rfl rfl ?_ | refine to_ld rfl rfl rfl ?_)
  refine to_gd rfl rfl (fun h => ?_) (fun h => ?_)
  · simp only [decide_eq_true_eq] at h
    have e : tickX x p = (2, 0, x) := by simp [tickX]; omega
    repeat (first | refine t_seq ?_ | refine t_region ?_ | refine to_nil ?_ | refine to_no rfl ?_ | refine to_q rfl rfl rfl ?_ | refine t_cond (t := true) rfl (fun _ => ?_) (fun h => nomatch h))
    refine to_call rfl rfl (wrong_sp 2 _) fun v B F2 _ h => ?_
    obtain ⟨rfl, rfl⟩ := h
    repeat (first | refine to_nil ?_ | refine to_stA rfl rfl rfl rfl rfl rfl ?_)
    exact t_ret (XP b f s o x) Tryz.func35 (.cellA rfl rfl .nil) (by rw [e]; exact ⟨rfl, rfl⟩)
  simp only [decide_eq_false_iff_not] at h
  repeat (first | refine to_nil ?_ | refine to_q rfl rfl rfl ?_ | refine to_fa rfl rfl ?_ | refine to_ld rfl rfl rfl ?_ | refine to_sub_ rfl rfl rfl (by omega) (by omega) ?_)
  refine t_condT rfl (fun h' => ?_) (fun h' => ?_)
  · simp only [decide_eq_true_eq] at h'
    have e : tickX x p = (2, 0, x) := by simp [tickX]; omega
    repeat (first | refine t_seq ?_ | refine t_region ?_)
    refine to_call rfl rfl (wrong_sp 2 _) fun v B F2 _ h => ?_
    obtain ⟨rfl, rfl⟩ := h
    repeat (first | refine to_nil ?_ | refine to_stA rfl rfl rfl rfl rfl rfl ?_)
    exact t_ret (XP b f s o x) Tryz.func35 (.cellA rfl rfl .nil) (by rw [e]; exact ⟨rfl, rfl⟩)
  simp only [decide_eq_false_iff_not] at h'
  have e : tickX x p = (0, 0, { x with now := x.now + p.n }) := by simp [tickX]; omega
  repeat (first | refine t_seq ?_ | refine t_skip ?_)
  refine t_drawn1 (by kernel_rfl) (by kernel_rfl) ?_
  repeat (first | refine t_seq ?_ | refine t_region ?_ | refine to_nil ?_ | refine to_q rfl rfl rfl ?_ | refine to_fa rfl rfl ?_ | refine to_ld rfl rfl rfl ?_ | refine to_st rfl rfl rfl rfl rfl ?_
                | refine to_stA rfl rfl rfl rfl rfl rfl ?_ | refine to_bs rfl rfl rfl rfl ?_ | refine to_add rfl rfl rfl (by omega) (by omega) ?_)
  exact t_ret (XP b f s o { x with now := x.now + p.n }) Tryz.func35 (.cellA rfl rfl .nil) (by rw [e]; exact ⟨rfl, rfl⟩)
def cleanX (x : XM) (p : Op1) (sp : Bool) : Int × Int × XM := if p.n < 0 ∨ p.n > 100 then (2, 0, x) else if sp then (8, 0, x) else (0, 0, x)
theorem clean_sp (b f s o : Nat) (x : XM) (p : Op1) (sp : Bool) (bv cv ct ca : Value) (F : Frz) :
    Sp Tryz.prog 37 [ptr b, opV p bv cv ct ca, .bool sp] (XP b f s o x) F (fun v B F' => v = ansV (cleanX x p sp).1 (cleanX x p sp).2.1 nilS nilS ∧ B = XP b f s o (cleanX x p sp).2.2) := by
  refine sp_of Tryz.func37 rfl (by kernel_rfl) rfl fun R => ?_
  repeat (first | refine t_seq ?_ | refine t_block ?_ | refine t_region ?_ | refine to_nil ?_ | refine to_q rfl rfl rfl ?_ | refine to_fa rfl rfl ?_ | refine to_ld rfl rfl rfl ?_ | refine to_alloc rfl fun _ => ?_
                | refine to_boxA rfl rfl fun _ => ?_)
  refine to_gd rfl rfl (fun h => ?_) (fun h => ?_)
  · simp only [decide_eq_true_eq] at h
    have e : cleanX x p sp = (2, 0, x) := by simp [cleanX]; omega
    repeat (first | refine t_seq ?_ | refine t_region ?_ | refine to_nil ?_ | refine to_no rfl ?_ | refine to_q rfl rfl rfl ?_ | refine t_cond (t := true) rfl (fun _ => ?_) (fun h => nomatch h))
    refine to_call rfl rfl (wrong_sp 2 _) fun v B F2 _ h => ?_
    obtain ⟨rfl, rfl⟩ := h
    repeat (first | refine to_nil ?_ | refine to_stA rfl rfl rfl rfl rfl rfl ?_)
    exact t_ret (XP b f s o x) Tryz.func37 (.cellA rfl rfl .nil) (by rw [e]; exact ⟨rfl, rfl⟩)
  simp only [decide_eq_false_iff_not] at h
  repeat (first | refine to_nil ?_ | refine to_q rfl rfl rfl ?_ | refine to_fa rfl rfl ?_ | refine to_ld rfl rfl rfl ?_)
  refine t_condT rfl (fun h' => ?_) (fun h' => ?_)
  · simp only [decide_eq_true_eq] at h'
    have e : cleanX x p sp = (2, 0, x) := by simp [cleanX]; omega
    repeat (first | refine t_seq ?_ | refine t_region ?_)
    refine to_call rfl rfl (wrong_sp 2 _) fun v B F2 _ h => ?_
    obtain ⟨rfl, rfl⟩ := h
    repeat (first | refine to_nil ?_ | refine to_stA rfl rfl rfl rfl rfl rfl ?_)
    exact t_ret (XP b f s o x) Tryz.func37 (.cellA rfl rfl .nil) (by rw [e]; exact ⟨rfl, rfl⟩)
  simp only [decide_eq_false_iff_not] at h'
  repeat (first | refine t_seq ?_ | refine t_region ?_ | refine to_nil ?_ | refine to_q rfl rfl rfl ?_)
  refine t_condT rfl (fun h3 => ?_) (fun h3 => ?_)
  · have e : cleanX x p sp = (8, 0, x) := by subst h3; simp [cleanX]; omega
    repeat (first | refine t_seq ?_ | refine t_region ?_)
    refine to_call rfl rfl (wrong_sp 8 _) fun v B F2 _ h => ?_
    obtain ⟨rfl, rfl⟩ := h
    repeat (first | refine to_nil ?_ | refine to_stA rfl rfl rfl rfl rfl rfl ?_)
    exact t_ret (XP b f s o x) Tryz.func37 (.cellA rfl rfl .nil) (by rw [e]; exact ⟨rfl, rfl⟩)
  have e : cleanX x p sp = (0, 0, x) := by subst h3; simp [cleanX]; omega
  repeat (first | refine t_seq ?_ | refine t_region ?_ | refine to_nil ?_ | refine t_skip ?_ | refine t_inBlock ?_ | refine to_stA rfl rfl rfl rfl rfl rfl ?_ | refine to_bs rfl rfl rfl rfl ?_)
  exact t_ret (XP b f s o x) Tryz.func37 (.cellA rfl rfl .nil) (by rw [e]; exact ⟨rfl, rfl⟩)
end Go.Proofs.YtbffngeameenoaaGreat
end

section
set_option maxRecDepth 100000
set_option linter.unusedVariables false
set_option linter.unusedSimpArgs false
namespace Go.Proofs.YtbffngeameenoaaGreat
open Go Go.Au
attribute [local irreducible] T TO

def sumT (l : List Ver) : Nat := (l.map fun v => v.text.size).sum
def sumF (l : List (ByteArray × List Ver)) : Nat := (l.map fun p => sumT p.2).sum
def sumS (l : List (Int × (ByteArray × ByteArray))) : Nat := (l.map fun p => p.2.2.size).sum
def sizeX (x : XM) : Nat := sumF x.files + sumS x.sess
theorem sumT_snoc (l : List Ver) (v : Ver) : sumT (l ++ [v]) = sumT l + v.text.size := by simp [sumT]
theorem sumF_snoc (l : List (ByteArray × List Ver)) (v : ByteArray × List Ver) : sumF (l ++ [v]) = sumF l + sumT v.2 := by simp [sumF]
theorem sumS_snoc (l : List (Int × (ByteArray × ByteArray))) (v : Int × (ByteArray × ByteArray)) : sumS (l ++ [v]) = sumS l + v.2.2.size := by simp [sumS]
theorem nodup_len {α : Type} [DecidableEq α] : ∀ {l m : List α}, l.Nodup → (∀ x ∈ l, x ∈ m) → l.length ≤ m.length
  | [], m, _, _ => Nat.zero_le _
  | a :: l, m, nd, h => by
    rw [List.nodup_cons] at nd
    have h1 : l.length ≤ (m.erase a).length := nodup_len nd.2 fun x hx => (List.mem_erase_of_ne (by rintro rfl; exact nd.1 hx)).2 (h x (List.mem_cons_of_mem _ hx))
    have h2 := List.length_erase_of_mem (h a List.mem_cons_self)
    have h3 : 0 < m.length := List.length_pos_of_mem (h a List.mem_cons_self)
    simp only [List.length_cons]; omega
theorem snoc_nd {α : Type} {d : List α} {y : α} (h : d.Nodup) (hn : y ∉ d) : (d ++ [y]).Nodup := by
  rw [List.nodup_append]
  refine ⟨h, by simp, fun a ha b hb e => ?_⟩
  cases List.mem_singleton.1 hb
  exact hn (e ▸ ha)
theorem snoc_sub {α : Type} {d l : List α} {y : α} (h : ∀ z ∈ d, z ∈ l) (hy : y ∈ l) : ∀ z ∈ d ++ [y], z ∈ l := fun z hz =>
  (List.mem_append.1 hz).elim (h z) fun e => by cases List.mem_singleton.1 e; exact hy
theorem sum_le {α : Type} (w : α → Nat) (B : Nat) : ∀ {l : List α}, (∀ x ∈ l, w x ≤ B) → (l.map w).sum ≤ l.length * B
  | [], _ => by simp
  | a :: l, h => by
    have h1 := h a List.mem_cons_self
    have h2 := sum_le w B (l := l) fun x hx => h x (List.mem_cons_of_mem _ hx)
    simp only [List.map_cons, List.sum_cons, List.length_cons, Nat.add_mul, Nat.one_mul]; omega
theorem sum_perm {α : Type} (w : α → Nat) {l m : List α} (p : l.Perm m) : (l.map w).sum = (m.map w).sum := (p.map w).sum_nat
/-- What the model is held within. -/
structure XOk (x : XM) : Prop where
  fl : x.files.length ≤ 64
  fv : ∀ q ∈ x.files, q.2.length ≤ 32
  ft : ∀ q ∈ x.files, ∀ v ∈ q.2, v.text.size ≤ 8192
  fn : ∀ q ∈ x.files, q.2 ≠ []
  fg : ∀ q ∈ x.files, ∀ v ∈ q.2, 1 ≤ v.gen ∧ v.gen ≤ 1152921504606846976
  sl : x.sess.length ≤ 4
  st : ∀ q ∈ x.sess, q.2.2.size ≤ 8192
theorem sumT_le {l : List Ver} (h1 : l.length ≤ 32) (h2 : ∀ v ∈ l, v.text.size ≤ 8192) : sumT l ≤ 262144 := by
  have := sum_le (fun v : Ver => v.text.size) 8192 h2
  unfold sumT; omega

theorem size_sp (b f s o : Nat) (x : XM) (F : Frz) (ok : XOk x) : Sp Tryz.prog 66 [ptr b] (XP b f s o x) F (fun v B F' => v = .int .i64 (sizeX x) ∧ B = XP b f s o x) := by
  classical
  refine sp_of Tryz.func66 rfl (by kernel_rfl) rfl fun R => ?_
  refine t_openM f fun es clock φ hm => ?_
  repeat (first | refine t_seq ?_ | refine t_region ?_ | refine to_nil ?_ | refine to_q rfl rfl rfl ?_ | refine to_fa rfl rfl ?_ | refine to_ld rfl rfl rfl ?_)
  refine to_range (mapAt_own (b := f) (es := es) (clock := clock)) rfl rfl fun r => ?_
  repeat (first | refine t_block ?_ | refine to_nil ?_)
  have hel : ∀ d : List MapEntry, d.Nodup → (∀ y ∈ d, y ∈ es.toList) → d.length ≤ 64 ∧ ∀ y ∈ d, (φ y) ∈ x.files := fun d h1 h2 => by
    have := nodup_len h1 h2
    have h3 := hm.perm.length_eq
    rw [List.length_map] at h3
    exact ⟨by have := ok.fl; omega, fun y hy => hm.perm.mem_iff.1 (List.mem_map_of_mem (h2 y hy))⟩
  have hsum : ∀ d : List MapEntry, d.Nodup → (∀ y ∈ d, y ∈ es.toList) → sumF (d.map φ) ≤ 16777216 := fun d h1 h2 => by
    obtain ⟨h3, h4⟩ := hel d h1 h2
    have := sum_le (fun p : ByteArray × List Ver => sumT p.2) 262144 (l := d.map φ) (fun q hq => by
      obtain ⟨y, hy, rfl⟩ := List.mem_map.1 hq
      exact sumT_le (ok.fv _ (h4 y hy)) (ok.ft _ (h4 y hy)))
    rw [List.length_map] at this
    unfold sumF; omega
  refine t_loopJ (R := R) (fun d : List MapEntry => es.size - d.length) (fun d => [iterP r f clock d, at1 f (.map es clock), own b (XC f s o x.began x.now x.quota) 69, mapP Value.string shotR s x.shots, mapP (Value.int .i64) sesR o x.sess])
    (fun d => [(0, ptr b), (14, ptr r), (3, .int .i64 (sumF (d.map φ)))]) (fun d _ => d.Nodup ∧ ∀ y ∈ d, y ∈ es.toList) [] (by repeat (first | exact trivial | refine ⟨rfl, ?_⟩)) ⟨.nil, by simp⟩ ?_
  intro d F1 le1 hg ih
  obtain ⟨hd1, hd2⟩ := hg
  repeat (first | refine t_seq ?_ | refine t_region ?_)
  refine to_next_ (mapAt_own (b := f) (es := es) (clock := clock)) hm.bl hm.nb hd2 rfl rfl (fun hall => ?_) (fun y hy hny => ?_)
  · repeat (first | refine t_seq ?_ | refine t_region ?_ | refine to_nil ?_ | refine to_q rfl rfl rfl ?_ | refine to_fa rfl rfl ?_ | refine to_ld rfl rfl rfl ?_
                  | refine t_cond (t := false) rfl (fun h => nomatch h) (fun _ => ?_) | refine t_exit rfl ?_)
    refine to_openM o fun es2 clock2 φ2 hm2 => ?_
    refine to_shutM f (hm.ok.mono le1.h) ?_
    have hp : sumF (d.map φ) = sumF x.files := sum_perm _ (((done_perm hm.nd hd1 hd2 hall).map φ).trans hm.perm)
    rw [hp]
    have hfl : sumF x.files ≤ 16777216 := hp ▸ hsum d hd1 hd2
    refine to_range (mapAt_own (b := o) (es := es2) (clock := clock2)) rfl rfl fun r2 => ?_
    repeat (first | refine t_block ?_ | refine to_nil ?_)
    have hsum2 : ∀ d : List MapEntry, d.Nodup → (∀ y ∈ d, y ∈ es2.toList) → sumS (d.map φ2) ≤ 32768 := fun d h1 h2 => by
      have h5 := nodup_len h1 h2
      have h3 := hm2.perm.length_eq
      rw [List.length_map] at h3
      have := sum_le (fun p : Int × (ByteArray × ByteArray) => p.2.2.size) 8192 (l := d.map φ2) (fun q hq => by
        obtain ⟨y, hy, rfl⟩ := List.mem_map.1 hq
        exact ok.st _ (hm2.perm.mem_iff.1 (List.mem_map_of_mem (h2 y hy))))
      rw [List.length_map] at this
      have := ok.sl
      unfold sumS; omega
    refine t_loopJ (R := R) (fun d : List MapEntry => es2.size - d.length) (fun d => [iterP r2 o clock2 d, at1 o (.map es2 clock2), own b (XC f s o x.began x.now x.quota) 69, mapP Value.string shotR s x.shots, mapP Value.string vsR f x.files])
      (fun d => [(0, ptr b), (35, ptr r2), (3, .int .i64 ((sumF x.files + sumS (d.map φ2) : Nat) : Int))]) (fun d _ => d.Nodup ∧ ∀ y ∈ d, y ∈ es2.toList) [] (by repeat (first | exact trivial | refine ⟨rfl, ?_⟩)) ⟨.nil, by simp⟩ ?_
    intro d F2 le2 hg ih
    obtain ⟨hd1, hd2⟩ := hg
    repeat (first | refine t_seq ?_ | refine t_region ?_)
    refine to_next_ (mapAt_own (b := o) (es := es2) (clock := clock2)) hm2.bl hm2.nb hd2 rfl rfl (fun hall => ?_) (fun y hy hny => ?_)
    · have hp2 : sumS (d.map φ2) = sumS x.sess := sum_perm _ (((done_perm hm2.nd hd1 hd2 hall).map φ2).trans hm2.perm)
      rw [hp2]
      repeat (first | refine t_seq ?_ | refine t_region ?_ | refine to_nil ?_ | refine to_q rfl rfl rfl ?_ | refine t_cond (t := false) rfl (fun h => nomatch h) (fun _ => ?_) | refine t_exit rfl ?_)
      refine t_shutM o (hm2.ok.mono le2.h) ?_
      exact t_ret (XP b f s o x) Tryz.func66 (.tmp rfl .nil) ⟨rfl, rfl⟩
    · repeat (first | refine t_seq ?_ | refine t_block ?_ | refine t_region ?_ | refine to_nil ?_ | refine t_skip ?_ | refine to_q rfl rfl rfl ?_ | refine t_cond (t := true) rfl (fun _ => ?_) (fun h => nomatch h))
      refine to_entry (mapAt_own (b := o) (es := es2) (clock := clock2)) hm2.nb hy rfl rfl ?_
      obtain ⟨hk, hv⟩ := hm2.rel y hy
      generalize hq : φ2 y = q at hk hv
      obtain ⟨qk, qn, qt⟩ := q
      generalize hyv : y.val = yv at hv
      obtain rfl : yv = .agg #[.string qn, .string qt] := hv
      repeat (first | refine t_region ?_ | refine to_nil ?_ | refine to_q rfl rfl rfl ?_ | refine to_fa rfl rfl ?_ | refine to_ld rfl rfl rfl ?_ | refine to_stA rfl rfl rfl rfl rfl rfl ?_ | refine to_alloc rfl fun _ => ?_
                    | refine to_lenT rfl rfl rfl ?_)
      have hlen : (d ++ [y]).length ≤ es2.size := nodup_len (snoc_nd hd1 hny) (snoc_sub hd2 hy)
      rw [List.length_append, List.length_singleton] at hlen
      have hb1 := hsum2 d hd1 hd2
      have hb2 : qt.size ≤ 8192 := by
        have := ok.st _ (hm2.perm.mem_iff.1 (List.mem_map_of_mem hy))
        rw [hq] at this; exact this
      repeat (first | refine to_nil ?_ | refine t_inBlock ?_ | refine to_q rfl rfl rfl ?_ | refine to_add rfl rfl rfl (by omega) (by omega) ?_)
      refine t_re (A := [iterP r2 o clock2 (d ++ [y]), at1 o (.map es2 clock2), own b (XC f s o x.began x.now x.quota) 69, mapP Value.string shotR s x.shots, mapP Value.string vsR f x.files]) (R := R)
        (ih (d ++ [y]) F2 ⟨.refl _⟩ (by rw [List.length_append, List.length_singleton]; omega) ⟨snoc_nd hd1 hny, snoc_sub hd2 hy⟩) ?_
      rw [List.map_append, List.map_singleton, sumS_snoc, hq]
      refine ⟨rfl, rfl, ?_, trivial⟩
      show some _ = some _
      congr 2; dsimp only; omega
  · repeat (first | refine t_seq ?_ | refine t_block ?_ | refine t_region ?_ | refine to_nil ?_ | refine t_skip ?_ | refine to_q rfl rfl rfl ?_ | refine t_cond (t := true) rfl (fun _ => ?_) (fun h => nomatch h))
    refine to_entry (mapAt_own (b := f) (es := es) (clock := clock)) hm.nb hy rfl rfl ?_
    obtain ⟨hk, hv⟩ := hm.rel y hy
    have hv := vsR.mono le1.h hv
    generalize hq : φ y = q at hk hv
    obtain ⟨qk, xs⟩ := q
    generalize hyv : y.val = yv at hv
    repeat (first | refine t_seq ?_ | refine t_region ?_ | refine to_nil ?_ | refine to_q rfl rfl rfl ?_)
    refine to_lenR (ρ := verR) (n := 4) hv rfl rfl rfl ?_
    repeat (first | refine t_block ?_ | refine to_nil ?_ | refine to_q rfl rfl rfl ?_)
    have hnd : (d ++ [y]).Nodup := snoc_nd hd1 hny
    have hsub : ∀ z ∈ d ++ [y], z ∈ es.toList := snoc_sub hd2 hy
    have hlen : (d ++ [y]).length ≤ es.size := nodup_len hnd hsub
    rw [List.length_append, List.length_singleton] at hlen
    have hb0 := hsum d hd1 hd2
    have hb := hsum _ hnd hsub
    rw [List.map_append, List.map_singleton, sumF_snoc, hq] at hb
    simp only [] at hb
    have hmem : (qk, xs) ∈ x.files := hq ▸ hm.perm.mem_iff.1 (List.mem_map_of_mem hy)
    have hxl := ok.fv _ hmem
    have hxt := ok.ft _ hmem
    simp only [] at hxl hxt
    refine t_loopJ (R := R) (fun j : Nat => xs.length - j) (fun j => [iterP r f clock (d ++ [y]), at1 f (.map es clock), own b (XC f s o x.began x.now x.quota) 69, mapP Value.string shotR s x.shots, mapP (Value.int .i64) sesR o x.sess])
      (fun j => [(0, ptr b), (14, ptr r), (3, .int .i64 ((sumF (d.map φ) + sumT (xs.take j) : Nat) : Int)), (19, yv), (20, .int .i64 xs.length), (21, .int .i64 j)]) (fun j _ => j ≤ xs.length) 0 (by repeat (first | exact trivial | refine ⟨rfl, ?_⟩)) (Nat.zero_le _) ?_
    intro j F2 le2 hj ih2
    repeat (first | refine t_seq ?_ | refine t_region ?_ | refine to_nil ?_ | refine to_q rfl rfl rfl ?_)
    refine t_condT rfl (fun h => ?_) (fun h => ?_)
    · simp only [decide_eq_true_eq] at h
      have hlt : j < xs.length := by omega
      have hc := List.getElem?_eq_getElem hlt
      have htk : xs.take (j + 1) = xs.take j ++ [xs[j]] := by rw [List.take_add_one, hc]; rfl
      have hts : sumT (xs.take j) ≤ 262144 := sumT_le (by rw [List.length_take]; omega) fun v hv => hxt v (List.mem_of_mem_take hv)
      have hqs := hxt _ (List.getElem_mem hlt)
      generalize xs[j] = q at hc htk hqs
      repeat (first | refine t_seq ?_ | refine t_block ?_ | refine t_region ?_ | refine t_skip ?_)
      obtain ⟨b1, o1, cap1, u, e1, hl, hr, hro⟩ := slR_elem (P := Tryz.prog) (t := 85) (by_ := 40) hv hc
      subst e1
      cases hr
      refine to_ia rfl rfl rfl rfl hl ?_
      refine to_ldV (F1 := F1) (ρ := verR) (q := q) rfl hro rfl rfl ?_
      repeat (first | refine t_region ?_ | refine to_nil ?_ | refine t_inBlock ?_ | refine to_q rfl rfl rfl ?_ | refine to_fa rfl rfl ?_ | refine to_ld rfl rfl rfl ?_ | refine to_stA rfl rfl rfl rfl rfl rfl ?_
                    | refine to_alloc rfl fun _ => ?_ | refine to_add rfl rfl rfl (by omega) (by omega) ?_ | refine to_lenT rfl rfl rfl ?_)
      refine t_re (A := [iterP r f clock (d ++ [y]), at1 f (.map es clock), own b (XC f s o x.began x.now x.quota) 69, mapP Value.string shotR s x.shots, mapP (Value.int .i64) sesR o x.sess]) (R := R)
        (ih2 (j + 1) F2 ⟨.refl _⟩ (by omega) (by omega)) (by
          rw [htk, sumT_snoc]
          refine ⟨rfl, rfl, ?_, rfl, rfl, rfl, trivial⟩
          show some _ = some _
          congr 2; omega)
    · simp only [decide_eq_false_iff_not] at h
      repeat (first | refine t_inBlock ?_ | refine t_exit rfl ?_)
      have htk : xs.take j = xs := List.take_of_length_le (by omega)
      refine t_re (A := [iterP r f clock (d ++ [y]), at1 f (.map es clock), own b (XC f s o x.began x.now x.quota) 69, mapP Value.string shotR s x.shots, mapP (Value.int .i64) sesR o x.sess]) (R := R)
        (ih (d ++ [y]) F2 ⟨le2.h⟩ (by rw [List.length_append, List.length_singleton]; omega) ⟨hnd, hsub⟩) (by
          rw [List.map_append, List.map_singleton, sumF_snoc, hq, htk]
          exact (by repeat (first | exact trivial | refine ⟨rfl, ?_⟩)))
end Go.Proofs.YtbffngeameenoaaGreat
end

section
set_option maxRecDepth 100000
set_option linter.unusedVariables false
set_option linter.unusedSimpArgs false
namespace Go.Proofs.YtbffngeameenoaaGreat
open Go Go.Au
attribute [local irreducible] T TO

def textX (x : XM) (name : ByteArray) (gen : Int) : Option ByteArray := match lastI (liveP gen) (filesOf x name) with
  | some i => ((filesOf x name)[i]?).map (·.text)
  | none => none
def strB (s : ByteArray) : List UInt8 := s.data.toList
/-- an answer that only tells -/
abbrev Ans := Int × Int × List UInt8 × List (ByteArray × Int)
def ansQ (L : List HP) (r : Ans) : Fin := fun v B F' => ∃ bv nv, v = ansV r.1 r.2.1 bv nv ∧ (slR heldR 2).r F' r.2.2.2 nv ∧ B = OSl u8R 1 5 bv r.2.2.1 :: L
theorem ansQ_plain (L : List HP) (e n : Int) (F : Frz) : ansQ L (e, n, [], []) (ansV e n nilS nilS) (OSl u8R 1 5 nilS [] :: L) F := ⟨_, _, rfl, slR_nil _ _ _ _ _, rfl⟩
theorem filesOf_len {x : XM} (ok : XOk x) (name : ByteArray) : (filesOf x name).length ≤ 32 := by
  unfold filesOf
  cases h : aget x.files name with
  | none => simp
  | some l => exact ok.fv _ (mem_of_aget h)
theorem filesOf_text {x : XM} (ok : XOk x) {name : ByteArray} {i : Nat} {q : Ver} (hq : (filesOf x name)[i]? = some q) : q.text.size ≤ 8192 := by
  unfold filesOf at hq
  cases h : aget x.files name with
  | none => rw [h] at hq; cases hq
  | some l => rw [h] at hq; exact ok.ft _ (mem_of_aget h) _ (List.mem_of_getElem? hq)

theorem text_sp (b f s o : Nat) (x : XM) (p : Op1) (bv cv ct ca : Value) (F : Frz) (ok : XOk x) :
    Sp Tryz.prog 90 [ptr b, opV p bv cv ct ca] (XP b f s o x) F (fun v B F' => v = (match textX x p.name p.gen with | some t => .tuple #[.string t, .bool true] | none => .tuple #[.string ⟨#[]⟩, .bool false]) ∧ B = XP b f s o x) := by
  have hl32 := filesOf_len ok p.name
  refine sp_of Tryz.func90 rfl (by kernel_rfl) rfl fun R => ?_
  repeat (first | refine t_seq ?_ | refine t_region ?_ | refine to_nil ?_ | refine to_q rfl rfl rfl ?_ | refine to_fa rfl rfl ?_ | refine to_ld rfl rfl rfl ?_ | refine to_boxA rfl rfl fun _ => ?_)
  refine to_call rfl rfl (at_sp b f s o x p.name p.gen _ (by omega)) fun v B F1 le1 h => ?_
  obtain ⟨rfl, rfl⟩ := h
  repeat (first | refine t_seq ?_ | refine t_region ?_ | refine to_nil ?_ | refine to_q rfl rfl rfl ?_)
  cases hl : lastI (liveP p.gen) (filesOf x p.name) with
  | none =>
    have e : textX x p.name p.gen = none := by simp [textX, hl]
    have e2 : atI x p.name p.gen = -1 := by simp [atI, hl]
    rw [e2]
    repeat (first | refine t_seq ?_ | refine t_region ?_ | refine to_nil ?_ | refine to_q rfl rfl rfl ?_ | refine t_cond (t := true) rfl (fun _ => ?_) (fun h => nomatch h))
    exact t_ret (XP b f s o x) Tryz.func90 (.tmp rfl (.tmp rfl .nil)) (by rw [e]; exact ⟨rfl, rfl⟩)
  | some i =>
    obtain ⟨q, hq, _⟩ := lastI_spec hl
    have e : textX x p.name p.gen = some q.text := by simp [textX, hl, hq]
    have e2 : atI x p.name p.gen = i := by simp [atI, hl]
    rw [e2]
    refine t_condT rfl (fun h => ?_) (fun h => ?_)
    · simp only [decide_eq_true_eq] at h; omega
    repeat (first | refine t_seq ?_ | refine t_skip ?_)
    refine t_drawn1 (by kernel_rfl) (by kernel_rfl) ?_
    repeat (first | refine to_q rfl rfl rfl ?_ | refine to_fa rfl rfl ?_ | refine to_ld rfl rfl rfl ?_)
    refine to_lkD (key := p.name) [] (slR_nil _ _ _ _ _) rfl rfl rfl fun u hu => ?_
    obtain ⟨b1, o1, cap1, u1, e1, hlt, hr, hro⟩ := slR_elem (P := Tryz.prog) (t := 85) (by_ := 40) hu hq
    subst e1
    repeat (refine to_q rfl rfl rfl ?_)
    refine to_ia rfl rfl rfl rfl hlt ?_
    repeat (refine to_fa rfl rfl ?_)
    refine to_ldR (F0 := F1) rfl rfl (hro.one (j := 2) (v := .string q.text) (by cases hr; rfl)) ?_
    repeat (first | refine to_nil ?_ | refine to_q rfl rfl rfl ?_)
    exact t_ret (XP b f s o x) Tryz.func90 (.tmp rfl (.tmp rfl .nil)) (by rw [e]; exact ⟨rfl, rfl⟩)
def readX (x : XM) (p : Op1) : Ans := match textX x p.name p.gen with
  | some t => (0, 0, strB t, [])
  | none => (9, 0, [], [])
theorem read_sp (b f s o : Nat) (x : XM) (p : Op1) (bv cv ct ca : Value) (F : Frz) (ok : XOk x) :
    Sp Tryz.prog 68 [ptr b, opV p bv cv ct ca] (XP b f s o x) F (ansQ (XP b f s o x) (readX x p)) := by
  refine sp_of Tryz.func68 rfl (by kernel_rfl) rfl fun R => ?_
  repeat (first | refine t_seq ?_ | refine t_region ?_ | refine to_nil ?_ | refine to_q rfl rfl rfl ?_ | refine to_ldA rfl rfl rfl ?_ | refine to_alloc rfl fun _ => ?_ | refine to_boxA rfl rfl fun _ => ?_)
  refine to_call rfl rfl (text_sp b f s o x p bv cv ct ca _ ok) fun v B F1 le1 h => ?_
  cases ht : textX x p.name p.gen with
  | none =>
    rw [ht] at h
    obtain ⟨rfl, rfl⟩ := h
    have e : readX x p = (9, 0, [], []) := by simp [readX, ht]
    repeat (first | refine t_seq ?_ | refine t_region ?_ | refine to_nil ?_ | refine to_q rfl rfl rfl ?_ | refine t_cond (t := true) rfl (fun _ => ?_) (fun h => nomatch h))
    refine to_call rfl rfl (wrong_sp 9 _) fun v B F2 _ h => ?_
    obtain ⟨rfl, rfl⟩ := h
    repeat (first | refine to_nil ?_ | refine to_stA rfl rfl rfl rfl rfl rfl ?_)
    refine t_emp u8R 1 5 none ?_
    exact t_ret (OSl u8R 1 5 nilS [] :: XP b f s o x) Tryz.func68 (.cellA rfl rfl .nil) (by rw [e]; exact ansQ_plain _ _ _ _)
  | some t =>
    rw [ht] at h
    obtain ⟨rfl, rfl⟩ := h
    have e : readX x p = (0, 0, strB t, []) := by simp [readX, ht]
    repeat (first | refine t_seq ?_ | refine t_region ?_ | refine to_nil ?_ | refine t_skip ?_ | refine to_q rfl rfl rfl ?_ | refine t_cond (t := false) rfl (fun h => nomatch h) (fun _ => ?_))
    refine to_cvSB rfl rfl fun bb cc => ?_
    repeat (first | refine to_nil ?_ | refine to_stA rfl rfl rfl rfl rfl rfl ?_ | refine to_bs rfl rfl rfl rfl ?_)
    exact t_ret (OSl u8R 1 5 (.slice (some ⟨bb, 0, none⟩) t.data.toList.length cc) t.data.toList :: XP b f s o x) Tryz.func68 (.cellA rfl rfl .nil) (by rw [e]; exact ⟨_, _, rfl, slR_nil _ _ _ _ _, rfl⟩)
def statX (x : XM) (p : Op1) : Int × Int := match textX x p.name p.gen with
  | some t => (0, t.size)
  | none => (9, 0)
theorem stat_sp (b f s o : Nat) (x : XM) (p : Op1) (bv cv ct ca : Value) (F : Frz) (ok : XOk x) :
    Sp Tryz.prog 71 [ptr b, opV p bv cv ct ca] (XP b f s o x) F (fun v B F' => v = ansV (statX x p).1 (statX x p).2 nilS nilS ∧ B = XP b f s o x) := by
  refine sp_of Tryz.func71 rfl (by kernel_rfl) rfl fun R => ?_
  repeat (first | refine t_seq ?_ | refine t_region ?_ | refine to_nil ?_ | refine to_q rfl rfl rfl ?_ | refine to_ldA rfl rfl rfl ?_ | refine to_alloc rfl fun _ => ?_ | refine to_boxA rfl rfl fun _ => ?_)
  refine to_call rfl rfl (text_sp b f s o x p bv cv ct ca _ ok) fun v B F1 le1 h => ?_
  cases ht : textX x p.name p.gen with
  | none =>
    rw [ht] at h
    obtain ⟨rfl, rfl⟩ := h
    have e : statX x p = (9, 0) := by simp [statX, ht]
    repeat (first | refine t_seq ?_ | refine t_region ?_ | refine to_nil ?_ | refine to_q rfl rfl rfl ?_ | refine t_cond (t := true) rfl (fun _ => ?_) (fun h => nomatch h))
    refine to_call rfl rfl (wrong_sp 9 _) fun v B F2 _ h => ?_
    obtain ⟨rfl, rfl⟩ := h
    repeat (first | refine to_nil ?_ | refine to_stA rfl rfl rfl rfl rfl rfl ?_)
    exact t_ret (XP b f s o x) Tryz.func71 (.cellA rfl rfl .nil) (by rw [e]; exact ⟨rfl, rfl⟩)
  | some t =>
    rw [ht] at h
    obtain ⟨rfl, rfl⟩ := h
    have e : statX x p = (0, (t.size : Int)) := by simp [statX, ht]
    repeat (first | refine t_seq ?_ | refine t_region ?_ | refine to_nil ?_ | refine t_skip ?_ | refine to_q rfl rfl rfl ?_ | refine to_stA rfl rfl rfl rfl rfl rfl ?_ | refine to_bs rfl rfl rfl rfl ?_
                  | refine to_lenT rfl rfl rfl ?_ | refine t_cond (t := false) rfl (fun h => nomatch h) (fun _ => ?_))
    exact t_ret (XP b f s o x) Tryz.func71 (.cellA rfl rfl .nil) (by rw [e]; exact ⟨rfl, rfl⟩)
theorem textX_size {x : XM} (ok : XOk x) {name : ByteArray} {gen : Int} {t : ByteArray} (h : textX x name gen = some t) : t.size ≤ 8192 := by
  unfold textX at h
  cases hl : lastI (liveP gen) (filesOf x name) with
  | none => rw [hl] at h; cases h
  | some i =>
    obtain ⟨q, hq, _⟩ := lastI_spec hl
    rw [hl] at h
    simp only [hq, Option.map_some, Option.some.injEq] at h
    subst h
    exact filesOf_text ok hq
def cutX (x : XM) (p : Op1) : Ans := match textX x p.name p.gen with
  | some t => if p.from_ < 0 ∨ p.from_ > t.size ∨ p.size < 0 then (2, 0, [], []) else
      (0, 0, ((strB t).drop p.from_.toNat).take p.size.toNat, [])
  | none => (9, 0, [], [])
theorem cut_bytes (t : ByteArray) (a : Nat) (z : Int) (ha : a ≤ t.size) (hz : 0 ≤ z) (n : Int) (hn : n = (t.extract a t.size).size) :
    ((t.extract a t.size).extract (0 : Int).toNat (if n < z then n else z).toNat).data.toList = ((strB t).drop a).take z.toNat := by
  have h1 : (t.extract a t.size).size = t.size - a := by simp
  rw [ByteArray.data_extract, ByteArray.data_extract, Array.toList_extract, Array.toList_extract]
  unfold strB
  have hl : t.data.toList.length = t.size := ba_len t
  simp only [List.extract_eq_take_drop, Int.toNat_zero, Nat.sub_zero, List.drop_zero]
  rw [List.take_of_length_le (i := t.size - a) (by rw [List.length_drop]; omega)]
  split
  · rename_i h
    rw [List.take_of_length_le (by rw [List.length_drop]; omega), List.take_of_length_le (by rw [List.length_drop]; omega)]
  · rfl
theorem cut_sp (b f s o : Nat) (x : XM) (p : Op1) (bv cv ct ca : Value) (F : Frz) (ok : XOk x) :
    Sp Tryz.prog 69 [ptr b, opV p bv cv ct ca] (XP b f s o x) F (ansQ (XP b f s o x) (cutX x p)) := by
  refine sp_of Tryz.func69 rfl (by kernel_rfl) rfl fun R => ?_
  repeat (first | refine t_seq ?_ | refine t_region ?_ | refine to_nil ?_ | refine to_q rfl rfl rfl ?_ | refine to_ldA rfl rfl rfl ?_ | refine to_alloc rfl fun _ => ?_ | refine to_boxA rfl rfl fun _ => ?_)
  refine to_call rfl rfl (text_sp b f s o x p bv cv ct ca _ ok) fun v B F1 le1 h => ?_
  cases ht : textX x p.name p.gen with
  | none =>
    rw [ht] at h
    obtain ⟨rfl, rfl⟩ := h
    have e : cutX x p = (9, 0, [], []) := by simp [cutX, ht]
    repeat (first | refine t_seq ?_ | refine t_block ?_ | refine t_region ?_ | refine to_nil ?_ | refine to_q rfl rfl rfl ?_ | refine t_cond (t := true) rfl (fun _ => ?_) (fun h => nomatch h))
    refine to_call rfl rfl (wrong_sp 9 _) fun v B F2 _ h => ?_
    obtain ⟨rfl, rfl⟩ := h
    repeat (first | refine to_nil ?_ | refine to_stA rfl rfl rfl rfl rfl rfl ?_)
    refine t_emp u8R 1 5 none ?_
    exact t_ret (OSl u8R 1 5 nilS [] :: XP b f s o x) Tryz.func69 (.cellA rfl rfl .nil) (by rw [e]; exact ansQ_plain _ _ _ _)
  | some t =>
    rw [ht] at h
    obtain ⟨rfl, rfl⟩ := h
    have hts := textX_size ok ht
    repeat (first | refine t_seq ?_ | refine t_block ?_ | refine t_region ?_ | refine to_nil ?_ | refine to_q rfl rfl rfl ?_ | refine to_fa rfl rfl ?_ | refine to_ld rfl rfl rfl ?_
                  | refine t_cond (t := false) rfl (fun h => nomatch h) (fun _ => ?_))
    refine to_gd rfl rfl (fun h1 => ?_) (fun h1 => ?_)
    · simp only [decide_eq_true_eq] at h1
      have e : cutX x p = (2, 0, [], []) := by simp [cutX, ht, h1]
      repeat (first | refine t_seq ?_ | refine t_region ?_ | refine to_nil ?_ | refine to_no rfl ?_ | refine to_q rfl rfl rfl ?_ | refine t_cond (t := true) rfl (fun _ => ?_) (fun h => nomatch h))
      refine to_call rfl rfl (wrong_sp 2 _) fun v B F2 _ h => ?_
      obtain ⟨rfl, rfl⟩ := h
      repeat (first | refine to_nil ?_ | refine to_stA rfl rfl rfl rfl rfl rfl ?_)
      refine t_emp u8R 1 5 none ?_
      exact t_ret (OSl u8R 1 5 nilS [] :: XP b f s o x) Tryz.func69 (.cellA rfl rfl .nil) (by rw [e]; exact ansQ_plain _ _ _ _)
    simp only [decide_eq_false_iff_not] at h1
    repeat (first | refine to_q rfl rfl rfl ?_ | refine to_fa rfl rfl ?_ | refine to_ld rfl rfl rfl ?_ | refine to_lenT rfl rfl rfl ?_)
    refine to_gd rfl rfl (fun h2 => ?_) (fun h2 => ?_)
    · simp only [decide_eq_true_eq] at h2
      have e : cutX x p = (2, 0, [], []) := by simp [cutX, ht]; omega
      repeat (first | refine t_seq ?_ | refine t_region ?_ | refine to_nil ?_ | refine to_no rfl ?_ | refine to_q rfl rfl rfl ?_ | refine t_cond (t := true) rfl (fun _ => ?_) (fun h => nomatch h))
      refine to_call rfl rfl (wrong_sp 2 _) fun v B F2 _ h => ?_
      obtain ⟨rfl, rfl⟩ := h
      repeat (first | refine to_nil ?_ | refine to_stA rfl rfl rfl rfl rfl rfl ?_)
      refine t_emp u8R 1 5 none ?_
      exact t_ret (OSl u8R 1 5 nilS [] :: XP b f s o x) Tryz.func69 (.cellA rfl rfl .nil) (by rw [e]; exact ansQ_plain _ _ _ _)
    simp only [decide_eq_false_iff_not] at h2
    repeat (first | refine to_nil ?_ | refine to_q rfl rfl rfl ?_ | refine to_fa rfl rfl ?_ | refine to_ld rfl rfl rfl ?_)
    refine t_condT rfl (fun h3 => ?_) (fun h3 => ?_)
    · simp only [decide_eq_true_eq] at h3
      have e : cutX x p = (2, 0, [], []) := by simp [cutX, ht, h3]
      repeat (first | refine t_seq ?_ | refine t_region ?_)
      refine to_call rfl rfl (wrong_sp 2 _) fun v B F2 _ h => ?_
      obtain ⟨rfl, rfl⟩ := h
      repeat (first | refine to_nil ?_ | refine to_stA rfl rfl rfl rfl rfl rfl ?_)
      refine t_emp u8R 1 5 none ?_
      exact t_ret (OSl u8R 1 5 nilS [] :: XP b f s o x) Tryz.func69 (.cellA rfl rfl .nil) (by rw [e]; exact ansQ_plain _ _ _ _)
    simp only [decide_eq_false_iff_not] at h3
    have e : cutX x p = (0, 0, ((strB t).drop p.from_.toNat).take p.size.toNat, []) := by simp [cutX, ht]; omega
    repeat (first | refine t_seq ?_ | refine t_region ?_ | refine t_skip ?_ | refine t_inBlock ?_ | refine to_q rfl rfl rfl ?_ | refine to_fa rfl rfl ?_ | refine to_ld rfl rfl rfl ?_)
    refine to_slT rfl rfl rfl rfl (by omega) (by omega) (by omega) ?_
    repeat (first | refine t_seq ?_ | refine t_region ?_ | refine to_nil ?_ | refine to_q rfl rfl rfl ?_ | refine to_fa rfl rfl ?_ | refine to_ld rfl rfl rfl ?_ | refine to_lenT rfl rfl rfl ?_)
    refine to_min rfl rfl rfl ?_
    refine to_slT rfl rfl rfl rfl (by omega) (by split <;> omega) (by split <;> omega) ?_
    refine to_cvSB rfl rfl fun bb cc => ?_
    rw [Int.toNat_natCast, cut_bytes t p.from_.toNat p.size (by omega) (by omega) ((t.extract p.from_.toNat t.size).size : Int) rfl]
    repeat (first | refine to_nil ?_ | refine to_stA rfl rfl rfl rfl rfl rfl ?_ | refine to_bs rfl rfl rfl rfl ?_)
    exact t_ret (OSl u8R 1 5 (.slice (some ⟨bb, 0, none⟩) (((strB t).drop p.from_.toNat).take p.size.toNat).length cc) (((strB t).drop p.from_.toNat).take p.size.toNat) :: XP b f s o x) Tryz.func69 (.cellA rfl rfl .nil) (by rw [e]; exact ⟨_, _, rfl, slR_nil _ _ _ _ _, rfl⟩)
end Go.Proofs.YtbffngeameenoaaGreat
end

section
set_option linter.unusedVariables false
set_option linter.unusedSimpArgs false
namespace Go.Au
open Go

class SM (E : Ex) (S : outParam (List Nat)) : Prop where
  h : E.ks = some S
instance sm_mk {f : FuncId} {n : Nat} {ro : Option Nat} {S : List Nat} : SM ⟨f, n, ro, some S⟩ S := ⟨rfl⟩
class MemS (b : Nat) (S : List Nat) : Prop where
  h : b ∈ S
instance memS_hd {b : Nat} {S : List Nat} : MemS b (b :: S) := ⟨List.mem_cons_self⟩
instance memS_tl {b c : Nat} {S : List Nat} [m : MemS b S] : MemS b (c :: S) := ⟨List.mem_cons_of_mem _ m.h⟩
section
variable {P : Program} {E : Ex} {D : List Deferred} {L L' L1 R : List HP} {F F' F0 : Frz} {k : List Item} {σ σ' : Sg} {Φ Ψ : Fin} {ops : Array Oper} {os : List Oper} {l : List Oper}
  {ty : TypeId} {pos : String} {af : Array Edge} {d b o : Nat} {g : Option (Nat × Bool)} {t t' et src dst kt : TypeId} {x y z : Operand} {v u : Value}
  {zs cs vs : List Value} {n by_ : Nat} {β : Type} {ρ : Rel β} {xs ys : List β} {len cap j : Nat} {q : β} {S : List Nat} {fid nn : Nat} {ro : Option Nat}

theorem t_out (h : T P ⟨fid, nn, ro, none⟩ D L F k σ Φ) : T P ⟨fid, nn, ro, some S⟩ D L F k σ Φ := h
theorem t_in (h : T P ⟨fid, nn, ro, some S⟩ D L F k σ Φ) : T P ⟨fid, nn, ro, none⟩ D L F k σ Φ := h
/-- In the text's order. -/
theorem t_drawnT [Mixed P] {id : Nat} (S : List Nat) (he : edgesB l = true) (hf : freeAll P true l (List.range l.length) = true) (h : TO P ⟨fid, nn, ro, some S⟩ D L F l.toArray l k σ Φ) :
    T P ⟨fid, nn, ro, none⟩ D L F (.code (.region id l.toArray true) :: k) σ Φ := by
  refine t_in (S := S) (t_drawn he fun s hs => ?_)
  have hl : (List.range l.length).map (opAt l) = l := by
    apply List.ext_getElem?
    intro i
    rw [List.getElem?_map]
    by_cases hi : i < l.length
    · simp [List.getElem?_range hi, opAt, hi]
    · simp [hi]
  intro o1 ok w b a cs h1 h2 h3 h4 h5 ag st
  refine lin_text (ks := some S) hs List.nodup_range hf ?_
  rw [hl]
  refine h ?_ ok w b a cs h1 h2 h3 h4 h5 ag st
  simp only [itemsOk, itemOk] at ok
  rw [List.all_eq_true] at o1 ⊢
  intro p hp
  rw [← hl] at hp
  obtain ⟨i, hi, e⟩ := List.mem_map.1 hp
  exact o1 p (List.mem_map.2 ⟨i, hs.mem' i hi, e⟩)
/-- Each order. -/
theorem t_drawnX [Mixed P] {id : Nat} (S : List Nat) (he : edgesB l = true) (h : ∀ s, Lin l (List.range l.length) s → TO P ⟨fid, nn, ro, some S⟩ D L F l.toArray (s.map (opAt l)) k σ Φ) :
    T P ⟨fid, nn, ro, none⟩ D L F (.code (.region id l.toArray true) :: k) σ Φ := t_in (S := S) (t_drawn he h)

theorem exec_load {a : Act} (ag : Agree σ a.tmps) {w : World} (hx : ev σ x = some (.pointer (some ⟨b, o, none⟩))) (h : (loadVar t ⟨b, o, none⟩).run P w = .ok v w) :
    (execOp a.eval ⟨some d, .load t x, ty, pos, af, g⟩).run P w = .ok (.value v) w := by
  simp [execOp, Instr.loadAt, Instr.sureAddr, ev_eval ag hx, h]
theorem to_ldK [sm : SM E S] [fb : FB b L (own b cs t') R] [ms : MemS b S] [ScaT P t] (hg : gd σ ops g = some true) (hx : ev σ x = some (.pointer (some ⟨b, o, none⟩))) (hc : nth cs o = some v)
    (K : TO P E D L F ops os k ((d, v) :: σ) Φ) : TO P E D L F ops (⟨some d, .load t x, ty, pos, af, g⟩ :: os) k σ Φ :=
  to_rdK hg rfl (fun w a ag st w' hs => exec_load ag hx (run_load_one (by
    rw [sm.h] at hs
    rw [Keep.cell hs b ms.h, (st.perm fb.p).cell o, ← nth_eq, hc]))) K
theorem to_ldAK [sm : SM E S] [fb : FB b L (own b cs t') R] [ms : MemS b S] [AggT P t] [Inf P t zs n by_] (hg : gd σ ops g = some true) (hx : ev σ x = some (.pointer (some ⟨b, o, none⟩))) (hc : getN cs o n = some vs)
    (K : TO P E D L F ops os k ((d, .agg vs.toArray) :: σ) Φ) : TO P E D L F ops (⟨some d, .load t x, ty, pos, af, g⟩ :: os) k σ Φ :=
  to_rdK hg rfl (fun w a ag st w' hs => exec_load ag hx (run_load_agg (getN_eq hc).1 fun j u hj => by
    rw [sm.h] at hs
    rw [Addr.add_none, Keep.cell hs b ms.h, (st.perm fb.p).cell]
    exact (getN_eq hc).2 j u hj)) K
/-- calls -/
theorem to_callK {f : FuncId} {args : Array Operand} {tys : Array TypeId} {A : List HP} [HasBody P f] (hg : gd σ ops g = some true) (hx : evs σ args.toList = some vs) (sp : Sp P f vs A F Ψ) [ex : Ext A L R]
    (K : ∀ v B F', FS F F' → Ψ v B F' → KpC E.ks L (B ++ R) ∧ TO P E D (B ++ R) F' ops os k ((d, v) :: σ) Φ) :
    TO P E D L F ops (⟨some d, .call ⟨.value (.func f), args, tys⟩, ty, pos, af, g⟩ :: os) k σ Φ := by
  refine to_opK hg rfl fun w a ag st => ?_
  rw [exec_callv ag rfl hx]
  refine (cv_of_sp0 sp R w (st.perm ex.p)).mono fun v w' ⟨B, F', le, hq, s⟩ => ?_
  obtain ⟨k1, k2⟩ := K v B F' ⟨le⟩ hq
  exact ⟨_, F', le, s, k1, k2⟩
/-- Two may be next. -/
theorem to_next2 {rem s : List Nat} (hs : Lin l rem s) (i j : Nat) {oi oj : Oper} (hoi : l[i]? = some oi) (hoj : l[j]? = some oj)
    (hc : (rem.filter fun i => (dep l i).all fun m => !rem.contains m) = [i, j])
    (K1 : ∀ s', Lin l (rem.erase i) s' → TO P E D L F l.toArray (oi :: s'.map (opAt l)) k σ Φ) (K2 : ∀ s', Lin l (rem.erase j) s' → TO P E D L F l.toArray (oj :: s'.map (opAt l)) k σ Φ) :
    TO P E D L F l.toArray (s.map (opAt l)) k σ Φ := by
  refine to_next hs ?_ fun i' hi' s' hs' => ?_
  · cases rem with
    | nil => simp at hc
    | cons => rfl
  · rw [hc] at hi'
    have e1 : opAt l i = oi := by simp [opAt, hoi]
    have e2 : opAt l j = oj := by simp [opAt, hoj]
    rcases List.mem_cons.1 hi' with rfl | hi'
    · rw [e1]; exact K1 s' hs'
    · cases List.mem_singleton.1 hi'
      rw [e2]; exact K2 s' hs'
def freeSeq (P : Program) (m : Bool) (l : List Oper) : List Nat → List Nat → Bool
  | _, [] => true
  | rem, i :: ord => rem.contains i && (freeB P m l rem i && freeSeq P m l (rem.erase i) ord)
def eraseAll : List Nat → List Nat → List Nat
  | rem, [] => rem
  | rem, i :: ord => eraseAll (rem.erase i) ord
theorem lin_free' {ks : Option (List Nat)} {rem s : List Nat} (hs : Lin l rem s) {i : Nat} (hm : i ∈ rem) (hf : freeB P ks.isSome l rem i = true) {K : Act → World → Prop} :
    ∃ s', Lin l (rem.erase i) s' ∧ ∀ a w, RX P ks l.toArray K (opAt l i :: s'.map (opAt l)) a w → RX P ks l.toArray K (s.map (opAt l)) a w := by
  obtain ⟨pre, post, rfl, hn⟩ := split_first (hs.mem' i hm)
  refine ⟨pre ++ post, hs.remove hn, fun a w h => ?_⟩
  rw [List.map_append, List.map_cons]
  refine RX.front (fun p hp => ?_) (by rw [← List.map_append]; exact h)
  obtain ⟨j, hj, rfl⟩ := List.mem_map.1 hp
  have hjr : j ∈ rem := hs.mem j (by simp [hj])
  have := List.all_eq_true.1 hf j hjr
  simp only [Bool.or_eq_true, Bool.and_eq_true, beq_iff_eq] at this
  rcases this with (h1 | h1) | h1
  · subst h1; exact absurd hj hn
  · exact absurd hj (hs.notBefore (ancs_ok rem [] (fun _ _ h => by simp [bget] at h) j i h1) rfl)
  · exact h1
theorem lin_frees {ks : Option (List Nat)} {K : Act → World → Prop} : ∀ {ord rem s : List Nat}, Lin l rem s → freeSeq P ks.isSome l rem ord = true →
    ∃ s', Lin l (eraseAll rem ord) s' ∧ (∀ i ∈ ord, i ∈ rem) ∧ (∀ j ∈ s', j ∈ rem) ∧ ∀ a w, RX P ks l.toArray K (ord.map (opAt l) ++ s'.map (opAt l)) a w → RX P ks l.toArray K (s.map (opAt l)) a w
  | [], rem, s, hs, _ => ⟨s, hs, by simp, hs.mem, fun a w h => h⟩
  | i :: ord, rem, s, hs, hf => by
    simp only [freeSeq, Bool.and_eq_true] at hf
    have hm : i ∈ rem := by simpa using hf.1
    obtain ⟨s1, h1, h2⟩ := lin_free' (K := K) hs hm hf.2.1
    obtain ⟨s2, h3, h4, h5, h6⟩ := lin_frees (K := K) h1 hf.2.2
    refine ⟨s2, h3, fun j hj => ?_, fun j hj => List.mem_of_mem_erase (h5 j hj), fun a w h => h2 a w ?_⟩
    · rcases List.mem_cons.1 hj with rfl | hj
      · exact hm
      · exact List.mem_of_mem_erase (h4 j hj)
    · exact SX.mono h fun v w' h' => h6 _ _ h'
/-- Several that are free, in this order. -/
theorem to_frees {rem s : List Nat} (hs : Lin l rem s) (ord : List Nat) (hf : freeSeq P E.ks.isSome l rem ord = true)
    (K : ∀ s', Lin l (eraseAll rem ord) s' → TO P E D L F l.toArray (ord.map (opAt l) ++ s'.map (opAt l)) k σ Φ) : TO P E D L F l.toArray (s.map (opAt l)) k σ Φ := by
  intro o1 ok w b a cs h1 h2 h3 h4 h5 ag st
  obtain ⟨s', hl, ho, hs', hx⟩ := lin_frees (P := P) (ks := E.ks) (K := fun a' w' => Ends P E (lone (b.atR a' k) cs w') cs F Φ) hs hf
  refine hx a w ?_
  have := K s' hl
  refine this ?_ ok w b a cs h1 h2 h3 h4 h5 ag st
  rw [List.all_eq_true] at o1 ⊢
  intro p hp
  rw [← List.map_append] at hp
  obtain ⟨i, hi, e⟩ := List.mem_map.1 hp
  refine o1 p (List.mem_map.2 ⟨i, hs.mem' i ?_, e⟩)
  rcases List.mem_append.1 hi with hi | hi
  · exact ho i hi
  · exact hs' i hi
end
end Go.Au
end
