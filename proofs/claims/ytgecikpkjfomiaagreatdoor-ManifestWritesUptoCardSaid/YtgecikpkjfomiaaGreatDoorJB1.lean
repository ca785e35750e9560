/- Lemmas and contracts, part 1: joined texts; no condition of their own. -/
import Derived.WalkKit
import Derived.WalkLawsBesides
import Derived.WalkSpells
import Derived.Maps.RangeRun
import Derived.Maps.Range
import Derived.MapKept
import Derived.Deep.RegionHeld3
import Derived.Deep.RegionLaw
import Derived.Deep.DeepCutAuto
import Derived.Deep.AppendLies
import Derived.Deep.QuietTactic
import Derived.Deep.LoopGhost
import Derived.BigQuiet
import Derived.KernelRfl
import Derived.Test.YtgecikpkjfomiaaGreatDoorProg
import Derived.StillTailTactics
import Derived.Laws.CopyOwn
import Derived.Maps.AppendAt
import Derived.Laws.AppendOwnNone
import Derived.Lib.ConvBytes
import Derived.Laws.IdiomStrings
import Derived.Sort.EncStr
import Derived.Deep.Onto
import Derived.Deep.Upon
import Derived.ArgAppend
/- Maps in memory, told by a list of keys and values: looked up, set, deleted from, counted, gone over. Nothing here speaks of a program. -/
namespace Go.Stk
open Go Go.RowKit Go.MapKept
open Go.ChangeMaps (setBlock)

/-! ### lists of keys and values -/
section lists
variable {κ α : Type} [DecidableEq κ]

def dget : List (κ × α) → κ → Option α
  | [], _ => none
  | (a, v) :: r, k => if a = k then some v else dget r k

def dput : List (κ × α) → κ → α → List (κ × α)
  | [], k, v => [(k, v)]
  | (a, u) :: r, k, v => if a = k then (k, v) :: r else (a, u) :: dput r k v

def ddel : List (κ × α) → κ → List (κ × α)
  | [], _ => []
  | (a, u) :: r, k => if a = k then r else (a, u) :: ddel r k

def keysOf (D : List (κ × α)) : List κ := D.map (·.1)

theorem dget_none {D : List (κ × α)} {k : κ} : dget D k = none ↔ k ∉ keysOf D := by
  induction D with
  | nil => simp [dget, keysOf]
  | cons p r ih =>
    obtain ⟨a, v⟩ := p
    simp only [dget, keysOf, List.map_cons, List.mem_cons, not_or] at ih ⊢
    by_cases h : a = k
    · subst h; simp
    · rw [if_neg h, ih]; simp [Ne.symm h]

theorem dget_some_mem {D : List (κ × α)} {k : κ} {v : α} (h : dget D k = some v) : (k, v) ∈ D := by
  induction D with
  | nil => simp [dget] at h
  | cons p r ih =>
    obtain ⟨a, u⟩ := p
    simp only [dget] at h
    by_cases e : a = k
    · rw [if_pos e] at h; injection h with h; subst h; subst e; simp
    · rw [if_neg e] at h; exact List.mem_cons_of_mem _ (ih h)

theorem dget_of_mem {D : List (κ × α)} (hn : (keysOf D).Nodup) {k : κ} {v : α} (h : (k, v) ∈ D) : dget D k = some v := by
  induction D with
  | nil => simp at h
  | cons p r ih =>
    obtain ⟨a, u⟩ := p
    simp only [keysOf, List.map_cons, List.nodup_cons] at hn
    simp only [dget]
    rcases List.mem_cons.1 h with h | h
    · injection h with h1 h2; subst h1; subst h2; simp
    · have : a ≠ k := fun e => hn.1 (List.mem_map.2 ⟨(k, v), h, e.symm⟩)
      rw [if_neg this]; exact ih hn.2 h

theorem dget_mem_keys {D : List (κ × α)} {k : κ} {v : α} (h : dget D k = some v) : k ∈ keysOf D :=
  List.mem_map.2 ⟨(k, v), dget_some_mem h, rfl⟩

theorem dput_of_not {D : List (κ × α)} {k : κ} (v : α) (h : k ∉ keysOf D) : dput D k v = D ++ [(k, v)] := by
  induction D with
  | nil => rfl
  | cons p r ih =>
    obtain ⟨a, u⟩ := p
    simp only [keysOf, List.map_cons, List.mem_cons, not_or] at h
    simp only [dput]
    rw [if_neg (Ne.symm h.1), ih h.2]; rfl

theorem keysOf_dput_mem {D : List (κ × α)} {k : κ} (v : α) (h : k ∈ keysOf D) : keysOf (dput D k v) = keysOf D := by
  induction D with
  | nil => simp [keysOf] at h
  | cons p r ih =>
    obtain ⟨a, u⟩ := p
    simp only [dput]
    by_cases e : a = k
    · rw [if_pos e]; subst e; rfl
    · rw [if_neg e]
      simp only [keysOf, List.map_cons, List.mem_cons] at h ih ⊢
      rw [ih (h.resolve_left (Ne.symm e))]

theorem mem_keysOf_dput {D : List (κ × α)} {k x : κ} {v : α} : x ∈ keysOf (dput D k v) ↔ x = k ∨ x ∈ keysOf D := by
  by_cases h : k ∈ keysOf D
  · rw [keysOf_dput_mem v h]
    exact ⟨.inr, fun h' => h'.elim (fun e => e ▸ h) id⟩
  · rw [dput_of_not v h]; simp [keysOf, or_comm]

theorem nodup_dput {D : List (κ × α)} {k : κ} {v : α} (hn : (keysOf D).Nodup) : (keysOf (dput D k v)).Nodup := by
  by_cases h : k ∈ keysOf D
  · rw [keysOf_dput_mem v h]; exact hn
  · rw [dput_of_not v h]
    simp only [keysOf, List.map_append, List.map_cons, List.map_nil]
    refine List.nodup_append.2 ⟨hn, by simp, ?_⟩
    intro a ha b hb
    simp only [List.mem_singleton] at hb
    subst hb
    exact fun e => h (e ▸ ha)

theorem keysOf_ddel (D : List (κ × α)) (k : κ) : keysOf (ddel D k) = (keysOf D).erase k := by
  induction D with
  | nil => rfl
  | cons p r ih =>
    obtain ⟨a, u⟩ := p
    simp only [ddel, keysOf, List.map_cons] at ih ⊢
    by_cases e : a = k
    · subst e; simp
    · rw [if_neg e, List.erase_cons_tail (by simpa using e)]
      simp [ih]

theorem nodup_ddel {D : List (κ × α)} {k : κ} (hn : (keysOf D).Nodup) : (keysOf (ddel D k)).Nodup := by
  rw [keysOf_ddel]; exact hn.erase k

theorem dget_dput {D : List (κ × α)} {k x : κ} {v : α} : dget (dput D k v) x = if k = x then some v else dget D x := by
  induction D with
  | nil => simp [dput, dget]
  | cons p r ih =>
    obtain ⟨a, u⟩ := p
    simp only [dput]
    by_cases e : a = k
    · rw [if_pos e]; subst e
      simp only [dget]
      split <;> rfl
    · rw [if_neg e]
      simp only [dget, ih]
      by_cases e1 : a = x
      · rw [if_pos e1, if_pos e1, if_neg (fun e2 => e (e1.trans e2.symm))]
      · rw [if_neg e1, if_neg e1]

theorem dget_ddel {D : List (κ × α)} (hn : (keysOf D).Nodup) {k x : κ} : dget (ddel D k) x = if k = x then none else dget D x := by
  induction D with
  | nil => simp [ddel, dget]
  | cons p r ih =>
    obtain ⟨a, u⟩ := p
    simp only [keysOf, List.map_cons, List.nodup_cons] at hn
    simp only [ddel]
    by_cases e : a = k
    · rw [if_pos e]; subst e
      by_cases e1 : a = x
      · rw [if_pos e1]; subst e1; exact dget_none.2 hn.1
      · rw [if_neg e1]; simp only [dget]; rw [if_neg e1]
    · rw [if_neg e]
      simp only [dget, ih hn.2]
      by_cases e1 : a = x
      · rw [if_pos e1, if_pos e1, if_neg (fun e2 => e (e1.trans e2.symm))]
      · rw [if_neg e1, if_neg e1]

end lists

/-! ### a map's block -/

/-- How keys of a Lean type stand in memory. -/
structure KeyT (κ : Type) where
  d : TypeDesc
  val : κ → Value
  isKey : ∀ k, IsKey d (val k)
  inj : ∀ {a b}, val a = val b → a = b

def SK : KeyT ByteArray := ⟨.string, .string, fun _ => trivial, fun h => by injection h⟩
def IK : KeyT Int := ⟨.int .i64, .int .i64, fun _ => rfl, fun h => by injection h⟩
def WK : KeyT Int := ⟨.int .u64, .int .u64, fun _ => rfl, fun h => by injection h⟩

section
variable {κ : Type} [DecidableEq κ]

def Ents (K : KeyT κ) (es : List MapEntry) (D : List (κ × Value)) : Prop :=
  es.map (fun e => (e.key, e.val)) = D.map (fun p => (K.val p.1, p.2))

/-- Block b of w is a map of just these keys and values, in this order. -/
def KMap (K : KeyT κ) (w : World) (b : Nat) (D : List (κ × Value)) : Prop :=
  ∃ es clock, w.heap[b]? = some (.map es clock) ∧ Stamped es clock ∧ Ents K es.toList D

variable {K : KeyT κ} {w w' : World} {b : Nat} {D : List (κ × Value)}

omit [DecidableEq κ] in
theorem KMap.of_block (h : KMap K w b D) (e : w'.heap[b]? = w.heap[b]?) : KMap K w' b D := by
  obtain ⟨es, c, h1, h2⟩ := h
  exact ⟨es, c, e.trans h1, h2⟩

omit [DecidableEq κ] in
theorem KMap.lt (h : KMap K w b D) : b < w.heap.size := by
  obtain ⟨es, c, h1, _⟩ := h
  exact (Array.getElem?_eq_some_iff.1 h1).1

omit [DecidableEq κ] in
theorem Ents.length {es : List MapEntry} (h : Ents K es D) : es.length = D.length := by
  have := congrArg List.length h
  simpa using this

omit [DecidableEq κ] in
theorem Ents.keys {es : List MapEntry} (h : Ents K es D) : es.map (·.key) = (keysOf D).map K.val := by
  have := congrArg (List.map (·.1)) h
  simpa [keysOf, List.map_map, Function.comp_def] using this

omit [DecidableEq κ] in
theorem Ents.isKey {es : List MapEntry} (h : Ents K es D) : ∀ x ∈ es, IsKey K.d x.key := by
  intro x hx
  have : x.key ∈ es.map (·.key) := List.mem_map.2 ⟨x, hx, rfl⟩
  rw [h.keys] at this
  obtain ⟨k, _, e⟩ := List.mem_map.1 this
  rw [← e]; exact K.isKey k

omit [DecidableEq κ] in
theorem KMap.nodup (h : KMap K w b D) : (keysOf D).Nodup := by
  obtain ⟨es, c, _, hs, he⟩ := h
  have := hs.2.2
  rw [he.keys] at this
  exact (List.pairwise_map.1 this).imp (fun {a b} hne e => hne (congrArg K.val e))

omit [DecidableEq κ] in
theorem Ents.at {es : List MapEntry} (h : Ents K es D) {j : Nat} {e : MapEntry} (he : es[j]? = some e) : ∃ k, D[j]? = some (k, e.val) ∧ e.key = K.val k := by
  have := congrArg (fun l => l[j]?) h
  simp only [List.getElem?_map, he, Option.map_some] at this
  cases hD : D[j]? with
  | none => rw [hD] at this; simp at this
  | some p =>
    rw [hD] at this
    simp only [Option.map_some, Option.some.injEq, Prod.mk.injEq] at this
    exact ⟨p.1, by rw [this.2], this.1⟩

/-- Finding a key. -/
theorem Ents.find {es : List MapEntry} (h : Ents K es D) (hn : (keysOf D).Nodup) (k : κ) :
    (Instr.findNow K.d (K.val k) es 0 = some none ∧ dget D k = none) ∨
    ∃ j v, Instr.findNow K.d (K.val k) es 0 = some (some (j, v)) ∧ dget D k = some v ∧ j < es.length ∧ D[j]? = some (k, v) := by
  rcases findNow_spec (K.isKey k) es 0 h.isKey with ⟨h1, h2⟩ | ⟨j, e, h1, h2, h3⟩
  · refine .inl ⟨h1, dget_none.2 fun hm => ?_⟩
    have : K.val k ∈ es.map (·.key) := by rw [h.keys]; exact List.mem_map.2 ⟨k, hm, rfl⟩
    obtain ⟨x, hx, hk⟩ := List.mem_map.1 this
    exact h2 x hx hk
  · obtain ⟨k', hD, hk'⟩ := h.at h2
    have : k' = k := K.inj (hk'.symm.trans h3)
    subst this
    refine .inr ⟨j, e.val, by simpa using h1, dget_of_mem hn (List.mem_of_getElem? hD), (List.getElem?_eq_some_iff.1 h2).1, hD⟩

variable {P : Program} {t ke el : TypeId}

/-- m[k], and v, ok := m[k]. -/
theorem KMap.lookup (h : KMap K w b D) (ht : P.underlying t = some (.map ke el)) (hk : P.underlying ke = some K.d) {z : Value} (hz : (zeroValue el).run P w = .ok z w) (k : κ) (ok : Bool) :
    (Instr.lookup t (.map (some b)) (K.val k) ok).run P w = .ok (if ok then .tuple #[(dget D k).getD z, .bool (dget D k).isSome] else (dget D k).getD z) w := by
  have hn := h.nodup
  obtain ⟨es, c, hb, hs, he⟩ := h
  rcases he.find hn k with ⟨h1, h2⟩ | ⟨j, v, h1, h2, _, _⟩
  · have hf := run_findKey (P := P) (w := w) hk h1
    simp [Instr.lookup, run_underlying ht, MapKept.run_getObj_map hb, run_checkKey hk (K.isKey k), hf, h2, hz, Result.andThen]
  · have hf := run_findKey (P := P) (w := w) hk h1
    simp [Instr.lookup, run_underlying ht, MapKept.run_getObj_map hb, run_checkKey hk (K.isKey k), hf, h2, Result.andThen]

theorem Ents.put_hit {es : Array MapEntry} (h : Ents K es.toList D) (hn : (keysOf D).Nodup) {j : Nat} {k : κ} {v : Value} (hj : D[j]? = some (k, v)) (u : Value) :
    Ents K (es.modify j fun e => { e with key := K.val k, val := u }).toList (dput D k u) := by
  have hput : dput D k u = D.set j (k, u) := by
    clear h
    induction D generalizing j with
    | nil => simp at hj
    | cons p r ih =>
      obtain ⟨a, x⟩ := p
      simp only [keysOf, List.map_cons, List.nodup_cons] at hn
      cases j with
      | zero =>
        simp only [List.getElem?_cons_zero, Option.some.injEq, Prod.mk.injEq] at hj
        simp [dput, hj.1]
      | succ j =>
        simp only [List.getElem?_cons_succ] at hj
        have : a ≠ k := fun e => hn.1 (List.mem_map.2 ⟨(k, v), List.mem_of_getElem? hj, e.symm⟩)
        simp only [dput, List.set_cons_succ]
        rw [if_neg this, ih hn.2 hj]
  unfold Ents at h ⊢
  rw [hput]
  apply List.ext_getElem?
  intro i
  have hi := congrArg (fun l => l[i]?) h
  simp only [List.getElem?_map] at hi
  simp only [List.getElem?_map, List.getElem?_set, Array.getElem?_toList, Array.getElem?_modify] at hi ⊢
  by_cases hij : j = i
  · subst hij
    have hlt : j < D.length := (List.getElem?_eq_some_iff.1 hj).1
    simp only [if_true, hlt, hj, Option.map_some] at hi ⊢
    cases he : es[j]? with
    | none => rw [he] at hi; simp at hi
    | some e => simp
  · simp only [hij, if_false]; exact hi

omit [DecidableEq κ] in
theorem run_keyStays (K : KeyT κ) (P : Program) (w : World) (k : κ) (hd : K.d = .string ∨ ∃ q, K.d = .int q) : (Instr.keyThatStays (K.val k) (K.val k)).run P w = .ok (K.val k) w := by
  have := K.isKey k
  have hs : Instr.sameBits 10000 (K.val k) (K.val k) = true := by
    rcases hd with hd | ⟨q, hd⟩ <;> rw [hd] at this <;> cases hv : K.val k <;> rw [hv] at this <;> simp [IsKey] at this
    · have hb := fun s : ByteArray => (MapKept.bytes_beq s s).2 rfl
      simp only [Instr.sameBits, hb]
    · simp [Instr.sameBits]
  simp [Instr.keyThatStays, hs]

/-- m[k] = v. -/
theorem KMap.update (h : KMap K w b D) (hd : K.d = .string ∨ ∃ q, K.d = .int q) (ht : P.underlying t = some (.map ke el)) (hk : P.underlying ke = some K.d) (k : κ) (u : Value) :
    ∃ w', (Instr.mapUpdate t (.map (some b)) (K.val k) u).run P w = .ok () w' ∧ KMap K w' b (dput D k u) ∧ w.grownBy w' (some b) ∧ w'.heap.size = w.heap.size ∧ w'.drawn = w.drawn := by
  have hn := h.nodup
  have hlt := h.lt
  obtain ⟨es, c, hb, hs, he⟩ := h
  have grow : ∀ o, w.grownBy (setBlock w b o) (some b) := fun o => ⟨rfl, rfl, rfl, by simp [setBlock], fun i _ hi => (heap_set (o' := o) hb).2 i (fun e => hi (by rw [e]))⟩
  rcases he.find hn k with ⟨h1, h2⟩ | ⟨j, v, h1, h2, hjl, hj⟩
  · have hf := run_findKey (P := P) (w := w) hk h1
    have hno := dget_none.1 h2
    refine ⟨setBlock w b (.map (es.push { key := K.val k, val := u, born := c }) (c + 1)), ?_, ⟨_, _, (heap_set hb).1, stamped_push hs ?_, ?_⟩, grow _, by simp [setBlock], rfl⟩
    · simp [Instr.mapUpdate, run_underlying ht, MapKept.run_getObj_map hb, run_checkKey hk (K.isKey k), hf, MapKept.run_setObj_map _ hb, Result.andThen, setBlock]
    · intro x hx hxk
      have : x.key ∈ es.toList.map (·.key) := List.mem_map.2 ⟨x, hx, rfl⟩
      rw [he.keys, hxk] at this
      obtain ⟨k', hk', e⟩ := List.mem_map.1 this
      exact hno (K.inj e ▸ hk')
    · rw [dput_of_not u hno]
      have := he
      unfold Ents at this ⊢
      simp [this]
  · have hf := run_findKey (P := P) (w := w) hk h1
    have hjs : j < es.size := by simpa using hjl
    have hkey : ((es[j]?).map (·.key)).getD (K.val k) = K.val k := by
      obtain ⟨k', hD, hk'⟩ := he.at (j := j) (e := es[j]) (by simp [hjs])
      rw [hj] at hD
      injection hD with hD
      injection hD with hD _
      simp [hjs, hk', hD]
    have hst := run_keyStays K P w k hd
    refine ⟨setBlock w b (.map (es.modify j fun e => { e with key := K.val k, val := u }) c), ?_, ⟨_, _, (heap_set hb).1, stamped_modify hs _ _ (fun _ _ => rfl) ?_, he.put_hit hn hj u⟩, grow _, by simp [setBlock], rfl⟩
    · simp only [Instr.mapUpdate, Sem.run_bind, run_underlying ht, Result.andThen_ok, MapKept.run_getObj_map hb, run_checkKey hk (K.isKey k), hf, hkey, hst, MapKept.run_setObj_map _ hb]
      rfl
    · intro e _ hej
      obtain ⟨k', hD, hk'⟩ := he.at (j := j) (e := e) (by simpa using hej)
      rw [hj] at hD
      injection hD with hD
      injection hD with hD _
      simp [hk', hD]

theorem ddel_eraseIdx {D : List (κ × Value)} (hn : (keysOf D).Nodup) {j : Nat} {k : κ} {v : Value} (hj : D[j]? = some (k, v)) : ddel D k = D.eraseIdx j := by
  induction D generalizing j with
  | nil => simp at hj
  | cons p r ih =>
    obtain ⟨a, x⟩ := p
    simp only [keysOf, List.map_cons, List.nodup_cons] at hn
    cases j with
    | zero =>
      simp only [List.getElem?_cons_zero, Option.some.injEq, Prod.mk.injEq] at hj
      simp [ddel, hj.1]
    | succ j =>
      simp only [List.getElem?_cons_succ] at hj
      have : a ≠ k := fun e => hn.1 (List.mem_map.2 ⟨(k, v), List.mem_of_getElem? hj, e.symm⟩)
      simp only [ddel, List.eraseIdx_cons_succ]
      rw [if_neg this, ih hn.2 hj]

theorem ddel_not {D : List (κ × Value)} {k : κ} (h : k ∉ keysOf D) : ddel D k = D := by
  induction D with
  | nil => rfl
  | cons p r ih =>
    obtain ⟨a, x⟩ := p
    simp only [keysOf, List.map_cons, List.mem_cons, not_or] at h
    simp only [ddel]
    rw [if_neg (Ne.symm h.1), ih h.2]

/-- delete(m, k). -/
theorem KMap.delete (h : KMap K w b D) (ht : P.underlying t = some (.map ke el)) (hk : P.underlying ke = some K.d) (k : κ) (t2 ty : TypeId) :
    ∃ w', (Builtin.delete_ #[t, t2] ty #[.map (some b), K.val k]).run P w = .ok (.tuple #[]) w' ∧ KMap K w' b (ddel D k) ∧ w.grownBy w' (some b) ∧ w'.heap.size = w.heap.size ∧ w'.drawn = w.drawn := by
  have hn := h.nodup
  obtain ⟨es, c, hb, hs, he⟩ := h
  have grow : ∀ o, w.grownBy (setBlock w b o) (some b) := fun o => ⟨rfl, rfl, rfl, by simp [setBlock], fun i _ hi => (heap_set (o' := o) hb).2 i (fun e => hi (by rw [e]))⟩
  rcases he.find hn k with ⟨h1, h2⟩ | ⟨j, v, h1, h2, hjl, hj⟩
  · have hf := run_findKey (P := P) (w := w) hk h1
    rw [ddel_not (dget_none.1 h2)]
    refine ⟨w, ?_, ⟨es, c, hb, hs, he⟩, ⟨rfl, rfl, rfl, Nat.le_refl _, fun _ _ _ => rfl⟩, rfl, rfl⟩
    have hset : setBlock w b (.map es c) = w := by
      have hlt : b < w.heap.size := (Array.getElem?_eq_some_iff.1 hb).1
      have : w.heap.setIfInBounds b (.map es c) = w.heap := by
        apply Array.ext_getElem?
        intro i
        by_cases hib : b = i
        · subst hib; rw [hb]; simp [hlt]
        · simp [hib]
      unfold setBlock
      rw [this]
    have hso := MapKept.run_setObj_map (P := P) (.map es c) hb
    unfold setBlock at hset
    rw [hset] at hso
    simp [Builtin.delete_, run_underlying ht, MapKept.run_getObj_map hb, run_checkKey hk (K.isKey k), hf, hso, Result.andThen]
  · have hf := run_findKey (P := P) (w := w) hk h1
    have hjs : j < es.size := by simpa using hjl
    refine ⟨setBlock w b (.map (es.eraseIdxIfInBounds j) c), ?_, ⟨_, _, (heap_set hb).1, stamped_erase hs j, ?_⟩, grow _, by simp [setBlock], rfl⟩
    · simp [Builtin.delete_, run_underlying ht, MapKept.run_getObj_map hb, run_checkKey hk (K.isKey k), hf, MapKept.run_setObj_map _ hb, Result.andThen, setBlock]
    · rw [ddel_eraseIdx hn hj]
      have hsub : (es.eraseIdxIfInBounds j).toList = es.toList.eraseIdx j := by
        unfold Array.eraseIdxIfInBounds
        rw [dif_pos hjs]
        simp
      have := he
      unfold Ents at this ⊢
      rw [hsub, Go.ChangeMaps.map_eraseIdx, Go.ChangeMaps.map_eraseIdx, this]

omit [DecidableEq κ] in
/-- len(m). -/
theorem KMap.len (h : KMap K w b D) : ∃ es c, w.heap[b]? = some (.map es c) ∧ es.size = D.length := by
  obtain ⟨es, c, hb, _, he⟩ := h
  exact ⟨es, c, hb, by simpa using he.length⟩

/-! ### going over a map -/

/-- 'for k, v := range m' under way: what has come out so far, in the order in which it came. -/
def KRange (K : KeyT κ) (w : World) (b r : Nat) (D dn : List (κ × Value)) : Prop :=
  ∃ es clock since seen c0 ed, w.heap[b]? = some (.map es clock) ∧ Stamped es clock ∧ Ents K es.toList D ∧ w.heap[r]? = some (.mapIter (some b) since seen c0) ∧
    (∀ x ∈ es.toList, x.born < since) ∧ since ≤ c0 ∧ since ≤ clock ∧ Ents K ed dn ∧ ed.map (·.born) = seen.toList ∧ (∀ x ∈ ed, x ∈ es.toList) ∧ (ed.map (·.born)).Nodup

omit [DecidableEq κ] in
theorem KRange.map {r : Nat} {dn : List (κ × Value)} (h : KRange K w b r D dn) : KMap K w b D := by
  obtain ⟨es, c, _, _, _, _, hb, hs, he, _⟩ := h
  exact ⟨es, c, hb, hs, he⟩

omit [DecidableEq κ] in
theorem KRange.lt {r : Nat} {dn : List (κ × Value)} (h : KRange K w b r D dn) : r < w.heap.size := by
  obtain ⟨es, c, _, _, _, _, _, _, _, hr, _⟩ := h
  exact (Array.getElem?_eq_some_iff.1 hr).1

omit [DecidableEq κ] in
theorem KRange.ne {r : Nat} {dn : List (κ × Value)} (h : KRange K w b r D dn) : r ≠ b := by
  obtain ⟨es, c, _, _, _, _, hb, _, _, hr, _⟩ := h
  intro e; rw [e, hb] at hr; cases hr

omit [DecidableEq κ] in
theorem KRange.dn_nodup {r : Nat} {dn : List (κ × Value)} (h : KRange K w b r D dn) : (keysOf dn).Nodup := by
  obtain ⟨es, c, si, se, c0, ed, hb, hs, he, hr, _, _, _, hd, _, hmem, hnb⟩ := h
  have hk := hd.keys
  have hst := (stamped_iff es c).1 hs
  have : (ed.map (·.key)).Nodup := by
    refine List.pairwise_map.2 ?_
    refine (List.pairwise_map.1 hnb).imp_of_mem ?_
    intro x y hx hy hne hkey
    exact hne (congrArg MapEntry.born (entry_eq_of_key hst.2.2 (hmem x hx) (hmem y hy) hkey))
  rw [hk] at this
  exact (List.pairwise_map.1 this).imp (fun {a b} hne e => hne (congrArg K.val e))

omit [DecidableEq κ] in
theorem KRange.of_block {r : Nat} {dn : List (κ × Value)} (h : KRange K w b r D dn) (e : w'.heap[b]? = w.heap[b]?) (e2 : w'.heap[r]? = w.heap[r]?) : KRange K w' b r D dn := by
  obtain ⟨es, c, si, se, c0, ed, hb, hs, he, hr, rest⟩ := h
  exact ⟨es, c, si, se, c0, ed, e.trans hb, hs, he, e2.trans hr, rest⟩

omit [DecidableEq κ] in
theorem KMap.range (h : KMap K w b D) (ht : P.underlying t = some (.map ke el)) :
    (Instr.range t (.map (some b))).run P w = .ok (.pointer (some ⟨w.heap.size, 0, none⟩)) (w.alloc (.mapIter (some b) (match w.heap[b]? with | some (.map _ c) => c | _ => 0) #[] (match w.heap[b]? with | some (.map _ c) => c | _ => 0))) ∧
      KRange K (w.alloc (.mapIter (some b) (match w.heap[b]? with | some (.map _ c) => c | _ => 0) #[] (match w.heap[b]? with | some (.map _ c) => c | _ => 0))) b w.heap.size D [] := by
  have hlt := h.lt
  obtain ⟨es, c, hb, hs, he⟩ := h
  refine ⟨by rw [run_range_map w t ke el b es c ht hb]; simp only [hb], es, c, c, #[], c, [], ((MapKept.heap_alloc w _).2 b hlt).trans hb, hs, he, by simp only [hb]; exact (MapKept.heap_alloc w _).1, hs.1, Nat.le_refl _, Nat.le_refl _, rfl, rfl, by simp, by simp⟩

omit [DecidableEq κ] in
/-- The iterator of a map, without its inner numbers: the world behind 'range m'. -/
theorem KMap.range' (h : KMap K w b D) (ht : P.underlying t = some (.map ke el)) :
    ∃ o, (Instr.range t (.map (some b))).run P w = .ok (.pointer (some ⟨w.heap.size, 0, none⟩)) (w.alloc o) ∧ KRange K (w.alloc o) b w.heap.size D [] :=
  ⟨_, h.range ht⟩

omit [DecidableEq κ] in
theorem length_le_of_sub {α : Type} : ∀ {l m : List α}, l.Nodup → (∀ x ∈ l, x ∈ m) → l.length ≤ m.length
  | [], _, _, _ => by simp
  | x :: l, m, hn, h => by
    classical
    obtain ⟨h1, h2⟩ := List.nodup_cons.1 hn
    have hx : x ∈ m := h x (by simp)
    have := length_le_of_sub (m := m.erase x) h2 (fun y hy => (List.mem_erase_of_ne (fun e => h1 (by rw [← e]; exact hy))).2 (h y (by simp [hy])))
    rw [List.length_erase_of_mem hx] at this
    have hpos : 0 < m.length := List.length_pos_of_mem hx
    simp only [List.length_cons]
    omega

omit [DecidableEq κ] in
theorem sub_perm_of_nodup {α : Type} [DecidableEq α] {l m : List α} (hl : l.Nodup) (h : ∀ x ∈ l, x ∈ m) (h2 : ∀ x ∈ m, x ∈ l) (hm : m.Nodup) : l.Perm m :=
  (List.perm_ext_iff_of_nodup hl hm).2 fun x => ⟨h x, h2 x⟩

omit [DecidableEq κ] in
/-- Members of the entries, with their stamps, tell the same in both lists. -/
theorem KRange.next {r : Nat} {dn : List (κ × Value)} (h : KRange K w b r D dn) (ty : TypeId) :
    (dn.Perm D ∧ (Instr.next (.pointer (some ⟨r, 0, none⟩)) false ty).run P w = .ok (.tuple #[.bool false]) w) ∨
    ∃ k v w', (k, v) ∈ D ∧ (Instr.next (.pointer (some ⟨r, 0, none⟩)) false ty).run P w = .ok (.tuple #[.bool true, K.val k, v]) w' ∧
      (Instr.entry (.pointer (some ⟨r, 0, none⟩))).run P w' = .ok (.tuple #[K.val k, v]) w' ∧
      KRange K w' b r D (dn ++ [(k, v)]) ∧ w.grownBy w' (some r) ∧ w'.heap.size = w.heap.size ∧ dn.length < D.length := by
  have hnd := h.map.nodup
  have hne := h.ne
  obtain ⟨es, c, si, se, c0, ed, hb, hs, he, hr, hold, hsc, hsk, hd, hse, hmem, hnb⟩ := h
  have hst := (stamped_iff es c).1 hs
  rcases run_next_at (P := P) w ty r b si c0 se es c hr hb hold hsc with ⟨h0, hrun⟩ | ⟨e, hel, w1, hal, hrun⟩
  · refine .inl ⟨?_, hrun⟩
    have hall := all_seen es se h0
    -- the entries that came out are all entries
    have hp : ed.Perm es.toList := by
      have hborn : ∀ {x y : MapEntry}, x ∈ es.toList → y ∈ es.toList → x.born = y.born → x = y := fun hx hy e => Go.born_inj hst.2.1 hx hy e
      have hp2 : ∀ x ∈ es.toList, x ∈ ed := by
        intro x hx
        have hc := hall x hx
        have hc2 : x.born ∈ se.toList := by simpa using hc
        rw [← hse] at hc2
        obtain ⟨y, hy, e⟩ := List.mem_map.1 hc2
        rw [← hborn (hmem y hy) hx e]; exact hy
      have n1 : ed.Nodup := (List.pairwise_map.1 hnb).imp (fun {a b} hne e => hne (congrArg MapEntry.born e))
      have n2 : es.toList.Nodup := (List.pairwise_map.1 hst.2.1).imp (fun {a b} hne e => hne (congrArg MapEntry.born e))
      classical
      exact sub_perm_of_nodup n1 hmem hp2 n2
    have h1 := hp.map (fun e => (e.key, e.val))
    unfold Ents at hd he
    rw [hd, he] at h1
    have hinj : Function.Injective (fun p : κ × Value => (K.val p.1, p.2)) := by
      rintro ⟨a1, a2⟩ ⟨b1, b2⟩ hab
      simp only [Prod.mk.injEq] at hab
      rw [K.inj hab.1, hab.2]
    have hlen : dn.length = D.length := by simpa using h1.length_eq
    classical
    refine (List.perm_ext_iff_of_nodup ?_ ?_).2 ?_
    · -- nodup of dn
      have hk : (dn.map (fun p => (K.val p.1, p.2))).Nodup := by
        rw [h1.nodup_iff]
        refine List.pairwise_map.2 ?_
        exact (List.pairwise_map.1 hnd).imp (fun {a b} hne e => hne (K.inj (congrArg Prod.fst e)))
      exact (List.pairwise_map.1 hk).imp (fun {a b} hne e => hne (by rw [e]))
    · exact (List.pairwise_map.1 hnd).imp (fun {a b} hne e => hne (by rw [e]))
    · intro x
      constructor
      · intro hx
        have := h1.mem_iff.1 (List.mem_map.2 ⟨x, hx, rfl⟩)
        obtain ⟨y, hy, e⟩ := List.mem_map.1 this
        rw [← hinj e]; exact hy
      · intro hx
        have := h1.mem_iff.2 (List.mem_map.2 ⟨x, hx, rfl⟩)
        obtain ⟨y, hy, e⟩ := List.mem_map.1 this
        rw [← hinj e]; exact hy
  · obtain ⟨hem, hes⟩ := mem_left hel
    obtain ⟨j, hj⟩ := List.getElem?_of_mem hem
    obtain ⟨k, hDk, hkey⟩ := he.at hj
    have hr1 : w1.heap[r]? = some (.mapIter (some b) si se c0) := by rcases hal with rfl | rfl <;> exact hr
    have hb1 : w1.heap[b]? = some (.map es c) := by rcases hal with rfl | rfl <;> exact hb
    have hset := heap_set (o' := .mapIter (some b) si (se.push e.born) c) hr1
    have hb' : (setBlock w1 r (.mapIter (some b) si (se.push e.born) c)).heap[b]? = some (.map es c) := (hset.2 b (fun e1 => hne e1.symm)).trans hb1
    refine .inr ⟨k, e.val, _, List.mem_of_getElem? hDk, by rw [hkey] at hrun; exact hrun, ?_, ⟨es, c, si, se.push e.born, c, ed ++ [e], hb', hs, he, hset.1, hold, hsk, hsk, ?_, ?_, ?_, ?_⟩, ?_, ?_, ?_⟩
    · have := run_entry_at (P := P) _ r b si se es c e hset.1 hb' hem hst.2.1
      rw [hkey] at this; exact this
    · unfold Ents at hd ⊢
      simp [hd, hkey]
    · simp [hse]
    · intro x hx
      rcases List.mem_append.1 hx with hx | hx
      · exact hmem x hx
      · rw [List.mem_singleton.1 hx]; exact hem
    · rw [List.map_append]
      refine List.nodup_append.2 ⟨hnb, by simp, ?_⟩
      intro a ha x hx
      simp only [List.map_cons, List.map_nil, List.mem_singleton] at hx
      subst hx
      intro e2
      subst e2
      rw [hse] at ha
      have : se.contains e.born = true := by simpa using ha
      rw [this] at hes
      cases hes
    · rcases hal with rfl | rfl <;> exact ⟨rfl, rfl, rfl, by simp [setBlock], fun i _ hi => hset.2 i (fun e1 => hi (by rw [e1]))⟩
    · rcases hal with rfl | rfl <;> simp [setBlock]
    · have n1 : (ed ++ [e]).Nodup := by
        refine List.nodup_append.2 ⟨(List.pairwise_map.1 hnb).imp (fun {a b} hne e => hne (congrArg MapEntry.born e)), by simp, ?_⟩
        intro a ha x hx e2
        rw [List.mem_singleton.1 hx] at e2
        subst e2
        have : a.born ∈ se.toList := by rw [← hse]; exact List.mem_map.2 ⟨a, ha, rfl⟩
        have : se.contains a.born = true := by simpa using this
        rw [this] at hes
        cases hes
      have hsub : ∀ x ∈ ed ++ [e], x ∈ es.toList := by
        intro x hx
        rcases List.mem_append.1 hx with hx | hx
        · exact hmem x hx
        · rw [List.mem_singleton.1 hx]; exact hem
      have := length_le_of_sub n1 hsub
      have l1 := hd.length
      have l2 := he.length
      simp only [List.length_append, List.length_cons, List.length_nil] at this
      omega

end
end Go.Stk

/- The disk of layer 14 as plain data: files with their sure bytes and their rows of changes, a directory that is sure and a row of moves, and what each call makes of it. No program stands here. -/
namespace Go.Stk
open Go

/-! ### bytes, changes, files -/

structure Ch where
  cut : Bool
  at_ : Nat
  b : List UInt8

def Ch.do (c : Ch) (x : List UInt8) : List UInt8 :=
  if c.cut then x.take c.at_ else x.take c.at_ ++ c.b ++ x.drop (c.at_ + c.b.length)

def chs (l : List Ch) (x : List UInt8) : List UInt8 := l.foldl (fun x c => c.do x) x

structure Fl where
  sure : List UInt8
  row : List Ch

def Fl.now (f : Fl) : List UInt8 := chs f.row f.sure

abbrev Dir := List (ByteArray × Nat)

inductive Mv where
  | create (tn : ByteArray) (n : Nat)
  | rename (frm tn : ByteArray)
  | remove (frm : ByteArray)

def Mv.do : Mv → Dir → Dir
  | .create tn n, d => dput d tn n
  | .rename a b, d => dput (ddel d a) b ((dget d a).getD 0)
  | .remove a, d => ddel d a

def mvs (l : List Mv) (d : Dir) : Dir := l.foldl (fun d m => m.do d) d

structure Fs where
  room : Nat
  files : List Fl
  sure : Dir
  row : List Mv
  acts : Int
  fuse : Nat
  dead : Bool

def Fs.seen (fs : Fs) : Dir := mvs fs.row fs.sure
def Fs.file (fs : Fs) (n : Nat) : Fl := fs.files.getD (n - 1) ⟨[], []⟩
def Fs.setFile (fs : Fs) (n : Nat) (f : Fl) : Fs := { fs with files := fs.files.set (n - 1) f }
def Fs.size (fs : Fs) (n : Nat) : Nat := (fs.file n).now.length
def Fs.used (fs : Fs) : Nat := (fs.seen.map fun p => fs.size p.2).sum

/-- A disk of some room. -/
def Fs.new (room : Nat) : Fs := { room, files := [], sure := [], row := [], acts := 0, fuse := 0, dead := false }

def Fs.tick (fs : Fs) : Fs := { fs with acts := RowKit.wrap64 (fs.acts + 1), fuse := fs.fuse - 1, dead := fs.fuse == 1 }
def Fs.endE (fs : Fs) : Int := if fs.fuse == 1 then 13 else 0

/-- Is it a name? -/
def nameCh (c : UInt8) : Bool := (97 ≤ c && c ≤ 122) || (48 ≤ c && c ≤ 57) || c == 46 || c == 45
def isName (s : ByteArray) : Bool := s.data.toList.all nameCh && decide (1 ≤ s.size) && decide (s.size ≤ 32)

/-- What every call on a file asks first: an error, or 0. -/
def Fs.getE (fs : Fs) (name : ByteArray) : Int := if fs.dead then 13 else if (dget fs.seen name).isNone then 7 else 0
def Fs.num (fs : Fs) (name : ByteArray) : Nat := (dget fs.seen name).getD 0
def Fs.at (fs : Fs) (name : ByteArray) : Fl := fs.file (fs.num name)

def Fs.createE (fs : Fs) (name : ByteArray) : Int :=
  if fs.dead then 13 else if isName name = false then 2 else if (dget fs.seen name).isSome then 8 else if 64 ≤ fs.seen.length then 3 else 0
def Fs.createS (fs : Fs) (name : ByteArray) : Fs := { fs with files := fs.files ++ [⟨[], []⟩], row := fs.row ++ [.create name (fs.files.length + 1)] }

def Fs.appendE (fs : Fs) (name : ByteArray) (b : List UInt8) : Int :=
  if fs.getE name ≠ 0 then fs.getE name else if 0 < b.length ∧ (fs.room : Int) - fs.used < b.length then 9 else 0
def Fs.change (fs : Fs) (name : ByteArray) (c : Ch) : Fs := fs.setFile (fs.num name) ⟨(fs.at name).sure, (fs.at name).row ++ [c]⟩
def Fs.appendC (fs : Fs) (name : ByteArray) (b : List UInt8) : Ch := ⟨false, (fs.at name).now.length, b⟩

def Fs.writeE (fs : Fs) (name : ByteArray) (at_ : Int) (b : List UInt8) : Int :=
  if fs.getE name ≠ 0 then fs.getE name else if at_ < 0 ∨ ((fs.at name).now.length : Int) < at_ then 2
  else if 0 < (b.length : Int) - ((fs.at name).now.length - at_) ∧ (fs.room : Int) - fs.used < (b.length : Int) - ((fs.at name).now.length - at_) then 9 else 0

def Fs.cutE (fs : Fs) (name : ByteArray) (size : Int) : Int :=
  if fs.getE name ≠ 0 then fs.getE name else if size < 0 ∨ ((fs.at name).now.length : Int) < size then 2 else 0

def Fs.renameE (fs : Fs) (a b : ByteArray) : Int := if fs.getE a ≠ 0 then fs.getE a else if isName b = false then 2 else 0
def Fs.move (fs : Fs) (m : Mv) : Fs := { fs with row := fs.row ++ [m] }

def Fs.syncS (fs : Fs) (name : ByteArray) : Fs := fs.setFile (fs.num name) ⟨(fs.at name).now, []⟩
def Fs.syncDirS (fs : Fs) : Fs := { fs with sure := fs.seen, row := [] }

/-! ### what a failure leaves -/

def takeCut (many : Nat) : List Int → Nat × List Int
  | [] => (0, [])
  | c :: r => ((c % 18446744073709551616).toNat % many, r)

def endAt (at_ t len : Nat) : Nat := if at_ + t < len then (at_ + t) - (at_ + t) % 512 else at_ + t

def Fl.leftAt (f : Fl) (k t : Nat) : List UInt8 :=
  match f.row[k]? with
  | none => chs (f.row.take k) f.sure
  | some c =>
    if c.cut then chs (f.row.take k) f.sure
    else if c.at_ < endAt c.at_ t (chs (f.row.take k) f.sure).length then
      Ch.do ⟨false, c.at_, c.b.take (endAt c.at_ t (chs (f.row.take k) f.sure).length - c.at_)⟩ (chs (f.row.take k) f.sure)
    else chs (f.row.take k) f.sure

/-- What is left of a file, and of the numbers. -/
def Fl.left (f : Fl) (cuts : List Int) : List UInt8 × List Int :=
  match f.row[(takeCut (f.row.length + 1) cuts).1]? with
  | none => (f.leftAt (takeCut (f.row.length + 1) cuts).1 0, (takeCut (f.row.length + 1) cuts).2)
  | some c =>
    if c.cut then (f.leftAt (takeCut (f.row.length + 1) cuts).1 0, (takeCut (f.row.length + 1) cuts).2)
    else (f.leftAt (takeCut (f.row.length + 1) cuts).1 (takeCut (c.b.length + 1) (takeCut (f.row.length + 1) cuts).2).1, (takeCut (c.b.length + 1) (takeCut (f.row.length + 1) cuts).2).2)

/-! ### small facts -/

theorem chs_snoc (l : List Ch) (c : Ch) (x : List UInt8) : chs (l ++ [c]) x = c.do (chs l x) := by simp [chs]
theorem mvs_snoc (l : List Mv) (m : Mv) (d : Dir) : mvs (l ++ [m]) d = m.do (mvs l d) := by simp [mvs]

theorem Mv.nodup {m : Mv} {d : Dir} (h : (keysOf d).Nodup) : (keysOf (m.do d)).Nodup := by
  cases m with
  | create tn n => exact nodup_dput h
  | rename a b => exact nodup_dput (nodup_ddel h)
  | remove a => exact nodup_ddel h

theorem mvs_nodup {l : List Mv} : ∀ {d : Dir}, (keysOf d).Nodup → (keysOf (mvs l d)).Nodup := by
  induction l with
  | nil => intro d h; exact h
  | cons m l ih => intro d h; exact ih (Mv.nodup h)

theorem keys_nodup_perm {κ α : Type} {D E : List (κ × α)} (hp : D.Perm E) (hn : (keysOf D).Nodup) : (keysOf E).Nodup := (List.Perm.nodup_iff (List.Perm.map (Prod.fst : κ × α → κ) hp)).1 hn

section perms
variable {κ α : Type} [DecidableEq κ]

theorem dget_perm {D E : List (κ × α)} (hp : D.Perm E) (hn : (keysOf D).Nodup) (k : κ) : dget D k = dget E k := by
  have hn' : (keysOf E).Nodup := keys_nodup_perm hp hn
  cases h : dget D k with
  | some v => exact (dget_of_mem hn' (hp.mem_iff.1 (dget_some_mem h))).symm
  | none =>
    cases h' : dget E k with
    | none => rfl
    | some v => rw [dget_of_mem hn (hp.mem_iff.2 (dget_some_mem h'))] at h; cases h

theorem dput_perm_cons {D : List (κ × α)} {k : κ} {v : α} (hn : (keysOf D).Nodup) : (dput D k v).Perm ((k, v) :: ddel D k) := by
  induction D with
  | nil => exact List.Perm.refl _
  | cons p r ih =>
    obtain ⟨a, u⟩ := p
    simp only [keysOf, List.map_cons, List.nodup_cons] at hn
    simp only [dput, ddel]
    by_cases e : a = k
    · rw [if_pos e, if_pos e]
    · rw [if_neg e, if_neg e]
      exact ((ih hn.2).cons (a, u)).trans (List.Perm.swap _ _ _)

theorem ddel_perm {D E : List (κ × α)} (hp : D.Perm E) (hn : (keysOf D).Nodup) (k : κ) : (ddel D k).Perm (ddel E k) := by
  have filt : ∀ {D : List (κ × α)}, (keysOf D).Nodup → ddel D k = D.filter (fun p => decide (p.1 ≠ k)) := by
    intro D
    induction D with
    | nil => intro _; rfl
    | cons p r ih =>
      obtain ⟨a, u⟩ := p
      intro hn
      simp only [keysOf, List.map_cons, List.nodup_cons] at hn
      simp only [ddel]
      by_cases e : a = k
      · subst e
        rw [if_pos rfl, List.filter_cons_of_neg (by simp)]
        refine (List.filter_eq_self.2 ?_).symm
        intro p hp
        have : p.1 ≠ a := fun e => hn.1 (List.mem_map.2 ⟨p, hp, e⟩)
        simp [this]
      · rw [if_neg e, List.filter_cons_of_pos (by simp [e]), ih hn.2]
  rw [filt hn, filt (keys_nodup_perm hp hn)]
  exact hp.filter _

theorem dput_perm {D E : List (κ × α)} (hp : D.Perm E) (hn : (keysOf D).Nodup) (k : κ) (v : α) : (dput D k v).Perm (dput E k v) :=
  (dput_perm_cons hn).trans (((ddel_perm hp hn k).cons (k, v)).trans (dput_perm_cons (keys_nodup_perm hp hn)).symm)

variable {β : Type}
theorem dget_map (D : List (κ × α)) (f : α → β) (k : κ) : dget (D.map fun p => (p.1, f p.2)) k = (dget D k).map f := by
  induction D with
  | nil => rfl
  | cons p r ih =>
    obtain ⟨a, u⟩ := p
    simp only [List.map_cons, dget, ih]
    split <;> rfl

theorem dput_map (D : List (κ × α)) (f : α → β) (k : κ) (v : α) : dput (D.map fun p => (p.1, f p.2)) k (f v) = (dput D k v).map fun p => (p.1, f p.2) := by
  induction D with
  | nil => rfl
  | cons p r ih =>
    obtain ⟨a, u⟩ := p
    simp only [List.map_cons, dput, ih]
    split <;> rfl

theorem ddel_map (D : List (κ × α)) (f : α → β) (k : κ) : ddel (D.map fun p => (p.1, f p.2)) k = (ddel D k).map fun p => (p.1, f p.2) := by
  induction D with
  | nil => rfl
  | cons p r ih =>
    obtain ⟨a, u⟩ := p
    simp only [List.map_cons, ddel, ih]
    split <;> rfl

omit [DecidableEq κ] in
theorem keysOf_map (D : List (κ × α)) (f : α → β) : keysOf (D.map fun p => (p.1, f p.2)) = keysOf D := by
  simp [keysOf, Function.comp_def]

end perms

end Go.Stk

/- How bytes, rows of structs and the disk of layer 14 stand in memory; what a call may have changed. -/
namespace Go.Stk
open Go Go.RowKit Go.Proofs

/-- A fact kept from the walk. -/
theorem hid {p : Prop} (h : p) : Hid p := h

/-! ### blocks -/

theorem cell_of {w : World} {g : Nat} {c : Array Value} {t : TypeId} {fr : Nat × Nat} (h : w.heap[g]? = some (.cells c t fr)) (k : Nat) : w.cell? ⟨g, k, none⟩ = c[k]? := by
  simp [World.cell?, h]
theorem fz_of {w : World} {g : Nat} {c : Array Value} {t : TypeId} (h : w.heap[g]? = some (.cells c t (0, 0))) (k : Nat) : w.frozen? ⟨g, k, none⟩ = false := by
  simp [World.frozen?, h]
theorem lt_of {w : World} {g : Nat} {o : Obj} (h : w.heap[g]? = some o) : g < w.heap.size := (Array.getElem?_eq_some_iff.1 h).1
theorem blk_set {w : World} {g : Nat} {c : Array Value} {t : TypeId} {fr : Nat × Nat} (h : w.heap[g]? = some (.cells c t fr)) (k : Nat) (v : Value) :
    (w.setCell ⟨g, k, none⟩ v).heap[g]? = some (.cells (c.setIfInBounds k v) t fr) := by
  simp [World.setCell, Array.getElem?_modify, h]
theorem blk_set_ne {w : World} {g b : Nat} (h : b ≠ g) (k : Nat) (v : Value) : (w.setCell ⟨g, k, none⟩ v).heap[b]? = w.heap[b]? :=
  Below.heap_setCell w ⟨g, k, none⟩ v b h
theorem blk_alloc {w : World} {b : Nat} {x : Obj} (h : w.heap[b]? = some x) (o : Obj) : (w.alloc o).heap[b]? = some x :=
  (Below.heap_alloc w o b (lt_of h)).trans h
theorem blk_new (w : World) (o : Obj) : (w.alloc o).heap[w.heap.size]? = some o := (MapKept.heap_alloc w o).1
theorem size_set (w : World) (a : Addr) (v : Value) : (w.setCell a v).heap.size = w.heap.size := by simp [World.setCell]

/-! ### what a call may have changed -/

/-- Nothing in a type fits. -/
noncomputable def noFit (P : Program) (fits : TypeId → Bool) : Nat → TypeId → Bool
  | 0, _ => true
  | d + 1, e => !fits e && match P.underlying e with
    | some (.struct fs) => fs.all fun f => noFit P fits d f.type
    | some (.array _ e') => noFit P fits d e'
    | _ => true

theorem rowAt_noFit (P : Program) (fits : TypeId → Bool) : ∀ (d : Nat) (e : TypeId), noFit P fits d e = true → ∀ count off n, rowAt P fits d e count off n = false
  | 0, _, _, _, _, _ => rfl
  | d + 1, e, h, count, off, n => by
    simp only [noFit, Bool.and_eq_true, Bool.not_eq_true'] at h
    obtain ⟨h1, h2⟩ := h
    simp only [rowAt, h1, Bool.and_false, Bool.false_or]
    split
    · rfl
    · cases hu : P.underlying e with
      | none => simp
      | some u =>
        rw [hu] at h2
        cases u with
        | struct fs =>
          simp only [Bool.and_eq_false_iff]
          right; right
          simp only [Array.any_eq_false]
          intro i hi
          have h3 := (Array.all_eq_true.1 h2) i hi
          have := rowAt_noFit P fits d fs[i].type h3
          simp [this]
        | array m e' => simp only [rowAt_noFit P fits d e' h2, Bool.and_false]
        | _ => simp

/-- A type with a byte somewhere. -/
noncomputable def hasByte (t : TypeId) : Bool := !noFit Tryz.prog (sameLayout Tryz.prog Tryz.prog.depth · 5) Tryz.prog.depth t

attribute [irreducible] hasByte

/-- Types of rows that nobody writes once they are there: what has a byte, texts. -/
def Imm (t : TypeId) : Prop := hasByte t = true ∨ t = 9

/-- From w to w' of the first n blocks only those of F have changed; no bytes and no texts. -/
structure KeepN (n : Nat) (F : Nat → Prop) (w w' : World) : Prop where
  os : w'.os = w.os
  tape : w'.tape = w.tape
  output : w'.output = w.output
  size : w.heap.size ≤ w'.heap.size
  block : ∀ k, k < n → ¬ F k → w'.heap[k]? = w.heap[k]?
  imm : ∀ (k : Nat) (c : Array Value) (t : TypeId) (fr : Nat × Nat), k < n → w.heap[k]? = some (.cells c t fr) → Imm t → w'.heap[k]? = w.heap[k]?

abbrev Keep (F : Nat → Prop) (w w' : World) : Prop := KeepN w.heap.size F w w'

theorem KeepN.refl (n : Nat) (F : Nat → Prop) (w : World) : KeepN n F w w := ⟨rfl, rfl, rfl, Nat.le_refl _, fun _ _ _ => rfl, fun _ _ _ _ _ _ _ => rfl⟩
theorem Keep.refl (F : Nat → Prop) (w : World) : Keep F w w := KeepN.refl _ F w

theorem KeepN.mono {n : Nat} {F G : Nat → Prop} {w w' : World} (h : KeepN n F w w') (hFG : ∀ k, F k → G k) : KeepN n G w w' :=
  ⟨h.os, h.tape, h.output, h.size, fun k hk hn => h.block k hk (fun hf => hn (hFG k hf)), h.imm⟩

theorem KeepN.less {n m : Nat} {F : Nat → Prop} {w w' : World} (h : KeepN n F w w') (hm : m ≤ n) : KeepN m F w w' :=
  ⟨h.os, h.tape, h.output, h.size, fun k hk hn => h.block k (Nat.lt_of_lt_of_le hk hm) hn, fun k c t fr hk => h.imm k c t fr (Nat.lt_of_lt_of_le hk hm)⟩

theorem KeepN.then {n : Nat} {F F' : Nat → Prop} {a b c : World} (h : KeepN n F a b) (k : KeepN n F' b c) (hF : ∀ i, F' i → F i ∨ n ≤ i) : KeepN n F a c :=
  ⟨k.os.trans h.os, k.tape.trans h.tape, k.output.trans h.output, Nat.le_trans h.size k.size,
    fun i hi hn => (k.block i hi (fun hf => (hF i hf).elim hn (fun hge => by omega))).trans (h.block i hi hn),
    fun i cs t fr hi hb ht => (k.imm i cs t fr hi ((h.imm i cs t fr hi hb ht).trans hb) ht).trans (h.imm i cs t fr hi hb ht)⟩

theorem KeepN.trans {F F' : Nat → Prop} {a b c : World} (h : Keep F a b) (k : Keep F' b c) (hF : ∀ i, F' i → F i ∨ a.heap.size ≤ i) : Keep F a c :=
  KeepN.then h (k.less h.size) hF

theorem KeepN.of_below {n : Nat} {F : Nat → Prop} {w w' : World} (h : Below n w w') : KeepN n F w w' :=
  ⟨h.os, h.tape, h.output, h.size, fun k hk _ => h.block k hk, fun k _ _ _ hk _ _ => h.block k hk⟩
theorem Keep.of_below {F : Nat → Prop} {w w' : World} (h : Below w.heap.size w w') : Keep F w w' := KeepN.of_below h

theorem KeepN.below {n : Nat} {F : Nat → Prop} {w w' : World} (h : KeepN n F w w') (hF : ∀ k, F k → n ≤ k) : Below n w w' :=
  ⟨h.os, h.tape, h.output, h.size, fun k hk => h.block k hk (fun hf => by have := hF k hf; omega)⟩

theorem KeepN.drewN {n : Nat} {F : Nat → Prop} {w w' : World} (h : KeepN n F w w') (m : Nat) : KeepN n F w (w'.drewN m) := ⟨h.os, h.tape, h.output, h.size, h.block, h.imm⟩
theorem KeepN.drew {n : Nat} {F : Nat → Prop} {w w' : World} (h : KeepN n F w w') : KeepN n F w w'.drew := ⟨h.os, h.tape, h.output, h.size, h.block, h.imm⟩

/-- A step that changes one block alone: a new one, or one of F that holds neither bytes nor texts. -/
theorem KeepN.row {n : Nat} {F : Nat → Prop} {w w1 w' : World} (h : KeepN n F w w1) {row : Option Nat} (hg : w1.grownBy w' row) (hn : n ≤ w1.heap.size)
    (hrow : ∀ k, row = some k → n ≤ k ∨ (F k ∧ ∀ c t fr, w1.heap[k]? = some (.cells c t fr) → ¬ Imm t)) : KeepN n F w w' :=
  h.then (F' := fun i => row = some i ∧ i < n) ⟨hg.os, hg.tape, hg.output, hg.size, fun i hi hf => hg.block i (by omega) (fun e => hf ⟨e.symm, hi⟩), fun i c t fr hi hb ht => by
    by_cases e : row = some i
    · rcases hrow i e with h1 | h1
      · omega
      · exact absurd ht (h1.2 c t fr hb)
    · exact hg.block i (lt_of hb) (fun e2 => e e2.symm)⟩ (fun i hi => (hrow i hi.1).elim (fun h1 => .inr h1) (fun h1 => .inl h1.1))

theorem KeepN.alloc {n : Nat} {F : Nat → Prop} {w w' : World} (h : KeepN n F w w') (hn : n ≤ w'.heap.size) (o : Obj) : KeepN n F w (w'.alloc o) :=
  h.row (World.grownBy_alloc w' o none) hn (fun k hk => by cases hk)
theorem Keep.alloc {F : Nat → Prop} {w w' : World} (h : Keep F w w') (o : Obj) : Keep F w (w'.alloc o) := KeepN.alloc h h.size o

theorem grown_set (w : World) (g k : Nat) (v : Value) : w.grownBy (w.setCell ⟨g, k, none⟩ v) (some g) :=
  ⟨rfl, rfl, rfl, by simp [World.setCell], fun i _ hi => blk_set_ne (fun e => hi (by rw [e])) k v⟩

theorem KeepN.setCell {n : Nat} {F : Nat → Prop} {w w' : World} (h : KeepN n F w w') (hn : n ≤ w'.heap.size) {g : Nat} {c : Array Value} {t : TypeId} {fr : Nat × Nat} (hb : w'.heap[g]? = some (.cells c t fr)) (hF : n ≤ g ∨ (F g ∧ ¬ Imm t))
    (k : Nat) (v : Value) : KeepN n F w (w'.setCell ⟨g, k, none⟩ v) :=
  h.row (grown_set w' g k v) hn (fun i hi => by
    injection hi with hi
    subst hi
    exact hF.imp id (fun h1 => ⟨h1.1, fun c' t' fr' hb' => by
      rw [hb] at hb'
      injection hb' with hb'
      injection hb' with _ e2
      exact e2 ▸ h1.2⟩))
theorem Keep.setCell {F : Nat → Prop} {w w' : World} (h : Keep F w w') {g : Nat} {c : Array Value} {t : TypeId} {fr : Nat × Nat} (hb : w'.heap[g]? = some (.cells c t fr)) (hF : w.heap.size ≤ g ∨ (F g ∧ ¬ Imm t))
    (k : Nat) (v : Value) : Keep F w (w'.setCell ⟨g, k, none⟩ v) := KeepN.setCell h h.size hb hF k v

/-! ### slices that are read -/

/-- v is a slice that reads as n elements of type T and size s; cs: their cells. -/
def Sl (s : Nat) (w : World) (v : Value) (n : Nat) (cs : List Value) : Prop :=
  cs.length = n * s ∧
  ((n = 0 ∧ (v = .slice none 0 0 ∨ ∃ a c, v = .slice (some a) 0 c ∧ c ≤ maxLen)) ∨
  ∃ (b o cap : Nat) (cur : Array Value) (fr : {t : TypeId // Imm t} × Nat × Nat), v = .slice (some ⟨b, o, none⟩) n cap ∧ w.heap[b]? = some (.cells cur fr.1.1 fr.2) ∧ n ≤ cap ∧ cap ≤ maxLen ∧ o + cap * s ≤ cur.size ∧ ∀ i x, cs[i]? = some x → cur[o + i]? = some x)

theorem Sl.nil (s : Nat) (w : World) : Sl s w (.slice none 0 0) 0 [] := ⟨by simp, .inl ⟨rfl, .inl rfl⟩⟩

theorem Sl.keepN {s n m : Nat} {F : Nat → Prop} {w w' : World} {v : Value} {cs : List Value} (h : Sl s w v n cs) (k : KeepN m F w w') (hm : ∀ b, v.ownBlock = some b → b < m) : Sl s w' v n cs := by
  refine ⟨h.1, ?_⟩
  rcases h.2 with h1 | ⟨b, o, cap, cur, fr, rfl, hb, h1⟩
  · exact .inl h1
  · exact .inr ⟨b, o, cap, cur, fr, rfl, (k.imm b cur _ _ (hm b rfl) hb fr.1.2).trans hb, h1⟩

theorem Sl.keep {s n : Nat} {F : Nat → Prop} {w w' : World} {v : Value} {cs : List Value} (h : Sl s w v n cs) (k : Keep F w w') : Sl s w' v n cs := by
  refine ⟨h.1, ?_⟩
  rcases h.2 with h1 | ⟨b, o, cap, cur, fr, rfl, hb, h1⟩
  · exact .inl h1
  · exact .inr ⟨b, o, cap, cur, fr, rfl, (k.imm b cur _ _ (lt_of hb) hb fr.1.2).trans hb, h1⟩

/-- A slice's block stays: whatever its type. -/
theorem Sl.of_block {s n : Nat} {w w' : World} {v : Value} {cs : List Value} (h : Sl s w v n cs) (hb : ∀ b, v.ownBlock = some b → b < w.heap.size → w'.heap[b]? = w.heap[b]?) : Sl s w' v n cs := by
  refine ⟨h.1, ?_⟩
  rcases h.2 with h1 | ⟨b, o, cap, cur, fr, rfl, hbb, h1⟩
  · exact .inl h1
  · exact .inr ⟨b, o, cap, cur, fr, rfl, (hb b rfl (lt_of hbb)).trans hbb, h1⟩

theorem Sl.form {s n : Nat} {w : World} {v : Value} {cs : List Value} (h : Sl s w v n cs) : ∃ a c, v = .slice a n c ∧ n ≤ c ∧ c ≤ maxLen := by
  rcases h.2 with ⟨rfl, rfl | ⟨a, c, rfl, hc⟩⟩ | ⟨b, o, cap, cur, fr, rfl, hb, h1, h2, _⟩
  · exact ⟨none, 0, rfl, Nat.le_refl _, Nat.zero_le _⟩
  · exact ⟨_, _, rfl, Nat.zero_le _, hc⟩
  · exact ⟨_, _, rfl, h1, h2⟩

/-- What a call owns reads. -/
theorem Sl.of_own {T s n : Nat} (hT : Imm T) {w : World} {base : Nat} {v : Value} {cs : List Value} (h : w.ownsRow base T s v n cs) : Sl s w v n cs := by
  refine ⟨h.1, ?_⟩
  rcases h.2 with ⟨rfl, rfl⟩ | ⟨g, cap, cur, rfl, _, hg, hn, hc, hcs, ht⟩
  · exact .inl ⟨rfl, .inl rfl⟩
  · refine .inr ⟨g, 0, cap, cur, (⟨T, hT⟩, 0, 0), rfl, hg, hn, hc, by omega, fun i x hx => ?_⟩
    rw [← ht, List.getElem?_take] at hx
    split at hx
    · simpa using hx
    · cases hx

theorem add_addr (b o j : Nat) : (⟨b, o, none⟩ : Addr).add j = ⟨b, o + j, none⟩ := by
  unfold Addr.add; split <;> simp_all

/-- The cells of a slice that has an address. -/
theorem Sl.cells {s n : Nat} {w : World} {v : Value} {cs : List Value} (h : Sl s w v n cs) {a : Addr} {c : Nat} (hv : v = .slice (some a) n c) : ∀ j u, cs[j]? = some u → w.cell? (a.add j) = some u := by
  intro j u hu
  rcases h.2 with ⟨rfl, h1⟩ | ⟨b, o, cap, cur, fr, rfl, hb, h1, h2, h3, h4⟩
  · have h0 := h.1
    rw [Nat.zero_mul] at h0
    rw [List.eq_nil_of_length_eq_zero h0] at hu
    simp at hu
  · injection hv with e1 _ _
    injection e1 with e1
    subst e1
    rw [add_addr, cell_of hb, h4 j u hu]

theorem Sl.cell {s n : Nat} {w : World} {v : Value} {cs : List Value} (h : Sl s w v n cs) {b o c : Nat} (hv : v = .slice (some ⟨b, o, none⟩) n c) {j : Nat} {u : Value} (hu : cs[j]? = some u) : w.cell? ⟨b, o + j, none⟩ = some u := by
  have := h.cells hv j u hu
  rwa [add_addr] at this

/-! ### bytes -/

def byV (l : List UInt8) : List Value := l.map fun x => .int .u8 x.toNat

theorem byV_length (l : List UInt8) : (byV l).length = l.length := by simp [byV]
theorem byV_append (a b : List UInt8) : byV (a ++ b) = byV a ++ byV b := by simp [byV]
theorem byV_take (l : List UInt8) (k : Nat) : (byV l).take k = byV (l.take k) := by simp [byV, List.map_take]
theorem byV_drop (l : List UInt8) (k : Nat) : (byV l).drop k = byV (l.drop k) := by simp [byV, List.map_drop]
theorem byV_one (l : List UInt8) : ∀ u ∈ byV l, u.oneCell' = true := by
  intro u hu
  obtain ⟨x, _, rfl⟩ := List.mem_map.1 hu
  rfl
theorem byV_get {l : List UInt8} {i : Nat} {x : UInt8} (h : l[i]? = some x) : (byV l)[i]? = some (.int .u8 x.toNat) := by simp [byV, h]

/-- v is a slice that reads as the bytes l. -/
def Byt (w : World) (v : Value) (l : List UInt8) : Prop := Sl 1 w v l.length (byV l)

theorem imm_u8 : Imm 5 := .inl (by kernel_rfl)
theorem imm_str : Imm 9 := .inr rfl

theorem Byt.nil (w : World) : Byt w (.slice none 0 0) [] := Sl.nil _ w
theorem Byt.keep {F : Nat → Prop} {w w' : World} {v : Value} {l : List UInt8} (h : Byt w v l) (k : Keep F w w') : Byt w' v l := Sl.keep h k
theorem Byt.drew {w : World} {v : Value} {l : List UInt8} (h : Byt w v l) : Byt w.drew v l := h
theorem Byt.drewN {w : World} {v : Value} {l : List UInt8} (h : Byt w v l) (n : Nat) : Byt (w.drewN n) v l := h
theorem Byt.len {w : World} {v : Value} {l : List UInt8} (h : Byt w v l) : ∃ a c, v = .slice a l.length c := by
  obtain ⟨a, c, h1, _⟩ := Sl.form h
  exact ⟨a, c, h1⟩
theorem Byt.of_own {w : World} {base n : Nat} {v : Value} {l : List UInt8} (h : w.ownsRow base 5 1 v n (byV l)) : Byt w v l := by
  have := h.1
  rw [byV_length, Nat.mul_one] at this
  subst this
  exact Sl.of_own imm_u8 h

/-! ### rows of changes and of moves -/

def mvCells : Mv → List Value
  | .create nm n => [.int .i64 0, .string ByteArray.empty, .string nm, .int .i64 n]
  | .rename a b => [.int .i64 1, .string a, .string b, .int .i64 0]
  | .remove a => [.int .i64 2, .string a, .string ByteArray.empty, .int .i64 0]

def ChCells (w : World) : List Ch → List Value → Prop
  | [], [] => True
  | c :: r, a :: b :: d :: vs => a = .bool c.cut ∧ b = .int .i64 c.at_ ∧ Byt w d c.b ∧ ChCells w r vs
  | _, _ => False

theorem ChCells.keep {F : Nat → Prop} {w w' : World} (k : Keep F w w') : ∀ {r : List Ch} {vs : List Value}, ChCells w r vs → ChCells w' r vs
  | [], [], _ => trivial
  | [], _ :: _, h => h.elim
  | _ :: _, [], h => h.elim
  | _ :: _, [_], h => h.elim
  | _ :: _, [_, _], h => h.elim
  | _ :: _, _ :: _ :: _ :: _, h => ⟨h.1, h.2.1, h.2.2.1.keep k, h.2.2.2.keep k⟩

theorem ChCells.snoc {w : World} {c : Ch} {d : Value} (hd : Byt w d c.b) : ∀ {r : List Ch} {vs : List Value}, ChCells w r vs → ChCells w (r ++ [c]) (vs ++ [.bool c.cut, .int .i64 c.at_, d])
  | [], [], _ => ⟨rfl, rfl, hd, trivial⟩
  | [], _ :: _, h => h.elim
  | _ :: _, [], h => h.elim
  | _ :: _, [_], h => h.elim
  | _ :: _, [_, _], h => h.elim
  | _ :: _, _ :: _ :: _ :: _, h => ⟨h.1, h.2.1, h.2.2.1, ChCells.snoc hd h.2.2.2⟩

theorem ChCells.at {w : World} : ∀ {r : List Ch} {vs : List Value}, ChCells w r vs → ∀ {i : Nat} {c : Ch}, r[i]? = some c → ∃ d, vs[3 * i]? = some (.bool c.cut) ∧ vs[3 * i + 1]? = some (.int .i64 c.at_) ∧ vs[3 * i + 2]? = some d ∧ Byt w d c.b
  | [], [], _, _, _, hi => by simp at hi
  | [], _ :: _, h, _, _, _ => h.elim
  | _ :: _, [], h, _, _, _ => h.elim
  | _ :: _, [_], h, _, _, _ => h.elim
  | _ :: _, [_, _], h, _, _, _ => h.elim
  | c0 :: r, a :: b :: d :: vs, h, i, c, hi => by
    cases i with
    | zero =>
      simp only [List.getElem?_cons_zero, Option.some.injEq] at hi
      subst hi
      exact ⟨d, by simp [h.1], by simp [h.2.1], by simp, h.2.2.1⟩
    | succ i =>
      simp only [List.getElem?_cons_succ] at hi
      obtain ⟨d', h1, h2, h3, h4⟩ := ChCells.at h.2.2.2 hi
      refine ⟨d', ?_, ?_, ?_, h4⟩
      · rw [show 3 * (i + 1) = 3 * i + 1 + 1 + 1 by omega]; simpa using h1
      · rw [show 3 * (i + 1) + 1 = 3 * i + 1 + 1 + 1 + 1 by omega]; simpa using h2
      · rw [show 3 * (i + 1) + 2 = 3 * i + 2 + 1 + 1 + 1 by omega]; simpa using h3

/-! ### the disk -/

def IsFile (w : World) (x : Nat) (vr : Value) (f : Fl) : Prop :=
  ∃ vs vn cs, w.heap[x]? = some (.cells #[vs, vn, vr] 118 (0, 0)) ∧ Byt w vs f.sure ∧ Byt w vn f.now ∧ w.ownsRow 0 126 3 vr f.row.length cs ∧ ChCells w f.row cs

/-- Where the parts of a disk stand: its maps, its row of moves, its files with their rows. -/
structure FG where
  mf : Nat
  ms : Nat
  mn : Nat
  vrow : Value
  xs : List (Nat × Value)

def fileBlocks (p : Nat × Value) : List Nat := p.1 :: p.2.ownBlock.toList
def FG.blocks (G : FG) (g : Nat) : List Nat := g :: G.mf :: G.ms :: G.mn :: (G.vrow.ownBlock.toList ++ G.xs.flatMap fileBlocks)

def dirV (d : Dir) : List (ByteArray × Value) := d.map fun p => (p.1, .int .i64 p.2)
def filV : Nat → List (Nat × Value) → List (Int × Value)
  | _, [] => []
  | k, p :: r => ((k : Int), .pointer (some ⟨p.1, 0, none⟩)) :: filV (k + 1) r

structure Fs.WF (fs : Fs) : Prop where
  room : fs.room ≤ 1048576
  keys : (keysOf fs.sure).Nodup
  nums : ∀ k, ∀ p ∈ mvs (fs.row.take k) fs.sure, 1 ≤ p.2 ∧ p.2 ≤ fs.files.length
  many : ∀ k, (mvs (fs.row.take k) fs.sure).length ≤ 64
  lens : ∀ f ∈ fs.files, ∀ k, (chs (f.row.take k) f.sure).length ≤ 1048576
  ats : ∀ f ∈ fs.files, ∀ k c, f.row[k]? = some c → c.at_ ≤ (chs (f.row.take k) f.sure).length
  fuse : fs.fuse < 9223372036854775807

/-- A bound on what has grown. -/
def Fs.Small (n : Nat) (fs : Fs) : Prop := fs.row.length ≤ n ∧ fs.files.length ≤ n ∧ ∀ f ∈ fs.files, f.row.length ≤ n

/-- A disk at block g; u stands in its field 'used'. -/
structure IsFSu (w : World) (g : Nat) (fs : Fs) (G : FG) (u : Int) : Prop where
  top : w.heap[g]? = some (.cells #[.bool true, .int .i64 fs.room, .int .i64 u, .map (some G.mf), .int .i64 fs.files.length, .map (some G.ms), .map (some G.mn), G.vrow, .int .i64 fs.acts, .int .i64 fs.fuse, .bool fs.dead] 88 (0, 0))
  kms : ∃ D, KMap SK w G.ms D ∧ D.Perm (dirV fs.sure)
  kmn : ∃ D, KMap SK w G.mn D ∧ D.Perm (dirV fs.seen)
  kmf : ∃ D, KMap IK w G.mf D ∧ D.Perm (filV 1 G.xs)
  row : w.ownsRow 0 121 4 G.vrow fs.row.length (fs.row.flatMap mvCells)
  len : G.xs.length = fs.files.length
  fl : ∀ (i : Nat) (p : Nat × Value) (f : Fl), G.xs[i]? = some p → fs.files[i]? = some f → IsFile w p.1 p.2 f
  nd : (G.blocks g).Nodup
  wf : fs.WF

abbrev IsFS (w : World) (g : Nat) (fs : Fs) (G : FG) : Prop := IsFSu w g fs G (fs.used : Int)

/-- From w to w' a disk's own blocks, and new ones, have changed, and its blocks are these or new ones. -/
def Adv (g : Nat) (G G' : FG) (w w' : World) : Prop :=
  Keep (fun k => k ∈ G.blocks g) w w' ∧ ∀ k ∈ G'.blocks g, k ∈ G.blocks g ∨ w.heap.size ≤ k

theorem Adv.refl (g : Nat) (G : FG) (w : World) : Adv g G G w w := ⟨Keep.refl _ _, fun _ h => .inl h⟩
theorem Adv.trans {g : Nat} {G G' G'' : FG} {a b c : World} (h : Adv g G G' a b) (k : Adv g G' G'' b c) : Adv g G G'' a c :=
  ⟨h.1.trans k.1 h.2, fun i hi => (k.2 i hi).elim (h.2 i) (fun hge => .inr (Nat.le_trans h.1.size hge))⟩

/-- What a call on a disk comes to. -/
def FsPost (w : World) (g : Nat) (G : FG) (fs' : Fs) (v : Value) (e : Ending) (w' : World) : Prop :=
  e = .returned v ∧ ∃ G', IsFS w' g fs' G' ∧ Adv g G G' w w'

/-! ### what is kept -/

theorem ownsRow_block {w w' : World} {e : TypeId} {s n : Nat} {v : Value} {xs : List Value} (h : w.ownsRow 0 e s v n xs) (hb : ∀ k, v.ownBlock = some k → w'.heap[k]? = w.heap[k]?) : w'.ownsRow 0 e s v n xs := by
  refine ⟨h.1, ?_⟩
  rcases h.2 with hn | ⟨g, cap, cur, rfl, hg, hgg, rest⟩
  · exact .inl hn
  · exact .inr ⟨g, cap, cur, rfl, hg, (hb g rfl).trans hgg, rest⟩

theorem IsFile.keep {F : Nat → Prop} {w w' : World} {x : Nat} {vr : Value} {f : Fl} (h : IsFile w x vr f) (k : Keep F w w') (hF : ∀ i ∈ fileBlocks (x, vr), ¬ F i) : IsFile w' x vr f := by
  obtain ⟨vs, vn, cs, hb, h1, h2, h3, h4⟩ := h
  refine ⟨vs, vn, cs, (k.block x (lt_of hb) (hF x (by simp [fileBlocks]))).trans hb, h1.keep k, h2.keep k, ownsRow_block h3 (fun i hi => ?_), h4.keep k⟩
  exact k.block i (h3.lt i hi).2 (hF i (by simp [fileBlocks, hi]))

theorem mem_blocks_row {G : FG} {g k : Nat} (h : G.vrow.ownBlock = some k) : k ∈ G.blocks g := by simp [FG.blocks, h]
theorem mem_blocks_file {G : FG} {g k : Nat} {p : Nat × Value} (hp : p ∈ G.xs) (h : k ∈ fileBlocks p) : k ∈ G.blocks g := by
  simp only [FG.blocks, List.mem_cons, List.mem_append, List.mem_flatMap]
  exact .inr (.inr (.inr (.inr (.inr ⟨p, hp, h⟩))))

/-- A disk stays what it is while none of its blocks changes. -/
theorem IsFSu.keep {F : Nat → Prop} {w w' : World} {g : Nat} {fs : Fs} {G : FG} {u : Int} (h : IsFSu w g fs G u) (k : Keep F w w') (hF : ∀ i ∈ G.blocks g, ¬ F i) : IsFSu w' g fs G u := by
  have hs := h.kms; have hn := h.kmn; have hf := h.kmf
  refine ⟨(k.block g (lt_of h.top) (hF g (by simp [FG.blocks]))).trans h.top, ?_, ?_, ?_, ?_, h.len, ?_, h.nd, h.wf⟩
  · obtain ⟨D, h1, h2⟩ := hs
    exact ⟨D, h1.of_block (k.block _ h1.lt (hF _ (by simp [FG.blocks]))), h2⟩
  · obtain ⟨D, h1, h2⟩ := hn
    exact ⟨D, h1.of_block (k.block _ h1.lt (hF _ (by simp [FG.blocks]))), h2⟩
  · obtain ⟨D, h1, h2⟩ := hf
    exact ⟨D, h1.of_block (k.block _ h1.lt (hF _ (by simp [FG.blocks]))), h2⟩
  · exact ownsRow_block h.row (fun i hi => k.block i (h.row.lt i hi).2 (hF i (mem_blocks_row hi)))
  · intro i p f hp hfi
    exact (h.fl i p f hp hfi).keep k (fun j hj => hF j (mem_blocks_file (List.mem_of_getElem? hp) hj))

theorem IsFSu.drewN {w : World} {g : Nat} {fs : Fs} {G : FG} {u : Int} (h : IsFSu w g fs G u) (n : Nat) : IsFSu (w.drewN n) g fs G u :=
  h.keep ((Keep.refl (fun _ => False) w).drewN n) (fun _ _ h => h)
theorem IsFSu.drew {w : World} {g : Nat} {fs : Fs} {G : FG} {u : Int} (h : IsFSu w g fs G u) : IsFSu w.drew g fs G u :=
  h.keep ((Keep.refl (fun _ => False) w).drew) (fun _ _ h => h)

/-- All blocks of a disk are there. -/
theorem IsFSu.lt {w : World} {g : Nat} {fs : Fs} {G : FG} {u : Int} (h : IsFSu w g fs G u) : ∀ k ∈ G.blocks g, k < w.heap.size := by
  intro k hk
  simp only [FG.blocks, List.mem_cons, List.mem_append, List.mem_flatMap] at hk
  rcases hk with rfl | rfl | rfl | rfl | hk | ⟨p, hp, hk⟩
  · exact lt_of h.top
  · obtain ⟨D, h1, _⟩ := h.kmf; exact h1.lt
  · obtain ⟨D, h1, _⟩ := h.kms; exact h1.lt
  · obtain ⟨D, h1, _⟩ := h.kmn; exact h1.lt
  · exact (h.row.lt k (by simpa using hk)).2
  · obtain ⟨i, hi⟩ := List.getElem?_of_mem hp
    have hl : i < fs.files.length := by rw [← h.len]; exact (List.getElem?_eq_some_iff.1 hi).1
    obtain ⟨vs, vn, cs, hb, _, _, h3, _⟩ := h.fl i p fs.files[i] hi (by simp [hl])
    simp only [fileBlocks, List.mem_cons] at hk
    rcases hk with rfl | hk
    · exact lt_of hb
    · exact (h3.lt k (by simpa using hk)).2

end Go.Stk

/- The calls on a disk that only look: is it there, a file by its name, sizes. -/
namespace Go.Stk
open Go Go.RowKit Go.Proofs

theorem zero_int (w : World) : (zeroValue 3).run Tryz.prog w = .ok (.int .i64 0) w := by kernel_rfl
theorem zero_file (w : World) : (zeroValue 115).run Tryz.prog w = .ok (.pointer none) w := by kernel_rfl

section
variable {w : World} {g : Nat} {fs : Fs} {G : FG} {u : Int}

theorem IsFSu.cell (h : IsFSu w g fs G u) (k : Nat) : w.cell? ⟨g, k, none⟩ = (#[.bool true, .int .i64 fs.room, .int .i64 u, .map (some G.mf), .int .i64 fs.files.length, .map (some G.ms), .map (some G.mn), G.vrow, .int .i64 fs.acts, .int .i64 fs.fuse, .bool fs.dead] : Array Value)[k]? := cell_of h.top k
theorem IsFSu.fz (h : IsFSu w g fs G u) (k : Nat) : w.frozen? ⟨g, k, none⟩ = false := fz_of h.top k

/-! ### looking things up -/

theorem Fs.seen_nodup {fs : Fs} (h : fs.WF) : (keysOf fs.seen).Nodup := mvs_nodup h.keys
theorem Fs.seen_nums {fs : Fs} (h : fs.WF) : ∀ p ∈ fs.seen, 1 ≤ p.2 ∧ p.2 ≤ fs.files.length := by
  intro p hp
  have := h.nums fs.row.length p
  rw [List.take_length] at this
  exact this hp
theorem Fs.seen_many {fs : Fs} (h : fs.WF) : fs.seen.length ≤ 64 := by
  have := h.many fs.row.length
  rw [List.take_length] at this
  exact this

theorem dget_dirV (d : Dir) (k : ByteArray) : dget (dirV d) k = (dget d k).map fun n => .int .i64 n := dget_map d (fun n => Value.int .i64 n) k
theorem keysOf_dirV (d : Dir) : keysOf (dirV d) = keysOf d := keysOf_map d (fun n => Value.int .i64 n)

theorem dget_filV : ∀ (k : Nat) (xs : List (Nat × Value)) (i : Nat), dget (filV k xs) ((k + i : Nat) : Int) = (xs[i]?).map fun p => .pointer (some ⟨p.1, 0, none⟩)
  | _, [], _ => rfl
  | k, p :: r, 0 => by simp [filV, dget]
  | k, p :: r, i + 1 => by
    have := dget_filV (k + 1) r i
    simp only [filV, dget]
    rw [if_neg (by omega), show k + (i + 1) = k + 1 + i by omega, this]
    simp

/-- m[name] of the directory that is seen. -/
theorem IsFSu.seen_look (h : IsFSu w g fs G u) (name : ByteArray) (ok : Bool) :
    (Instr.lookup 85 (.map (some G.mn)) (.string name) ok).run Tryz.prog w = .ok (if ok then .tuple #[.int .i64 ((dget fs.seen name).getD 0 : Nat), .bool (dget fs.seen name).isSome] else .int .i64 ((dget fs.seen name).getD 0 : Nat)) w := by
  obtain ⟨D, hm, hp⟩ := h.kmn
  have hl := hm.lookup Tryz.underlying85 Tryz.underlying9 (zero_int w) name ok
  rw [dget_perm hp hm.nodup, dget_dirV] at hl
  refine hl.trans ?_
  cases dget fs.seen name <;> cases ok <;> rfl

theorem IsFSu.seen_miss (h : IsFSu w g fs G u) {name : ByteArray} (hn : dget fs.seen name = none) :
    (Instr.lookup 85 (.map (some G.mn)) (.string name) true).run Tryz.prog w = .ok (.tuple #[.int .i64 0, .bool false]) w := by
  rw [h.seen_look name true, hn]; rfl
theorem IsFSu.seen_hit (h : IsFSu w g fs G u) {name : ByteArray} {n : Nat} (hn : dget fs.seen name = some n) :
    (Instr.lookup 85 (.map (some G.mn)) (.string name) true).run Tryz.prog w = .ok (.tuple #[.int .i64 n, .bool true]) w := by
  rw [h.seen_look name true, hn]; rfl
theorem IsFSu.seen_num (h : IsFSu w g fs G u) {name : ByteArray} {n : Nat} (hn : dget fs.seen name = some n) :
    (Instr.lookup 85 (.map (some G.mn)) (.string name) false).run Tryz.prog w = .ok (.int .i64 n) w := by
  rw [h.seen_look name false, hn]; rfl

/-- files[n]. -/
theorem IsFSu.file_look (h : IsFSu w g fs G u) {n : Nat} {p : Nat × Value} (h1 : 1 ≤ n) (hi : G.xs[n - 1]? = some p) :
    (Instr.lookup 84 (.map (some G.mf)) (.int .i64 (n : Int)) false).run Tryz.prog w = .ok (.pointer (some ⟨p.1, 0, none⟩)) w := by
  obtain ⟨D, hm, hp⟩ := h.kmf
  have hl := hm.lookup Tryz.underlying84 Tryz.underlying3 (zero_file w) (n : Int) false
  obtain ⟨i, rfl⟩ : ∃ i, n = 1 + i := ⟨n - 1, by omega⟩
  rw [Nat.add_sub_cancel_left] at hi
  rw [dget_perm hp hm.nodup, dget_filV, hi] at hl
  exact hl

/-- A file that is seen: where it stands. -/
theorem IsFSu.at_name (h : IsFSu w g fs G u) {name : ByteArray} {n : Nat} (hn : dget fs.seen name = some n) :
    ∃ p f, 1 ≤ n ∧ G.xs[n - 1]? = some p ∧ fs.files[n - 1]? = some f ∧ fs.at name = f ∧ IsFile w p.1 p.2 f := by
  obtain ⟨h1, h2⟩ := Fs.seen_nums h.wf _ (dget_some_mem hn)
  simp only at h1 h2
  have hl : n - 1 < fs.files.length := by omega
  have hx : n - 1 < G.xs.length := by rw [h.len]; exact hl
  refine ⟨G.xs[n - 1], fs.files[n - 1], h1, by simp [hx], by simp [hl], by simp [Fs.at, Fs.num, hn, Fs.file, hl], h.fl (n - 1) _ _ (by simp [hx]) (by simp [hl])⟩

/-! ### calls -/

theorem ready_nil (w : World) : Calls Tryz.prog 74 #[.pointer none] w fun e w' => e = .returned (.int .i64 1) ∧ w = w' := by
  go_enter Tryz.func74, Tryz.ntmps74
  go_wp2
  go_ret
  exact ⟨rfl, rfl⟩

/-- A disk that was never made: its first cell says no. -/
theorem ready_zero (w : World) (a : Addr) (h : w.cell? a = some (.bool false)) : Calls Tryz.prog 74 #[.pointer (some a)] w fun e w' => e = .returned (.int .i64 1) ∧ w = w' := by
  go_enter Tryz.func74, Tryz.ntmps74
  go_wp2
  go_ret
  exact ⟨rfl, rfl⟩

theorem ready_any (h : IsFSu w g fs G u) : Calls Tryz.prog 74 #[.pointer (some ⟨g, 0, none⟩)] w fun e w' => e = .returned (.int .i64 (if fs.dead then 13 else 0)) ∧ w = w' := by
  have hc := h.cell
  cases hd : fs.dead <;> simp only [hd] at hc <;> clear hd
  all_goals
    go_enter Tryz.func74, Tryz.ntmps74
    go_wp2
    go_ret
    exact ⟨rfl, rfl⟩

theorem get_err (h : IsFSu w g fs G u) (name : ByteArray) (he : fs.getE name ≠ 0) : Calls Tryz.prog 77 #[.pointer (some ⟨g, 0, none⟩), .string name] w fun e w' => e = .returned (.tuple #[.pointer none, .int .i64 (fs.getE name)]) ∧ w = w' := by
  have hc := h.cell
  have hready := ready_any h
  unfold Fs.getE at he ⊢
  cases hd : fs.dead with
  | true =>
    simp only [hd, if_true] at he hready ⊢
    clear hd
    go_enter Tryz.func77, Tryz.ntmps77
    go_wp2_with (go_at_call 74; refine hready.mono ?_; rintro e w' ⟨rfl, rfl⟩)
    go_ret2
    exact ⟨rfl, rfl⟩
  | false =>
    simp only [hd, Bool.false_eq_true, if_false] at he hready ⊢
    cases hg : dget fs.seen name with
    | some n => simp [hg] at he
    | none =>
      have hl := h.seen_miss hg
      clear hd
      simp only [Option.isNone_none, if_true]
      clear hg he
      go_enter Tryz.func77, Tryz.ntmps77
      go_wp2_with (go_at_call 74; refine hready.mono ?_; rintro e w' ⟨rfl, rfl⟩)
      go_ret2
      exact ⟨rfl, rfl⟩

/-- What get comes to where there is such a file. -/
theorem get_ok (h : IsFSu w g fs G u) {name : ByteArray} {n : Nat} {p : Nat × Value} (hd : fs.dead = false) (hn : dget fs.seen name = some n) (h1 : 1 ≤ n) (hi : G.xs[n - 1]? = some p) :
    Calls Tryz.prog 77 #[.pointer (some ⟨g, 0, none⟩), .string name] w fun e w' => e = .returned (.tuple #[.pointer (some ⟨p.1, 0, none⟩), .int .i64 0]) ∧ w = w' := by
  have hc := h.cell
  have hready := ready_any h
  have hl := h.seen_hit hn
  have hf := h.file_look h1 hi
  simp only [hd, Bool.false_eq_true, if_false] at hready
  clear hd hn hi h1
  go_enter Tryz.func77, Tryz.ntmps77
  go_wp2_with (go_at_call 74; refine hready.mono ?_; rintro e w' ⟨rfl, rfl⟩)
  go_ret2
  exact ⟨rfl, rfl⟩

theorem Fs.getE_ok {fs : Fs} {name : ByteArray} (h : fs.getE name = 0) : fs.dead = false ∧ ∃ n, dget fs.seen name = some n := by
  unfold Fs.getE at h
  cases hd : fs.dead with
  | true => simp [hd] at h
  | false =>
    cases hg : dget fs.seen name with
    | none => simp [hd, hg] at h
    | some n => exact ⟨rfl, n, rfl⟩

/-- Size. -/
theorem Size_any (h : IsFSu w g fs G u) (name : ByteArray) : Calls Tryz.prog 43 #[.pointer (some ⟨g, 0, none⟩), .string name] w fun e w' =>
    e = .returned (.tuple #[.int .i64 (if fs.getE name = 0 then ((fs.at name).now.length : Int) else 0), .int .i64 (fs.getE name)]) ∧ w = w' := by
  by_cases he : fs.getE name = 0
  · obtain ⟨hd, n, hn⟩ := Fs.getE_ok he
    obtain ⟨p, f, h1, hi, _, hat, hx⟩ := h.at_name hn
    have hget := get_ok h hd hn h1 hi
    rw [if_pos he, hat, he]
    obtain ⟨vs, vn, cs, hb, _, hvn, _⟩ := hx
    obtain ⟨a, c, rfl⟩ := hvn.len
    have hcx := cell_of hb
    clear hb hvn hd hn hi h1 hat he
    go_enter Tryz.func43, Tryz.ntmps43
    go_wp2_with (go_at_call 77; refine hget.mono ?_; rintro e w' ⟨rfl, rfl⟩)
    go_ret2
    exact ⟨rfl, rfl⟩
  · have hget := get_err h name he
    rw [if_neg he]
    generalize hE : fs.getE name = E at *
    have hne : (E != 0) = true := by simpa using he
    clear hE he
    go_enter Tryz.func43, Tryz.ntmps43
    go_wp2_with (go_at_call 77; refine hget.mono ?_; rintro e w' ⟨rfl, rfl⟩)
    go_ret2
    exact ⟨rfl, rfl⟩

theorem Dead_any (h : IsFSu w g fs G u) : Calls Tryz.prog 50 #[.pointer (some ⟨g, 0, none⟩)] w fun e w' => e = .returned (.bool fs.dead) ∧ w = w' := by
  have hc := h.cell
  go_enter Tryz.func50, Tryz.ntmps50
  go_wp2
  go_ret
  exact ⟨rfl, rfl⟩

theorem Used_any (h : IsFSu w g fs G u) (hd : fs.dead = false) : Calls Tryz.prog 21 #[.pointer (some ⟨g, 0, none⟩)] w fun e w' => e = .returned (.int .i64 u) ∧ w = w' := by
  have hc := h.cell
  have hready := ready_any h
  simp only [hd, Bool.false_eq_true, if_false] at hready
  clear hd
  go_enter Tryz.func21, Tryz.ntmps21
  go_wp2_with (go_at_call 74; refine hready.mono ?_; rintro e w' ⟨rfl, rfl⟩)
  go_ret
  exact ⟨rfl, rfl⟩

end
end Go.Stk

/- Inside the disk: an act is counted, a directory's move, a file's change. -/
namespace Go.Stk
open Go Go.RowKit Go.Proofs

section
variable {w : World} {g : Nat} {fs : Fs} {G : FG} {u : Int}

theorem notImm_fs : ¬ Imm 88 := fun h => h.elim (fun h => absurd h (by rw [show hasByte 88 = false by kernel_rfl]; simp)) (fun h => by simp at h)
theorem notImm_file : ¬ Imm 118 := fun h => h.elim (fun h => absurd h (by rw [show hasByte 118 = false by kernel_rfl]; simp)) (fun h => by simp at h)
theorem notImm_move : ¬ Imm 121 := fun h => h.elim (fun h => absurd h (by rw [show hasByte 121 = false by kernel_rfl]; simp)) (fun h => by simp at h)
theorem notImm_change : ¬ Imm 126 := fun h => h.elim (fun h => absurd h (by rw [show hasByte 126 = false by kernel_rfl]; simp)) (fun h => by simp at h)

theorem mem_blocks_self (G : FG) (g : Nat) : g ∈ G.blocks g := by simp [FG.blocks]

/-- The disk's own struct is written: all else stays. -/
theorem IsFSu.set_top {w' : World} {fs' : Fs} {u' : Int} (h : IsFSu w g fs G u) (k : Keep (fun i => i = g) w w')
    (ht : w'.heap[g]? = some (.cells #[.bool true, .int .i64 fs'.room, .int .i64 u', .map (some G.mf), .int .i64 fs'.files.length, .map (some G.ms), .map (some G.mn), G.vrow, .int .i64 fs'.acts, .int .i64 fs'.fuse, .bool fs'.dead] 88 (0, 0)))
    (h1 : fs'.sure = fs.sure) (h2 : fs'.row = fs.row) (h3 : fs'.files = fs.files) (h4 : fs'.WF) : IsFSu w' g fs' G u' := by
  have hnd := h.nd
  have hne : ∀ i ∈ G.mf :: G.ms :: G.mn :: (G.vrow.ownBlock.toList ++ G.xs.flatMap fileBlocks), ¬ i = g := by
    intro i hi e
    subst e
    exact (List.nodup_cons.1 hnd).1 hi
  have hs := h.kms; have hn := h.kmn; have hf := h.kmf
  refine ⟨ht, ?_, ?_, ?_, ?_, by rw [h3]; exact h.len, ?_, hnd, h4⟩
  · obtain ⟨D, a, b⟩ := hs
    exact ⟨D, a.of_block (k.block _ a.lt (hne _ (by simp))), by rw [h1]; exact b⟩
  · obtain ⟨D, a, b⟩ := hn
    exact ⟨D, a.of_block (k.block _ a.lt (hne _ (by simp))), by unfold Fs.seen; rw [h1, h2]; exact b⟩
  · obtain ⟨D, a, b⟩ := hf
    exact ⟨D, a.of_block (k.block _ a.lt (hne _ (by simp))), b⟩
  · rw [h2]
    exact ownsRow_block h.row (fun i hi => k.block i (h.row.lt i hi).2 (hne i (by simp [hi])))
  · intro i p f hp hfi
    rw [h3] at hfi
    refine (h.fl i p f hp hfi).keep k (fun j hj => hne j ?_)
    simp only [List.mem_cons, List.mem_append, List.mem_flatMap]
    exact .inr (.inr (.inr (.inr ⟨p, List.mem_of_getElem? hp, hj⟩)))

theorem Fs.WF.tick {fs : Fs} (h : fs.WF) : fs.tick.WF :=
  ⟨h.room, h.keys, h.nums, h.many, h.lens, h.ats, by show fs.fuse - 1 < _; have := h.fuse; omega⟩

theorem keep_one {w' : World} {row : Nat} (hg : w.grownBy w' (some row)) {c : Array Value} {t : TypeId} {fr : Nat × Nat} (hb : w.heap[row]? = some (.cells c t fr)) (ht : ¬ Imm t) : Keep (fun i => i = row) w w' :=
  KeepN.row (Keep.refl (fun i => i = row) w) hg (Nat.le_refl _) (fun k hk => .inr ⟨by injection hk with hk; exact hk.symm, fun c' t' fr' hb' => by
    injection hk with hk
    subst hk
    rw [hb] at hb'
    injection hb' with hb'
    injection hb' with _ e
    exact e ▸ ht⟩)

theorem keep_set {g : Nat} {c : Array Value} {t : TypeId} {fr : Nat × Nat} (hb : w.heap[g]? = some (.cells c t fr)) (ht : ¬ Imm t) (k : Nat) (v : Value) : Keep (fun i => i = g) w (w.setCell ⟨g, k, none⟩ v) :=
  Keep.setCell (Keep.refl (fun i => i = g) w) hb (.inr ⟨rfl, ht⟩) k v

theorem Adv.of_top {w' : World} (k : Keep (fun i => i = g) w w') : Adv g G G w w' :=
  ⟨k.mono (fun i hi => by subst hi; exact mem_blocks_self G i), fun _ h => .inl h⟩

theorem fails_any (h : IsFSu w g fs G u) (hd : fs.dead = false) : Calls Tryz.prog 115 #[.pointer (some ⟨g, 0, none⟩)] w fun e w' =>
    e = .returned (.bool (fs.fuse == 1)) ∧ IsFSu w' g fs.tick G u ∧ Adv g G G w w' := by
  have hc := h.cell
  have hz := h.fz
  have hfu := h.wf.fuse
  have fin : ∀ w', w'.heap[g]? = some (.cells #[.bool true, .int .i64 fs.room, .int .i64 u, .map (some G.mf), .int .i64 fs.files.length, .map (some G.ms), .map (some G.mn), G.vrow, .int .i64 (wrap64 (fs.acts + 1)), .int .i64 ((fs.fuse - 1 : Nat) : Int), .bool (fs.fuse == 1)] 88 (0, 0)) →
      Keep (fun i => i = g) w w' → IsFSu w' g fs.tick G u ∧ Adv g G G w w' := fun w' hb hk => ⟨h.set_top hk hb rfl rfl rfl h.wf.tick, Adv.of_top hk⟩
  have htop := h.top
  generalize hF : fs.fuse = F at *
  generalize hA : fs.acts = A at *
  generalize hR : fs.room = R at *
  rw [hd] at htop hc
  have FIN := hid fin
  have HTOP := hid htop
  clear fin htop hF hA hR hd
  by_cases hpos : 0 < F
  · have e1 : ((F - 1 : Nat) : Int) = (F : Int) - 1 := by omega
    have e2 : ((F : Int) - 1 == 0) = (F == 1) := by rw [Bool.eq_iff_iff]; simp; omega
    have E1 := hid e1
    have E2 := hid e2
    clear e1 e2
    go_enter Tryz.func115, Tryz.ntmps115
    go_wp2
    go_ret
    refine ⟨by rw [← E2.out]; rfl, FIN.out _ ?_ ?_⟩
    · have e := blk_set (blk_set (blk_set HTOP.out 8 (.int .i64 (wrap64 (A + 1)))) 9 (.int .i64 (F - 1))) 10 (.bool ((F : Int) - 1 == 0))
      rw [e, E1.out, E2.out]; rfl
    · exact Keep.setCell (Keep.setCell (keep_set HTOP.out notImm_fs 8 _) (blk_set HTOP.out 8 _) (.inr ⟨rfl, notImm_fs⟩) 9 _) (blk_set (blk_set HTOP.out 8 _) 9 _) (.inr ⟨rfl, notImm_fs⟩) 10 _
  · have e0 : F = 0 := by omega
    subst e0
    go_enter Tryz.func115, Tryz.ntmps115
    go_wp2
    go_ret
    refine ⟨rfl, FIN.out _ ?_ (keep_set HTOP.out notImm_fs 8 _)⟩
    have e := blk_set HTOP.out 8 (.int .i64 (wrap64 (A + 1)))
    rw [e]; rfl

theorem end_any (h : IsFSu w g fs G u) (hd : fs.dead = false) : Calls Tryz.prog 116 #[.pointer (some ⟨g, 0, none⟩)] w fun e w' =>
    e = .returned (.int .i64 fs.endE) ∧ IsFSu w' g fs.tick G u ∧ Adv g G G w w' := by
  have hf := fails_any h hd
  unfold Fs.endE
  cases hb : fs.fuse == 1
  all_goals
    rw [hb] at hf
    clear hb hd
    have H := hid h
    clear h
    go_enter Tryz.func116, Tryz.ntmps116
    go_wp2_with (go_at_call 115; refine hf.mono ?_; rintro e w' ⟨rfl, hi, ha⟩)
    go_ret
    exact ⟨rfl, hi, ha⟩

end
end Go.Stk

/- Inside the disk: a move of a directory, how many bytes there are. -/
namespace Go.Stk
open Go Go.RowKit Go.Proofs

section
variable {w : World}

theorem KMap.alloc {κ : Type} {K : KeyT κ} {b : Nat} {D : List (κ × Value)} (h : KMap K w b D) (o : Obj) : KMap K (w.alloc o) b D := h.of_block (Below.heap_alloc w o b h.lt)

theorem KMap.drew {κ : Type} {K : KeyT κ} {b : Nat} {D : List (κ × Value)} (h : KMap K w b D) : KMap K w.drew b D := h

theorem keep_map {κ : Type} {K : KeyT κ} {b : Nat} {D : List (κ × Value)} (h : KMap K w b D) {w' : World} (hg : w.grownBy w' (some b)) : Keep (fun i => i = b) w w' := by
  obtain ⟨es, c, hb, _⟩ := h
  exact KeepN.row (Keep.refl (fun i => i = b) w) hg (Nat.le_refl _) (fun k hk => .inr ⟨by injection hk with hk; exact hk.symm, fun c' t' fr' hb' => by
    injection hk with hk
    subst hk
    rw [hb] at hb'
    cases hb'⟩)

def mvV : Mv → Value
  | .create nm n => .agg #[.int .i64 0, .string ByteArray.empty, .string nm, .int .i64 n]
  | .rename a b => .agg #[.int .i64 1, .string a, .string b, .int .i64 0]
  | .remove a => .agg #[.int .i64 2, .string a, .string ByteArray.empty, .int .i64 0]

theorem dput_dirV (d : Dir) (k : ByteArray) (n : Nat) : dput (dirV d) k (.int .i64 n) = dirV (dput d k n) := dput_map d (fun n => Value.int .i64 n) k n
theorem ddel_dirV (d : Dir) (k : ByteArray) : ddel (dirV d) k = dirV (ddel d k) := ddel_map d (fun n => Value.int .i64 n) k

set_option maxHeartbeats 400000 in
theorem mvdo_any (m : Mv) {b : Nat} {D : List (ByteArray × Value)} {d : Dir} (hm : KMap SK w b D) (hp : D.Perm (dirV d)) :
    Calls Tryz.prog 83 #[mvV m, .map (some b)] w fun e w' => e = .returned (.tuple #[]) ∧ (∃ D', KMap SK w' b D' ∧ D'.Perm (dirV (m.do d))) ∧ Keep (fun i => i = b) w w' := by
  have hd : SK.d = .string ∨ ∃ q, SK.d = .int q := .inl rfl
  have hnd := hm.nodup
  have hnd' : (keysOf d).Nodup := by rw [← keysOf_dirV]; exact keys_nodup_perm hp hnd
  cases m with
  | create nm n =>
    have hm1 := hm.alloc (.cells #[.int .i64 0, .string ByteArray.empty, .string nm, .int .i64 n] 121)
    obtain ⟨w1, hu, hm2, hg, hs, _⟩ := hm1.update hd Tryz.underlying85 Tryz.underlying9 nm (.int .i64 n)
    have hk := (Keep.refl (fun i => i = b) w).alloc (.cells #[.int .i64 0, .string ByteArray.empty, .string nm, .int .i64 n] 121)
    have hk2 := hk.trans (keep_map hm1 hg) (fun i hi => .inl hi)
    have hfin : ∃ D', KMap SK w1 b D' ∧ D'.Perm (dirV ((Mv.create nm n).do d)) := ⟨_, hm2, (dput_perm hp hnd _ _).trans (by rw [dput_dirV]; exact List.Perm.refl _)⟩
    have F := hid hfin
    have K := hid hk2
    clear hfin hk hk2 hs hg hm2 hm1 hm hp hnd hnd' hd
    change (Instr.mapUpdate 85 (.map (some b)) (.string nm) (.int .i64 n)).run Tryz.prog _ = _ at hu
    show Calls _ _ #[.agg #[.int .i64 0, .string ByteArray.empty, .string nm, .int .i64 n], _] _ _
    go_enter Tryz.func83, Tryz.ntmps83
    go_wp2
    go_end0
    exact ⟨rfl, F.out, K.out⟩
  | rename x y =>
    have hm1 := hm.alloc (.cells #[.int .i64 1, .string x, .string y, .int .i64 0] 121)
    have hl := hm1.lookup (P := Tryz.prog) Tryz.underlying85 Tryz.underlying9 (zero_int _) x false
    rw [dget_perm hp hnd, dget_dirV] at hl
    have hl2 : (Instr.lookup 85 (.map (some b)) (.string x) false).run Tryz.prog (w.alloc (.cells #[.int .i64 1, .string x, .string y, .int .i64 0] 121)) = .ok (.int .i64 (((dget d x).getD 0 : Nat) : Int)) (w.alloc (.cells #[.int .i64 1, .string x, .string y, .int .i64 0] 121)) := by
      refine hl.trans ?_
      cases dget d x <;> rfl
    clear hl
    obtain ⟨w1, hu1, hm2, hg1, hs1, _⟩ := hm1.delete (P := Tryz.prog) Tryz.underlying85 Tryz.underlying9 x 9 0
    obtain ⟨w2, hu2, hm3, hg2, hs2, _⟩ := hm2.update (P := Tryz.prog) hd Tryz.underlying85 Tryz.underlying9 y (.int .i64 (((dget d x).getD 0 : Nat) : Int))
    have hk := (Keep.refl (fun i => i = b) w).alloc (.cells #[.int .i64 1, .string x, .string y, .int .i64 0] 121)
    have hk2 := (hk.trans (keep_map hm1 hg1) (fun i hi => .inl hi)).trans (keep_map hm2 hg2) (fun i hi => .inl hi)
    have hfin : ∃ D', KMap SK w2 b D' ∧ D'.Perm (dirV ((Mv.rename x y).do d)) :=
      ⟨_, hm3, (dput_perm (ddel_perm hp hnd x) (nodup_ddel hnd) _ _).trans (by rw [ddel_dirV, dput_dirV]; exact List.Perm.refl _)⟩
    have F := hid hfin
    have K := hid hk2
    have hc : ∀ k, w1.cell? ⟨w.heap.size, k, none⟩ = (#[.int .i64 1, .string x, .string y, .int .i64 0] : Array Value)[k]? := by
      have hlt := hm.lt
      refine cell_of (t := 121) (fr := (0, 0)) ((hg1.block w.heap.size (by simp) (by simp; omega)).trans (blk_new _ _))
    generalize (dget d x).getD 0 = n at *
    clear hfin hk hk2 hs1 hs2 hg1 hg2 hm3 hm2 hm1 hm hp hnd hnd' hd
    change (Builtin.delete_ #[85, 9] 0 #[.map (some b), .string x]).run Tryz.prog _ = _ at hu1
    change (Instr.mapUpdate 85 (.map (some b)) (.string y) (.int .i64 n)).run Tryz.prog _ = _ at hu2
    show Calls _ _ #[.agg #[.int .i64 1, .string x, .string y, .int .i64 0], _] _ _
    go_enter Tryz.func83, Tryz.ntmps83
    go_wp2
    go_end0
    exact ⟨rfl, F.out, K.out⟩
  | remove x =>
    have hm1 := hm.alloc (.cells #[.int .i64 2, .string x, .string ByteArray.empty, .int .i64 0] 121)
    obtain ⟨w1, hu1, hm2, hg1, hs1, _⟩ := hm1.delete (P := Tryz.prog) Tryz.underlying85 Tryz.underlying9 x 9 0
    have hk := (Keep.refl (fun i => i = b) w).alloc (.cells #[.int .i64 2, .string x, .string ByteArray.empty, .int .i64 0] 121)
    have hk2 := hk.trans (keep_map hm1 hg1) (fun i hi => .inl hi)
    have hfin : ∃ D', KMap SK w1 b D' ∧ D'.Perm (dirV ((Mv.remove x).do d)) :=
      ⟨_, hm2, (ddel_perm hp hnd x).trans (by rw [ddel_dirV]; exact List.Perm.refl _)⟩
    have F := hid hfin
    have K := hid hk2
    clear hfin hk hk2 hs1 hg1 hm2 hm1 hm hp hnd hnd' hd
    change (Builtin.delete_ #[85, 9] 0 #[.map (some b), .string x]).run Tryz.prog _ = _ at hu1
    show Calls _ _ #[.agg #[.int .i64 2, .string x, .string ByteArray.empty, .int .i64 0], _] _ _
    go_enter Tryz.func83, Tryz.ntmps83
    go_wp2
    go_end0
    exact ⟨rfl, F.out, K.out⟩

end
end Go.Stk

/- Inside the disk: how many bytes there are. -/
namespace Go.Stk
open Go Go.RowKit Go.Proofs

section
variable {w : World} {g : Nat} {fs : Fs} {G : FG} {u : Int}

def numOf : Value → Nat
  | .int _ n => n.toNat
  | _ => 0

def sumOf (fs : Fs) (dn : List (ByteArray × Value)) : Nat := (dn.map fun p => fs.size (numOf p.2)).sum

theorem sumOf_dirV (fs : Fs) (d : Dir) : sumOf fs (dirV d) = (d.map fun p => fs.size p.2).sum := by
  simp [sumOf, dirV, numOf, Function.comp_def]

theorem sumOf_perm {fs : Fs} {a b : List (ByteArray × Value)} (h : a.Perm b) : sumOf fs a = sumOf fs b := (h.map _).sum_nat

theorem range_drew {b r : Nat} {D dn : List (ByteArray × Value)} (h : KRange SK w b r D dn) : KRange SK w.drew b r D dn := h

/-- A member of a directory: its number stands for a file. -/
theorem IsFSu.mem_file (h : IsFSu w g fs G u) {D : List (ByteArray × Value)} (hp : D.Perm (dirV fs.seen)) {k : ByteArray} {v : Value} (hm : (k, v) ∈ D) :
    ∃ n p f, v = .int .i64 ((n : Nat) : Int) ∧ 1 ≤ n ∧ G.xs[n - 1]? = some p ∧ fs.size n = f.now.length ∧ f ∈ fs.files ∧ IsFile w p.1 p.2 f := by
  have := hp.mem_iff.1 hm
  obtain ⟨⟨k', n⟩, hq, e⟩ := List.mem_map.1 this
  simp only [Prod.mk.injEq] at e
  obtain ⟨rfl, rfl⟩ := e
  obtain ⟨h1, h2⟩ := Fs.seen_nums h.wf _ hq
  simp only at h1 h2
  have hl : n - 1 < fs.files.length := by omega
  have hx : n - 1 < G.xs.length := by rw [h.len]; exact hl
  exact ⟨n, G.xs[n - 1], fs.files[n - 1], rfl, h1, by simp [hx], by simp [Fs.size, Fs.file, hl], List.getElem_mem hl, h.fl (n - 1) _ _ (by simp [hx]) (by simp [hl])⟩

theorem Fs.WF.now_le {fs : Fs} (h : fs.WF) {f : Fl} (hf : f ∈ fs.files) : f.now.length ≤ 1048576 := by
  have := h.lens f hf f.row.length
  rw [List.take_length] at this
  exact this

theorem Fs.size_le {fs : Fs} (h : fs.WF) (n : Nat) : fs.size n ≤ 1048576 := by
  unfold Fs.size Fs.file
  by_cases hl : n - 1 < fs.files.length
  · have := h.now_le (List.getElem_mem hl)
    simpa [List.getD, hl] using this
  · simp [List.getD, hl, Fl.now, chs]

theorem sumOf_le {fs : Fs} (h : fs.WF) : ∀ dn : List (ByteArray × Value), sumOf fs dn ≤ dn.length * 1048576
  | [] => by simp [sumOf]
  | p :: r => by
    have h1 := sumOf_le h r
    have h2 := Fs.size_le h (numOf p.2)
    simp only [sumOf, List.map_cons, List.sum_cons, List.length_cons] at h1 ⊢
    omega

theorem sumOf_snoc (fs : Fs) (dn : List (ByteArray × Value)) (k : ByteArray) (n : Nat) : sumOf fs (dn ++ [(k, .int .i64 (n : Int))]) = sumOf fs dn + fs.size n := by
  simp [sumOf, numOf]

theorem IsFSu.add_used (h : IsFSu w g fs G u) (u' : Int) : IsFSu (w.setCell ⟨g, 2, none⟩ (.int .i64 u')) g fs G u' ∧ Keep (fun i => i = g) w (w.setCell ⟨g, 2, none⟩ (.int .i64 u')) :=
  ⟨h.set_top (keep_set h.top notImm_fs 2 _) (by rw [blk_set h.top]; rfl) rfl rfl rfl h.wf, keep_set h.top notImm_fs 2 _⟩

theorem krange_keep {b r : Nat} {D dn : List (ByteArray × Value)} {F : Nat → Prop} {w' : World} (h : KRange SK w b r D dn) (k : Keep F w w') (h1 : ¬ F b) (h2 : ¬ F r) : KRange SK w' b r D dn :=
  h.of_block (k.block b h.map.lt h1) (k.block r h.lt h2)

theorem IsFSu.mn_ne (h : IsFSu w g fs G u) : G.mn ≠ g := by
  intro e
  have := h.nd
  simp [FG.blocks, e] at this

theorem keep_iter {b r : Nat} {D dn : List (ByteArray × Value)} {w' : World} (h : KRange SK w b r D dn) (hg : w.grownBy w' (some r)) : Keep (fun i => i = r) w w' := by
  obtain ⟨es, c', _, _, _, _, _, _, _, hrr, _⟩ := h
  refine KeepN.row (Keep.refl (fun i => i = r) w) hg (Nat.le_refl _) (fun k hk => .inr ⟨by injection hk with hk; exact hk.symm, fun c t fr hb => ?_⟩)
  injection hk with hk
  subst hk
  rw [hrr] at hb
  cases hb

set_option maxRecDepth 100000 in
set_option maxHeartbeats 800000 in
theorem count_any (h : IsFSu w g fs G u) : Calls Tryz.prog 85 #[.pointer (some ⟨g, 0, none⟩)] w fun e w' =>
    e = .returned (.tuple #[]) ∧ IsFS w' g fs G ∧ Keep (fun i => i = g) w w' := by
  have hc := h.cell
  have hz := h.fz
  have HG := hid (lt_of h.top)
  have HWF := hid h.wf
  have HMN := hid h.mn_ne
  have HLT := hid h.lt
  obtain ⟨D, hm, hp⟩ := h.kmn
  have h0 := h.add_used 0
  have hm1 : KMap SK (w.setCell ⟨g, 2, none⟩ (.int .i64 0)) G.mn D := hm.of_block (blk_set_ne h.mn_ne 2 _)
  obtain ⟨o, hr, hkr⟩ := hm1.range' (P := Tryz.prog) Tryz.underlying85
  have HK := hid hkr
  have HP := hid hp
  have H0 := hid h0
  clear h hkr hm1 hm hp h0
  go_enter Tryz.func85, Tryz.ntmps85
  go_wp2
  go_loopg [3] D.length (fun k _s wr => ∃ dn, k = D.length - dn.length ∧ dn.length ≤ D.length ∧ KRange SK wr G.mn w.heap.size D dn ∧ IsFSu wr g fs G (sumOf fs dn) ∧ Keep (fun i => i = g) w wr)
  case atStart =>
    have hk := HK.out
    rw [size_set] at hk
    refine ⟨[], by simp, by simp, hk, ?_, H0.out.2.alloc o⟩
    exact H0.out.1.keep ((Keep.refl (fun _ => False) _).alloc o) (fun _ _ h => h)
  case round =>
    obtain ⟨dn, hk, hle, hkr, hfs, hkeep⟩ := hrel
    rcases hkr.next (P := Tryz.prog) 0 with ⟨hperm, hnext⟩ | ⟨k, v, w1, hmem, hnext, hent, hkr1, hg1, hs1, hlt⟩
    · have hsum : (sumOf fs dn : Int) = fs.used := by
        rw [sumOf_perm (hperm.trans HP.out), sumOf_dirV]; rfl
      rw [hsum] at hfs
      have HF := hid hfs
      have HKE := hid hkeep
      clear hfs hkeep hkr hk hle hsum hperm hc hz hr
      go_wp2
      go_end0
      exact ⟨rfl, HF.out, HKE.out⟩
    · have hgw := keep_iter hkr hg1
      have hgne : ∀ i ∈ G.blocks g, ¬ i = w.heap.size := by
        intro i hi e
        have := HLT.out i hi
        omega
      have hfs1 := hfs.keep hgw hgne
      obtain ⟨n, p, f, rfl, h1, hx, hsz, hfm, hfile⟩ := hfs1.mem_file HP.out hmem
      have hsnoc := sumOf_snoc fs dn k n
      have hb1 := sumOf_le HWF.out dn
      have hb2 := HWF.out.now_le hfm
      have hb3 : dn.length ≤ 64 := by
        have e1 := HP.out.length_eq
        have e2 := Fs.seen_many HWF.out
        simp only [dirV, List.length_map] at e1
        omega
      have hlook := hfs1.drew.file_look h1 hx
      have hc1 := hfs1.cell
      have hz1 := hfs1.fz
      obtain ⟨vs, vn, cs, hbx, _, hvn, _⟩ := hfile
      obtain ⟨a, c, rfl⟩ := hvn.len
      have hcx := cell_of hbx
      have hadd := hfs1.add_used ((sumOf fs dn : Int) + (f.now.length : Int))
      generalize hS : sumOf fs dn = S at *
      generalize hL : f.now.length = L at *
      have HADD := hid hadd
      have HKR := hid hkr1
      have HKE := hid (hkeep.trans hgw (fun i hi => .inr (by omega)))
      have HSN := hid hsnoc
      have HSZ := hid hsz
      have HLEN := hid hlt
      have HKK := hid hk
      have B1 : (0 : Int) ≤ S := by omega
      have B2 : (S : Int) ≤ 67108864 := by omega
      have B3 : (0 : Int) ≤ L := by omega
      have B4 : (L : Int) ≤ 1048576 := by omega
      clear hadd hkr1 hkeep hgw hsnoc hsz hlt hk hkr hfs hfs1 hgne hmem hfm hbx hvn hb1 hb2 hb3 hS hL hg1 hs1 hle h1 hx hc hz hr
      go_wp2_with fail
      go_still_tail 17, (by kernel_rfl)
      change wpList _ _ _ _ _ w1.drew
      rw [IntWalk.i64_in ((S : Int) + (L : Int)) (by omega)]
      go_wp2
      go_roundg (D.length - (dn ++ [(k, Value.int .i64 (n : Int))]).length)
      case measure =>
        have e1 := HLEN.out
        have e2 := HKK.out
        simp only [List.length_append, List.length_cons, List.length_nil]
        omega
      case rel =>
        refine ⟨dn ++ [(k, .int .i64 n)], rfl, ?_, ?_, ?_, ?_⟩
        · have e1 := HLEN.out
          simp only [List.length_append, List.length_cons, List.length_nil]
          omega
        · exact krange_keep (F := fun i => i = g) HKR.out (HADD.out.2.drew) HMN.out (fun e => by have := HG.out; omega)
        · rw [HSN.out, HSZ.out]
          have := HADD.out.1
          rw [show ((S + L : Nat) : Int) = (S : Int) + (L : Int) by omega]
          exact this.drew
        · exact HKE.out.trans HADD.out.2.drew (fun i hi => .inl hi)

end
end Go.Stk

/- Inside the disk: a move is done. -/
namespace Go.Stk
open Go Go.RowKit Go.Proofs

theorem info_move : (Tryz.prog.info? 121).map (fun i => (i.zero, i.size, i.bytes)) = some (some (.agg #[.int .i64 0, .string ByteArray.empty, .string ByteArray.empty, .int .i64 0]), 4, 48) := by kernel_rfl

section
variable {w : World} {g : Nat} {fs : Fs} {G : FG} {u : Int}

theorem mvV_agg (m : Mv) : mvV m = .agg (mvCells m).toArray := by cases m <;> rfl
theorem mvCells_len (m : Mv) : (mvCells m).length = 4 := by cases m <;> rfl

theorem Value.own_slice (b o n c : Nat) : (Value.slice (some ⟨b, o, none⟩) n c).ownBlock = some b := rfl

/-- The row of moves stands anew: the block is the old one, or a new one. -/
theorem FG.blocks_row {G : FG} {g b n c H : Nat} (h : (G.blocks g).Nodup) (hlt : ∀ k ∈ G.blocks g, k < H) (hb : G.vrow.ownBlock = some b ∨ H ≤ b) :
    ((({ G with vrow := .slice (some ⟨b, 0, none⟩) n c } : FG)).blocks g).Nodup ∧ ∀ k ∈ (({ G with vrow := .slice (some ⟨b, 0, none⟩) n c } : FG)).blocks g, k ∈ G.blocks g ∨ H ≤ k := by
  rcases hb with hb | hb
  · have e : (({ G with vrow := .slice (some ⟨b, 0, none⟩) n c } : FG)).blocks g = G.blocks g := by
      simp only [FG.blocks, hb, Value.own_slice]
    rw [e]
    exact ⟨h, fun k hk => .inl hk⟩
  · have hsub : ∀ k ∈ (g :: G.mf :: G.ms :: G.mn :: G.xs.flatMap fileBlocks), k ∈ G.blocks g := by
      intro k hk
      simp only [FG.blocks, List.mem_cons, List.mem_append] at hk ⊢
      rcases hk with h | h | h | h | h
      · exact .inl h
      · exact .inr (.inl h)
      · exact .inr (.inr (.inl h))
      · exact .inr (.inr (.inr (.inl h)))
      · exact .inr (.inr (.inr (.inr (.inr h))))
    have hperm : ((({ G with vrow := .slice (some ⟨b, 0, none⟩) n c } : FG)).blocks g).Perm (b :: (g :: G.mf :: G.ms :: G.mn :: G.xs.flatMap fileBlocks)) := by
      simp only [FG.blocks, Value.ownBlock, Option.toList_some, List.singleton_append]
      exact (List.perm_middle (a := b) (l₁ := [g, G.mf, G.ms, G.mn]) (l₂ := G.xs.flatMap fileBlocks))
    have hnd : (g :: G.mf :: G.ms :: G.mn :: G.xs.flatMap fileBlocks).Nodup := by
      refine List.Nodup.sublist ?_ h
      simp only [FG.blocks]
      exact (((((List.sublist_append_right _ _).cons_cons _).cons_cons _).cons_cons _).cons_cons _)
    refine ⟨hperm.nodup_iff.2 (List.nodup_cons.2 ⟨fun hm => ?_, hnd⟩), fun k hk => ?_⟩
    · have := hlt b (hsub b hm)
      omega
    · rcases List.mem_cons.1 (hperm.mem_iff.1 hk) with rfl | hk
      · exact .inr hb
      · exact .inl (hsub k hk)

/-- A move is done: the directory that is seen, and the row of moves, stand anew. -/
theorem IsFSu.moved {w' : World} {m : Mv} {b n c : Nat} {D : List (ByteArray × Value)} (h : IsFSu w g fs G u)
    (hk : Keep (fun i => i = g ∨ i = G.mn ∨ G.vrow.ownBlock = some i) w w')
    (ht : w'.heap[g]? = some (.cells #[.bool true, .int .i64 fs.room, .int .i64 u, .map (some G.mf), .int .i64 fs.files.length, .map (some G.ms), .map (some G.mn), .slice (some ⟨b, 0, none⟩) n c, .int .i64 fs.acts, .int .i64 fs.fuse, .bool fs.dead] 88 (0, 0)))
    (hm : KMap SK w' G.mn D) (hp : D.Perm (dirV (m.do fs.seen))) (hrow : w'.ownsRow 0 121 4 (.slice (some ⟨b, 0, none⟩) n c) (fs.row.length + 1) (fs.row.flatMap mvCells ++ mvCells m))
    (hb : G.vrow.ownBlock = some b ∨ w.heap.size ≤ b) (hwf : (fs.move m).WF) :
    ∃ G', IsFSu w' g (fs.move m) G' u ∧ Adv g G G' w w' := by
  have hnd := h.nd
  have hbl := FG.blocks_row (n := n) (c := c) hnd h.lt hb
  have hrowm : ∀ i, G.vrow.ownBlock = some i → i ∈ G.blocks g := fun i hi => mem_blocks_row hi
  -- the parts of the list of blocks, apart
  have hnd2 := hnd
  simp only [FG.blocks, List.nodup_cons, List.mem_cons, List.mem_append, not_or] at hnd2
  obtain ⟨⟨g1, g2, g3, g4, g5⟩, ⟨f1, f2, f3, f4⟩, ⟨s1, s2, s3⟩, ⟨n1, n2⟩, hnd3⟩ := hnd2
  have hs := h.kms; have hf := h.kmf
  refine ⟨{ G with vrow := .slice (some ⟨b, 0, none⟩) n c }, ⟨ht, ?_, ?_, ?_, ?_, h.len, ?_, hbl.1, hwf⟩, ⟨hk.mono ?_, hbl.2⟩⟩
  · obtain ⟨E, a, b'⟩ := hs
    refine ⟨E, a.of_block ?_, b'⟩
    refine hk.block _ a.lt ?_
    rintro (e | e | e)
    · exact g2 e.symm
    · exact s1 e
    · exact s2 (by simp [e])
  · exact ⟨D, hm, by show D.Perm (dirV (mvs (fs.row ++ [m]) fs.sure)); rw [mvs_snoc]; exact hp⟩
  · obtain ⟨E, a, b'⟩ := hf
    refine ⟨E, a.of_block ?_, b'⟩
    refine hk.block _ a.lt ?_
    rintro (e | e | e)
    · exact g1 e.symm
    · exact f2 e
    · exact f3 (by simp [e])
  · show w'.ownsRow 0 _ 4 _ (fs.row ++ [m]).length ((fs.row ++ [m]).flatMap mvCells)
    rw [List.length_append, List.flatMap_append]
    simpa using hrow
  · intro i p f hpi hfi
    refine (h.fl i p f hpi hfi).keep hk (fun j hj => ?_)
    have hjm : j ∈ G.xs.flatMap fileBlocks := List.mem_flatMap.2 ⟨p, List.mem_of_getElem? hpi, hj⟩
    rintro (e | e | e)
    · subst e; exact g5 hjm
    · subst e; exact n2 hjm
    · have := (List.nodup_append.1 hnd3).2.2 j (by simp [e]) j hjm
      exact this rfl
  · rintro i (e | e | e)
    · subst e; exact mem_blocks_self G i
    · subst e; simp [FG.blocks]
    · exact hrowm i e

theorem grownBy_of_drew {w w' : World} {row : Option Nat} (h : w.drew.grownBy w' row) : w.grownBy w' row := ⟨h.os, h.tape, h.output, h.size, h.block⟩

/-- A row that was appended to, and its variable written: what has changed. -/
theorem keep_push {w1 w2 : World} {F : Nat → Prop} {o : Obj} {row : Option Nat} (hk : Keep F w w1) (hgrow : (w1.alloc o).drew.grownBy w2 row) (hrow : ∀ k, row = some k → w.heap.size ≤ k ∨ (F k ∧ ∀ c t fr, w1.heap[k]? = some (.cells c t fr) → ¬ Imm t))
    (hlt : ∀ k, row = some k → k < w1.heap.size) : Keep F w w2 := by
  exact KeepN.row (Keep.alloc hk o) (grownBy_of_drew hgrow) (by have := hk.size; simp; omega) (fun k hk' => (hrow k hk').imp id (fun h1 => ⟨h1.1, fun c t fr hb => h1.2 c t fr (by
    rw [← Below.heap_alloc w1 o k (hlt k hk')]
    exact hb)⟩))

theorem ownsRow_notImm {w1 : World} {t : TypeId} {s n : Nat} {v : Value} {xs : List Value} (h : w1.ownsRow 0 t s v n xs) (ht : ¬ Imm t) {k : Nat} (hk : v.ownBlock = some k) : ∀ c t' fr, w1.heap[k]? = some (.cells c t' fr) → ¬ Imm t' := by
  intro c t' fr hb
  rcases h.2 with ⟨rfl, _⟩ | ⟨g, cap, cur, rfl, _, hg, _⟩
  · simp [Value.ownBlock] at hk
  · have e : g = k := by simpa [Value.ownBlock] using hk
    subst e
    rw [hg] at hb
    injection hb with hb
    injection hb with _ e
    exact e ▸ ht

theorem turn_fin {w1 w2 : World} {m : Mv} {c0 c1 c2 c3 : Value} {gg cap : Nat} (h : IsFSu w g fs G u) (hk1 : Keep (fun i => i = G.mn) w w1) (hD : ∃ D', KMap SK w1 G.mn D' ∧ D'.Perm (dirV (m.do fs.seen)))
    (hcs : mvCells m = [c0, c1, c2, c3]) (o : Obj) (hown : w2.ownsRow 0 121 4 (.slice (some ⟨gg, 0, none⟩) (fs.row.length + 1) cap) (fs.row.length + 1) (fs.row.flatMap mvCells ++ [c0, c1, c2, c3]))
    (hgrow : (w1.alloc o).drew.grownBy w2 G.vrow.ownBlock) (hat : G.vrow.ownBlock = some gg ∨ gg = w1.heap.size + 1) (hwf : (fs.move m).WF) :
    ∃ G', IsFSu (w2.setCell ⟨g, 7, none⟩ (.slice (some ⟨gg, 0, none⟩) (fs.row.length + 1) cap)) g (fs.move m) G' u ∧ Adv g G G' w (w2.setCell ⟨g, 7, none⟩ (.slice (some ⟨gg, 0, none⟩) (fs.row.length + 1) cap)) := by
  obtain ⟨D, hm, hp⟩ := hD
  have hgm : g ≠ G.mn := fun e => h.mn_ne e.symm
  have hnd := h.nd
  have hrow1 := ownsRow_block h.row (fun i hi => hk1.block i (h.row.lt i hi).2 (fun e => by simp [FG.blocks, hi, e] at hnd))
  have agr : G.vrow.ownBlock ≠ some g := fun e => by simp [FG.blocks, e] at hnd
  have agm : G.vrow.ownBlock ≠ some G.mn := fun e => by simp [FG.blocks, e] at hnd
  have hk2 : Keep (fun i => i = g ∨ i = G.mn ∨ G.vrow.ownBlock = some i) w w2 := keep_push (hk1.mono (fun i hi => .inr (.inl hi))) hgrow
    (fun k hk => .inr ⟨.inr (.inr hk), ownsRow_notImm hrow1 notImm_move hk⟩) (fun k hk => (hrow1.lt k hk).2)
  have ht1 := (hk1.block g (lt_of h.top) hgm).trans h.top
  have ht2 : w2.heap[g]? = _ := (hgrow.block g (by simp; have := lt_of ht1; omega) (Ne.symm agr)).trans (blk_alloc ht1 o)
  have hm2 : KMap SK w2 G.mn D := (hm.alloc o).of_block (hgrow.block G.mn (by simp; have := hm.lt; omega) (Ne.symm agm))
  have hbg : gg ≠ g := by
    rcases hat with e | e
    · intro e2; rw [e2] at e; exact agr e
    · have := lt_of ht1; omega
  refine h.moved (Keep.setCell hk2 ht2 (.inr ⟨.inl rfl, notImm_fs⟩) 7 _) (b := gg) (n := fs.row.length + 1) (c := cap) (by rw [blk_set ht2]; rfl) (hm2.of_block (blk_set_ne h.mn_ne 7 _)) hp ?_ ?_ hwf
  · rw [hcs]
    exact ownsRow_block hown (fun k hk => by
      have e : gg = k := by simpa [Value.ownBlock] using hk
      subst e
      exact blk_set_ne hbg 7 _)
  · rcases hat with e | e
    · exact .inl e
    · right
      have := hk1.size
      omega

theorem mvCells_form (m : Mv) : ∃ c0 c1 c2 c3, mvCells m = [c0, c1, c2, c3] ∧ c0.oneCell' = true ∧ c1.oneCell' = true ∧ c2.oneCell' = true ∧ c3.oneCell' = true := by
  cases m <;> exact ⟨_, _, _, _, rfl, rfl, rfl, rfl, rfl⟩

set_option maxRecDepth 100000 in
set_option maxHeartbeats 1600000 in
theorem turn_any (h : IsFSu w g fs G u) (hd : fs.dead = false) (m : Mv) (hwf : (fs.move m).WF) (hs : fs.row.length < 1099511627776) :
    Calls Tryz.prog 76 #[.pointer (some ⟨g, 0, none⟩), mvV m] w (FsPost w g G (fs.move m).tick (.int .i64 fs.endE)) := by
  obtain ⟨i0, hi0, hz0, hz1, hz2⟩ := info_parts info_move
  obtain ⟨D, hkm, hp⟩ := h.kmn
  obtain ⟨c0, c1, c2, c3, hcs, o0, o1, o2, o3⟩ := mvCells_form m
  have hkb := (Keep.refl (fun i => i = G.mn) w).alloc (.cells #[c0, c1, c2, c3] 121)
  have h0 := h.keep ((Keep.refl (fun _ => False) w).alloc (.cells #[c0, c1, c2, c3] 121)) (fun _ _ h => h)
  have hdo := mvdo_any m ((hkm.alloc (.cells #[c0, c1, c2, c3] 121)).drew) hp
  rw [mvV_agg, hcs] at hdo ⊢
  have hc := h0.cell
  have hb := blk_new w (.cells #[c0, c1, c2, c3] 121)
  have hcb := cell_of hb
  have HB := hid hb
  have HKB := hid hkb
  have HW := hid h
  have H0 := hid h0
  have HCS := hid hcs
  have HI := hid hi0
  have HDO := hid hdo
  clear h h0 hcs hi0 hdo hkm hp hkb hb
  go_enter Tryz.func76, Tryz.ntmps76
  go_wp2_with fail
  generalize hW1 : w.alloc (.cells #[c0, c1, c2, c3] 121) = W1 at *
  have HW1 := hid hW1
  clear hW1
  go_still_tail 5, (by kernel_rfl)
  change wpList _ _ _ _ _ W1.drew
  go_upto_region 2 with (go_at_call 83; refine HDO.out.mono ?_; rintro e w1 ⟨rfl, hD, hk1⟩)
  have hk1' := HKB.out.trans (F := fun i => i = G.mn) (F' := fun i => i = G.mn) ⟨hk1.os, hk1.tape, hk1.output, hk1.size, hk1.block, hk1.imm⟩ (fun i hi => .inl hi)
  have hgm : g ≠ G.mn := fun e => HW.out.mn_ne e.symm
  have hglt := lt_of HW.out.top
  have hmlt : G.mn < w.heap.size := HW.out.lt _ (by simp [FG.blocks])
  have ht1 := (hk1'.block g hglt hgm).trans HW.out.top
  have hb1 := (hk1.block w.heap.size (lt_of HB.out) (by omega)).trans HB.out
  have hrow1 := ownsRow_block HW.out.row (fun i hi => hk1'.block i (HW.out.row.lt i hi).2 (fun e => by
    have := HW.out.nd
    simp [FG.blocks, hi, e] at this))
  have q7 := cell_of ht1 7
  have z7 := fz_of ht1 7
  have z7a : ∀ o, (w1.alloc o).drew.frozen? ⟨g, 7, none⟩ = false := fun o => fz_of (blk_alloc ht1 o) 7
  have q7a : ∀ o, (w1.alloc o).drew.cell? ⟨g, 7, none⟩ = some G.vrow := fun o => cell_of (blk_alloc ht1 o) 7
  have b0 := cell_of hb1 0
  have b1 := cell_of hb1 1
  have b2 := cell_of hb1 2
  have b3 := cell_of hb1 3
  simp only [List.getElem?_toArray, List.getElem?_cons_zero, List.getElem?_cons_succ] at q7 b0 b1 b2 b3
  have agr : G.vrow.ownBlock ≠ some g := fun e => by
    have := HW.out.nd
    simp [FG.blocks, e] at this
  have agb : G.vrow.ownBlock ≠ some w.heap.size := fun e => by
    have := HW.out.lt _ (mem_blocks_row e)
    omega
  have hsz1 : w.heap.size < w1.heap.size := lt_of hb1
  have hmx : fs.row.length + 1 ≤ maxLen := by unfold maxLen; omega
  have HT1 := hid ht1
  have HB1 := hid hb1
  have HR1 := hid hrow1
  have HK1 := hid hk1'
  have HD := hid hD
  have hsc := HI.out
  clear ht1 hb1 hrow1 hk1' hk1 hD hc hcb
  go_cut [] (fun wx => ∃ G', IsFSu wx g (fs.move m) G' u ∧ Adv g G G' w wx)
  case first =>
   go_wp2_with fail
   go_region_law
    ((refine step_append_lies _ (by rfl) _ _ _ (by rfl) 0 121 i0 _ 4 48 Tryz.underlying86 hsc hz0 hz1 hz2 rfl (by omega) G.vrow fs.row.length (fs.row.flatMap mvCells) (by rfl) ((HR1.out.alloc _).drew)
        ⟨w1.heap.size, 0, none⟩ 1 1 [c0, c1, c2, c3] (by rfl) (by rfl) (World.news_of_block (cs := #[c0, c1, c2, c3]) (t := 121) (fr := (0, 0)) (heap_alloc_new w1 _)) (by simp [o0, o1, o2, o3])
        (by omega) hmx (by omega) (by omega) (w1.heap.size + 1) (by simp) ?_; intro gg cap w2 hown1 hgrow hat hlt; have y7 : w2.cell? ⟨g, 7, none⟩ = some G.vrow := (hgrow.cell_far _ (by simp; omega) (Ne.symm agr)).trans (q7a _); have y8 : w2.frozen? ⟨g, 7, none⟩ = false := (hgrow.frozen_far _ (by simp; omega) (Ne.symm agr)).trans (z7a _)))
   all_goals
    go_wp2_with fail
    go_meet
    obtain ⟨G', hi, ha⟩ := turn_fin HW.out HK1.out HD.out HCS.out _ hown1 hgrow hat hwf
    exact ⟨G', hi, ha⟩
  case rest =>
    obtain ⟨G', hi, ha⟩ := hcut
    have hcount := count_any hi
    have HA := hid ha
    clear hi ha
    go_wp2_with (go_at_call 85; refine hcount.mono ?_; rintro e w3 ⟨rfl, hi3, hk3⟩; have hend := end_any hi3 hd; have HK3 := hid hk3; clear hi3 hk3 hcount)
    go_wp2_with (go_at_call 116; refine hend.mono ?_; rintro e w4 ⟨rfl, hi4, ha4⟩)
    go_ret
    exact ⟨rfl, G', hi4, HA.out.trans ((Adv.of_top HK3.out).trans ha4)⟩

end
end Go.Stk

/- What is done with slices: cutting, appending, copying. -/
namespace Go.Stk
open Go Go.RowKit Go.Proofs

/-! ### a builtin whose run is known -/
section
variable {P : Program} {w w' : World} {ops : Array Oper} {rest : List Oper} {o : Oper} {a : Act} {Q : Exit → Act → World → Prop}

theorem wpList_append_run (hgd : o.guard = none) (s x : Operand) (ts : Array TypeId) (ho : o.op = .call { callee := .builtin .append, args := #[s, x], argTypes := ts }) {vs vx v' : Value}
    (hr : (Builtin.append_ ts o.type #[vs, vx]).run P w = .ok v' w') (hs : a.eval s = vs) (hx : a.eval x = vx) (h : wpList P ops Q rest (a.put o.dst v') w') : wpList P ops Q (o :: rest) a w := by
  refine wpList_plain hgd fun K hK => ?_
  unfold Oper.wp
  simp [execOp, ho, resolve, invoke, builtin, hs, hx, hr, Result.andThen]
  exact hK _ _ h

theorem wpList_copy_run (hgd : o.guard = none) (s x : Operand) (ts : Array TypeId) (ho : o.op = .call { callee := .builtin .copy, args := #[s, x], argTypes := ts }) {vs vx v' : Value}
    (hr : (Builtin.copy_ ts o.type #[vs, vx]).run P w = .ok v' w') (hs : a.eval s = vs) (hx : a.eval x = vx) (h : wpList P ops Q rest (a.put o.dst v') w') : wpList P ops Q (o :: rest) a w := by
  refine wpList_plain hgd fun K hK => ?_
  unfold Oper.wp
  simp [execOp, ho, resolve, invoke, builtin, hs, hx, hr, Result.andThen]
  exact hK _ _ h

/-- The same at a step of a region that draws its order. -/
theorem step_append_run {K : Act → World → Prop} {E : Prop} (hgd : o.guard = none) (s x : Operand) (ts : Array TypeId) (ho : o.op = .call { callee := .builtin .append, args := #[s, x], argTypes := ts }) {vs vx v' : Value}
    (hr : (Builtin.append_ ts o.type #[vs, vx]).run P w = .ok v' w') (hs : a.eval s = vs) (hx : a.eval x = vx) (h : K (a.put o.dst v') w') : if Region.wanted o (yielded ops a.tmps) = true then Oper.wp P o a w K Q else E := by
  have hw : Region.wanted o (yielded ops a.tmps) = true := by simp [Region.wanted, hgd]
  rw [if_pos hw]
  unfold Oper.wp
  simp [execOp, ho, resolve, invoke, builtin, hs, hx, hr, Result.andThen]
  exact h
end

section
variable {P : Program} {s n : Nat} {w : World} {v : Value} {cs : List Value}

theorem Sl.addr_or {w : World} (h : Sl s w v n cs) : (∃ a c, v = .slice (some a) n c) ∨ (v = .slice none 0 0 ∧ n = 0 ∧ cs = []) := by
  have h0 := h.1
  rcases h.2 with ⟨rfl, rfl | ⟨a, c, rfl, _⟩⟩ | ⟨b, o, cap, cur, fr, rfl, _⟩
  · exact .inr ⟨rfl, rfl, List.eq_nil_of_length_eq_zero (by simpa using h0)⟩
  · exact .inl ⟨_, _, rfl⟩
  · exact .inl ⟨_, _, rfl⟩

/-- append(x, y...), onto what the call owns. -/
theorem run_append_sl {t ty e : TypeId} {i : TypeInfo} {z : Value} {size bytes : Nat} (ht : P.underlying t = some (.slice e)) (hi : P.info? e = some i) (hz : i.zero = some z)
    (hsize : i.size = size) (hby : i.bytes = bytes) (hzs : z.cells.size = size) (hsz : 0 < size) {x : Value} {m : Nat} {xs : List Value} (hown : w.ownsRow 0 e size x m xs)
    (h : Sl size w v n cs) (h1 : ∀ u ∈ cs, u.oneCell' = true) (h63 : m + n ≤ maxLen) (hbytes : (m + n) * bytes ≤ 140737488355328) :
    ∃ v' w', (Builtin.append_ #[t, t] ty #[x, v]).run P w = .ok v' w' ∧ w'.ownsRow 0 e size v' (m + n) (xs ++ cs) ∧ w.grownBy w' x.ownBlock ∧ (v'.ownBlock = x.ownBlock ∨ v'.ownBlock = some w.heap.size) := by
  rcases h.addr_or with ⟨a, c, rfl⟩ | ⟨rfl, rfl, rfl⟩
  · obtain ⟨v', w', hr, h2, h3, _, h5⟩ := run_append_own_at (P := P) w 0 t ty e i z size bytes ht hi hz hsize hby hzs hsz x m xs hown a n c cs h.1 (h.cells rfl) h1 h63 hbytes (Nat.zero_le _)
    exact ⟨v', w', hr, h2, h3, h5⟩
  · have hr := run_append_owned_none (P := P) w 0 t ty e i size ht hi x m xs hown
    exact ⟨x, w, hr, by simpa using hown, ⟨rfl, rfl, rfl, Nat.le_refl _, fun _ _ _ => rfl⟩, .inl rfl⟩

/-- Cutting a slice: the part from l to h, with room to m. -/
theorem Sl.cut (h : Sl s w v n cs) {a : Option Addr} {c : Nat} (hv : v = .slice a n c) {l k m : Nat} (hlk : l ≤ k) (hkm : k ≤ m) (hmc : m ≤ c) (hkn : k ≤ n) :
    Sl s w (sliced a l k m s) (k - l) ((cs.drop (l * s)).take ((k - l) * s)) := by
  have h0 := h.1
  refine ⟨?_, ?_⟩
  · rw [List.length_take, List.length_drop, h0, Nat.sub_mul]
    have : k * s ≤ n * s := Nat.mul_le_mul_right s hkn
    omega
  · unfold sliced
    rcases h.2 with ⟨rfl, h1⟩ | ⟨b, o, cap, cur, fr, e, hb, hn, hc, hf, hcs⟩
    · have hk : k = 0 := by omega
      have hl : l = 0 := by omega
      subst hk; subst hl
      left
      refine ⟨rfl, ?_⟩
      rcases h1 with h1 | ⟨a', c', h1, hc'⟩
      · rw [h1] at hv
        injection hv with e1 e2 e3
        have : m = 0 := by omega
        subst this
        rw [← e1]
        simp
      · rw [h1] at hv
        injection hv with e1 e2 e3
        rw [← e1]
        by_cases hm : m = 0
        · subst hm; exact .inr ⟨a', 0, by simp, by unfold maxLen; omega⟩
        · refine .inr ⟨a', m, by simp [Addr.add], by omega⟩
    · rw [e] at hv
      injection hv with e1 e2 e3
      subst e1; subst e3
      by_cases hml : m = l
      · have : k = l := by omega
        subst this
        left
        refine ⟨by omega, .inr ⟨⟨b, o, none⟩, m - k, by simp [hml], by omega⟩⟩
      · rw [if_neg hml]
        simp only [Option.map_some, add_addr]
        by_cases hz : k - l = 0
        · left
          refine ⟨hz, .inr ⟨⟨b, o + l * s, none⟩, m - l, by rw [hz], by omega⟩⟩
        · right
          refine ⟨b, o + l * s, m - l, cur, fr, rfl, hb, by omega, by omega, ?_, ?_⟩
          · have : (m - l) * s = m * s - l * s := Nat.sub_mul _ _ _
            have h2 : m * s ≤ cap * s := Nat.mul_le_mul_right s hmc
            have h3 : l * s ≤ m * s := Nat.mul_le_mul_right s (by omega)
            omega
          · intro i x hx
            rw [List.getElem?_take] at hx
            split at hx
            · rw [List.getElem?_drop] at hx
              have := hcs (l * s + i) x hx
              rw [show o + l * s + i = o + (l * s + i) by omega]
              exact this
            · cases hx

end

section
variable {P : Program} {w : World} {v : Value} {l : List UInt8}

theorem Byt.cut (h : Byt w v l) {a : Option Addr} {c : Nat} (hv : v = .slice a l.length c) {i k m : Nat} (hik : i ≤ k) (hkm : k ≤ m) (hmc : m ≤ c) (hkn : k ≤ l.length) :
    Byt w (sliced a i k m 1) ((l.drop i).take (k - i)) := by
  have := Sl.cut h hv hik hkm hmc hkn
  unfold Byt
  rw [← byV_take, ← byV_drop]
  rw [Nat.mul_one, Nat.mul_one] at this
  have hl : ((l.drop i).take (k - i)).length = k - i := by simp; omega
  rw [hl]
  exact this

theorem size_u8 (W : World) : (sizeOf (Tryz.prog.elem 24)).run Tryz.prog W = .ok 1 W := by kernel_rfl

theorem elem_u8 : Tryz.prog.elem 24 = 5 := by kernel_rfl
theorem slice_u8 : Tryz.prog.underlying 24 = some (.slice (Tryz.prog.elem 24)) := by rw [elem_u8]; exact Tryz.underlying24

/-- v[k:] of bytes. -/
theorem Byt.from_ (h : Byt w v l) {k : Nat} (hk : k ≤ l.length) : ∃ d, (∀ W, (Instr.slice 24 v (some (.int .i64 (k : Int))) none none).run Tryz.prog W = .ok d W) ∧ Byt w d (l.drop k) := by
  obtain ⟨a, c, rfl, hc, _⟩ := Sl.form h
  refine ⟨sliced a k l.length c 1, fun W => ?_, ?_⟩
  · rw [run_slice_l (P := Tryz.prog) W 24 a l.length c slice_u8 .i64 k (by omega) (by omega), size_u8]
    simp [Result.andThen]
  · have := Byt.cut h rfl (i := k) (k := l.length) (m := c) hk hc (Nat.le_refl _) (Nat.le_refl _)
    rwa [List.take_of_length_le (by simp)] at this

/-- v[:k:k] of bytes. -/
theorem Byt.to_ (h : Byt w v l) {k : Nat} (hk : k ≤ l.length) : ∃ d, (∀ W, (Instr.slice 24 v none (some (.int .i64 (k : Int))) (some (.int .i64 (k : Int)))).run Tryz.prog W = .ok d W) ∧ Byt w d (l.take k) := by
  obtain ⟨a, c, rfl, hc, _⟩ := Sl.form h
  refine ⟨sliced a 0 k k 1, fun W => ?_, ?_⟩
  · rw [run_slice_hm (P := Tryz.prog) W 24 a l.length c slice_u8 .i64 .i64 k k (by omega) (by omega) (by omega), size_u8]
    simp [Result.andThen]
  · have := Byt.cut h rfl (i := 0) (k := k) (m := k) (by omega) (Nat.le_refl _) (by omega) hk
    simpa using this

/-- v[i:k] of bytes. -/
theorem Byt.part (h : Byt w v l) {i k : Nat} (hik : i ≤ k) (hk : k ≤ l.length) : ∃ d, (∀ W, (Instr.slice 24 v (some (.int .i64 (i : Int))) (some (.int .i64 (k : Int))) none).run Tryz.prog W = .ok d W) ∧ Byt w d ((l.drop i).take (k - i)) := by
  obtain ⟨a, c, rfl, hc, _⟩ := Sl.form h
  refine ⟨sliced a i k c 1, fun W => ?_, ?_⟩
  · rw [run_slice_lh (P := Tryz.prog) W 24 a l.length c slice_u8 .i64 .i64 i k (by omega) (by omega) (by omega), size_u8]
    simp [Result.andThen]
  · exact Byt.cut h rfl hik (by omega) (Nat.le_refl _) hk

/-- v[i:k:k] of bytes. -/
theorem Byt.part3 (h : Byt w v l) {i k : Nat} (hik : i ≤ k) (hk : k ≤ l.length) : ∃ d, (∀ W, (Instr.slice 24 v (some (.int .i64 (i : Int))) (some (.int .i64 (k : Int))) (some (.int .i64 (k : Int)))).run Tryz.prog W = .ok d W) ∧ Byt w d ((l.drop i).take (k - i)) := by
  obtain ⟨a, c, rfl, hc, _⟩ := Sl.form h
  refine ⟨sliced a i k k 1, fun W => ?_, ?_⟩
  · rw [run_slice_lhm (P := Tryz.prog) W 24 a l.length c slice_u8 .i64 .i64 .i64 i k k (by omega) (by omega) (by omega) (by omega), size_u8]
    simp [Result.andThen]
  · exact Byt.cut h rfl hik (Nat.le_refl _) (by omega) hk

/-- append(x, y...) of bytes. -/
theorem run_append_byt {ty : TypeId} {x : Value} {xs : List UInt8} (hown : w.ownsRow 0 5 1 x xs.length (byV xs)) (h : Byt w v l) (hb : xs.length + l.length ≤ 140737488355328) :
    ∃ v' w', (Builtin.append_ #[24, 24] ty #[x, v]).run Tryz.prog w = .ok v' w' ∧ w'.ownsRow 0 5 1 v' (xs.length + l.length) (byV (xs ++ l)) ∧ w.grownBy w' x.ownBlock ∧ (v'.ownBlock = x.ownBlock ∨ v'.ownBlock = some w.heap.size) := by
  have info_u8 : (Tryz.prog.info? 5).map (fun i => (i.zero, i.size, i.bytes)) = some (some (.int .u8 0), 1, 1) := by kernel_rfl
  obtain ⟨i, hi, hz, hs, hby⟩ := info_parts info_u8
  have := run_append_sl (P := Tryz.prog) (ty := ty) Tryz.underlying24 hi hz hs hby rfl (by omega) hown h (byV_one l) (by unfold maxLen; omega) (by omega)
  rw [← byV_append] at this
  exact this

/-- What a copy makes of a row. -/
def over (xs : List UInt8) (at_ : Nat) (ys : List UInt8) : List UInt8 := xs.take at_ ++ ys ++ xs.drop (at_ + ys.length)

theorem info_u8 : (Tryz.prog.info? 5).map (·.size) = some 1 := by kernel_rfl

theorem splice_take {α : Type} (L X Y : List α) (a n : Nat) {k : Nat} (ha : a + k ≤ n) (hy : Y.length = k) (hn : n ≤ L.length) (_h : a ≤ n) (hx : L.take n = X) :
    (L.take a ++ (Y ++ L.drop (a + k))).take n = X.take a ++ Y ++ X.drop (a + k) := by
  subst hx
  rw [List.take_append, List.take_append, List.length_take, hy, List.take_of_length_le (l := L.take a) (by rw [List.length_take]; omega), List.take_of_length_le (l := Y) (by omega), List.drop_take, List.take_take,
    show min a L.length = a by omega, show min a n = a by omega, show n - a - k = n - (a + k) by omega, List.append_assoc]

/-- copy(x[at:], y), x owned. -/
theorem run_copy_byt {ty : TypeId} {b c at_ : Nat} {xs : List UInt8} {n : Nat} (hown : w.ownsRow 0 5 1 (.slice (some ⟨b, 0, none⟩) n c) n (byV xs)) (h : Byt w v l) (hat : at_ ≤ n) :
    ∃ w', (Builtin.copy_ #[24, 24] ty #[sliced (some ⟨b, 0, none⟩) at_ n c 1, v]).run Tryz.prog w = .ok (.int .i64 ((min l.length (n - at_) : Nat) : Int)) w' ∧
      w'.ownsRow 0 5 1 (.slice (some ⟨b, 0, none⟩) n c) n (byV (over xs at_ (l.take (n - at_)))) ∧ w.grownBy w' (some b) ∧ w'.heap.size = w.heap.size := by
  have hx := hown.1
  rw [byV_length, Nat.mul_one] at hx
  rcases hown.2 with ⟨hv, _⟩ | ⟨g, cap, cur, hv, _, hg, hnc, hcm, hcs, ht⟩
  · cases hv
  · injection hv with e1 _ e3
    injection e1 with e1
    injection e1 with e1
    subst e1; subst e3
    rw [Nat.mul_one] at hcs ht
    obtain ⟨sa, sc, rfl, hsc, _⟩ := Sl.form h
    by_cases h0 : min l.length (n - at_) = 0
    · have hrun : (Builtin.copy_ #[24, 24] ty #[sliced (some ⟨b, 0, none⟩) at_ n c 1, .slice sa l.length sc]).run Tryz.prog w = .ok (goInt 0) w := by
        unfold sliced
        generalize (if c = at_ then _ else _) = da
        exact run_copy_none (P := Tryz.prog) w 24 24 ty 5 da sa (n - at_) (c - at_) l.length sc Tryz.underlying24 info_u8 (by simpa using h0)
      refine ⟨w, by rw [hrun, h0]; rfl, ?_, ⟨rfl, rfl, rfl, Nat.le_refl _, fun _ _ _ => rfl⟩, rfl⟩
      have : l.take (n - at_) = [] := by
        rw [← List.length_eq_zero_iff, List.length_take]; omega
      rw [this]
      have e : over xs at_ [] = xs := by simp [over]
      rw [e]
      exact hown
    · have hca : ¬ c = at_ := by omega
      have hsa : ∃ ad, sa = some ad := by
        rcases h.2 with ⟨h1, _⟩ | ⟨b', o, cap', cur', fr, e, _⟩
        · omega
        · injection e with e; exact ⟨_, e⟩
      obtain ⟨ad, rfl⟩ := hsa
      have hsrc : ∀ j u, (byV (l.take (n - at_)))[j]? = some u → w.cell? (ad.add j) = some u := by
        intro j u hu
        rw [← byV_take, List.getElem?_take] at hu
        split at hu
        · exact Sl.cells h rfl j u hu
        · cases hu
      have hrun := run_copy_row (P := Tryz.prog) w 24 24 ty 5 b at_ (n - at_) (c - at_) ad l.length sc cur 5 (byV (l.take (n - at_))) Tryz.underlying24 info_u8 hg
        (by rw [byV_length, List.length_take]; exact Nat.min_comm _ _) hsrc (by rw [byV_length, List.length_take]; omega) (byV_one _)
      have hwlen : (byV (l.take (n - at_))).length = min (n - at_) l.length := by rw [byV_length, List.length_take]
      generalize hrowdef : (List.take at_ cur.toList ++ byV (l.take (n - at_)) ++ List.drop (at_ + (byV (l.take (n - at_))).length) cur.toList).toArray = row at hrun
      refine ⟨w.setRow b row, ?_, ⟨?_, .inr ⟨b, c, row, rfl, Nat.zero_le _, setRow_heap w b cur row _ _ hg, hnc, hcm, ?_, ?_⟩⟩, ⟨rfl, rfl, rfl, by simp [World.setRow], fun k _ hk => setRow_other w b k _ (fun e => hk (by rw [e]))⟩, by simp [World.setRow]⟩
      · unfold sliced
        rw [if_neg hca]
        simp only [Option.map_some, add_addr, Nat.mul_one, Nat.zero_add]
        rw [hrun]
        rw [byV_length, List.length_take, Nat.min_comm]
        rfl
      · rw [byV_length]
        simp only [over, List.length_append, List.length_take, List.length_drop]
        omega
      · subst hrowdef
        simp only [List.size_toArray, List.length_append, List.length_take, List.length_drop, Array.length_toList, byV_length]
        omega
      · subst hrowdef
        have hy : (byV (l.take (n - at_))).length = min (n - at_) l.length := by rw [byV_length, List.length_take]
        have hyl : (l.take (n - at_)).length = min (n - at_) l.length := List.length_take
        simp only [over, byV_append, ← byV_take, ← byV_drop, hyl]
        rw [Nat.mul_one, byV_take, byV_length, hyl, List.append_assoc]
        refine splice_take _ _ _ _ _ ?_ hy ?_ ?_ ht
        · omega
        · simp only [Array.length_toList]; omega
        · omega

/-- copy(x[at:], y), x owned, nil or not: what x[at:] is, and what the copy does. -/
theorem run_over_byt {ty : TypeId} {x : Value} {at_ : Nat} {xs : List UInt8} {n : Nat} (hown : w.ownsRow 0 5 1 x n (byV xs)) (h : Byt w v l) (hat : at_ ≤ n) :
    ∃ d w', (∀ W, (Instr.slice 24 x (some (.int .i64 (at_ : Int))) none none).run Tryz.prog W = .ok d W) ∧
      (Builtin.copy_ #[24, 24] ty #[d, v]).run Tryz.prog w = .ok (.int .i64 ((min l.length (n - at_) : Nat) : Int)) w' ∧
      w'.ownsRow 0 5 1 x n (byV (over xs at_ (l.take (n - at_)))) ∧ w.grownBy w' x.ownBlock ∧ w'.heap.size = w.heap.size := by
  rcases hown.2 with ⟨rfl, rfl⟩ | ⟨g, cap, cur, rfl, _, _, hnc, _⟩
  · have h0 : at_ = 0 := by omega
    subst h0
    have hx := hown.1
    rw [byV_length, Nat.zero_mul] at hx
    have hxs : xs = [] := List.eq_nil_of_length_eq_zero hx
    subst hxs
    refine ⟨.slice none 0 0, w, fun W => ?_, ?_, ?_, ⟨rfl, rfl, rfl, Nat.le_refl _, fun _ _ _ => rfl⟩, rfl⟩
    · rw [run_slice_l (P := Tryz.prog) W 24 none 0 0 slice_u8 .i64 ((0 : Nat) : Int) (by omega) (by omega), size_u8]
      simp [Result.andThen, sliced]
    · obtain ⟨sa, sc, rfl, _, _⟩ := Sl.form h
      have hr := run_copy_none (P := Tryz.prog) w 24 24 ty 5 none sa 0 0 l.length sc Tryz.underlying24 info_u8 (by simp)
      rw [hr]
      simp [goInt]
    · simpa [over] using hown
  · obtain ⟨w', h1, h2, h3, h4⟩ := run_copy_byt (ty := ty) hown h hat
    refine ⟨sliced (some ⟨g, 0, none⟩) at_ n cap 1, w', fun W => ?_, h1, h2, h3, h4⟩
    rw [run_slice_l (P := Tryz.prog) W 24 _ n cap slice_u8 .i64 (at_ : Int) (by omega) (by omega), size_u8]
    simp [Result.andThen]

/-- Bytes laid over, and what is left of them behind: a change. -/
theorem over_more (x b : List UInt8) (at_ : Nat) (h : at_ ≤ x.length) :
    over x at_ (b.take (x.length - at_)) ++ b.drop (min b.length (x.length - at_)) = x.take at_ ++ b ++ x.drop (at_ + b.length) := by
  unfold over
  by_cases hb : b.length ≤ x.length - at_
  · rw [List.take_of_length_le hb, Nat.min_eq_left hb, List.drop_length, List.append_nil]
  · have e : (b.take (x.length - at_)).length = x.length - at_ := by rw [List.length_take]; omega
    rw [e, Nat.min_eq_right (by omega), List.drop_eq_nil_of_le (show x.length ≤ at_ + (x.length - at_) by omega), List.drop_eq_nil_of_le (show x.length ≤ at_ + b.length by omega), List.append_nil, List.append_nil, List.append_assoc, List.take_append_drop]

end
end Go.Stk

/- Inside the disk: a file's change. -/
namespace Go.Stk
open Go Go.RowKit Go.Proofs

section
variable {w : World} {g : Nat} {fs : Fs} {G : FG} {u : Int}

/-- A call answers bytes; nothing that was there has changed. -/
def RetByt (w : World) (l : List UInt8) (e : Ending) (w' : World) : Prop := ∃ v, e = .returned v ∧ Byt w' v l ∧ Keep (fun _ => False) w w'

set_option maxRecDepth 100000 in
set_option maxHeartbeats 800000 in
theorem chdo_cut {at_ : Nat} {bv v : Value} {x : List UInt8} (hx : Byt w v x) (hat : at_ ≤ x.length) :
    Calls Tryz.prog 117 #[.agg #[.bool true, .int .i64 (at_ : Int), bv], v] w (RetByt w (x.take at_)) := by
  obtain ⟨d, hd, hdb⟩ := hx.to_ hat
  obtain ⟨a, c, rfl⟩ := hx.len
  have hk := Keep.alloc (Keep.refl (fun _ => False) w) (.cells #[.bool true, .int .i64 (at_ : Int), bv] 126)
  have FIN := hid (show RetByt w (x.take at_) (.returned d) (w.alloc (.cells #[.bool true, .int .i64 (at_ : Int), bv] 126)) from ⟨d, rfl, hdb.keep hk, hk⟩)
  clear hx hdb hk hat
  go_enter Tryz.func117, Tryz.ntmps117
  go_wp2
  go_ret
  exact FIN.out

set_option maxRecDepth 100000 in
set_option maxHeartbeats 1600000 in
theorem chdo_bytes {at_ : Nat} {bv v : Value} {x b : List UInt8} (hx : Byt w v x) (hb : Byt w bv b) (hat : at_ ≤ x.length) (hl : x.length + b.length ≤ 70368744177664) :
    Calls Tryz.prog 117 #[.agg #[.bool false, .int .i64 (at_ : Int), bv], v] w (RetByt w (x.take at_ ++ b ++ x.drop (at_ + b.length))) := by
  -- the world behind the box, and behind the first append
  have hk0 := Keep.alloc (Keep.refl (fun _ => False) w) (.cells #[.bool false, .int .i64 (at_ : Int), bv] 126)
  obtain ⟨v1, w1, hr1, hown1, hg1, hat1⟩ := run_append_byt (ty := 24) (x := .slice none 0 0) (xs := []) (w := w.alloc (.cells #[.bool false, .int .i64 (at_ : Int), bv] 126)) (World.ownsRow_nil _ _ _ _) (hx.keep hk0) (by simp; omega)
  rw [List.nil_append, List.length_nil, Nat.zero_add] at hown1
  have hbox := blk_new w (.cells #[.bool false, .int .i64 (at_ : Int), bv] 126)
  have hbox1 : w1.heap[w.heap.size]? = _ := (hg1.block w.heap.size (by simp) (by simp [Value.ownBlock])).trans hbox
  have hk1 : Keep (fun _ => False) w w1 := KeepN.row hk0 hg1 (by simp) (fun k hk => by simp [Value.ownBlock] at hk)
  have hfresh : ∀ k, v1.ownBlock = some k → w.heap.size < k := by
    intro k hk
    rcases hat1 with e | e
    · rw [hk] at e; simp [Value.ownBlock] at e
    · rw [hk] at e; injection e with e; simp at e; omega
  -- the copy
  obtain ⟨d, w2, hsl, hr2, hown2, hg2, hs2⟩ := run_over_byt (ty := 3) (w := w1.drew) hown1.drew (hb.keep hk1).drew hat
  have hk2 : Keep (fun _ => False) w w2 := KeepN.row hk1.drew hg2 (hk1.size) (fun k hk => .inl (Nat.le_of_lt (hfresh k hk)))
  have hbox2 : w2.heap[w.heap.size]? = _ := (hg2.block w.heap.size (lt_of hbox1) (fun e => by have := hfresh _ e.symm; omega)).trans hbox1
  -- what is left is appended
  obtain ⟨d3, hsl3, hd3⟩ := (hb.keep hk2).from_ (Nat.min_le_left b.length (x.length - at_))
  have hlen2 : x.length = (over x at_ (b.take (x.length - at_))).length := by
    have := hown2.1
    rw [byV_length, Nat.mul_one] at this
    exact this.symm
  obtain ⟨v4, w4, hr4, hown4, hg4, hat4⟩ := run_append_byt (ty := 24) (w := w2) (x := v1) (xs := over x at_ (b.take (x.length - at_))) (by rw [← hlen2]; exact hown2) hd3 (by
    rw [← hlen2, List.length_drop]; omega)
  have hk4 : Keep (fun _ => False) w w4 := KeepN.row hk2 hg4 (hk2.size) (fun k hk => .inl (Nat.le_of_lt (hfresh k hk)))
  rw [over_more x b at_ hat] at hown4
  have FIN := hid (show RetByt w (x.take at_ ++ b ++ x.drop (at_ + b.length)) (.returned v4) w4 from ⟨v4, rfl, Byt.of_own hown4, hk4⟩)
  have hcw := cell_of hbox
  have hc1 := cell_of hbox1
  have hc2 := cell_of hbox2
  obtain ⟨xa, xc, rfl⟩ := hx.len
  obtain ⟨ba, bc, rfl⟩ := hb.len
  generalize hmn : min b.length (x.length - at_) = mn at *
  have HM := hid hmn
  clear hown4 hk4 hat4 hd3 hlen2 hown2 hk2 hg2 hs2 hat1 hfresh hk1 hbox hbox1 hbox2 hg1 hg4 hown1 hk0 hx hb hmn hl
  go_enter Tryz.func117, Tryz.ntmps117
  go_wp2_with (at_builtin; refine wpList_append_run rfl _ _ _ rfl hr1 rfl rfl ?_)
  go_still_tail 6, (by kernel_rfl)
  change wpList _ _ _ _ _ w1.drew
  refine wpList_copy_run rfl _ _ _ rfl hr2 rfl rfl ?_
  go_wp2_with (at_builtin; refine wpList_append_run rfl _ _ _ rfl hr4 rfl rfl ?_)
  go_ret
  exact FIN.out

theorem chdo_any (c : Ch) {bv v : Value} {x : List UInt8} (hx : Byt w v x) (hb : Byt w bv c.b) (hat : c.at_ ≤ x.length) (hl : x.length + c.b.length ≤ 70368744177664) :
    Calls Tryz.prog 117 #[.agg #[.bool c.cut, .int .i64 (c.at_ : Int), bv], v] w (RetByt w (c.do x)) := by
  cases hc : c.cut with
  | true =>
    have e : c.do x = x.take c.at_ := by simp [Ch.do, hc]
    rw [e]
    exact chdo_cut hx hat
  | false =>
    have e : c.do x = x.take c.at_ ++ c.b ++ x.drop (c.at_ + c.b.length) := by simp [Ch.do, hc]
    rw [e]
    exact chdo_bytes hx hb hat hl

end
end Go.Stk

/- Inside the disk: a change of a file is done. -/
namespace Go.Stk
open Go Go.RowKit Go.Proofs

theorem info_change : (Tryz.prog.info? 126).map (fun i => (i.zero, i.size, i.bytes)) = some (some (.agg #[.bool false, .int .i64 0, .slice none 0 0]), 3, 40) := by kernel_rfl

theorem split_at {α : Type} {l : List α} {i : Nat} {x : α} (h : l[i]? = some x) : l = l.take i ++ x :: l.drop (i + 1) ∧ ∀ y, l.set i y = l.take i ++ y :: l.drop (i + 1) := by
  obtain ⟨hl, rfl⟩ := List.getElem?_eq_some_iff.1 h
  refine ⟨?_, fun y => ?_⟩
  · rw [List.getElem_cons_drop, List.take_append_drop]
  · rw [List.set_eq_take_append_cons_drop, if_pos hl]

section
variable {w : World} {g : Nat} {fs : Fs} {G : FG} {u : Int}

/-- A file's row stands anew: its block is the old one, or a new one. -/
theorem FG.blocks_file {G : FG} {g i x H : Nat} {vr vr' : Value} (h : (G.blocks g).Nodup) (hlt : ∀ k ∈ G.blocks g, k < H) (hx : G.xs[i]? = some (x, vr)) {b : Nat} (hv : vr'.ownBlock = some b) (hb : vr.ownBlock = some b ∨ H ≤ b) :
    ((({ G with xs := G.xs.set i (x, vr') } : FG)).blocks g).Nodup ∧ ∀ k ∈ (({ G with xs := G.xs.set i (x, vr') } : FG)).blocks g, k ∈ G.blocks g ∨ H ≤ k := by
  obtain ⟨e1, e2⟩ := split_at hx
  rcases hb with hb | hb
  · have e : (({ G with xs := G.xs.set i (x, vr') } : FG)).blocks g = G.blocks g := by
      simp only [FG.blocks, e2]
      conv => rhs; rw [e1]
      simp only [List.flatMap_append, List.flatMap_cons, fileBlocks, hv, hb]
    rw [e]
    exact ⟨h, fun k hk => .inl hk⟩
  · obtain ⟨Z, hZ⟩ : ∃ Z, Z = g :: G.mf :: G.ms :: G.mn :: (G.vrow.ownBlock.toList ++ (G.xs.take i).flatMap fileBlocks) := ⟨_, rfl⟩
    have hold : G.blocks g = Z ++ (x :: vr.ownBlock.toList) ++ (G.xs.drop (i + 1)).flatMap fileBlocks := by
      rw [hZ]
      simp only [FG.blocks]
      conv => lhs; rw [e1]
      simp [List.flatMap_append, List.flatMap_cons, fileBlocks]
    have hnew : (({ G with xs := G.xs.set i (x, vr') } : FG)).blocks g = Z ++ (x :: [b]) ++ (G.xs.drop (i + 1)).flatMap fileBlocks := by
      rw [hZ]
      simp only [FG.blocks, e2]
      simp [List.flatMap_append, List.flatMap_cons, fileBlocks, hv]
    have hsub : (Z ++ [x] ++ (G.xs.drop (i + 1)).flatMap fileBlocks).Sublist (G.blocks g) := by
      rw [hold]
      refine List.Sublist.append (List.Sublist.append (List.Sublist.refl _) ?_) (List.Sublist.refl _)
      exact (List.nil_sublist _).cons_cons x
    have hperm : ((({ G with xs := G.xs.set i (x, vr') } : FG)).blocks g).Perm (b :: (Z ++ [x] ++ (G.xs.drop (i + 1)).flatMap fileBlocks)) := by
      rw [hnew]
      have := List.perm_middle (a := b) (l₁ := Z ++ [x]) (l₂ := (G.xs.drop (i + 1)).flatMap fileBlocks)
      simpa using this
    refine ⟨hperm.nodup_iff.2 (List.nodup_cons.2 ⟨fun hm => ?_, hsub.nodup h⟩), fun k hk => ?_⟩
    · have := hlt b (hsub.subset hm)
      omega
    · rcases List.mem_cons.1 (hperm.mem_iff.1 hk) with rfl | hk
      · exact .inr hb
      · exact .inl (hsub.subset hk)

/-- The blocks of one file are not those of another, nor the disk's own. -/
theorem FG.file_apart {G : FG} {g i : Nat} {p : Nat × Value} (h : (G.blocks g).Nodup) (hx : G.xs[i]? = some p) :
    (∀ k ∈ fileBlocks p, k ≠ g ∧ k ≠ G.mf ∧ k ≠ G.ms ∧ k ≠ G.mn ∧ G.vrow.ownBlock ≠ some k) ∧ ∀ j q, j ≠ i → G.xs[j]? = some q → ∀ k ∈ fileBlocks p, k ∉ fileBlocks q := by
  have hnd2 := h
  simp only [FG.blocks, List.nodup_cons, List.mem_cons, List.mem_append, not_or] at hnd2
  obtain ⟨⟨g1, g2, g3, g4, g5⟩, ⟨f1, f2, f3, f4⟩, ⟨s1, s2, s3⟩, ⟨n1, n2⟩, hnd3⟩ := hnd2
  have hmem : ∀ k ∈ fileBlocks p, k ∈ G.xs.flatMap fileBlocks := fun k hk => List.mem_flatMap.2 ⟨p, List.mem_of_getElem? hx, hk⟩
  refine ⟨fun k hk => ⟨?_, ?_, ?_, ?_, ?_⟩, fun j q hj hq k hk hkq => ?_⟩
  · rintro rfl; exact g5 (hmem k hk)
  · rintro rfl; exact f4 (hmem _ hk)
  · rintro rfl; exact s3 (hmem _ hk)
  · rintro rfl; exact n2 (hmem _ hk)
  · intro e
    exact (List.nodup_append.1 hnd3).2.2 k (by simp [e]) k (hmem k hk) rfl
  · have hnd4 := (List.nodup_append.1 hnd3).2.1
    have hpw := List.pairwise_flatMap.1 hnd4 |>.2
    have hij := List.pairwise_iff_getElem.1 hpw
    obtain ⟨hi', ei⟩ := List.getElem?_eq_some_iff.1 hx
    obtain ⟨hj', ej⟩ := List.getElem?_eq_some_iff.1 hq
    rcases Nat.lt_or_gt_of_ne hj with hlt | hgt
    · have := hij j i hj' hi' hlt
      rw [ei, ej] at this
      exact this k hkq k hk rfl
    · have := hij i j hi' hj' hgt
      rw [ei, ej] at this
      exact this k hk k hkq rfl

/-- A file stands anew. -/
theorem IsFSu.refiled {w' : World} {i x b : Nat} {vr vr' : Value} {f' : Fl} (h : IsFSu w g fs G u) (hx : G.xs[i]? = some (x, vr))
    (hk : Keep (fun k => k ∈ fileBlocks (x, vr)) w w') (hf : IsFile w' x vr' f') (hv : vr'.ownBlock = some b) (hb : vr.ownBlock = some b ∨ w.heap.size ≤ b)
    (hwf : ({ fs with files := fs.files.set i f' } : Fs).WF) :
    ∃ G', IsFSu w' g { fs with files := fs.files.set i f' } G' u ∧ Adv g G G' w w' := by
  have hbl := FG.blocks_file h.nd h.lt hx hv hb
  obtain ⟨ha, ha2⟩ := FG.file_apart h.nd hx
  have hs := h.kms; have hn := h.kmn; have hf' := h.kmf
  have hil : i < fs.files.length := by rw [← h.len]; exact (List.getElem?_eq_some_iff.1 hx).1
  refine ⟨{ G with xs := G.xs.set i (x, vr') }, ⟨?_, ?_, ?_, ?_, ?_, by simp [h.len], ?_, hbl.1, hwf⟩, ⟨hk.mono ?_, hbl.2⟩⟩
  · have := (hk.block g (lt_of h.top) (fun e => (ha g e).1 rfl)).trans h.top
    simpa using this
  · obtain ⟨E, a, b'⟩ := hs
    exact ⟨E, a.of_block (hk.block _ a.lt (fun e => (ha _ e).2.2.1 rfl)), b'⟩
  · obtain ⟨E, a, b'⟩ := hn
    exact ⟨E, a.of_block (hk.block _ a.lt (fun e => (ha _ e).2.2.2.1 rfl)), b'⟩
  · obtain ⟨E, a, b'⟩ := hf'
    refine ⟨E, a.of_block (hk.block _ a.lt (fun e => (ha _ e).2.1 rfl)), ?_⟩
    have e : ∀ (k i : Nat) (xs : List (Nat × Value)), xs[i]? = some (x, vr) → filV k (xs.set i (x, vr')) = filV k xs := by
      intro k i xs
      induction xs generalizing k i with
      | nil => intro h; simp at h
      | cons p r ih =>
        intro h
        cases i with
        | zero =>
          simp only [List.getElem?_cons_zero, Option.some.injEq] at h
          subst h
          rfl
        | succ i =>
          simp only [List.getElem?_cons_succ] at h
          simp only [List.set_cons_succ, filV, ih (k + 1) i h]
    show E.Perm (filV 1 (G.xs.set i (x, vr')))
    rw [e 1 i G.xs hx]
    exact b'
  · exact ownsRow_block h.row (fun k hk' => hk.block k (h.row.lt k hk').2 (fun e => (ha k e).2.2.2.2 hk'))
  · intro j p f hp hfi
    by_cases hj : j = i
    · subst hj
      have hxl : j < G.xs.length := by rw [h.len]; exact hil
      have e1 : (G.xs.set j (x, vr'))[j]? = some (x, vr') := by simp [hxl]
      have e2 : (fs.files.set j f')[j]? = some f' := by simp [hil]
      have hp' : some p = some (x, vr') := hp.symm.trans e1
      have hf'' : some f = some f' := hfi.symm.trans e2
      injection hp' with hp'
      injection hf'' with hf''
      rw [hp', hf'']
      exact hf
    · have hp' : G.xs[j]? = some p := by
        have : (G.xs.set i (x, vr'))[j]? = G.xs[j]? := by simp [Ne.symm hj]
        rw [← this]; exact hp
      have hf'' : fs.files[j]? = some f := by
        have : (fs.files.set i f')[j]? = fs.files[j]? := by simp [Ne.symm hj]
        rw [← this]; exact hfi
      exact (h.fl j p f hp' hf'').keep hk (fun k hkp hkx => ha2 j p hj hp' k hkx hkp)
  · intro k hk'
    exact mem_blocks_file (List.mem_of_getElem? hx) hk'

end
end Go.Stk

/- Inside the disk: a change of a file is done (the call). -/
namespace Go.Stk
open Go Go.RowKit Go.Proofs

section
variable {w : World} {g : Nat} {fs : Fs} {G : FG} {u : Int}

/-- Behind the first statement: the file's bytes are new ones. -/
def ChMid (w : World) (x : Nat) (vs vr : Value) (c : Ch) (bv : Value) (l : List UInt8) (wx : World) : Prop :=
  ∃ v1, wx.heap[x]? = some (.cells #[vs, v1, vr] 118 (0, 0)) ∧ Byt wx v1 l ∧ wx.heap[w.heap.size]? = some (.cells #[.bool c.cut, .int .i64 (c.at_ : Int), bv] 126 (0, 0)) ∧ Keep (fun k => k = x) w wx

theorem change_mid {x : Nat} {vs vn vr v1 bv : Value} {c : Ch} {l : List UInt8} {W1 w2 : World} (hb : w.heap[x]? = some (.cells #[vs, vn, vr] 118 (0, 0)))
    (hW : w.alloc (.cells #[.bool c.cut, .int .i64 (c.at_ : Int), bv] 126) = W1) (hv : Byt w2 v1 l) (hk : Keep (fun _ => False) W1.drew w2) :
    ChMid w x vs vr c bv l (w2.setCell ⟨x, 1, none⟩ v1) := by
  subst hW
  have hlt := lt_of hb
  have hbw : w2.heap[x]? = _ := (hk.block x (by show x < (w.alloc _).heap.size; simp; omega) (fun h => h)).trans (blk_alloc hb _)
  have hbb : w2.heap[w.heap.size]? = _ := (hk.block w.heap.size (by show _ < (w.alloc _).heap.size; simp) (fun h => h)).trans (blk_new w _)
  have hk2 : Keep (fun k => k = x) w w2 := KeepN.trans (Keep.alloc (Keep.refl (fun k => k = x) w) _).drew hk (fun _ h => h.elim)
  have hk3 : Keep (fun k => k = x) w2 (w2.setCell ⟨x, 1, none⟩ v1) := keep_set hbw notImm_file 1 v1
  exact ⟨v1, by rw [blk_set hbw]; rfl, hv.keep hk3, (blk_set_ne (by omega) 1 _).trans hbb, hk2.trans hk3 (fun i hi => .inl hi)⟩

/-- A file's row of changes does not stand in the file's own block. -/
theorem IsFSu.file_self {i x : Nat} {vr : Value} (h : IsFSu w g fs G u) (hx : G.xs[i]? = some (x, vr)) : vr.ownBlock ≠ some x := by
  intro e
  have hm2 : fileBlocks (x, vr) = [x, x] := by simp [fileBlocks, e]
  have hsub : (fileBlocks (x, vr)).Sublist (G.blocks g) := by
    obtain ⟨e1, _⟩ := split_at hx
    have e2 : G.xs.flatMap fileBlocks = (G.xs.take i).flatMap fileBlocks ++ (fileBlocks (x, vr) ++ (G.xs.drop (i + 1)).flatMap fileBlocks) := by
      conv => lhs; rw [e1]
      rw [List.flatMap_append, List.flatMap_cons]
    have s1 : (fileBlocks (x, vr)).Sublist (G.xs.flatMap fileBlocks) := by
      rw [e2]
      exact (List.sublist_append_left _ _).trans (List.sublist_append_right _ _)
    refine s1.trans ?_
    simp only [FG.blocks]
    exact ((((List.sublist_append_right _ _).cons _).cons _).cons _).cons _
  have := hsub.nodup h.nd
  rw [hm2] at this
  simp at this

theorem change_fin {i x gg cap : Nat} {vs vr bv : Value} {c : Ch} {f : Fl} {cs : List Value} {w1 w2 : World} (h : IsFSu w g fs G u) (hx : G.xs[i]? = some (x, vr)) (hm : ChMid w x vs vr c bv (c.do f.now) w1)
    (hvs : Byt w vs f.sure) (hch : ChCells w f.row cs) (hbv : Byt w bv c.b) (hrow : w.ownsRow 0 126 3 vr f.row.length cs) (o : Obj)
    (hown : w2.ownsRow 0 126 3 (.slice (some ⟨gg, 0, none⟩) (f.row.length + 1) cap) (f.row.length + 1) (cs ++ [.bool c.cut, .int .i64 (c.at_ : Int), bv]))
    (hgrow : (w1.alloc o).drew.grownBy w2 vr.ownBlock) (hat : vr.ownBlock = some gg ∨ gg = w1.heap.size + 1) (hwf : ({ fs with files := fs.files.set i ⟨f.sure, f.row ++ [c]⟩ } : Fs).WF) :
    ∃ G', IsFSu (w2.setCell ⟨x, 2, none⟩ (.slice (some ⟨gg, 0, none⟩) (f.row.length + 1) cap)) g { fs with files := fs.files.set i ⟨f.sure, f.row ++ [c]⟩ } G' u ∧ Adv g G G' w (w2.setCell ⟨x, 2, none⟩ (.slice (some ⟨gg, 0, none⟩) (f.row.length + 1) cap)) := by
  obtain ⟨v1, hb1, hv1, _, hk1⟩ := hm
  have hxb : x ∈ G.blocks g := mem_blocks_file (List.mem_of_getElem? hx) (by simp [fileBlocks])
  have hxr : vr.ownBlock ≠ some x := h.file_self hx
  have hrow1 := ownsRow_block hrow (fun k hk => hk1.block k (hrow.lt k hk).2 (fun e => hxr (e ▸ hk)))
  have hk2 : Keep (fun k => k ∈ fileBlocks (x, vr)) w w2 := keep_push (hk1.mono (fun k hk => by subst hk; simp [fileBlocks])) hgrow
    (fun k hk => .inr ⟨by simp [fileBlocks, hk], ownsRow_notImm hrow1 notImm_change hk⟩) (fun k hk => (hrow1.lt k hk).2)
  have hb2 : w2.heap[x]? = _ := (hgrow.block x (by simp; have := lt_of hb1; omega) (Ne.symm hxr)).trans (blk_alloc hb1 o)
  have hgx : gg ≠ x := by
    rcases hat with e | e
    · intro e2; rw [e2] at e; exact hxr e
    · have := lt_of hb1; omega
  have hk3 := Keep.setCell hk2 hb2 (.inr ⟨by simp [fileBlocks], notImm_file⟩) 2 (.slice (some ⟨gg, 0, none⟩) (f.row.length + 1) cap)
  have hk13 : Keep (fun k => k = x ∨ vr.ownBlock = some k) w1 (w2.setCell ⟨x, 2, none⟩ (.slice (some ⟨gg, 0, none⟩) (f.row.length + 1) cap)) := by
    have a1 : Keep (fun k => k = x ∨ vr.ownBlock = some k) w1 w2 := keep_push (Keep.refl _ w1) hgrow
      (fun k hk => .inr ⟨.inr hk, ownsRow_notImm hrow1 notImm_change hk⟩) (fun k hk => (hrow1.lt k hk).2)
    exact Keep.setCell a1 hb2 (.inr ⟨.inl rfl, notImm_file⟩) 2 _
  refine h.refiled hx hk3 (vr' := .slice (some ⟨gg, 0, none⟩) (f.row.length + 1) cap) (b := gg) ?_ rfl ?_ hwf
  · refine ⟨vs, v1, cs ++ [.bool c.cut, .int .i64 (c.at_ : Int), bv], by rw [blk_set hb2]; rfl, hvs.keep hk3, ?_, ?_, ?_⟩
    · have e : (⟨f.sure, f.row ++ [c]⟩ : Fl).now = c.do f.now := by simp [Fl.now, chs_snoc]
      rw [e]
      exact hv1.keep hk13
    · have e : (f.row ++ [c]).length = f.row.length + 1 := by simp
      show World.ownsRow _ 0 _ 3 _ (f.row ++ [c]).length _
      rw [e]
      exact ownsRow_block hown (fun k hk => by
        have e : gg = k := by simpa [Value.ownBlock] using hk
        subst e
        exact blk_set_ne hgx 2 _)
    · exact ChCells.snoc (hbv.keep hk3) (hch.keep hk3)
  · rcases hat with e | e
    · exact .inl e
    · right
      have := hk1.size
      omega

set_option maxRecDepth 100000 in
set_option maxHeartbeats 3200000 in
theorem change_any (h : IsFSu w g fs G u) (hd : fs.dead = false) {i : Nat} {p : Nat × Value} {f : Fl} {c : Ch} {bv : Value} (hx : G.xs[i]? = some p) (hfi : fs.files[i]? = some f) (hbv : Byt w bv c.b) (hat : c.at_ ≤ f.now.length)
    (hl : f.now.length + c.b.length ≤ 70368744177664) (hs : f.row.length < 1099511627776) (hwf : ({ fs with files := fs.files.set i ⟨f.sure, f.row ++ [c]⟩ } : Fs).WF) :
    Calls Tryz.prog 78 #[.pointer (some ⟨g, 0, none⟩), .pointer (some ⟨p.1, 0, none⟩), .agg #[.bool c.cut, .int .i64 (c.at_ : Int), bv]] w
      (FsPost w g G ({ fs with files := fs.files.set i ⟨f.sure, f.row ++ [c]⟩ } : Fs).tick (.int .i64 fs.endE)) := by
  obtain ⟨i0, hi0, hz0, hz1, hz2⟩ := info_parts info_change
  obtain ⟨x, vr⟩ := p
  obtain ⟨vs, vn, cs, hb, hvs, hvn, hrow, hch⟩ := h.fl i _ f hx hfi
  simp only at hb hvs hvn hrow hch ⊢
  have hkb := Keep.alloc (Keep.refl (fun _ => False) w) (.cells #[.bool c.cut, .int .i64 (c.at_ : Int), bv] 126)
  have hdo := chdo_any (w := (w.alloc (.cells #[.bool c.cut, .int .i64 (c.at_ : Int), bv] 126)).drew) c (hvn.keep hkb.drew) (hbv.keep hkb.drew) hat hl
  obtain ⟨ba, bc, hbf⟩ := hbv.len
  have hone : ∀ u ∈ [Value.bool c.cut, .int .i64 (c.at_ : Int), bv], u.oneCell' = true := by
    intro u hu
    simp only [List.mem_cons, List.not_mem_nil, or_false] at hu
    rcases hu with rfl | rfl | rfl
    · rfl
    · rfl
    · rw [hbf]; rfl
  have hcx := cell_of (blk_alloc hb (.cells #[.bool c.cut, .int .i64 (c.at_ : Int), bv] 126))
  have hcb := cell_of (blk_new w (.cells #[.bool c.cut, .int .i64 (c.at_ : Int), bv] 126))
  have h2 : ∀ w2, Keep (fun _ => False) (w.alloc (.cells #[.bool c.cut, .int .i64 (c.at_ : Int), bv] 126)).drew w2 → (∀ k, w2.cell? ⟨x, k, none⟩ = (#[vs, vn, vr] : Array Value)[k]?) ∧ ∀ k, w2.frozen? ⟨x, k, none⟩ = false := by
    intro w2 hk
    have e := (hk.block x (lt_of (blk_alloc hb _)) (fun h => h)).trans (blk_alloc hb _)
    exact ⟨cell_of e, fz_of e⟩
  have H2 := hid h2
  have HW := hid h
  have HB := hid hb
  have HALL := hid (And.intro hvs (And.intro hch (And.intro hbv hrow)))
  have HI := hid hi0
  have HDO := hid hdo
  have HX := hid hx
  clear h hb hvs hch hbv hrow hi0 hdo hkb hbf hvn hfi hx hat hl h2
  go_enter Tryz.func78, Tryz.ntmps78
  go_upto_region 1 with fail
  generalize hW1 : w.alloc (.cells #[.bool c.cut, .int .i64 (c.at_ : Int), bv] 126) = W1 at *
  have HW1 := hid hW1
  clear hW1
  go_cut [] (fun wx => ChMid w x vs vr c bv (c.do f.now) wx)
  case first =>
    go_wp2_with fail
    go_region_with (go_at_call 117; refine HDO.out.mono ?_; rintro e w2 ⟨v1, rfl, hv1, hk1⟩; obtain ⟨hcx2, hfx2⟩ := H2.out w2 hk1; obtain ⟨a1, n1, hv1e⟩ := hv1.len; subst hv1e)
    all_goals
      go_wp2_with fail
      go_meet
      exact change_mid HB.out HW1.out hv1 hk1
  case rest =>
    clear hcx hcb
    go_upto_region 2 with fail
    go_cut [] (fun wx => ∃ G', IsFSu wx g { fs with files := fs.files.set i ⟨f.sure, f.row ++ [c]⟩ } G' u ∧ Adv g G G' w wx)
    case first =>
      have hcut' := hcut
      obtain ⟨v1, hb1, hv1, hbb, hk1⟩ := hcut'
      obtain ⟨a1, n1, hv1e⟩ := hv1.len
      subst hv1e
      have HCUT := hid hcut
      have hxr : vr.ownBlock ≠ some x := fun e => by
        have := HW.out.file_self HX.out
        exact this e
      have q2 := cell_of hb1 2
      have z2a : ∀ o, (wc.alloc o).drew.frozen? ⟨x, 2, none⟩ = false := fun o => fz_of (blk_alloc hb1 o) 2
      have q2a : ∀ o, (wc.alloc o).drew.cell? ⟨x, 2, none⟩ = some vr := fun o => cell_of (blk_alloc hb1 o) 2
      have b0 := cell_of hbb 0
      have b1 := cell_of hbb 1
      have b2 := cell_of hbb 2
      simp only [List.getElem?_toArray, List.getElem?_cons_zero, List.getElem?_cons_succ] at q2 b0 b1 b2
      have hrow1 := ownsRow_block HALL.out.2.2.2 (fun k hk => hk1.block k (HALL.out.2.2.2.lt k hk).2 (fun e => hxr (e ▸ hk)))
      have HR1 := hid hrow1
      have hmx : f.row.length + 1 ≤ maxLen := by unfold maxLen; omega
      have hxlt1 := lt_of hb1
      have hsc := HI.out
      clear hcut hb1 hv1 hbb hk1 hrow1
      go_wp2_with fail
      go_region_law
        ((refine step_append_lies _ (by rfl) _ _ _ (by rfl) 0 126 i0 _ 3 40 Tryz.underlying116 hsc hz0 hz1 hz2 rfl (by omega) vr f.row.length cs (by rfl) ((HR1.out.alloc _).drew)
              ⟨wc.heap.size, 0, none⟩ 1 1 [.bool c.cut, .int .i64 (c.at_ : Int), bv] (by rfl) (by rfl) (World.news_of_block (cs := #[.bool c.cut, .int .i64 (c.at_ : Int), bv]) (t := 126) (fr := (0, 0)) (heap_alloc_new wc _)) hone
              (by omega) hmx (by omega) (by omega) (wc.heap.size + 1) (by simp) ?_; intro gg cap w2 hown1 hgrow hat hlt; have y7 : w2.cell? ⟨x, 2, none⟩ = some vr := (hgrow.cell_far _ (by simp; omega) (Ne.symm hxr)).trans (q2a _); have y8 : w2.frozen? ⟨x, 2, none⟩ = false := (hgrow.frozen_far _ (by simp; omega) (Ne.symm hxr)).trans (z2a _)))
      all_goals
        go_wp2_with fail
        go_meet
        obtain ⟨G', hi, ha⟩ := change_fin HW.out HX.out HCUT.out HALL.out.1 HALL.out.2.1 HALL.out.2.2.1 HALL.out.2.2.2 _ hown1 hgrow hat hwf
        exact ⟨G', hi, ha⟩
    case rest =>
      obtain ⟨G', hi, ha⟩ := hcut
      have hcount := count_any hi
      have HA := hid ha
      clear hi ha
      go_wp2_with (go_at_call 85; refine hcount.mono ?_; rintro e w3 ⟨rfl, hi3, hk3⟩; have hend := end_any hi3 hd; have HK3 := hid hk3; clear hi3 hk3 hcount)
      go_wp2_with (go_at_call 116; refine hend.mono ?_; rintro e w4 ⟨rfl, hi4, ha4⟩)
      go_ret
      exact ⟨rfl, G', hi4, HA.out.trans ((Adv.of_top HK3.out).trans ha4)⟩

end
end Go.Stk

/- What stays true of a disk: no program stands here. -/
namespace Go.Stk
open Go Go.RowKit

theorem take_snoc_all {α : Type} (P : List α → Prop) (l : List α) (x : α) (h : ∀ k, P (l.take k)) (h2 : P (l ++ [x])) : ∀ k, P ((l ++ [x]).take k) := by
  intro k
  by_cases hk : k ≤ l.length
  · rw [List.take_append_of_le_length hk]; exact h k
  · rw [List.take_of_length_le (by simp; omega)]; exact h2

theorem mem_dput {κ α : Type} [DecidableEq κ] {D : List (κ × α)} {k : κ} {v : α} {p : κ × α} (h : p ∈ dput D k v) : p = (k, v) ∨ p ∈ D := by
  induction D with
  | nil => simp [dput] at h; exact .inl h
  | cons q r ih =>
    obtain ⟨a, u⟩ := q
    simp only [dput] at h
    by_cases e : a = k
    · rw [if_pos e] at h
      rcases List.mem_cons.1 h with h | h
      · exact .inl h
      · exact .inr (by simp [h])
    · rw [if_neg e] at h
      rcases List.mem_cons.1 h with h | h
      · exact .inr (by simp [h])
      · rcases ih h with h | h
        · exact .inl h
        · exact .inr (by simp [h])

theorem mem_ddel {κ α : Type} [DecidableEq κ] {D : List (κ × α)} {k : κ} {p : κ × α} (h : p ∈ ddel D k) : p ∈ D := by
  induction D with
  | nil => exact h
  | cons q r ih =>
    obtain ⟨a, u⟩ := q
    simp only [ddel] at h
    by_cases e : a = k
    · rw [if_pos e] at h; simp [h]
    · rw [if_neg e] at h
      rcases List.mem_cons.1 h with h | h
      · simp [h]
      · simp [ih h]

theorem length_dput_le {κ α : Type} [DecidableEq κ] (D : List (κ × α)) (k : κ) (v : α) : (dput D k v).length ≤ D.length + 1 := by
  induction D with
  | nil => simp [dput]
  | cons q r ih =>
    obtain ⟨a, u⟩ := q
    simp only [dput]
    split <;> simp <;> omega

theorem length_dput_mem {κ α : Type} [DecidableEq κ] {D : List (κ × α)} {k : κ} (v : α) (h : k ∈ keysOf D) : (dput D k v).length = D.length := by
  have := congrArg List.length (keysOf_dput_mem v h)
  simpa [keysOf] using this

theorem length_ddel_mem {κ α : Type} [DecidableEq κ] {D : List (κ × α)} {k : κ} (h : k ∈ keysOf D) : (ddel D k).length + 1 = D.length := by
  have h1 := congrArg List.length (keysOf_ddel D k)
  rw [List.length_erase_of_mem h] at h1
  have hp := List.length_pos_of_mem h
  simp only [keysOf, List.length_map] at h1 hp
  omega

theorem length_ddel_le {κ α : Type} [DecidableEq κ] (D : List (κ × α)) (k : κ) : (ddel D k).length ≤ D.length := by
  induction D with
  | nil => simp [ddel]
  | cons q r ih =>
    obtain ⟨a, u⟩ := q
    simp only [ddel]
    split <;> simp <;> omega

theorem le_sum_of_mem : ∀ {l : List Nat} {x : Nat}, x ∈ l → x ≤ l.sum
  | [], _, h => by simp at h
  | y :: l, x, h => by
    rcases List.mem_cons.1 h with rfl | h
    · simp
    · have := le_sum_of_mem h
      simp only [List.sum_cons]
      omega

section
variable {fs : Fs}

theorem Fs.WF.seen_nums (h : fs.WF) : ∀ p ∈ fs.seen, 1 ≤ p.2 ∧ p.2 ≤ fs.files.length := by
  intro p hp
  have := h.nums fs.row.length p
  rw [List.take_length] at this
  exact this hp
theorem Fs.WF.seen_many (h : fs.WF) : fs.seen.length ≤ 64 := by
  have := h.many fs.row.length
  rw [List.take_length] at this
  exact this
theorem Fs.WF.seen_nodup (h : fs.WF) : (keysOf fs.seen).Nodup := mvs_nodup h.keys

/-- A move. -/
theorem Fs.WF.move {m : Mv} (h : fs.WF) (h1 : ∀ p ∈ m.do fs.seen, 1 ≤ p.2 ∧ p.2 ≤ fs.files.length) (h2 : (m.do fs.seen).length ≤ 64) : (fs.move m).WF := by
  refine ⟨h.room, h.keys, ?_, ?_, h.lens, h.ats, h.fuse⟩
  · exact take_snoc_all (fun l => ∀ p ∈ mvs l fs.sure, 1 ≤ p.2 ∧ p.2 ≤ fs.files.length) fs.row m h.nums (by rw [mvs_snoc]; exact h1)
  · exact take_snoc_all (fun l => (mvs l fs.sure).length ≤ 64) fs.row m h.many (by rw [mvs_snoc]; exact h2)

theorem Fs.WF.rename {a b : ByteArray} (h : fs.WF) (ha : (dget fs.seen a).isSome) : (fs.move (.rename a b)).WF := by
  obtain ⟨n, hn⟩ := Option.isSome_iff_exists.1 ha
  have hmem := dget_some_mem hn
  have hka := dget_mem_keys hn
  refine h.move (fun p hp => ?_) ?_
  · simp only [Mv.do, hn, Option.getD_some] at hp
    rcases mem_dput hp with rfl | hp
    · exact h.seen_nums (a, n) hmem
    · exact h.seen_nums _ (mem_ddel hp)
  · simp only [Mv.do]
    have h1 := length_dput_le (ddel fs.seen a) b ((dget fs.seen a).getD 0)
    have h2 := length_ddel_mem hka
    have h3 := h.seen_many
    omega

theorem Fs.WF.remove {a : ByteArray} (h : fs.WF) : (fs.move (.remove a)).WF := by
  refine h.move (fun p hp => h.seen_nums p (mem_ddel hp)) ?_
  have h1 := length_ddel_le fs.seen a
  have h2 := h.seen_many
  simp only [Mv.do]
  omega

/-- A file more. -/
theorem Fs.WF.more (h : fs.WF) : ({ fs with files := fs.files ++ [⟨[], []⟩] } : Fs).WF := by
  refine ⟨h.room, h.keys, fun k p hp => ?_, h.many, ?_, ?_, h.fuse⟩
  · have := h.nums k p hp
    simp only [List.length_append, List.length_cons, List.length_nil]
    omega
  · intro f hf
    rcases List.mem_append.1 hf with hf | hf
    · exact h.lens f hf
    · rw [List.mem_singleton.1 hf]; intro k; simp [chs]
  · intro f hf
    rcases List.mem_append.1 hf with hf | hf
    · exact h.ats f hf
    · rw [List.mem_singleton.1 hf]; intro k c hc; simp at hc

theorem Fs.WF.create {name : ByteArray} (h : fs.WF) (hl : fs.seen.length < 64) : (fs.createS name).WF := by
  refine Fs.WF.move (fs := { fs with files := fs.files ++ [⟨[], []⟩] }) h.more (fun p hp => ?_) ?_
  · rcases mem_dput hp with rfl | hp
    · simp
    · have := h.more.seen_nums p hp
      exact this
  · have h1 := length_dput_le fs.seen name (fs.files.length + 1)
    show (dput fs.seen name (fs.files.length + 1)).length ≤ 64
    omega

/-- A file's row is one change longer. -/
theorem Fs.WF.change {i : Nat} {f : Fl} {c : Ch} (h : fs.WF) (hf : fs.files[i]? = some f) (hat : c.at_ ≤ f.now.length) (hl : (c.do f.now).length ≤ 1048576) :
    ({ fs with files := fs.files.set i ⟨f.sure, f.row ++ [c]⟩ } : Fs).WF := by
  have hfm := List.mem_of_getElem? hf
  refine ⟨h.room, h.keys, fun k p hp => by have := h.nums k p hp; simpa using this, h.many, ?_, ?_, h.fuse⟩
  · intro f' hf'
    rcases List.mem_or_eq_of_mem_set hf' with hf' | rfl
    · exact h.lens f' hf'
    · exact take_snoc_all (fun l => (chs l f.sure).length ≤ 1048576) f.row c (h.lens f hfm) (by rw [chs_snoc]; exact hl)
  · intro f' hf'
    rcases List.mem_or_eq_of_mem_set hf' with hf' | rfl
    · exact h.ats f' hf'
    · intro k d hd
      simp only at hd ⊢
      by_cases hk : k < f.row.length
      · rw [List.getElem?_append_left hk] at hd
        rw [List.take_append_of_le_length (by omega)]
        exact h.ats f hfm k d hd
      · have hk' : k = f.row.length := by
          have := (List.getElem?_eq_some_iff.1 hd).1
          simp at this; omega
        subst hk'
        simp at hd
        subst hd
        rw [List.take_append_of_le_length (Nat.le_refl _), List.take_length]
        exact hat

theorem Fs.WF.file (h : fs.WF) {i : Nat} {x : List UInt8} (hl : x.length ≤ 1048576) : ({ fs with files := fs.files.set i ⟨x, []⟩ } : Fs).WF := by
  refine ⟨h.room, h.keys, fun k p hp => by have := h.nums k p hp; simpa using this, h.many, ?_, ?_, h.fuse⟩
  · intro f' hf'
    rcases List.mem_or_eq_of_mem_set hf' with hf' | rfl
    · exact h.lens f' hf'
    · intro k; simpa [chs] using hl
  · intro f' hf'
    rcases List.mem_or_eq_of_mem_set hf' with hf' | rfl
    · exact h.ats f' hf'
    · intro k c hc; simp at hc

theorem Fs.WF.syncDir (h : fs.WF) : fs.syncDirS.WF := by
  refine ⟨h.room, h.seen_nodup, fun k p hp => ?_, fun k => ?_, h.lens, h.ats, h.fuse⟩
  · have : p ∈ fs.seen := by simpa [Fs.syncDirS, mvs] using hp
    exact h.seen_nums p this
  · simpa [Fs.syncDirS, mvs] using h.seen_many

theorem Fs.WF.new (room : Nat) (h : room ≤ 1048576) : (Fs.new room).WF :=
  ⟨h, by simp [Fs.new, keysOf], by simp [Fs.new, mvs], by simp [Fs.new, mvs], by simp [Fs.new], by simp [Fs.new], by simp [Fs.new]⟩

/-- A file that is seen is a part of all that is seen. -/
theorem Fs.size_le_used {name : ByteArray} {n : Nat} (hn : dget fs.seen name = some n) : fs.size n ≤ fs.used := by
  unfold Fs.used
  exact le_sum_of_mem (List.mem_map.2 ⟨(name, n), dget_some_mem hn, rfl⟩)

end
end Go.Stk

/- Between texts and bytes. -/
namespace Go.Stk
open Go Go.RowKit Go.Proofs

/-- []byte(s). -/
theorem conv_bytes (w : World) (s : ByteArray) (hs : s.size ≤ maxLen) :
    ∃ c w', (convert 9 24 (.string s)).run Tryz.prog w = .ok (.slice (some ⟨w.heap.size, 0, none⟩) s.size c) w' ∧ Byt w' (.slice (some ⟨w.heap.size, 0, none⟩) s.size c) s.data.toList ∧ Keep (fun _ => False) w w' := by
  have hr := Lib.run_convert_string_bytes (P := Tryz.prog) w 9 24 5 s Tryz.underlying9 Tryz.underlying24 Tryz.underlying5
  have hge := grownCap_ge w s.size 0 5
  have hle := grownCap_le_maxLen w s.size 0 5 hs
  refine ⟨_, _, hr, ⟨by simp [byV_length], .inr ⟨w.heap.size, 0, grownCap w s.size 0 5, Lib.bytesCells w 5 s, (⟨_, imm_u8⟩, _), by simp, Lib.bytesWorld_at_new w _ s, by simpa using hge, hle, ?_, ?_⟩⟩, ?_⟩
  · simp [Lib.bytesCells]
    omega
  · intro i x hx
    simp only [byV, List.getElem?_map, Option.map_eq_some_iff] at hx
    obtain ⟨b, hb, rfl⟩ := hx
    have hi := (List.getElem?_eq_some_iff.1 hb).1
    have hi' : i < s.data.size := by simpa using hi
    have hb' : s.data[i]? = some b := by simpa using hb
    have hm : (s.data.map fun b => Value.int .u8 b.toNat)[i]? = some (.int .u8 b.toNat) := by rw [Array.getElem?_map, hb']; rfl
    rw [Nat.zero_add, Lib.bytesCells, Array.getElem?_append_left (by simpa using hi')]
    exact hm
  · exact Keep.of_below ⟨rfl, rfl, rfl, by rw [Lib.bytesWorld_size]; omega, fun k hk => Lib.bytesWorld_at_old w _ s k hk⟩

end Go.Stk

/- A new disk; is it a name. -/
namespace Go.Stk
open Go Go.RowKit Go.Proofs

section
variable {w : World} {g : Nat} {fs : Fs} {G : FG} {u : Int}

theorem keep_no_push {o : Obj} : Keep (fun _ => False) w (w.alloc o) := Keep.alloc (Keep.refl _ w) o

/-- A call answers a new disk. -/
def NewPost (w : World) (room : Nat) (e : Ending) (w' : World) : Prop :=
  ∃ g G, e = .returned (.tuple #[.pointer (some ⟨g, 0, none⟩), .int .i64 0]) ∧ IsFS w' g (Fs.new room) G ∧ Keep (fun _ => False) w w' ∧ ∀ k ∈ G.blocks g, w.heap.size ≤ k

set_option maxHeartbeats 400000 in
theorem New_bad (room : Int) (h : room < 0 ∨ 1048576 < room) : Calls Tryz.prog 19 #[.int .i64 room] w fun e w' => e = .returned (.tuple #[.pointer none, .int .i64 2]) ∧ w = w' := by
  rcases h with h | h
  all_goals
    go_enter Tryz.func19, Tryz.ntmps19
    go_wp2
    go_ret2
    exact ⟨rfl, rfl⟩

theorem KMap.new {κ : Type} (K : KeyT κ) (w : World) : KMap K (w.alloc (.map #[] 0)) w.heap.size [] :=
  ⟨#[], 0, blk_new w _, MapKept.stamped_empty 0, rfl⟩

theorem new_fin (room : Nat) (h : room ≤ 1048576) : NewPost w room (.returned (.tuple #[.pointer (some ⟨w.heap.size + 1 + 1 + 1, 0, none⟩), .int .i64 0]))
    ((((w.alloc (.map #[] 0)).alloc (.map #[] 0)).alloc (.map #[] 0)).alloc
      (.cells #[.bool true, .int .i64 (room : Int), .int .i64 0, .map (some w.heap.size), .int .i64 0, .map (some (w.heap.size + 1)), .map (some (w.heap.size + 1 + 1)), .slice none 0 0, .int .i64 0, .int .i64 0, .bool false] 88)) := by
  refine ⟨w.heap.size + 1 + 1 + 1, ⟨w.heap.size, w.heap.size + 1, w.heap.size + 1 + 1, .slice none 0 0, []⟩, rfl, ⟨?_, ⟨[], ?_, List.Perm.refl _⟩, ⟨[], ?_, List.Perm.refl _⟩, ⟨[], ?_, List.Perm.refl _⟩, World.ownsRow_nil _ _ _ _, rfl, by simp, ?_, Fs.WF.new room h⟩, ?_, ?_⟩
  · have := blk_new (((w.alloc (.map #[] 0)).alloc (.map #[] 0)).alloc (.map #[] 0)) (.cells #[.bool true, .int .i64 (room : Int), .int .i64 0, .map (some w.heap.size), .int .i64 0, .map (some (w.heap.size + 1)), .map (some (w.heap.size + 1 + 1)), .slice none 0 0, .int .i64 0, .int .i64 0, .bool false] 88)
    simpa [Fs.new, Fs.used, Fs.seen, mvs] using this
  · have := (KMap.new SK (w.alloc (.map #[] 0)))
    have h2 := (this.alloc (.map #[] 0)).alloc (.cells #[.bool true, .int .i64 (room : Int), .int .i64 0, .map (some w.heap.size), .int .i64 0, .map (some (w.heap.size + 1)), .map (some (w.heap.size + 1 + 1)), .slice none 0 0, .int .i64 0, .int .i64 0, .bool false] 88)
    simpa using h2
  · have := (KMap.new SK ((w.alloc (.map #[] 0)).alloc (.map #[] 0)))
    have h2 := this.alloc (.cells #[.bool true, .int .i64 (room : Int), .int .i64 0, .map (some w.heap.size), .int .i64 0, .map (some (w.heap.size + 1)), .map (some (w.heap.size + 1 + 1)), .slice none 0 0, .int .i64 0, .int .i64 0, .bool false] 88)
    simpa using h2
  · exact (((KMap.new IK w).alloc _).alloc _).alloc _
  · simp [FG.blocks, Value.ownBlock]; omega
  · exact Keep.alloc (Keep.alloc (Keep.alloc (Keep.alloc (Keep.refl _ w) _) _) _) _
  · intro k hk
    simp [FG.blocks, Value.ownBlock] at hk
    omega

set_option maxHeartbeats 400000 in
theorem New_ok (room : Nat) (h : room ≤ 1048576) : Calls Tryz.prog 19 #[.int .i64 (room : Int)] w (NewPost w room) := by
  have hmm := @run_makeMap Tryz.prog
  have h0 : ¬ (room : Int) < 0 := by omega
  have h1 : ¬ 1048576 < (room : Int) := by omega
  go_enter Tryz.func19, Tryz.ntmps19
  go_wp2
  go_ret2
  exact new_fin room h

theorem nameCh_iff (c : UInt8) : nameCh c = true ↔ (97 ≤ (c.toNat : Int) ∧ (c.toNat : Int) ≤ 122) ∨ (48 ≤ (c.toNat : Int) ∧ (c.toNat : Int) ≤ 57) ∨ (c.toNat : Int) = 46 ∨ (c.toNat : Int) = 45 := by
  simp only [nameCh, Bool.or_eq_true, Bool.and_eq_true, decide_eq_true_eq, beq_iff_eq, UInt8.le_iff_toNat_le]
  have e1 : c = 46 ↔ (c.toNat : Int) = 46 := ⟨fun h => by subst h; rfl, fun h => UInt8.toNat_inj.1 (show c.toNat = 46 by omega)⟩
  have e2 : c = 45 ↔ (c.toNat : Int) = 45 := ⟨fun h => by subst h; rfl, fun h => UInt8.toNat_inj.1 (show c.toNat = 45 by omega)⟩
  rw [e1, e2]
  have a1 : (97 : UInt8).toNat = 97 := rfl
  have a2 : (122 : UInt8).toNat = 122 := rfl
  have a3 : (48 : UInt8).toNat = 48 := rfl
  have a4 : (57 : UInt8).toNat = 57 := rfl
  rw [a1, a2, a3, a4]
  constructor
  · rintro (((h | h) | h) | h)
    · exact .inl (by omega)
    · exact .inr (.inl (by omega))
    · exact .inr (.inr (.inl h))
    · exact .inr (.inr (.inr h))
  · rintro (h | h | h | h)
    · exact .inl (.inl (.inl (by omega)))
    · exact .inl (.inl (.inr (by omega)))
    · exact .inl (.inr h)
    · exact .inr h

/-- A call answers a bool; nothing that was there has changed. -/
def RetBool (w : World) (b : Bool) (e : Ending) (w' : World) : Prop := e = .returned (.bool b) ∧ Keep (fun _ => False) w w'

set_option maxRecDepth 100000 in
set_option maxHeartbeats 1600000 in
theorem isName_any (s : ByteArray) (hs : s.size ≤ maxLen) : Calls Tryz.prog 75 #[.string s] w (RetBool w (isName s)) := by
  obtain ⟨c, w1, hr, hb, hk⟩ := conv_bytes w s hs
  have hcell : ∀ j (hj : j < s.data.toList.length), w1.cell? ⟨w.heap.size, j, none⟩ = some (.int .u8 s.data.toList[j].toNat) := by
    intro j hj
    have := Sl.cell hb (b := w.heap.size) (o := 0) (c := c) (by simp) (byV_get (l := s.data.toList) (i := j) (x := s.data.toList[j]) (by simp))
    simpa using this
  have hlen : s.data.toList.length = s.size := by simp
  unfold maxLen at hs
  generalize hL : s.data.toList = L at *
  have HL := hid hL
  have HK := hid hk
  have HC := hid hcell
  have HLEN := hid hlen
  have hsL : L.length ≤ 9223372036854775807 := by omega
  rw [← hlen] at hr
  clear hL hk hcell hb
  go_enter Tryz.func75, Tryz.ntmps75
  go_wp2
  go_loopg [4, 8] L.length (fun gk _s4 s8 wx => w1 = wx ∧ ∃ k : Nat, k ≤ L.length ∧ gk = L.length - k ∧ s8 = .int .i64 (k : Int) ∧ ∀ x ∈ L.take k, nameCh x = true)
  case atStart => exact ⟨rfl, 0, by simp, by simp, rfl, by simp⟩
  case round =>
    obtain ⟨rfl, k, hk, hg, rfl, hall⟩ := hrel
    have HALL := hid hall
    have HG := hid hg
    clear hall hg
    by_cases hlt : k < L.length
    · have hc := HC.out k hlt
      generalize hx : L[k] = x at *
      have hx255 : x.toNat < 256 := x.toNat_lt
      have HX := hid hx
      clear hx
      go_wp2
      all_goals first
        | (go_roundg (L.length - (k + 1))
           case measure => have := HG.out; omega
           case rel =>
             have hch : nameCh x = true := (nameCh_iff x).2 (by first | omega | (simp only [beq_iff_eq] at *; omega))
             refine ⟨rfl, k + 1, by omega, rfl, by go_num, ?_⟩
             intro y hy
             rw [List.take_succ_eq_append_getElem hlt, HX.out] at hy
             rcases List.mem_append.1 hy with hy | hy
             · exact HALL.out y hy
             · rw [List.mem_singleton.1 hy]; exact hch)
        | (go_ret
           have hch : nameCh x = false := by
             rw [Bool.eq_false_iff]
             intro hc
             have hc' := (nameCh_iff x).1 hc
             simp only [beq_eq_false_iff_ne] at *
             omega
           have hno : isName s = false := by
             unfold isName
             rw [HL.out]
             have : L.all nameCh = false := by
               rw [List.all_eq_false]
               exact ⟨x, by rw [← HX.out]; exact List.getElem_mem hlt, by simp [hch]⟩
             simp [this]
           exact ⟨by rw [hno]; rfl, HK.out⟩)
    · have hkl : k = L.length := by omega
      have hname : isName s = (decide (1 ≤ s.size) && decide (s.size ≤ 32)) := by
        unfold isName
        rw [HL.out]
        have : L.all nameCh = true := by
          rw [List.all_eq_true]
          intro y hy
          refine HALL.out y ?_
          rw [hkl, List.take_length]
          exact hy
        simp [this]
      have HN := hid hname
      have hlt2 : ¬ k < s.size := by omega
      clear hname hkl
      go_wp2
      all_goals go_ret
      · refine ⟨?_, HK.out⟩
        rw [HN.out]
        have h1 : 1 ≤ s.size := by omega
        simp [h1]
        omega
      · refine ⟨?_, HK.out⟩
        rw [HN.out]
        have h1 : ¬ 1 ≤ s.size := by omega
        simp [h1]

end
end Go.Stk

/- The disk: Create, Rename, Remove. -/
namespace Go.Stk
open Go Go.RowKit Go.Proofs

def Fs.createR (fs : Fs) (name : ByteArray) : Int × Fs := if fs.createE name ≠ 0 then (fs.createE name, fs) else (fs.endE, (fs.createS name).tick)
def Fs.renameR (fs : Fs) (a b : ByteArray) : Int × Fs := if fs.renameE a b ≠ 0 then (fs.renameE a b, fs) else (fs.endE, (fs.move (.rename a b)).tick)
def Fs.removeR (fs : Fs) (a : ByteArray) : Int × Fs := if fs.getE a ≠ 0 then (fs.getE a, fs) else (fs.endE, (fs.move (.remove a)).tick)

section
variable {w : World} {g : Nat} {fs : Fs} {G : FG}

/-- A refusal, with nothing but new memory. -/
theorem FsPost.no {w' : World} (h : IsFS w g fs G) (hk : Keep (fun _ => False) w w') {v : Value} : FsPost w g G fs v (.returned v) w' :=
  ⟨rfl, G, h.keep hk (fun _ _ h => h), hk.mono (fun _ h => h.elim), fun _ h => .inl h⟩

/-- .. behind new memory alone. -/
theorem FsPost.after {w1 w' : World} {e : Ending} {fs' : Fs} {v : Value} (hk : Keep (fun _ => False) w w1) (h : FsPost w1 g G fs' v e w') : FsPost w g G fs' v e w' := by
  obtain ⟨he, G', hi, ha1, ha2⟩ := h
  exact ⟨he, G', hi, (hk.mono (fun _ h => h.elim)).trans ha1 (fun i hi => .inl hi), fun k hk' => (ha2 k hk').imp id (fun h => Nat.le_trans hk.size h)⟩

theorem getE_val (fs : Fs) (name : ByteArray) : fs.getE name = 13 ∨ fs.getE name = 7 ∨ fs.getE name = 0 := by
  unfold Fs.getE
  split
  · exact .inl rfl
  · split
    · exact .inr (.inl rfl)
    · exact .inr (.inr rfl)

set_option maxRecDepth 100000 in
set_option maxHeartbeats 800000 in
theorem Remove_any (h : IsFS w g fs G) (name : ByteArray) (hs : fs.row.length < 1099511627776) :
    Calls Tryz.prog 26 #[.pointer (some ⟨g, 0, none⟩), .string name] w (FsPost w g G (fs.removeR name).2 (.int .i64 (fs.removeR name).1)) := by
  unfold Fs.removeR
  by_cases he : fs.getE name = 0
  · rw [if_neg (by simp [he])]
    obtain ⟨hd, n, hn⟩ := Fs.getE_ok he
    obtain ⟨p, f, h1, hi, _, _, _⟩ := h.at_name hn
    have hget := get_ok h hd hn h1 hi
    have hturn := turn_any h hd (.remove name) h.wf.remove hs
    have HT := hid hturn
    have H := hid h
    clear h hturn hi hn hd he h1
    go_enter Tryz.func26, Tryz.ntmps26
    go_wp2_with (first | (go_at_call 77; refine hget.mono ?_; rintro e w' ⟨rfl, rfl⟩) | (go_at_call 76; refine HT.out.mono ?_; rintro e w' ⟨rfl, hp⟩))
    go_ret
    exact ⟨rfl, hp⟩
  · rw [if_pos he]
    have hget := get_err h name he
    have FIN := hid (FsPost.no h (Keep.refl _ w) (v := .int .i64 (fs.getE name)))
    clear h
    generalize fs.getE name = E at *
    have hne : (E != 0) = true := by simpa using he
    clear he
    go_enter Tryz.func26, Tryz.ntmps26
    go_wp2_with (go_at_call 77; refine hget.mono ?_; rintro e w' ⟨rfl, rfl⟩)
    go_ret
    exact FIN.out

set_option maxRecDepth 100000 in
set_option maxHeartbeats 800000 in
theorem Rename_any (h : IsFS w g fs G) (a b : ByteArray) (hb : b.size ≤ maxLen) (hs : fs.row.length < 1099511627776) :
    Calls Tryz.prog 72 #[.pointer (some ⟨g, 0, none⟩), .string a, .string b] w (FsPost w g G (fs.renameR a b).2 (.int .i64 (fs.renameR a b).1)) := by
  unfold Fs.renameR Fs.renameE
  have hnm := isName_any (w := w) b hb
  by_cases he : fs.getE a = 0
  · simp only [he, ne_eq, not_true_eq_false, if_false]
    obtain ⟨hd, n, hn⟩ := Fs.getE_ok he
    obtain ⟨p, f, h1, hi, _, _, _⟩ := h.at_name hn
    have hget := get_ok h hd hn h1 hi
    have hwf := h.wf.rename (b := b) (by rw [hn]; rfl)
    cases hnb : isName b with
    | false =>
      simp only [if_true, Int.reduceEq, not_false_eq_true]
      rw [hnb] at hnm
      have H := hid h
      have HN := hid hnm
      clear h hi hn hd he h1 hnb hwf hnm
      go_enter Tryz.func72, Tryz.ntmps72
      go_wp2_with (first | (go_at_call 77; refine hget.mono ?_; rintro e w' ⟨rfl, rfl⟩) | (go_at_call 75; refine HN.out.mono ?_; rintro e w' ⟨rfl, hk⟩))
      go_ret
      exact FsPost.no H.out hk
    | true =>
      simp only [Bool.true_eq_false, if_false, not_true_eq_false]
      rw [hnb] at hnm
      have H := hid h
      have HN := hid hnm
      have HWF := hid hwf
      clear h hi hn he h1 hnb hwf hnm
      go_enter Tryz.func72, Tryz.ntmps72
      go_wp2_with (first | (go_at_call 77; refine hget.mono ?_; rintro e w' ⟨rfl, rfl⟩) | (go_at_call 75; refine HN.out.mono ?_; rintro e w1 ⟨rfl, hk⟩; have HT := hid (turn_any (H.out.keep hk (fun _ _ h => h)) hd (.rename a b) HWF.out hs); have HK := hid hk; clear hk))
      go_wp2_with (go_at_call 76; refine HT.out.mono ?_; rintro e w' ⟨rfl, hp⟩)
      go_ret
      exact FsPost.after HK.out ⟨rfl, hp⟩
  · have he' : ¬ (¬ fs.getE a = 0 → False) := fun h => h he
    simp only [ne_eq, he, not_false_eq_true, if_true]
    have hget := get_err h a he
    have FIN := hid (FsPost.no h (Keep.refl _ w) (v := .int .i64 (fs.getE a)))
    clear h he'
    generalize fs.getE a = E at *
    have hne : (E != 0) = true := by simpa using he
    clear he hnm
    go_enter Tryz.func72, Tryz.ntmps72
    go_wp2_with (go_at_call 77; refine hget.mono ?_; rintro e w' ⟨rfl, rfl⟩)
    go_ret
    exact FIN.out

end
end Go.Stk

/- The disk: Sync, SyncDir. -/
namespace Go.Stk
open Go Go.RowKit Go.Proofs

def Fs.syncR (fs : Fs) (name : ByteArray) : Int × Fs := if fs.getE name ≠ 0 then (fs.getE name, fs) else (fs.endE, if fs.fuse == 1 then fs.tick else (fs.syncS name).tick)
def Fs.syncDirR (fs : Fs) : Int × Fs := if fs.dead then (13, fs) else (fs.endE, if fs.fuse == 1 then fs.tick else fs.syncDirS.tick)

section
variable {w : World} {g : Nat} {fs : Fs} {G : FG} {u : Int}

/-- A file stands anew; its row is none. -/
theorem IsFSu.refiled_nil {w' : World} {i x : Nat} {vr : Value} {f' : Fl} (h : IsFSu w g fs G u) (hx : G.xs[i]? = some (x, vr))
    (hk : Keep (fun k => k ∈ fileBlocks (x, vr)) w w') (hf : IsFile w' x (.slice none 0 0) f')
    (hwf : ({ fs with files := fs.files.set i f' } : Fs).WF) :
    ∃ G', IsFSu w' g { fs with files := fs.files.set i f' } G' u ∧ Adv g G G' w w' := by
  obtain ⟨e1, e2⟩ := split_at hx
  obtain ⟨ha, ha2⟩ := FG.file_apart h.nd hx
  have hsub : (({ G with xs := G.xs.set i (x, .slice none 0 0) } : FG).blocks g).Sublist (G.blocks g) := by
    simp only [FG.blocks, e2]
    conv => rhs; rw [e1]
    simp only [List.flatMap_append, List.flatMap_cons]
    refine ((((List.Sublist.append (List.Sublist.refl _) (List.Sublist.append (List.Sublist.refl _) (List.Sublist.append ?_ (List.Sublist.refl _)))).cons_cons _).cons_cons _).cons_cons _).cons_cons _
    simp only [fileBlocks]
    exact (List.nil_sublist _).cons_cons x
  have hs := h.kms; have hn := h.kmn; have hf' := h.kmf
  have hil : i < fs.files.length := by rw [← h.len]; exact (List.getElem?_eq_some_iff.1 hx).1
  refine ⟨{ G with xs := G.xs.set i (x, .slice none 0 0) }, ⟨?_, ?_, ?_, ?_, ?_, by simp [h.len], ?_, hsub.nodup h.nd, hwf⟩, ⟨hk.mono ?_, fun k hk' => .inl (hsub.subset hk')⟩⟩
  · have := (hk.block g (lt_of h.top) (fun e => (ha g e).1 rfl)).trans h.top
    simpa using this
  · obtain ⟨E, a, b'⟩ := hs
    exact ⟨E, a.of_block (hk.block _ a.lt (fun e => (ha _ e).2.2.1 rfl)), b'⟩
  · obtain ⟨E, a, b'⟩ := hn
    exact ⟨E, a.of_block (hk.block _ a.lt (fun e => (ha _ e).2.2.2.1 rfl)), b'⟩
  · obtain ⟨E, a, b'⟩ := hf'
    refine ⟨E, a.of_block (hk.block _ a.lt (fun e => (ha _ e).2.1 rfl)), ?_⟩
    have e : ∀ (k i : Nat) (xs : List (Nat × Value)), xs[i]? = some (x, vr) → filV k (xs.set i (x, .slice none 0 0)) = filV k xs := by
      intro k i xs
      induction xs generalizing k i with
      | nil => intro h; simp at h
      | cons p r ih =>
        intro h
        cases i with
        | zero =>
          simp only [List.getElem?_cons_zero, Option.some.injEq] at h
          subst h
          rfl
        | succ i =>
          simp only [List.getElem?_cons_succ] at h
          simp only [List.set_cons_succ, filV, ih (k + 1) i h]
    show E.Perm (filV 1 (G.xs.set i (x, .slice none 0 0)))
    rw [e 1 i G.xs hx]
    exact b'
  · exact ownsRow_block h.row (fun k hk' => hk.block k (h.row.lt k hk').2 (fun e => (ha k e).2.2.2.2 hk'))
  · intro j p f hp hfi
    by_cases hj : j = i
    · subst hj
      have hxl : j < G.xs.length := by rw [h.len]; exact hil
      have e1 : (G.xs.set j (x, Value.slice none 0 0))[j]? = some (x, .slice none 0 0) := by simp [hxl]
      have e2 : (fs.files.set j f')[j]? = some f' := by simp [hil]
      have hp' : some p = some (x, Value.slice none 0 0) := hp.symm.trans e1
      have hf'' : some f = some f' := hfi.symm.trans e2
      injection hp' with hp'
      injection hf'' with hf''
      rw [hp', hf'']
      exact hf
    · have hp' : G.xs[j]? = some p := by
        have : (G.xs.set i (x, Value.slice none 0 0))[j]? = G.xs[j]? := by simp [Ne.symm hj]
        rw [← this]; exact hp
      have hf'' : fs.files[j]? = some f := by
        have : (fs.files.set i f')[j]? = fs.files[j]? := by simp [Ne.symm hj]
        rw [← this]; exact hfi
      exact (h.fl j p f hp' hf'').keep hk (fun k hkp hkx => ha2 j p hj hp' k hkx hkp)
  · intro k hk'
    exact mem_blocks_file (List.mem_of_getElem? hx) hk'

/-- used does not turn where the files' bytes do not. -/
theorem Fs.used_congr {a b : Fs} (h1 : a.seen = b.seen) (h2 : ∀ n, a.size n = b.size n) : a.used = b.used := by
  unfold Fs.used
  rw [h1]
  congr 1
  exact List.map_congr_left (fun p _ => h2 p.2)

theorem Fs.sync_size {fs : Fs} {name : ByteArray} (n : Nat) : (fs.syncS name).size n = fs.size n := by
  unfold Fs.syncS Fs.setFile Fs.size Fs.file
  simp only [List.getD_eq_getElem?_getD, List.getElem?_set]
  split
  · rename_i h
    split
    · simp only [Option.getD_some]
      simp only [Fl.now, chs, List.foldl_nil, Fs.at, Fs.file]
      rw [h]
      simp [List.getD_eq_getElem?_getD]
    · rename_i h2
      rw [List.getElem?_eq_none (by omega)]
  · rfl

/-- Behind 'x.sure, x.row = append([]byte(nil), x.now...), nil'. -/
theorem sync_mid (h : IsFSu w g fs G u) {name : ByteArray} {n x : Nat} {f : Fl} {vs vn vr : Value} (hn : dget fs.seen name = some n) (hx : G.xs[n - 1]? = some (x, vr)) (hat : fs.at name = f)
    (hb : w.heap[x]? = some (.cells #[vs, vn, vr] 118 (0, 0))) (hvn : Byt w vn f.now) (hf : f ∈ fs.files) :
    ∃ v1 w1, (Builtin.append_ #[24, 24] 24 #[.slice none 0 0, vn]).run Tryz.prog w = .ok v1 w1 ∧ (∃ a1 c1, v1 = .slice a1 f.now.length c1) ∧
      (∀ k, w1.cell? ⟨x, k, none⟩ = (#[vs, vn, vr] : Array Value)[k]?) ∧ (∀ k, w1.frozen? ⟨x, k, none⟩ = false) ∧
      ∃ G', IsFSu ((w1.setCell ⟨x, 0, none⟩ v1).setCell ⟨x, 2, none⟩ (.slice none 0 0)) g (fs.syncS name) G' u ∧ Adv g G G' w ((w1.setCell ⟨x, 0, none⟩ v1).setCell ⟨x, 2, none⟩ (.slice none 0 0)) := by
  have hnow := h.wf.now_le hf
  obtain ⟨v1, w1, hr1, hown1, hg1, hat1⟩ := run_append_byt (ty := 24) (x := .slice none 0 0) (xs := []) (w := w) (World.ownsRow_nil _ _ _ _) hvn (by simp; omega)
  rw [List.nil_append, List.length_nil, Nat.zero_add] at hown1
  have hk1 : Keep (fun _ => False) w w1 := KeepN.row (Keep.refl _ w) hg1 (Nat.le_refl _) (fun k hk => by simp [Value.ownBlock] at hk)
  have hb1 : w1.heap[x]? = _ := (hk1.block x (lt_of hb) (fun h => h)).trans hb
  have hv1 : Byt w1 v1 f.now := Byt.of_own hown1
  have hb2 := blk_set hb1 0 v1
  have hb3 := blk_set hb2 2 (.slice none 0 0)
  have hk2 : Keep (fun k => k ∈ fileBlocks (x, vr)) w w1 := hk1.mono (fun _ h => h.elim)
  have hk3 := Keep.setCell (Keep.setCell hk2 hb1 (.inr ⟨by simp [fileBlocks], notImm_file⟩) 0 v1) hb2 (.inr ⟨by simp [fileBlocks], notImm_file⟩) 2 (.slice none 0 0)
  have hk13 : Keep (fun k => k = x) w1 ((w1.setCell ⟨x, 0, none⟩ v1).setCell ⟨x, 2, none⟩ (.slice none 0 0)) :=
    Keep.setCell (Keep.setCell (Keep.refl (fun k => k = x) w1) hb1 (.inr ⟨rfl, notImm_file⟩) 0 v1) hb2 (.inr ⟨rfl, notImm_file⟩) 2 (.slice none 0 0)
  have hsz : f.now.length ≤ 1048576 := hnow
  have hwf : ({ fs with files := fs.files.set (n - 1) ⟨f.now, []⟩ } : Fs).WF := h.wf.file hsz
  obtain ⟨G', hi, ha⟩ := h.refiled_nil hx hk3 (f' := ⟨f.now, []⟩) ⟨v1, vn, [], by rw [hb3]; rfl, hv1.keep hk13, by
    have e : (⟨f.now, []⟩ : Fl).now = f.now := rfl
    rw [e]; exact hvn.keep hk3, World.ownsRow_nil _ _ _ _, trivial⟩ hwf
  have e : fs.syncS name = { fs with files := fs.files.set (n - 1) ⟨f.now, []⟩ } := by
    simp [Fs.syncS, Fs.setFile, Fs.num, hn, hat]
  rw [e]
  exact ⟨v1, w1, hr1, hv1.len, cell_of hb1, fz_of hb1, G', hi, ha⟩

set_option maxRecDepth 100000 in
set_option maxHeartbeats 1600000 in
theorem Sync_any (h : IsFS w g fs G) (name : ByteArray) :
    Calls Tryz.prog 70 #[.pointer (some ⟨g, 0, none⟩), .string name] w (FsPost w g G (fs.syncR name).2 (.int .i64 (fs.syncR name).1)) := by
  unfold Fs.syncR
  by_cases he : fs.getE name = 0
  · rw [if_neg (by simp [he])]
    obtain ⟨hd, n, hn⟩ := Fs.getE_ok he
    obtain ⟨p, f, h1, hi, hfi, hat, hx⟩ := h.at_name hn
    have hget := get_ok h hd hn h1 hi
    have hfails := fails_any h hd
    have hu : fs.used = (fs.syncS name).used := Fs.used_congr rfl (fun n => Fs.sync_size n |>.symm)
    unfold Fs.endE
    cases hb : fs.fuse == 1 with
    | true =>
      rw [hb] at hfails
      have HF := hid hfails
      clear h hb hi hfi hat hx hn hd he h1 hu hfails
      go_enter Tryz.func70, Tryz.ntmps70
      go_wp2_with (first | (go_at_call 77; refine hget.mono ?_; rintro e w' ⟨rfl, rfl⟩) | (go_at_call 115; refine HF.out.mono ?_; rintro e w' ⟨rfl, hi, ha⟩))
      go_ret
      exact ⟨rfl, G, hi, ha⟩
    | false =>
      rw [hb] at hfails
      obtain ⟨x, vr⟩ := p
      have hmid : ∀ w1, IsFSu w1 g fs.tick G fs.used → ∃ vs vn v1 w2, w1.heap[x]? = some (.cells #[vs, vn, vr] 118 (0, 0)) ∧ (∃ a c, vn = .slice a f.now.length c) ∧
          (Builtin.append_ #[24, 24] 24 #[.slice none 0 0, vn]).run Tryz.prog w1 = .ok v1 w2 ∧ (∃ a1 c1, v1 = .slice a1 f.now.length c1) ∧
          (∀ k, w2.cell? ⟨x, k, none⟩ = (#[vs, vn, vr] : Array Value)[k]?) ∧ (∀ k, w2.frozen? ⟨x, k, none⟩ = false) ∧
          ∃ G', IsFS ((w2.setCell ⟨x, 0, none⟩ v1).setCell ⟨x, 2, none⟩ (.slice none 0 0)) g (fs.syncS name).tick G' ∧ Adv g G G' w1 ((w2.setCell ⟨x, 0, none⟩ v1).setCell ⟨x, 2, none⟩ (.slice none 0 0)) := by
        intro w1 hw1
        obtain ⟨vs, vn, cs, hbx, _, hvn, _⟩ := hw1.fl (n - 1) _ f hi hfi
        obtain ⟨v1, w2, hr, hv1, hc, hz, G', hi', ha'⟩ := sync_mid hw1 (name := name) hn hi hat hbx hvn (List.mem_of_getElem? hfi)
        refine ⟨vs, vn, v1, w2, hbx, hvn.len, hr, hv1, hc, hz, G', ?_, ha'⟩
        rw [hu] at hi'
        exact hi'
      have HF := hid hfails
      have HM := hid hmid
      clear h hb hi hfi hat hx hn hd he h1 hu hfails hmid
      simp only at hget
      go_enter Tryz.func70, Tryz.ntmps70
      go_wp2_with (first | (go_at_call 77; refine hget.mono ?_; rintro e w' ⟨rfl, rfl⟩) | (go_at_call 115; refine HF.out.mono ?_; rintro e w1 ⟨rfl, hi, ha⟩; obtain ⟨vs, vn, v1, w2, hbx, ⟨va, vc, hvn⟩, hr, ⟨a1, c1, hv1⟩, hc2, hz2, G', hi', ha'⟩ := HM.out w1 hi; subst hvn; subst hv1; have hcx := cell_of hbx; have HI := hid hi'; have HA := hid (ha.trans ha'); clear hi ha hbx hi' ha') | (at_builtin; refine wpList_append_run rfl _ _ _ rfl hr rfl rfl ?_))
      go_ret
      exact ⟨rfl, G', HI.out, HA.out⟩
  · rw [if_pos he]
    have hget := get_err h name he
    have FIN := hid (FsPost.no h (Keep.refl _ w) (v := .int .i64 (fs.getE name)))
    clear h
    generalize fs.getE name = E at *
    have hne : (E != 0) = true := by simpa using he
    clear he
    go_enter Tryz.func70, Tryz.ntmps70
    go_wp2_with (go_at_call 77; refine hget.mono ?_; rintro e w' ⟨rfl, rfl⟩)
    go_ret
    exact FIN.out

set_option maxHeartbeats 800000 in
theorem Arm_any (h : IsFS w g fs G) (hd : fs.dead = false) (n : Nat) (hn : n < 9223372036854775807) :
    Calls Tryz.prog 28 #[.pointer (some ⟨g, 0, none⟩), .int .i64 (n : Int)] w (FsPost w g G { fs with fuse := n } (.int .i64 0)) := by
  have hready := ready_any h
  simp only [hd, Bool.false_eq_true, if_false] at hready
  have hc := h.cell
  have hz := h.fz
  have htop := blk_set h.top 9 (.int .i64 (n : Int))
  have hk := keep_set h.top notImm_fs 9 (.int .i64 (n : Int))
  have hwf : ({ fs with fuse := n } : Fs).WF := ⟨h.wf.room, h.wf.keys, h.wf.nums, h.wf.many, h.wf.lens, h.wf.ats, hn⟩
  have hfin : FsPost w g G { fs with fuse := n } (.int .i64 0) (.returned (.int .i64 0)) (w.setCell ⟨g, 9, none⟩ (.int .i64 (n : Int))) :=
    ⟨rfl, G, h.set_top (fs' := { fs with fuse := n }) hk (by rw [htop]; rfl) rfl rfl rfl hwf, Adv.of_top hk⟩
  have FIN := hid hfin
  have h0 : (0 : Int) ≤ (n : Int) := by omega
  clear h htop hk hwf hfin hd
  go_enter Tryz.func28, Tryz.ntmps28
  go_wp2_with (go_at_call 74; refine hready.mono ?_; rintro e w' ⟨rfl, rfl⟩)
  go_ret
  exact FIN.out

end
end Go.Stk

/- The disk: twins of directories, SyncDir. -/
namespace Go.Stk
open Go Go.RowKit Go.Proofs

theorem run_makeMap_some (w : World) (n : Nat) : (Instr.makeMap 85 (some (.int .i64 (n : Int)))).run Tryz.prog w = .ok (.map (some w.heap.size)) (w.alloc (.map #[] 0)) := by
  simp [Instr.makeMap, asInt, asIntOf, Result.andThen]

section
variable {w : World} {g : Nat} {fs : Fs} {G : FG} {u : Int}

/-- A call answers a map. -/
def RetMap (w : World) (D : List (ByteArray × Value)) (e : Ending) (w' : World) : Prop :=
  ∃ b D', e = .returned (.map (some b)) ∧ KMap SK w' b D' ∧ D'.Perm D ∧ Keep (fun _ => False) w w' ∧ w.heap.size ≤ b

theorem KMap.seen_len' {b : Nat} {D : List (ByteArray × Value)} (hm : KMap SK w b D) : (Builtin.len_ #[85] 3 #[.map (some b)]).run Tryz.prog w = .ok (.int .i64 (D.length : Int)) w := by
  obtain ⟨es, c, hb, hs⟩ := hm.len
  simp [Builtin.len_, MapKept.run_getObj_map hb, Result.andThen, hs, goInt]

set_option maxRecDepth 100000 in
set_option maxHeartbeats 1600000 in
theorem twin_any {b : Nat} {D : List (ByteArray × Value)} (hm : KMap SK w b D) : Calls Tryz.prog 82 #[.map (some b)] w (RetMap w D) := by
  have hlen := hm.seen_len'
  have hmk := run_makeMap_some w D.length
  have hm1 := hm.alloc (.map #[] 0)
  obtain ⟨o, hr, hkr⟩ := hm1.range' (P := Tryz.prog) Tryz.underlying85
  have HK := hid hkr
  have hout : KMap SK ((w.alloc (.map #[] 0)).alloc o) w.heap.size [] := (KMap.new SK w).alloc o
  have HOUT := hid hout
  have HLT := hid hm.lt
  have HND := hid hm.nodup
  clear hm hm1 hkr hout
  go_enter Tryz.func82, Tryz.ntmps82
  go_wp2
  go_loopg [4, 5] D.length (fun k _s _t wr => ∃ dn, k = D.length - dn.length ∧ KRange SK wr b (w.heap.size + 1) D dn ∧ KMap SK wr w.heap.size dn ∧ Keep (fun _ => False) w wr)
  case atStart =>
    refine ⟨[], by simp, ?_, HOUT.out, Keep.alloc (Keep.alloc (Keep.refl _ w) _) _⟩
    have := HK.out
    simpa using this
  case round =>
    obtain ⟨dn, hk, hkr, hout, hkeep⟩ := hrel
    have hdn := hkr
    rcases hkr.next (P := Tryz.prog) 0 with ⟨hperm, hnext⟩ | ⟨k, v, w1, hmem, hnext, hent, hkr1, hg1, hs1, hlt⟩
    · have FIN := hid (show RetMap w D (.returned (.map (some w.heap.size))) wr from ⟨w.heap.size, dn, rfl, hout, hperm, hkeep, Nat.le_refl _⟩)
      clear hkr hout hkeep hperm hk hdn hlen hmk hr
      go_wp2
      go_ret
      exact FIN.out
    · have hout1 : KMap SK w1 w.heap.size dn := hout.of_block (hg1.block _ hout.lt (by simp))
      have hnd1 := hkr1.map.nodup
      have hkn : k ∉ keysOf dn := by
        intro hkm
        have hnd2 : (keysOf (dn ++ [(k, v)])).Nodup := hkr1.dn_nodup
        rw [keysOf, List.map_append] at hnd2
        exact (List.nodup_append.1 hnd2).2.2 k hkm k (by simp) rfl
      obtain ⟨w2, hu, hm2, hg2, hs2, _⟩ := hout1.update (P := Tryz.prog) (t := 85) (.inl rfl) Tryz.underlying85 Tryz.underlying9 k v
      have hput := dput_of_not v hkn
      rw [hput] at hm2
      have hk1 : Keep (fun _ => False) w w1 := KeepN.row hkeep hg1 hkeep.size (fun j hj => .inl (by injection hj with hj; omega))
      have hk2 : Keep (fun _ => False) w w2 := KeepN.row hk1 hg2 hk1.size (fun j hj => .inl (by injection hj with hj; omega))
      have hkr2 : KRange SK w2 b (w.heap.size + 1) D (dn ++ [(k, v)]) := hkr1.of_block (hg2.block _ hkr1.map.lt (by have := HLT.out; simp; omega)) (hg2.block _ hkr1.lt (by simp))
      have HALL := hid (And.intro hkr2 (And.intro hm2 hk2))
      have HLEN := hid hlt
      have HKK := hid hk
      clear hkr hkr1 hout hkeep hk hout1 hnd1 hkn hg1 hg2 hs1 hs2 hm2 hput hk1 hk2 hkr2 hmem hlt hdn hlen hmk hr
      change (Instr.mapUpdate 85 (.map (some w.heap.size)) (.string k) v).run Tryz.prog w1 = .ok () w2 at hu
      change (Instr.next _ false 0).run Tryz.prog wr = .ok (.tuple #[.bool true, .string k, v]) w1 at hnext
      change (Instr.entry _).run Tryz.prog w1 = .ok (.tuple #[.string k, v]) w1 at hent
      go_wp2
      go_roundg (D.length - (dn ++ [(k, v)]).length)
      case measure =>
        have e1 := HLEN.out
        have e2 := HKK.out
        simp only [List.length_append, List.length_cons, List.length_nil]
        omega
      case rel => exact ⟨dn ++ [(k, v)], rfl, HALL.out.1, HALL.out.2.1, HALL.out.2.2⟩

end
end Go.Stk

/- The disk: SyncDir. -/
namespace Go.Stk
open Go Go.RowKit Go.Proofs

section
variable {w : World} {g : Nat} {fs : Fs} {G : FG} {u : Int}

/-- What is seen is sure: the sure directory is a new map, the row is none. -/
theorem syncDir_mid {w1 w' : World} {b : Nat} {D : List (ByteArray × Value)} (h : IsFSu w g fs G u) (hm : KMap SK w1 b D) (hp : D.Perm (dirV fs.seen)) (hk : Keep (fun _ => False) w w1) (hb : w.heap.size ≤ b)
    (hw : w' = (w1.setCell ⟨g, 5, none⟩ (.map (some b))).setCell ⟨g, 7, none⟩ (.slice none 0 0)) : ∃ G', IsFSu w' g fs.syncDirS G' u ∧ Adv g G G' w w' := by
  subst hw
  have ht1 : w1.heap[g]? = _ := (hk.block g (lt_of h.top) (fun h => h)).trans h.top
  have ht2 := blk_set ht1 5 (.map (some b))
  have ht3 := blk_set ht2 7 (.slice none 0 0)
  have hkg : Keep (fun i => i = g) w ((w1.setCell ⟨g, 5, none⟩ (.map (some b))).setCell ⟨g, 7, none⟩ (.slice none 0 0)) :=
    Keep.setCell (Keep.setCell (F := fun i => i = g) (hk.mono (fun _ h => h.elim)) ht1 (.inr ⟨rfl, notImm_fs⟩) 5 _) ht2 (.inr ⟨rfl, notImm_fs⟩) 7 _
  have hnd := h.nd
  have hgb : b ≠ g := fun e => by have := lt_of h.top; omega
  have hnd2 := hnd
  simp only [FG.blocks, List.nodup_cons, List.mem_cons, List.mem_append, not_or] at hnd2
  obtain ⟨⟨g1, g2, g3, g4, g5⟩, ⟨f1, f2, f3, f4⟩, ⟨s1, s2, s3⟩, ⟨n1, n2⟩, hnd3⟩ := hnd2
  have hn := h.kmn; have hf := h.kmf
  have hbm : ∀ k ∈ G.blocks g, k ≠ b := fun k hk e => by have := h.lt k hk; omega
  have hseen : fs.syncDirS.seen = fs.seen := rfl
  have hfl : ∀ k ∈ G.xs.flatMap fileBlocks, k ∈ G.blocks g := fun k hk => by
    simp only [FG.blocks, List.mem_cons, List.mem_append]
    exact .inr (.inr (.inr (.inr (.inr hk))))
  refine ⟨{ G with ms := b, vrow := .slice none 0 0 }, ⟨by rw [ht3]; rfl, ⟨D, ?_, hp⟩, ?_, ?_, World.ownsRow_nil _ _ _ _, h.len, ?_, ?_, h.wf.syncDir⟩, ⟨hkg.mono (fun i hi => by subst hi; exact mem_blocks_self G i), ?_⟩⟩
  · exact hm.of_block ((blk_set_ne hgb 7 _).trans (blk_set_ne hgb 5 _))
  · obtain ⟨E, a, b'⟩ := hn
    exact ⟨E, a.of_block (hkg.block _ a.lt (fun e => g3 e.symm)), by rw [hseen]; exact b'⟩
  · obtain ⟨E, a, b'⟩ := hf
    exact ⟨E, a.of_block (hkg.block _ a.lt (fun e => g1 e.symm)), b'⟩
  · intro i p f hpi hfi
    refine (h.fl i p f hpi hfi).keep hkg (fun j hj e => ?_)
    subst e
    exact g5 (List.mem_flatMap.2 ⟨p, List.mem_of_getElem? hpi, hj⟩)
  · have hnd4 := (List.nodup_append.1 hnd3).2.1
    simp only [FG.blocks, Value.ownBlock, Option.toList_none, List.nil_append, List.nodup_cons, List.mem_cons, not_or]
    refine ⟨⟨g1, fun e => hgb e.symm, g3, g5⟩, ⟨fun e => hbm G.mf (by simp [FG.blocks]) e, f2, f4⟩, ⟨fun e => hbm G.mn (by simp [FG.blocks]) e.symm, fun hm => hbm b (hfl b hm) rfl⟩, n2, hnd4⟩
  · intro k hk'
    simp only [FG.blocks, Value.ownBlock, Option.toList_none, List.nil_append, List.mem_cons] at hk'
    rcases hk' with rfl | rfl | rfl | rfl | hk'
    · exact .inl (mem_blocks_self G _)
    · exact .inl (by simp [FG.blocks])
    · exact .inr hb
    · exact .inl (by simp [FG.blocks])
    · exact .inl (hfl k hk')

set_option maxRecDepth 100000 in
set_option maxHeartbeats 1600000 in
theorem SyncDir_any (h : IsFS w g fs G) :
    Calls Tryz.prog 73 #[.pointer (some ⟨g, 0, none⟩)] w (FsPost w g G fs.syncDirR.2 (.int .i64 fs.syncDirR.1)) := by
  unfold Fs.syncDirR
  have hready := ready_any h
  cases hd : fs.dead with
  | true =>
    simp only [hd, if_true] at hready ⊢
    have FIN := hid (FsPost.no h (Keep.refl _ w) (v := .int .i64 13))
    clear h hd
    go_enter Tryz.func73, Tryz.ntmps73
    go_wp2_with (go_at_call 74; refine hready.mono ?_; rintro e w' ⟨rfl, rfl⟩)
    go_ret
    exact FIN.out
  | false =>
    simp only [hd, Bool.false_eq_true, if_false] at hready ⊢
    have hfails := fails_any h hd
    unfold Fs.endE
    cases hb : fs.fuse == 1 with
    | true =>
      rw [hb] at hfails
      have HF := hid hfails
      clear h hb hd hfails
      go_enter Tryz.func73, Tryz.ntmps73
      go_wp2_with (first | (go_at_call 74; refine hready.mono ?_; rintro e w' ⟨rfl, rfl⟩) | (go_at_call 115; refine HF.out.mono ?_; rintro e w' ⟨rfl, hi, ha⟩))
      go_ret
      exact ⟨rfl, G, hi, ha⟩
    | false =>
      rw [hb] at hfails
      have hmid : ∀ w1, IsFSu w1 g fs.tick G fs.used → ∃ D, KMap SK w1 G.mn D ∧ D.Perm (dirV fs.seen) ∧ Calls Tryz.prog 82 #[.map (some G.mn)] w1 (RetMap w1 D) := by
        intro w1 hw1
        obtain ⟨D, hm, hp⟩ := hw1.kmn
        exact ⟨D, hm, hp, twin_any hm⟩
      have HF := hid hfails
      have HM := hid hmid
      clear h hb hd hfails hmid
      go_enter Tryz.func73, Tryz.ntmps73
      go_wp2_with (first | (go_at_call 74; refine hready.mono ?_; rintro e w' ⟨rfl, rfl⟩) | (go_at_call 115; refine HF.out.mono ?_; rintro e w1 ⟨rfl, hi, ha⟩; obtain ⟨D, hm, hp, htw⟩ := HM.out w1 hi; have hc1 := hi.cell; have HI := hid hi; have HA := hid ha; have HP := hid hp; clear hi ha hm hp) | (go_at_call 82; refine htw.mono ?_; rintro e w2 ⟨b, D', rfl, hm2, hp2, hk2, hb2⟩; have hc2 := cell_of ((hk2.block g (lt_of HI.out.top) (fun h => h)).trans HI.out.top); have hz2 := fz_of ((hk2.block g (lt_of HI.out.top) (fun h => h)).trans HI.out.top)))
      go_ret
      obtain ⟨G', hi', ha'⟩ := syncDir_mid HI.out hm2 (hp2.trans HP.out) hk2 hb2 rfl
      exact ⟨rfl, G', hi', HA.out.trans ha'⟩

end
end Go.Stk

/- The disk: names of a directory, rising. -/
namespace Go.Stk
open Go Go.RowKit Go.Proofs

/-- Texts, rising. -/
def sortB (l : List ByteArray) : List ByteArray := ((l.map fun s => s.data.toList).mergeSort fun x y => decide (x ≤ y)).map fun x => ⟨x.toArray⟩

theorem sortB_perm {a b : List ByteArray} (h : a.Perm b) : sortB a = sortB b := by
  unfold sortB
  congr 1
  have hle : ∀ x y z : List UInt8, decide (x ≤ y) = true → decide (y ≤ z) = true → decide (x ≤ z) = true := by
    intro x y z h1 h2
    simp only [decide_eq_true_eq] at h1 h2 ⊢
    exact List.le_trans h1 h2
  have htot : ∀ x y : List UInt8, (decide (x ≤ y) || decide (y ≤ x)) = true := by
    intro x y
    simp only [Bool.or_eq_true, decide_eq_true_eq]
    exact List.le_total x y
  refine List.Perm.eq_of_pairwise (le := fun x y => decide (x ≤ y) = true) ?_ (List.pairwise_mergeSort hle htot _) (List.pairwise_mergeSort hle htot _) ?_
  · intro x y _ _ h1 h2
    simp only [decide_eq_true_eq] at h1 h2
    exact List.le_antisymm h1 h2
  · exact (List.mergeSort_perm _ _).trans ((h.map _).trans (List.mergeSort_perm _ _).symm)

theorem sortB_len (l : List ByteArray) : (sortB l).length = l.length := by simp [sortB]
theorem sortB_mem {l : List ByteArray} {s : ByteArray} : s ∈ sortB l ↔ s ∈ l := by
  simp only [sortB, List.mem_map, List.mem_mergeSort]
  constructor
  · rintro ⟨x, ⟨y, hy, rfl⟩, rfl⟩
    exact hy
  · intro h
    exact ⟨_, ⟨s, h, rfl⟩, rfl⟩

def strV (l : List ByteArray) : List Value := l.map Value.string
theorem strV_length (l : List ByteArray) : (strV l).length = l.length := by simp [strV]

/-- v is a slice that reads as these texts. -/
def Txt (w : World) (v : Value) (l : List ByteArray) : Prop := Sl 1 w v l.length (strV l)

/-- A call answers texts of its own memory. -/
def RetTxt (w : World) (l : List ByteArray) (e : Ending) (w' : World) : Prop := ∃ v, e = .returned v ∧ Txt w' v l ∧ Keep (fun _ => False) w w'

/-- sort.Strings, on a row of its own. -/
def SortStr : Prop := ∀ (w : World) (g cap : Nat) (l : List ByteArray), l.length ≤ 1099511627776 → w.ownsRow 0 9 1 (.slice (some ⟨g, 0, none⟩) l.length cap) l.length (strV l) →
  Calls Tryz.prog 118 #[.slice (some ⟨g, 0, none⟩) l.length cap] w fun e w' =>
    e = .returned (.tuple #[]) ∧ w'.ownsRow 0 9 1 (.slice (some ⟨g, 0, none⟩) l.length cap) l.length (strV (sortB l)) ∧ w.grownBy w' (some g)

set_option maxRecDepth 100000 in
theorem insertion_nil (p : Option Addr) (cap : Nat) (w : World) :
    Calls Tryz.prog 165 #[.slice p 0 cap, .int .i64 0, .int .i64 0] w fun e w' => e = .returned (.tuple #[]) ∧ w' = w := by
  go_enter Tryz.func165, Tryz.ntmps165
  go_wp2
  refine wp_loop_rounds 1 ?_
  rw [rounds_succ]
  go_wp2
  go_end0
  exact ⟨rfl, rfl⟩

set_option maxRecDepth 100000 in
theorem pdqsort_nil (p : Option Addr) (cap : Nat) (w : World) :
    Calls Tryz.prog 142 #[.slice p 0 cap, .int .i64 0, .int .i64 0, .int .i64 0] w fun e w' => e = .returned (.tuple #[]) ∧ w' = w := by
  go_enter Tryz.func142, Tryz.ntmps142
  go_wp2
  refine wp_loop_rounds 1 ?_
  rw [rounds_succ]
  go_wp2_with (first | (go_at_call 165; refine (insertion_nil p cap _).mono ?_; rintro e w' ⟨rfl, rfl⟩))
  refine bodyPost_ret (results_none rfl _ _ _) rfl ?_
  exact ⟨rfl, rfl⟩

def LenZero : Prop := ∀ w : World, Calls Tryz.prog 137 #[.int .u64 0] w fun e w' => e = .returned (.int .i64 0) ∧ w' = w

set_option maxRecDepth 100000 in
theorem sort_nil (hLen : LenZero) (p : Option Addr) (cap : Nat) (w : World) :
    Calls Tryz.prog 118 #[.slice p 0 cap] w fun e w' => e = .returned (.tuple #[]) ∧ w' = w := by
  have h1 : ∀ w : World, Calls Tryz.prog 133 #[.slice p 0 cap] w fun e w' => e = .returned (.tuple #[]) ∧ w' = w := by
    intro w
    go_enter Tryz.func133, Tryz.ntmps133
    go_wp2_with (first
      | (go_at_call 137; refine (hLen _).mono ?_; rintro e w' ⟨rfl, rfl⟩)
      | (go_at_call 142; refine (pdqsort_nil p cap _).mono ?_; rintro e w' ⟨rfl, rfl⟩))
    go_end0
    exact ⟨rfl, rfl⟩
  go_enter Tryz.func118, Tryz.ntmps118
  go_wp2_with (go_at_call 133; refine (h1 _).mono ?_; rintro e w' ⟨rfl, rfl⟩)
  go_end0
  exact ⟨rfl, rfl⟩

section
variable {w : World} {g : Nat} {fs : Fs} {G : FG} {u : Int}

/-- out = append(out, s). -/
theorem append_text {ty : TypeId} {x : Value} {l : List ByteArray} {s : ByteArray} (hown : w.ownsRow 0 9 1 x l.length (strV l)) (hl : l.length ≤ 1099511627776) :
    ∃ v' w', (Builtin.append_ #[42, 42] ty #[x, .slice (some ⟨w.heap.size, 0, none⟩) 1 1]).run Tryz.prog (w.alloc (.cells #[.string s] 9)) = .ok v' w' ∧ w'.ownsRow 0 9 1 v' (l ++ [s]).length (strV (l ++ [s])) ∧
      (w.alloc (.cells #[.string s] 9)).grownBy w' x.ownBlock ∧ (v'.ownBlock = x.ownBlock ∨ v'.ownBlock = some (w.heap.size + 1)) := by
  have info_str : (Tryz.prog.info? 9).map (fun i => (i.zero, i.size, i.bytes)) = some (some (.string ByteArray.empty), 1, 16) := by kernel_rfl
  obtain ⟨i, hi, hz, hs, hby⟩ := info_parts info_str
  have hnew := blk_new w (.cells #[.string s] 9)
  have hsl : Sl 1 (w.alloc (.cells #[.string s] 9)) (.slice (some ⟨w.heap.size, 0, none⟩) 1 1) 1 [.string s] := by
    refine ⟨rfl, .inr ⟨w.heap.size, 0, 1, _, (⟨_, imm_str⟩, _), rfl, hnew, Nat.le_refl _, by unfold maxLen; omega, by simp, fun i x hx => ?_⟩⟩
    cases i with
    | zero => simpa using hx
    | succ i => simp at hx
  have hown1 : (w.alloc (.cells #[.string s] 9)).ownsRow 0 9 1 x l.length (strV l) := ownsRow_block hown (fun k hk => Below.heap_alloc w _ k (hown.lt k hk).2)
  obtain ⟨v', w', hr, h2, h3, h4⟩ := run_append_sl (P := Tryz.prog) (ty := ty) Tryz.underlying42 hi hz hs hby rfl (by omega) hown1 hsl (by simp [Value.oneCell']) (by unfold maxLen; omega) (by omega)
  refine ⟨v', w', hr, ?_, h3, ?_⟩
  · simpa [strV] using h2
  · simpa using h4

/-- Behind one more text. -/
theorem names_mid {b r : Nat} {W : Nat} {D dn : List (ByteArray × Value)} {x : Value} {k : ByteArray} {v : Value} {w0 w1 : World} (hW : W = w0.heap.size) (hr : KRange SK w1 b r D (dn ++ [(k, v)])) (hbW : b < W) (hrW : r = W)
    (hown : w1.ownsRow 0 9 1 x (keysOf dn).length (strV (keysOf dn))) (hx : ∀ j, x.ownBlock = some j → W < j) (hk : Keep (fun _ => False) w0 w1) (hl : dn.length ≤ 1099511627776) :
    ∃ v' w', (Builtin.append_ #[42, 42] 42 #[x, .slice (some ⟨w1.heap.size, 0, none⟩) 1 1]).run Tryz.prog (w1.alloc (.cells #[.string k] 9)) = .ok v' w' ∧
      w'.ownsRow 0 9 1 v' (keysOf (dn ++ [(k, v)])).length (strV (keysOf (dn ++ [(k, v)]))) ∧ KRange SK w' b r D (dn ++ [(k, v)]) ∧ (∀ j, v'.ownBlock = some j → W < j) ∧ Keep (fun _ => False) w0 w' := by
  subst hW; subst hrW
  have e : keysOf (dn ++ [(k, v)]) = keysOf dn ++ [k] := by simp [keysOf]
  obtain ⟨v', w', h1, h2, h3, h4⟩ := append_text (ty := 42) (s := k) hown (by simpa [keysOf] using hl)
  have hlt := hr.lt
  have hka := Keep.alloc hk (.cells #[.string k] 9)
  have hx0 : ∀ j, x.ownBlock = some j → w0.heap.size < j := hx
  refine ⟨v', w', h1, by rw [e]; exact h2, ?_, ?_, ?_⟩
  · have hb1 : b ≠ w0.heap.size := by omega
    refine hr.of_block ((h3.block b ?_ ?_).trans (Below.heap_alloc w1 _ b hr.map.lt)) ((h3.block _ ?_ ?_).trans (Below.heap_alloc w1 _ _ hlt))
    · have := hr.map.lt; simp; omega
    · intro e2; have := hx _ e2.symm; omega
    · simp; omega
    · intro e2; have := hx _ e2.symm; omega
  · intro j hj
    rcases h4 with h4 | h4
    · exact hx j (h4 ▸ hj)
    · rw [h4] at hj; injection hj with hj; omega
  · exact KeepN.row hka h3 hka.size (fun j hj => .inl (by have := hx j hj; omega))

set_option maxRecDepth 100000 in
set_option maxHeartbeats 1600000 in
theorem names_any (hS : SortStr) (hL : LenZero) {b : Nat} {D : List (ByteArray × Value)} (hm : KMap SK w b D) (hD : D.length ≤ 1099511627776) : Calls Tryz.prog 79 #[.map (some b)] w (RetTxt w (sortB (keysOf D))) := by
  obtain ⟨o, hr, hkr⟩ := hm.range' (P := Tryz.prog) Tryz.underlying85
  have HK := hid hkr
  have HLT := hid hm.lt
  clear hm hkr
  go_enter Tryz.func79, Tryz.ntmps79
  go_wp2
  go_loopg [3, 4] D.length (fun k y _t wr => ∃ dn x, x = y ∧ k = D.length - dn.length ∧ KRange SK wr b w.heap.size D dn ∧ wr.ownsRow 0 9 1 x (keysOf dn).length (strV (keysOf dn)) ∧ (∀ j, x.ownBlock = some j → w.heap.size < j) ∧ Keep (fun _ => False) w wr)
  case atStart =>
    exact ⟨[], _, rfl, by simp, HK.out, World.ownsRow_nil _ _ _ _, by simp [Value.ownBlock], Keep.alloc (Keep.refl _ w) _⟩
  case round =>
    obtain ⟨dn, x, rfl, hk, hkr, hown, hx, hkeep⟩ := hrel
    rcases hkr.next (P := Tryz.prog) 0 with ⟨hperm, hnext⟩ | ⟨k, v, w1, hmem, hnext, hent, hkr1, hg1, hs1, hlt⟩
    · have hsort : sortB (keysOf dn) = sortB (keysOf D) := sortB_perm (hperm.map _)
      rcases hown.2 with ⟨hv, h0⟩ | ⟨g2, cap, cur, hv, _, hg2, hnc, hcm, hcs, ht⟩
      · subst hv
        have e0 : keysOf dn = [] := List.eq_nil_of_length_eq_zero h0
        rw [e0] at hsort
        have FIN := hid (show RetTxt w (sortB (keysOf D)) (.returned (.slice none 0 0)) wr from ⟨_, rfl, by rw [← hsort, show sortB [] = [] by simp [sortB]]; exact Sl.nil _ _, hkeep⟩)
        clear hkr hown hx hkeep hk hperm hr hsort e0 h0
        go_wp2_with (go_at_call 118; refine (sort_nil hL none 0 _).mono ?_; rintro e w' ⟨rfl, rfl⟩)
        go_ret
        exact FIN.out
      · subst hv
        have hS1 := hS wr g2 cap (keysOf dn) (by have := (hperm.map (Prod.fst : ByteArray × Value → ByteArray)).length_eq; simp only [List.length_map, keysOf] at this ⊢; omega) hown
        have hgw := hx g2 rfl
        have FIN : ∀ w', w'.ownsRow 0 9 1 (.slice (some ⟨g2, 0, none⟩) (keysOf dn).length cap) (keysOf dn).length (strV (sortB (keysOf dn))) → wr.grownBy w' (some g2) → RetTxt w (sortB (keysOf D)) (.returned (.slice (some ⟨g2, 0, none⟩) (keysOf dn).length cap)) w' := by
          intro w' h1 h2
          have e := sortB_len (keysOf dn)
          refine ⟨_, rfl, ?_, KeepN.row hkeep h2 hkeep.size (fun j hj => .inl (by injection hj with hj; omega))⟩
          rw [← hsort]
          unfold Txt
          rw [e]
          exact Sl.of_own imm_str h1
        have HF := hid FIN
        generalize (keysOf dn).length = n at *
        clear hkr hown hx hkeep hk hperm hr hsort FIN hg2 hnc hcm hcs ht hgw
        go_wp2_with (go_at_call 118; refine hS1.mono ?_; rintro e w' ⟨rfl, h1, h2⟩; have H1 := hid h1; have H2 := hid h2; clear h1 h2)
        go_ret
        exact HF.out _ H1.out H2.out
    · have hx2 : ∀ j, x.ownBlock = some j → w.heap.size < j := hx
      have hgb : ∀ j, x.ownBlock = some j → w1.heap[j]? = wr.heap[j]? := fun j hj => hg1.block j (hown.lt j hj).2 (by intro e; have := hx j hj; injection e with e; omega)
      have hk1 : Keep (fun _ => False) w w1 := KeepN.row hkeep hg1 hkeep.size (fun j hj => .inl (by injection hj with hj; omega))
      obtain ⟨v', w', ha, hown', hkr', hx', hk'⟩ := names_mid rfl hkr1 HLT.out rfl (ownsRow_block hown hgb) hx hk1 (by omega)
      have HALL := hid (And.intro hkr' (And.intro hown' (And.intro hx' hk')))
      have HLEN := hid hlt
      have HKK := hid hk
      clear hkr hkr1 hown hkeep hk hg1 hs1 hmem hlt hr hx hx2 hgb hk1 hown' hkr' hx' hk'
      change (Instr.next _ false 0).run Tryz.prog wr = .ok (.tuple #[.bool true, .string k, v]) w1 at hnext
      change (Instr.entry _).run Tryz.prog w1 = .ok (.tuple #[.string k, v]) w1 at hent
      go_wp2_with (refine wpList_append_run (by rfl) _ _ _ (by rfl) ha (by rfl) (by rfl) ?_)
      go_roundg (D.length - (dn ++ [(k, v)]).length)
      case measure =>
        have e1 := HLEN.out
        have e2 := HKK.out
        simp only [List.length_append, List.length_cons, List.length_nil]
        omega
      case rel => exact ⟨dn ++ [(k, v)], _, rfl, rfl, HALL.out.1, HALL.out.2.1, HALL.out.2.2.1, HALL.out.2.2.2⟩

def Fs.names (fs : Fs) : List ByteArray := if fs.dead then [] else sortB (keysOf fs.seen)

set_option maxRecDepth 100000 in
theorem Names_any (hS : SortStr) (hL : LenZero) (h : IsFS w g fs G) : Calls Tryz.prog 24 #[.pointer (some ⟨g, 0, none⟩)] w (RetTxt w fs.names) := by
  unfold Fs.names
  have hready := ready_any h
  cases hd : fs.dead with
  | true =>
    simp only [hd, if_true] at hready ⊢
    have FIN := hid (show RetTxt w [] (.returned (.slice none 0 0)) w from ⟨_, rfl, Sl.nil _ _, Keep.refl _ w⟩)
    clear h hd
    go_enter Tryz.func24, Tryz.ntmps24
    go_wp2_with (go_at_call 74; refine hready.mono ?_; rintro e w' ⟨rfl, rfl⟩)
    go_ret
    exact FIN.out
  | false =>
    simp only [hd, Bool.false_eq_true, if_false] at hready ⊢
    obtain ⟨D, hm, hp⟩ := h.kmn
    have hD : D.length ≤ 64 := by
      have e1 := hp.length_eq
      have e2 := Fs.seen_many h.wf
      simp only [dirV, List.length_map] at e1
      omega
    have hn := names_any hS hL hm (by omega)
    have e : sortB (keysOf D) = sortB (keysOf fs.seen) := by
      rw [← keysOf_map fs.seen (fun n => Value.int .i64 (n : Int))]
      exact sortB_perm (hp.map _)
    rw [e] at hn
    have hc := h.cell
    clear h hd hm hp hD e
    go_enter Tryz.func24, Tryz.ntmps24
    go_wp2_with (first | (go_at_call 74; refine hready.mono ?_; rintro e w' ⟨rfl, rfl⟩) | (go_at_call 79; refine hn.mono ?_; rintro e w' ⟨v, rfl, h1, h2⟩))
    go_ret
    exact ⟨v, rfl, h1, h2⟩

end
end Go.Stk

/- The disk: Read. -/
namespace Go.Stk
open Go Go.RowKit Go.Proofs

section
variable {w : World} {g : Nat} {fs : Fs} {G : FG} {u : Int}

/-- A call answers bytes of their own memory, and no error. -/
def RetBytE (w : World) (l : List UInt8) (e : Ending) (w' : World) : Prop := ∃ v, e = .returned (.tuple #[v, .int .i64 0]) ∧ Byt w' v l ∧ Keep (fun _ => False) w w'

theorem Read_err (h : IsFS w g fs G) (name : ByteArray) (at_ n : Int) (he : fs.getE name ≠ 0) :
    Calls Tryz.prog 80 #[.pointer (some ⟨g, 0, none⟩), .string name, .int .i64 at_, .int .i64 n] w fun e w' => e = .returned (.tuple #[.slice none 0 0, .int .i64 (fs.getE name)]) ∧ w = w' := by
  have hget := get_err h name he
  generalize hE : fs.getE name = E at *
  have hne : (E != 0) = true := by simpa using he
  clear hE he h
  go_enter Tryz.func80, Tryz.ntmps80
  go_wp2_with (go_at_call 77; refine hget.mono ?_; rintro e w' ⟨rfl, rfl⟩)
  go_ret2
  exact ⟨rfl, rfl⟩

set_option maxRecDepth 100000 in
set_option maxHeartbeats 1600000 in
theorem Read_ok (h : IsFS w g fs G) {name : ByteArray} {at_ n : Nat} (he : fs.getE name = 0) (hat : at_ ≤ (fs.at name).now.length) (hn63 : n ≤ 4611686018427387904) :
    Calls Tryz.prog 80 #[.pointer (some ⟨g, 0, none⟩), .string name, .int .i64 at_, .int .i64 n] w (RetBytE w (((fs.at name).now.drop at_).take n)) := by
  obtain ⟨hd, nn, hn⟩ := Fs.getE_ok he
  obtain ⟨p, f, h1, hi, hfi, hatf, hx⟩ := h.at_name hn
  have hget := get_ok h hd hn h1 hi
  rw [hatf] at hat ⊢
  have hl := h.wf.now_le (List.mem_of_getElem? hfi)
  obtain ⟨vs, vn, cs, hb, _, hvn, _⟩ := hx
  have hcx := cell_of hb
  have hsum : (at_ : Int) + (min n (f.now.length - at_) : Nat) = ((at_ + min n (f.now.length - at_) : Nat) : Int) := by omega
  obtain ⟨d, hsl, hd3⟩ := hvn.part (i := at_) (k := at_ + min n (f.now.length - at_)) (by omega) (by omega)
  obtain ⟨v4, w4, hr4, hown4, hg4, hat4⟩ := run_append_byt (ty := 24) (w := w.drew) (x := .slice none 0 0) (xs := []) (World.ownsRow_nil _ _ _ _) hd3.drew (by
    rw [List.length_take, List.length_drop]; simp only [List.length_nil]; omega)
  rw [List.nil_append, List.length_nil, Nat.zero_add] at hown4
  have hk4 : Keep (fun _ => False) w w4 := KeepN.row (Keep.refl _ w).drew hg4 (Nat.le_refl _) (fun k hk => by simp [Value.ownBlock] at hk)
  have e : (f.now.drop at_).take (at_ + min n (f.now.length - at_) - at_) = (f.now.drop at_).take n := by
    rw [Nat.add_sub_cancel_left]
    by_cases hle : n ≤ f.now.length - at_
    · rw [Nat.min_eq_left hle]
    · rw [Nat.min_eq_right (by omega), List.take_of_length_le (by simp), List.take_of_length_le (by simp; omega)]
  rw [e] at hown4
  have FIN := hid (show RetBytE w ((f.now.drop at_).take n) (.returned (.tuple #[v4, .int .i64 0])) w4 from ⟨v4, rfl, Byt.of_own hown4, hk4⟩)
  obtain ⟨a, c, rfl⟩ := hvn.len
  clear h hb hown4 hk4 hg4 hat4 hd3 hvn e hd hn hi h1 hatf he hfi
  generalize hL : f.now.length = L at *
  have hw1 : IntKind.i64.wrap ((L : Int) - (at_ : Int)) = ((L - at_ : Nat) : Int) := by rw [IntWalk.i64_in _ (by omega)]; omega
  generalize hR : L - at_ = R at *
  generalize hM : min n R = M at *
  have hw2 : IntKind.i64.wrap ((at_ : Int) + (M : Int)) = ((at_ + M : Nat) : Int) := by rw [IntWalk.i64_in _ (by omega)]; omega
  generalize hK2 : at_ + M = K2 at *
  have b1 : (0 : Int) ≤ (at_ : Int) := by omega
  have b2 : (at_ : Int) ≤ (L : Int) := by omega
  have b3 : (L : Int) ≤ 1048576 := by omega
  have b4 : (0 : Int) ≤ (n : Int) := by omega
  have b5 : (n : Int) ≤ 4611686018427387904 := by omega
  have b6 : (M : Int) ≤ (L : Int) := by omega
  have b7 : (0 : Int) ≤ (M : Int) := by omega
  have hc2 : (R < n ∧ M = R) ∨ (¬ R < n ∧ M = n) := by omega
  clear hM hsum
  rcases hc2 with ⟨hlt, rfl⟩ | ⟨hlt, rfl⟩
  all_goals
    go_enter Tryz.func80, Tryz.ntmps80
    go_wp2_with (go_at_call 77; refine hget.mono ?_; rintro e w' ⟨rfl, rfl⟩)
    go_still_tail 17, (by kernel_rfl)
    change wpList _ _ _ _ _ w.drew
    refine wpList_append_run rfl _ _ _ rfl hr4 rfl rfl ?_
    go_wp2
    go_ret2
    exact FIN.out

end
end Go.Stk

/- Bytes that a call makes; numbers of unlike lengths: what is put. -/
namespace Go.Stk
open Go Go.RowKit Go.Proofs

/-- A call answers bytes of its own; nothing that was there has changed. -/
def RetOwn (w : World) (l : List UInt8) (e : Ending) (w' : World) : Prop := ∃ v, e = .returned v ∧ w'.ownsRow w.heap.size 5 1 v l.length (byV l) ∧ Keep (fun _ => False) w w'

/-- Bytes that may be appended to: they are cut off behind their end. -/
def Clip (w : World) (v : Value) (l : List UInt8) : Prop := Byt w v l ∧ ∃ a, v = .slice a l.length l.length

section
variable {w w1 : World} {v x : Value} {l xs : List UInt8}

theorem own_base {W : World} {e : TypeId} {s n base : Nat} {v : Value} {cs : List Value} (h : W.ownsRow 0 e s v n cs) (hb : ∀ k, v.ownBlock = some k → base ≤ k) : W.ownsRow base e s v n cs := by
  refine ⟨h.1, ?_⟩
  rcases h.2 with h1 | ⟨g, cap, cur, rfl, _, rest⟩
  · exact .inl h1
  · exact .inr ⟨g, cap, cur, rfl, hb g rfl, rest⟩

theorem own_zero {W : World} {e : TypeId} {s n base : Nat} {v : Value} {cs : List Value} (h : W.ownsRow base e s v n cs) : W.ownsRow 0 e s v n cs := h.mono (Nat.zero_le _)

theorem own_keep {W W' : World} {e : TypeId} {s n base : Nat} {v : Value} {cs : List Value} (h : W.ownsRow base e s v n cs) (k : Keep (fun _ => False) W W') : W'.ownsRow base e s v n cs := by
  refine ⟨h.1, ?_⟩
  rcases h.2 with h1 | ⟨g, cap, cur, rfl, hb, hg, rest⟩
  · exact .inl h1
  · exact .inr ⟨g, cap, cur, rfl, hb, (k.block g (lt_of hg) (fun h => h)).trans hg, rest⟩

/-- append(x, y...), x the call's own. -/
theorem append_own {ty : TypeId} (hk : Keep (fun _ => False) w w1) (hown : w1.ownsRow w.heap.size 5 1 x xs.length (byV xs)) (h : Byt w1 v l) (hb : xs.length + l.length ≤ 140737488355328) :
    ∃ v' w', (Builtin.append_ #[24, 24] ty #[x, v]).run Tryz.prog w1 = .ok v' w' ∧ w'.ownsRow w.heap.size 5 1 v' (xs ++ l).length (byV (xs ++ l)) ∧ Keep (fun _ => False) w w' ∧ (∃ a c, v' = .slice a (xs ++ l).length c) ∧ w1.grownBy w' x.ownBlock := by
  obtain ⟨v', w', hr, h2, h3, h4⟩ := run_append_byt (ty := ty) (own_zero hown) h hb
  rw [← List.length_append] at h2
  have hlt := hown.lt
  refine ⟨v', w', hr, own_base h2 ?_, KeepN.row hk h3 hk.size (fun k e => .inl (hlt k e).1), (Byt.of_own h2).len, h3⟩
  intro k hk'
  rcases h4 with h4 | h4
  · exact (hlt k (h4 ▸ hk')).1
  · rw [h4] at hk'
    injection hk' with hk'
    have := hk.size
    omega

/-- Bytes that are laid out. -/
theorem own_new (w : World) (base : Nat) (l : List UInt8) (hb : base ≤ w.heap.size) (hl : l.length ≤ maxLen) : (w.alloc (.cells (byV l).toArray 5)).ownsRow base 5 1 (.slice (some ⟨w.heap.size, 0, none⟩) l.length l.length) l.length (byV l) :=
  ⟨by simp [byV], .inr ⟨w.heap.size, l.length, _, rfl, hb, blk_new w _, Nat.le_refl _, hl, by simp [byV], by rw [Nat.mul_one, List.take_of_length_le (by simp [byV])]⟩⟩

theorem byt_new (w : World) (l : List UInt8) (hl : l.length ≤ maxLen) : Byt (w.alloc (.cells (byV l).toArray 5)) (.slice (some ⟨w.heap.size, 0, none⟩) l.length l.length) l :=
  Byt.of_own (own_new w 0 l (Nat.zero_le _) hl)

/-- append(x, y...), x cut off behind its end. -/
theorem append_clip {ty : TypeId} (hx : Clip w x xs) (h : Byt w v l) (hb : xs.length + l.length ≤ 140737488355328) :
    ∃ v' w', (Builtin.append_ #[24, 24] ty #[x, v]).run Tryz.prog w = .ok v' w' ∧ Byt w' v' (xs ++ l) ∧ Keep (fun _ => False) w w' := by
  have info_u8 : (Tryz.prog.info? 5).map (fun i => (i.zero, i.size, i.bytes)) = some (some (.int .u8 0), 1, 1) := by kernel_rfl
  obtain ⟨i, hi, hz, hs, hby⟩ := info_parts info_u8
  obtain ⟨hx, a, rfl⟩ := hx
  obtain ⟨ya, yc, rfl, hyc, _⟩ := Sl.form h
  by_cases hl : l.length = 0
  · have e : l = [] := List.eq_nil_of_length_eq_zero hl
    subst e
    have hs : Src Tryz.prog i.size 24 (.slice ya 0 yc) 0 [] w := by
      cases ya with
      | none => exact Src.ofNil w Tryz.underlying24 yc
      | some ad => exact Src.ofSlice w Tryz.underlying24 ad 0 yc [] (by simp) (by simp) (by simp)
    refine ⟨_, w, run_append_nothing w 24 24 ty 5 i Tryz.underlying24 hi a xs.length xs.length (Nat.le_refl _) _ hs, by simpa using hx, Keep.refl _ _⟩
  · have hya : ∃ ad, ya = some ad := by
      rcases h.2 with ⟨h1, _⟩ | ⟨b', o, cap', cur', fr, e, _⟩
      · omega
      · injection e with e; exact ⟨_, e⟩
    obtain ⟨ad, rfl⟩ := hya
    rcases hx.2 with ⟨h0, hv⟩ | ⟨b, o, cap, cur, fr, e, hbb, h1, h2, h3, h4⟩
    · have e : xs = [] := List.eq_nil_of_length_eq_zero h0
      subst e
      rcases hv with hv | ⟨a', c, hv, _⟩
      · injection hv with hv _ _
        subst hv
        obtain ⟨v', w', hr, h5, h6, h7⟩ := run_append_byt (ty := ty) (x := .slice none 0 0) (xs := []) (w := w) (World.ownsRow_nil _ _ _ _) h hb
        rw [List.nil_append, List.length_nil, Nat.zero_add] at h5
        exact ⟨v', w', hr, by simpa using Byt.of_own h5, KeepN.row (Keep.refl _ w) h6 (Nat.le_refl _) (fun k hk => by simp [Value.ownBlock] at hk)⟩
      · injection hv with hv _ _
        subst hv
        obtain ⟨v', w', hr, h5, h6⟩ := run_append_arg_grows (P := Tryz.prog) (w := w) 24 ty 5 i _ _ _ Tryz.underlying24 hi hz hs hby rfl (by omega) a' 0 0 [] rfl (by simp) ad l.length yc (byV l) (by simp [byV]) (Sl.cells h rfl) (by omega) (by simp only [List.length_nil] at hb; unfold maxLen; omega) (by simp only [List.length_nil] at hb; omega)
        rw [List.nil_append, Nat.zero_add] at h5
        exact ⟨v', w', hr, by simpa using Byt.of_own h5, KeepN.row (Keep.refl _ w) h6 (Nat.le_refl _) (fun k hk => by cases hk)⟩
    · injection e with e1 e2 e3
      subst e1; subst e3
      obtain ⟨v', w', hr, h5, h6⟩ := run_append_arg_grows (P := Tryz.prog) (w := w) 24 ty 5 i _ _ _ Tryz.underlying24 hi hz hs hby rfl (by omega) ⟨b, o, none⟩ xs.length xs.length (byV xs) (by simp [byV]) (Sl.cells hx rfl) ad l.length yc (byV l) (by simp [byV]) (Sl.cells h rfl) (by omega) (by unfold maxLen; omega) (by omega)
      rw [← List.length_append, ← byV_append] at h5
      exact ⟨v', w', hr, Byt.of_own h5, KeepN.row (Keep.refl _ w) h6 (Nat.le_refl _) (fun k hk => by cases hk)⟩

end

section
variable {w w1 : World} {x : Value} {xs : List UInt8}

theorem u8v (n : Nat) (h : n < 256) : (Value.int .u8 ((UInt8.ofNat n).toNat : Int)) = .int .u8 (n : Int) := by
  simp [Nat.mod_eq_of_lt h]

/-- append(x, c), x the call's own. -/
theorem append_byte {ty : TypeId} (hk : Keep (fun _ => False) w w1) (hown : w1.ownsRow w.heap.size 5 1 x xs.length (byV xs)) (c : Nat) (hc : c < 256) (hb : xs.length ≤ 70368744177664) :
    ∃ v' w', (Builtin.append_ #[24, 24] ty #[x, .slice (some ⟨w1.heap.size, 0, none⟩) 1 1]).run Tryz.prog (w1.alloc (.cells #[.int .u8 (c : Int)] 5)) = .ok v' w' ∧
      w'.ownsRow w.heap.size 5 1 v' (xs ++ [UInt8.ofNat c]).length (byV (xs ++ [UInt8.ofNat c])) ∧ Keep (fun _ => False) w w' ∧ (∃ a k, v' = .slice a (xs.length + 1) k) := by
  have hn := byt_new w1 [UInt8.ofNat c] (by simp [maxLen])
  have e : (byV [UInt8.ofNat c]).toArray = #[.int .u8 (c : Int)] := by simp only [byV, List.map_cons, List.map_nil, u8v c hc]
  rw [e] at hn
  obtain ⟨v', w', hr, h1, h2, h3, _⟩ := append_own (ty := ty) (hk.alloc (.cells #[.int .u8 (c : Int)] 5)) (own_keep hown (Keep.alloc (Keep.refl _ w1) _)) hn (by simp only [List.length_cons, List.length_nil]; omega)
  exact ⟨v', w', hr, h1, h2, by simpa using h3⟩

/-- v[:len(v):len(v)] of bytes. -/
theorem Byt.clip {v : Value} {l : List UInt8} (h : Byt w v l) : ∃ d, (∀ W, (Instr.slice 24 v none (some (.int .i64 (l.length : Int))) (some (.int .i64 (l.length : Int)))).run Tryz.prog W = .ok d W) ∧ Clip w d l := by
  obtain ⟨a, c, rfl, hc, _⟩ := Sl.form h
  refine ⟨sliced a 0 l.length l.length 1, fun W => ?_, ?_, ?_⟩
  · rw [run_slice_hm (P := Tryz.prog) W 24 a l.length c slice_u8 .i64 .i64 l.length l.length (by omega) (by omega) (by omega), size_u8]
    simp [Result.andThen]
  · have := Byt.cut h rfl (i := 0) (k := l.length) (m := l.length) (by omega) (Nat.le_refl _) (by omega) (Nat.le_refl _)
    simpa using this
  · exact ⟨_, by simp [sliced]; rfl⟩
end

/-! ### bits -/

theorem toNat_ofInt (k a : Nat) (ha : a < 2 ^ k) : (BitVec.ofInt k (a : Int)).toNat = a := by
  rw [BitVec.ofInt_natCast, BitVec.toNat_ofNat]; exact Nat.mod_eq_of_lt ha
theorem or_u8 (a b : Nat) (ha : a < 256) (hb : b < 256) : bits .or .u8 (a : Int) (b : Int) = ((a ||| b : Nat) : Int) := by
  have hx : a ||| b < 2 ^ 8 := Nat.or_lt_two_pow (by omega) (by omega)
  show IntKind.u8.wrap ((BitVec.ofInt 8 (a : Int) ||| BitVec.ofInt 8 (b : Int)).toNat : Int) = _
  rw [BitVec.toNat_or, toNat_ofInt 8 a (by omega), toNat_ofInt 8 b (by omega), IntKind.wrap_u8]
  omega
theorem and_u8 (a b : Nat) (ha : a < 256) (hb : b < 256) : bits .and .u8 (a : Int) (b : Int) = ((a &&& b : Nat) : Int) := by
  have hx : a &&& b < 2 ^ 8 := Nat.and_lt_two_pow _ (by omega)
  show IntKind.u8.wrap ((BitVec.ofInt 8 (a : Int) &&& BitVec.ofInt 8 (b : Int)).toNat : Int) = _
  rw [BitVec.toNat_and, toNat_ofInt 8 a (by omega), toNat_ofInt 8 b (by omega), IntKind.wrap_u8]
  omega
theorem xor_u32 (a b : Nat) (ha : a < 4294967296) (hb : b < 4294967296) : bits .xor .u32 (a : Int) (b : Int) = ((a ^^^ b : Nat) : Int) := by
  have hx : a ^^^ b < 2 ^ 32 := Nat.xor_lt_two_pow (by omega) (by omega)
  show IntKind.u32.wrap ((BitVec.ofInt 32 (a : Int) ^^^ BitVec.ofInt 32 (b : Int)).toNat : Int) = _
  rw [BitVec.toNat_xor, toNat_ofInt 32 a (by omega), toNat_ofInt 32 b (by omega), IntKind.wrap_u32]
  omega
theorem and_u32 (a b : Nat) (ha : a < 4294967296) (hb : b < 4294967296) : bits .and .u32 (a : Int) (b : Int) = ((a &&& b : Nat) : Int) := by
  have hx : a &&& b < 2 ^ 32 := Nat.and_lt_two_pow _ (by omega)
  show IntKind.u32.wrap ((BitVec.ofInt 32 (a : Int) &&& BitVec.ofInt 32 (b : Int)).toNat : Int) = _
  rw [BitVec.toNat_and, toNat_ofInt 32 a (by omega), toNat_ofInt 32 b (by omega), IntKind.wrap_u32]
  omega
theorem or_u32 (a b : Nat) (ha : a < 4294967296) (hb : b < 4294967296) : bits .or .u32 (a : Int) (b : Int) = ((a ||| b : Nat) : Int) := by
  have hx : a ||| b < 2 ^ 32 := Nat.or_lt_two_pow (by omega) (by omega)
  show IntKind.u32.wrap ((BitVec.ofInt 32 (a : Int) ||| BitVec.ofInt 32 (b : Int)).toNat : Int) = _
  rw [BitVec.toNat_or, toNat_ofInt 32 a (by omega), toNat_ofInt 32 b (by omega), IntKind.wrap_u32]
  omega
theorem or_u64 (a b : Nat) (ha : a < 18446744073709551616) (hb : b < 18446744073709551616) : bits .or .u64 (a : Int) (b : Int) = ((a ||| b : Nat) : Int) := by
  have hx : a ||| b < 2 ^ 64 := Nat.or_lt_two_pow (by omega) (by omega)
  show IntKind.u64.wrap ((BitVec.ofInt 64 (a : Int) ||| BitVec.ofInt 64 (b : Int)).toNat : Int) = _
  rw [BitVec.toNat_or, toNat_ofInt 64 a (by omega), toNat_ofInt 64 b (by omega), IntKind.wrap_u64]
  omega
set_option maxRecDepth 10000 in
theorem or_128_fin : ∀ a : Fin 256, (a.val ||| 128) = a.val % 128 + 128 := by decide
set_option maxRecDepth 10000 in
theorem and_127_fin : ∀ a : Fin 256, (a.val &&& 127) = a.val % 128 := by decide
theorem or_128 (m : Nat) : bits .or .u8 ((m : Int) % 256) 128 = ((m % 128 + 128 : Nat) : Int) := by
  have e : (m : Int) % 256 = ((m % 256 : Nat) : Int) := by omega
  rw [e, show (128 : Int) = ((128 : Nat) : Int) from rfl, or_u8 _ _ (by omega) (by omega), or_128_fin ⟨m % 256, by omega⟩]
  simp only; omega

/-! ### what is put -/

/-- The bytes of a number. -/
def lebL (n : Nat) : List UInt8 := if n < 128 then [UInt8.ofNat n] else UInt8.ofNat (n % 128 + 128) :: lebL (n / 128)
termination_by n
decreasing_by omega

theorem lebL_small {n : Nat} (h : n < 128) : lebL n = [UInt8.ofNat n] := by rw [lebL, if_pos h]
theorem lebL_big {n : Nat} (h : ¬ n < 128) : lebL n = UInt8.ofNat (n % 128 + 128) :: lebL (n / 128) := by rw [lebL, if_neg h]

theorem lebL_len : ∀ (k n : Nat), n < 128 ^ (k + 1) → (lebL n).length ≤ k + 1
  | 0, n, h => by
    rw [lebL_small (by simpa using h)]
    simp
  | k + 1, n, h => by
    by_cases hn : n < 128
    · rw [lebL_small hn]; simp
    · rw [lebL_big hn, List.length_cons]
      have := lebL_len k (n / 128) (by
        rw [Nat.div_lt_iff_lt_mul (by omega)]
        rwa [Nat.pow_succ] at h)
      omega
theorem lebL_ten {n : Nat} (h : n < 18446744073709551616) : (lebL n).length ≤ 10 := lebL_len 9 n (by omega)

section
variable {w : World}

set_option maxRecDepth 100000 in
set_option maxHeartbeats 1600000 in
theorem refPut_any (n : Nat) : ∀ (w : World), n < 18446744073709551616 → Calls Tryz.prog 57 #[.int .u64 (n : Int)] w (RetOwn w (lebL n)) := by
  induction n using Nat.strongRecOn with
  | _ n ih =>
  intro w hn
  by_cases h : n < 128
  · rw [lebL_small h]
    have hnew := own_new w w.heap.size [UInt8.ofNat n] (Nat.le_refl _) (by simp [maxLen])
    have e : (byV [UInt8.ofNat n]).toArray = #[.int .u8 (n : Int)] := by simp only [byV, List.map_cons, List.map_nil, u8v n (by omega)]
    rw [e] at hnew
    have FIN := hid (show RetOwn w [UInt8.ofNat n] (.returned (.slice (some ⟨w.heap.size, 0, none⟩) 1 1)) (w.alloc (.cells #[.int .u8 (n : Int)] 5)) from ⟨_, rfl, hnew, Keep.alloc (Keep.refl _ w) _⟩)
    clear hnew e ih
    have hw : IntKind.u8.wrap (n : Int) = (n : Int) := IntWalk.u8_in _ (by omega)
    go_enter Tryz.func57, Tryz.ntmps57
    go_wp2
    go_ret
    exact FIN.out
  · rw [lebL_big h]
    have hb0 := lebL_ten (n := n / 128) (by omega)
    have hnew := own_new w w.heap.size [UInt8.ofNat (n % 128 + 128)] (Nat.le_refl _) (by simp [maxLen])
    have e : (byV [UInt8.ofNat (n % 128 + 128)]).toArray = #[.int .u8 ((n % 128 + 128 : Nat) : Int)] := by simp only [byV, List.map_cons, List.map_nil, u8v (n % 128 + 128) (by omega)]
    rw [e] at hnew
    have hrec := ih (n / 128) (by omega) (w.alloc (.cells #[.int .u8 ((n % 128 + 128 : Nat) : Int)] 5)) (by omega)
    have hk0 : Keep (fun _ => False) w (w.alloc (.cells #[.int .u8 ((n % 128 + 128 : Nat) : Int)] 5)) := Keep.alloc (Keep.refl _ w) _
    have hfin : ∀ v1 w1, w1.ownsRow (w.alloc (.cells #[.int .u8 ((n % 128 + 128 : Nat) : Int)] 5)).heap.size 5 1 v1 (lebL (n / 128)).length (byV (lebL (n / 128))) → Keep (fun _ => False) (w.alloc (.cells #[.int .u8 ((n % 128 + 128 : Nat) : Int)] 5)) w1 →
        ∃ v' w', (Builtin.append_ #[24, 24] 24 #[.slice (some ⟨w.heap.size, 0, none⟩) 1 1, v1]).run Tryz.prog w1 = .ok v' w' ∧ RetOwn w (UInt8.ofNat (n % 128 + 128) :: lebL (n / 128)) (.returned v') w' := by
      intro v1 w1 h1 h2
      have hown1 := own_keep hnew h2
      obtain ⟨v', w', hr, h3, h4, _, _⟩ := append_own (ty := 24) (hk0.trans h2 (fun _ h => h.elim)) hown1 (Byt.of_own h1) (by simp only [List.length_cons, List.length_nil]; omega)
      exact ⟨v', w', hr, v', rfl, h3, h4⟩
    have HFIN := hid hfin
    clear hnew e ih hk0 hfin
    have hw1 : (n : Int) % 128 = ((n % 128 : Nat) : Int) := by omega
    have hw : IntKind.u8.wrap (((n % 128 : Nat) : Int) + 128) = ((n % 128 + 128 : Nat) : Int) := by rw [IntWalk.u8_in _ (by omega)]; omega
    have hw2 : IntKind.u8.wrap ((n % 128 : Nat) : Int) = ((n % 128 : Nat) : Int) := IntWalk.u8_in _ (by omega)
    have hw3 : (n : Int) / 128 = ((n / 128 : Nat) : Int) := by omega
    generalize n % 128 = M at *
    generalize M + 128 = M2 at *
    generalize n / 128 = N2 at *
    go_enter Tryz.func57, Tryz.ntmps57
    go_wp2_with (first | (go_at_call 57; refine hrec.mono ?_; rintro e w1 ⟨v1, rfl, h1, h2⟩; obtain ⟨v2, w2, hr, hf⟩ := HFIN.out v1 w1 h1 h2) | (at_builtin; refine wpList_append_run rfl _ _ _ rfl hr rfl rfl ?_))
    go_ret
    exact hf

/-- A call answers bytes that are cut off behind their end. -/
def RetClip (w : World) (l : List UInt8) (e : Ending) (w' : World) : Prop := ∃ v, e = .returned v ∧ Clip w' v l ∧ Keep (fun _ => False) w w'

theorem u64_div (n : Nat) (h : n < 18446744073709551616) : IntKind.u64.wrap ((n : Int) / 128) = ((n / 128 : Nat) : Int) := by
  simp only [IntKind.wrap_u64]; omega

theorem lor_128 (n : Nat) : IntKind.u8.wrap (n : Int) = ((n % 256 : Nat) : Int) := by
  simp only [IntKind.wrap_u8]; omega

set_option maxRecDepth 100000 in
set_option maxHeartbeats 1600000 in
theorem lebput_any (n : Nat) (hn : n < 18446744073709551616) {b : Nat} (hb : w.heap[b]? = some (.cells #[.int .u64 (n : Int)] 52 (0, 0))) :
    Calls Tryz.prog 105 #[.slice (some ⟨b, 0, none⟩) 1 1] w (RetClip w (lebL n)) := by
  have hc := cell_of hb
  have hl0 := lebL_ten hn
  go_enter Tryz.func105, Tryz.ntmps105
  go_wp2
  refine wp_loop_rounds 2 ?_
  rw [rounds_succ]
  go_wp2
  go_loopg [3, 5] n (fun k y z wr => ∃ x m dn, x = y ∧ z = .int .u64 ((m : Nat) : Int) ∧ m = k ∧ m < 18446744073709551616 ∧ wr.ownsRow w.heap.size 5 1 x dn.length (byV dn) ∧ Keep (fun _ => False) w wr ∧ dn ++ lebL m = lebL n)
  case atStart => exact ⟨_, n, [], rfl, rfl, rfl, hn, World.ownsRow_nil _ _ _ _, Keep.refl _ w, rfl⟩
  case round =>
    obtain ⟨x, m, dn, rfl, rfl, rfl, hm, hown, hk, he⟩ := hrel
    by_cases h : m < 128
    · obtain ⟨v', w', hr, ho, hk', ⟨a', c', rfl⟩⟩ := append_byte (ty := 24) hk hown m (by omega) (by
        have := congrArg List.length he
        rw [List.length_append] at this
        omega)
      have hl : dn ++ [UInt8.ofNat m] = lebL n := by rw [← he, lebL_small h]
      have hlen : dn.length + 1 = (lebL n).length := by rw [← hl, List.length_append]; rfl
      rw [hl] at ho
      rw [hlen] at hr ho
      obtain ⟨d, hsl, hd⟩ := (Byt.of_own ho).clip
      have FIN := hid (show RetClip w (lebL n) (.returned d) w' from ⟨d, rfl, hd, hk'⟩)
      have hw := IntWalk.u8_in (m : Int) (by omega)
      generalize (lebL n).length = L at *
      clear hown hk he hb hl hlen ho hk' hd hn
      go_wp2_with (at_builtin; refine wpList_append_run rfl _ _ _ rfl hr rfl rfl ?_)
      rw [rounds_succ]
      go_wp2
      go_ret
      exact FIN.out
    · obtain ⟨v', w', hr, ho, hk', ⟨a', c', rfl⟩⟩ := append_byte (ty := 24) hk hown (m % 128 + 128) (by omega) (by
        have := congrArg List.length he
        rw [List.length_append] at this
        omega)
      rw [lebL_big h] at he
      have he' : (dn ++ [UInt8.ofNat (m % 128 + 128)]) ++ lebL (m / 128) = lebL n := by rw [← he]; simp
      have hor := or_128 m
      have hsh : (m : Int) / 128 = ((m / 128 : Nat) : Int) := by omega
      have HR := hid (show ∃ x m' dn', x = Value.slice a' (dn.length + 1) c' ∧ Value.int .u64 ((m / 128 : Nat) : Int) = .int .u64 ((m' : Nat) : Int) ∧ m' = m / 128 ∧ m' < 18446744073709551616 ∧ w'.ownsRow w.heap.size 5 1 x dn'.length (byV dn') ∧ Keep (fun _ => False) w w' ∧ dn' ++ lebL m' = lebL n from ⟨_, _, _, rfl, rfl, rfl, by omega, ho, hk', he'⟩)
      have hdl : m / 128 < m := by omega
      generalize m % 128 + 128 = M at *
      generalize m / 128 = M3 at *
      clear hown hk he hb hn ho hk' he' hl0
      go_wp2_with (at_builtin; refine wpList_append_run rfl _ _ _ rfl hr rfl rfl ?_)
      go_roundg M3
      case measure => exact hdl
      case rel => exact HR.out

theorem Clip.keep {w w' : World} {v : Value} {l : List UInt8} {F : Nat → Prop} (h : Clip w v l) (k : Keep F w w') : Clip w' v l := ⟨h.1.keep k, h.2⟩

set_option maxRecDepth 100000 in
theorem lebPut_any (n : Nat) (hn : n < 18446744073709551616) (w : World) : Calls Tryz.prog 56 #[.int .u64 (n : Int)] w (RetClip w (lebL n)) := by
  have hput := lebput_any (w := w.alloc (.cells #[.int .u64 (n : Int)] 52)) n hn (blk_new w _)
  have hk := hid (Keep.alloc (Keep.refl (fun _ => False) w) (.cells #[.int .u64 (n : Int)] 52))
  go_enter Tryz.func56, Tryz.ntmps56
  go_wp2_with (go_at_call 105; refine hput.mono ?_; rintro e w1 ⟨v1, rfl, h1, h2⟩)
  go_ret
  exact ⟨v1, rfl, h1, hk.out.trans h2 (fun _ h => h.elim)⟩

/-- The bytes of a counted row. -/
def rowL (l : List UInt8) : List UInt8 := lebL l.length ++ l

set_option maxRecDepth 100000 in
theorem lebPutRow_any {v : Value} {l : List UInt8} (h : Byt w v l) (hl : l.length ≤ 70368744177664) : Calls Tryz.prog 102 #[v] w (RetByt w (rowL l)) := by
  have hput := lebput_any (w := w.alloc (.cells #[.int .u64 (l.length : Int)] 52)) l.length (by omega) (blk_new w _)
  have h10 := lebL_ten (n := l.length) (by omega)
  have hk := Keep.alloc (Keep.refl (fun _ => False) w) (.cells #[.int .u64 (l.length : Int)] 52)
  have hfin : ∀ v1 w1, Clip w1 v1 (lebL l.length) → Keep (fun _ => False) (w.alloc (.cells #[.int .u64 (l.length : Int)] 52)) w1 → ∃ v' w', (Builtin.append_ #[24, 24] 24 #[v1, v]).run Tryz.prog w1 = .ok v' w' ∧ RetByt w (rowL l) (.returned v') w' := by
    intro v1 w1 h1 h2
    have hk1 := hk.trans h2 (fun _ h => h.elim)
    obtain ⟨v', w', hr, h3, h4⟩ := append_clip (ty := 24) h1 (h.keep hk1) (by omega)
    exact ⟨v', w', hr, v', rfl, h3, hk1.trans h4 (fun _ h => h.elim)⟩
  obtain ⟨a, c, rfl⟩ := h.len
  have HF := hid hfin
  have hw : IntKind.u64.wrap (l.length : Int) = (l.length : Int) := by rw [IntKind.wrap_u64]; omega
  clear hfin hk h
  generalize l.length = L at *
  clear hl
  go_enter Tryz.func102, Tryz.ntmps102
  go_wp2_with (first | (go_at_call 105; refine hput.mono ?_; rintro e w1 ⟨v1, rfl, h1, h2⟩; obtain ⟨v2, w2, hr, hf⟩ := HF.out v1 w1 h1 h2) | (at_builtin; refine wpList_append_run rfl _ _ _ rfl hr rfl rfl ?_))
  go_ret
  exact hf

set_option maxRecDepth 100000 in
theorem refPutRow_any {v : Value} {l : List UInt8} (h : Byt w v l) (hl : l.length ≤ 70368744177664) : Calls Tryz.prog 106 #[v] w (RetOwn w (rowL l)) := by
  have hput := refPut_any l.length w (by omega)
  have h10 := lebL_ten (n := l.length) (by omega)
  have hfin : ∀ v1 w1, w1.ownsRow w.heap.size 5 1 v1 (lebL l.length).length (byV (lebL l.length)) → Keep (fun _ => False) w w1 → ∃ v' w', (Builtin.append_ #[24, 24] 24 #[v1, v]).run Tryz.prog w1 = .ok v' w' ∧ RetOwn w (rowL l) (.returned v') w' := by
    intro v1 w1 h1 h2
    obtain ⟨v', w', hr, h3, h4, _⟩ := append_own (ty := 24) h2 h1 (h.keep h2) (by omega)
    exact ⟨v', w', hr, v', rfl, h3, h4⟩
  obtain ⟨a, c, rfl⟩ := h.len
  have HF := hid hfin
  have hw : IntKind.u64.wrap (l.length : Int) = (l.length : Int) := by rw [IntKind.wrap_u64]; omega
  clear hfin h
  generalize l.length = L at *
  clear hl
  go_enter Tryz.func106, Tryz.ntmps106
  go_wp2_with (first | (go_at_call 57; refine hput.mono ?_; rintro e w1 ⟨v1, rfl, h1, h2⟩; obtain ⟨v2, w2, hr, hf⟩ := HF.out v1 w1 h1 h2) | (at_builtin; refine wpList_append_run rfl _ _ _ rfl hr rfl rfl ?_))
  go_ret
  exact hf

end
end Go.Stk

/- Numbers of unlike lengths: what is read, as plain data. No program stands here. -/
namespace Go.Stk
open Go

/-- How many bytes with the bit 80 there are, k at most. -/
def cont : Nat → List UInt8 → Nat
  | 0, _ => 0
  | _ + 1, [] => 0
  | k + 1, x :: r => if 128 ≤ x.toNat then cont k r + 1 else 0

theorem cont_eq : ∀ (k : Nat) (s : List UInt8) (n : Nat), n ≤ k → (∀ j, j < n → ∃ x, s[j]? = some x ∧ 128 ≤ x.toNat) → (n = k ∨ ∀ c, s[n]? = some c → c.toNat < 128) → cont k s = n
  | 0, s, n, h, _, _ => by simp [cont]; omega
  | k + 1, [], n, h, h1, h2 => by
    cases n with
    | zero => rfl
    | succ n =>
      obtain ⟨x, hx, _⟩ := h1 0 (by omega)
      simp at hx
  | k + 1, x :: r, n, h, h1, h2 => by
    cases n with
    | zero =>
      have h3 : x.toNat < 128 := by
        rcases h2 with h2 | h2
        · omega
        · exact h2 x (by simp)
      simp only [cont]
      rw [if_neg (by omega)]
    | succ n =>
      obtain ⟨y, hy, h3⟩ := h1 0 (by omega)
      simp only [List.getElem?_cons_zero, Option.some.injEq] at hy
      subst hy
      simp only [cont]
      rw [if_pos h3, cont_eq k r n (by omega) (fun j hj => by
        have := h1 (j + 1) (by omega)
        simpa using this) (h2.imp (by omega) (fun h c hc => h c (by simpa using hc)))]

/-- The number that bytes stand for. -/
def valL : List UInt8 → Nat
  | [] => 0
  | x :: r => x.toNat % 128 + 128 * valL r

theorem valL_snoc : ∀ (l : List UInt8) (x : UInt8), valL (l ++ [x]) = valL l + x.toNat % 128 * 128 ^ l.length
  | [], x => by simp [valL]
  | y :: r, x => by
    simp only [List.cons_append, valL, valL_snoc r x, List.length_cons, Nat.pow_succ]
    rw [Nat.mul_add, ← Nat.add_assoc]
    congr 1
    rw [Nat.mul_comm (128 ^ r.length) 128, ← Nat.mul_assoc, ← Nat.mul_assoc, Nat.mul_comm 128]

theorem valL_lt : ∀ (l : List UInt8), valL l < 128 ^ l.length
  | [] => by simp [valL]
  | x :: r => by
    have := valL_lt r
    simp only [valL, List.length_cons, Nat.pow_succ]
    omega

/-- The number at the head of bytes: it, how many bytes it has, the error. -/
def lebG (s : List UInt8) : Nat × Nat × Int :=
  match s[cont 9 s]? with
  | none => (0, 0, 4)
  | some c => if (cont 9 s = 9 ∧ 1 < c.toNat) ∨ (0 < cont 9 s ∧ c.toNat = 0) then (0, 0, 5) else (valL (s.take (cont 9 s + 1)), cont 9 s + 1, 0)

def lebGet (b : List UInt8) (at_ : Int) : Nat × Int × Int :=
  if at_ < 0 ∨ (b.length : Int) < at_ then (0, 0, 2) else
  ((lebG (b.drop at_.toNat)).1, if (lebG (b.drop at_.toNat)).2.2 = 0 then at_ + (lebG (b.drop at_.toNat)).2.1 else 0, (lebG (b.drop at_.toNat)).2.2)

theorem take_succ_get {s : List UInt8} {i : Nat} {c : UInt8} (h : s[i]? = some c) : s.take (i + 1) = s.take i ++ [c] := by
  rw [List.take_add_one, h]; rfl

theorem take_len {s : List UInt8} {i : Nat} (h : ∀ j, j < i → ∃ x, s[j]? = some x ∧ 128 ≤ x.toNat) : (s.take i).length = i := by
  rw [List.length_take]
  cases i with
  | zero => simp
  | succ i =>
    obtain ⟨x, hx, _⟩ := h i (by omega)
    have := (List.getElem?_eq_some_iff.1 hx).1
    omega

/-- The prefix of n bytes, and one more, stands for less than 2^64. -/
theorem val_bound {s : List UInt8} {i : Nat} {c : UInt8} (hc : s[i]? = some c) (hi : (s.take i).length = i) (h : i ≤ 8 ∨ (i = 9 ∧ c.toNat ≤ 1)) : valL (s.take (i + 1)) < 18446744073709551616 := by
  rw [take_succ_get hc, valL_snoc, hi]
  have h1 := valL_lt (s.take i)
  rw [hi] at h1
  have hp : 128 ^ i ≤ 128 ^ 9 := Nat.pow_le_pow_right (by omega) (by omega)
  rcases h with h | ⟨rfl, h⟩
  · have hp : 128 ^ i ≤ 128 ^ 8 := Nat.pow_le_pow_right (by omega) h
    have h2 : c.toNat % 128 * 128 ^ i ≤ 127 * 128 ^ i := Nat.mul_le_mul_right _ (by omega)
    omega
  · have h2 : c.toNat % 128 * 128 ^ 9 ≤ 1 * 128 ^ 9 := Nat.mul_le_mul_right _ (by omega)
    omega

theorem lebG_short {s : List UInt8} {i : Nat} (hi : i ≤ 9) (hp : ∀ j, j < i → ∃ x, s[j]? = some x ∧ 128 ≤ x.toNat) (hn : s[i]? = none) : lebG s = (0, 0, 4) := by
  have e : cont 9 s = i := cont_eq 9 s i hi hp (.inr (fun c hc => by rw [hn] at hc; cases hc))
  unfold lebG
  rw [e, hn]

theorem lebG_form {s : List UInt8} {i : Nat} {c : UInt8} (hi : i ≤ 9) (hp : ∀ j, j < i → ∃ x, s[j]? = some x ∧ 128 ≤ x.toNat) (hc : s[i]? = some c) (h9 : i = 9 ∨ c.toNat < 128) (hf : (i = 9 ∧ 1 < c.toNat) ∨ (0 < i ∧ c.toNat = 0)) : lebG s = (0, 0, 5) := by
  have e : cont 9 s = i := cont_eq 9 s i hi hp (h9.imp id (fun h c' hc' => by rw [hc] at hc'; injection hc' with hc'; subst hc'; exact h))
  unfold lebG
  rw [e, hc]
  simp only
  rw [if_pos hf]

theorem lebG_ok {s : List UInt8} {i : Nat} {c : UInt8} (hi : i ≤ 9) (hp : ∀ j, j < i → ∃ x, s[j]? = some x ∧ 128 ≤ x.toNat) (hc : s[i]? = some c) (h9 : i = 9 ∨ c.toNat < 128) (hf : ¬ ((i = 9 ∧ 1 < c.toNat) ∨ (0 < i ∧ c.toNat = 0))) : lebG s = (valL (s.take (i + 1)), i + 1, 0) := by
  have e : cont 9 s = i := cont_eq 9 s i hi hp (h9.imp id (fun h c' hc' => by rw [hc] at hc'; injection hc' with hc'; subst hc'; exact h))
  unfold lebG
  rw [e, hc]
  simp only
  rw [if_neg hf]

end Go.Stk
