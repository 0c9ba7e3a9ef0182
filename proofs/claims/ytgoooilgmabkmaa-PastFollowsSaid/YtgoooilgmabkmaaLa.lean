/-
  The logic of memory that is known and memory that is owned, over the model of Go; it holds for every program that the model reads.
-/
import Derived.TacticsIn
import Derived.KernelRfl
import Derived.Laws.Sem
import Derived.Laws.World
import Derived.Laws.Wrap64
import Derived.OrdersIn
import Derived.Laws.AppendOwn
import Derived.Laws.MakeOwn
import Derived.Laws.CopyRow
import Derived.Laws.Append
import Derived.Laws.IdiomElems
import Derived.IntWalk
import Derived.Laws.Bits64
import Derived.Laws.StructEq
import Derived.RangeFuncIn
import Derived.RangeFuncLeaves
import Derived.RangeFuncRecord
import Derived.RangeFuncSeq
import Derived.DeepKeys3
import Derived.MapKept
import Derived.Maps.RangeRun
import Derived.Lib.BytesEntry
set_option linter.unusedVariables false
set_option linter.unusedSimpArgs false
set_option linter.unusedSectionVars false
namespace Go.Sl
open Go

abbrev Slots := List (Nat × Value)
abbrev HList := List (Nat × Obj)
/-- what is known of memory and stays so; and what no operation turns -/
structure View where
  mem : Nat → Option Obj
  os : Os
  tape : Nat → Question → Nat
  output : Array (Nat × ByteArray)
  drawn : Nat
instance : CoeFun View (fun _ => Nat → Option Obj) := ⟨View.mem⟩
/-- the parts of a world that no operation turns -/
def Env (w w' : World) : Prop := w'.os = w.os ∧ w'.tape = w.tape ∧ w'.output = w.output ∧ w.drawn ≤ w'.drawn
theorem Env.refl (w : World) : Env w w := ⟨rfl, rfl, rfl, Nat.le_refl _⟩

/-- the first value that a list of slots tells of slot i -/
def get : Slots → Nat → Option Value
  | [], _ => none
  | (k, v) :: m, i => cond (Nat.beq k i) (some v) (get m i)

structure Fr (n : Nat) (d : List Deferred) (a : Act) (m : Slots) : Prop where
  defers : a.defers = d
  size : a.tmps.size = n
  slot : ∀ i v, get m i = some v → a.tmps[i]? = some v

structure St (σ : View) (H : HList) (w : World) : Prop where
  env : w.os = σ.os ∧ w.tape = σ.tape ∧ w.output = σ.output ∧ σ.drawn ≤ w.drawn
  view : ∀ b o, σ b = some o → w.heap[b]? = some o
  own : ∀ p ∈ H, w.heap[p.1]? = some p.2
  apart : ∀ p ∈ H, σ p.1 = none
  nodup : (H.map (·.1)).Nodup

def wide (r : Option Nat) : Fence := { Fence.wide with round := r }

theorem wide_none : wide none = Fence.wide := rfl
theorem wide_fn (r : Option Nat) (f : FuncId) : (wide r).fn f := trivial
theorem room_wide' (r : Option Nat) (n : Nat) : (wide r).room n := fun _ h => by simp [wide, Fence.wide] at h

section
variable (P : Program) (r : Option Nat) (ops : Array Oper) (Q : Exit → Act → World → Prop)

def WQ (e : Exit) (n : Nat) (d : List Deferred) (m : Slots) (σ : View) (H : HList) : Prop :=
  ∀ a w, Fr n d a m → St σ H w → Q e a w
def WC (c : Code) (n : Nat) (d : List Deferred) (m : Slots) (σ : View) (H : HList) : Prop :=
  ∀ a w, Fr n d a m → St σ H w → c.wpIn (wide r) 0 P Q a w
def WL (l : List Oper) (n : Nat) (d : List Deferred) (m : Slots) (σ : View) (H : HList) : Prop :=
  ∀ a w, Fr n d a m → St σ H w → wpListIn (wide r) 0 P ops Q l a w
end

theorem beq_ne {t i : Nat} (e : ¬ t = i) : Nat.beq t i = false := by
  cases hb : Nat.beq t i
  · rfl
  · exact absurd (Nat.eq_of_beq_eq_true hb) e

/-- the value of an operand -/
def opv (m : Slots) : Operand → Option Value
  | .tmp t => get m t
  | .const v => some v
  | .global g => some (.pointer (some ⟨g, 0, none⟩))
  | .func f => some (.func (.func f) #[] #[])

theorem Fr.eval {n : Nat} {d : List Deferred} {a : Act} {m : Slots} (h : Fr n d a m) {x : Operand} {v : Value} (hx : opv m x = some v) : a.eval x = v := by
  cases x with
  | tmp t => have := h.slot t v hx; simp [Act.eval, Array.getD_eq_getD_getElem?, this]
  | const c => simp [opv] at hx; exact hx
  | global g => simp [opv] at hx; exact hx
  | func f => simp [opv] at hx; exact hx

theorem Fr.put {n : Nat} {d : List Deferred} {a : Act} {m : Slots} (h : Fr n d a m) {t : Nat} (v : Value) (ht : Nat.blt t n = true) : Fr n d (a.put (some t) v) ((t, v) :: m) := by
  have ht' : t < n := by simpa [Nat.blt_eq] using ht
  refine ⟨h.defers, by simp [Act.put, h.size], fun i u hu => ?_⟩
  simp only [get] at hu
  by_cases e : t = i
  · subst e
    have : Nat.beq t t = true := by simp
    rw [this] at hu
    simp at hu; subst hu
    simp [Act.put, h.size, ht']
  · have : Nat.beq t i = false := beq_ne e
    rw [this] at hu
    simp only [cond_false] at hu
    have := h.slot i u hu
    simp [Act.put, e, this]

theorem Fr.putNone {n : Nat} {d : List Deferred} {a : Act} {m : Slots} (h : Fr n d a m) (v : Value) : Fr n d (a.put none v) m := h

/-- 'm' tells all that 'm0' tells -/
def Covers (m m0 : Slots) : Prop := ∀ i v, get m0 i = some v → get m i = some v
theorem Covers.nil (m : Slots) : Covers m [] := fun _ _ h => by simp [get] at h
theorem Covers.cons {m m0 : Slots} {t : Nat} {v : Value} (h : get m t = some v) (h0 : Covers m m0) : Covers m ((t, v) :: m0) := fun i u hu => by
  simp only [get] at hu
  by_cases e : t = i
  · subst e
    have : Nat.beq t t = true := by simp
    rw [this] at hu; simp at hu; subst hu; exact h
  · have : Nat.beq t i = false := beq_ne e
    rw [this] at hu; exact h0 i u hu
theorem Covers.refl (m : Slots) : Covers m m := fun _ _ h => h
theorem Fr.weak {n : Nat} {d : List Deferred} {a : Act} {m m0 : Slots} (h : Fr n d a m) (hc : Covers m m0) : Fr n d a m0 :=
  ⟨h.defers, h.size, fun i v hv => h.slot i v (hc i v hv)⟩

theorem St.weak {σ : View} {H H0 : HList} {w : World} (h : St σ H w) (hs : H0.Sublist H) : St σ H0 w :=
  ⟨h.env, h.view, fun p hp => h.own p (hs.subset hp), fun p hp => h.apart p (hs.subset hp), h.nodup.sublist (hs.map _)⟩
theorem St.perm {σ : View} {H H0 : HList} {w : World} (h : St σ H w) (hs : H0.Perm H) : St σ H0 w :=
  ⟨h.env, h.view, fun p hp => h.own p (hs.subset hp), fun p hp => h.apart p (hs.subset hp), (hs.map _).nodup_iff.2 h.nodup⟩

theorem St.envOf {σ : View} {H : HList} {w w' : World} (h : St σ H w) (he : Env w w') : w'.os = σ.os ∧ w'.tape = σ.tape ∧ w'.output = σ.output ∧ σ.drawn ≤ w'.drawn :=
  ⟨he.1.trans h.env.1, he.2.1.trans h.env.2.1, he.2.2.1.trans h.env.2.2.1, Nat.le_trans h.env.2.2.2 he.2.2.2⟩

theorem St.new {σ : View} {H : HList} {w w' : World} {o : Obj} (h : St σ H w) (hw : w'.heap = w.heap.push o) (he : Env w w' := by first | exact ⟨rfl, rfl, rfl, Nat.le_refl _⟩ | exact ⟨rfl, rfl, rfl, Nat.le_succ _⟩) : St σ ((w.heap.size, o) :: H) w' := by
  have hlt : ∀ b x, w.heap[b]? = some x → b < w.heap.size := fun b x hx => (Array.getElem?_eq_some_iff.1 hx).1
  refine ⟨h.envOf he, fun b x hx => ?_, ?_, ?_, ?_⟩
  · have h1 := h.view b x hx
    have := hlt b x h1
    rw [hw, Array.getElem?_push]; rw [if_neg (by omega)]; exact h1
  · intro p hp
    cases hp with
    | head => simp [hw]
    | tail _ hp =>
      have h1 := h.own p hp
      have := hlt _ _ h1
      rw [hw, Array.getElem?_push]; rw [if_neg (by omega)]; exact h1
  · intro p hp
    cases hp with
    | head =>
      cases hs : σ w.heap.size with
      | none => rfl
      | some x => have := hlt _ _ (h.view _ _ hs); omega
    | tail _ hp => exact h.apart p hp
  · simp only [List.map_cons, List.nodup_cons]
    refine ⟨fun hm => ?_, h.nodup⟩
    obtain ⟨p, hp, he⟩ := List.mem_map.1 hm
    have := hlt _ _ (h.own p hp)
    omega

/-- an owned block is turned -/
theorem St.upd {σ : View} {H1 H2 : HList} {b : Nat} {o o' : Obj} {w w' : World} (h : St σ (H1 ++ (b, o) :: H2) w)
    (hs : w'.heap[b]? = some o') (hk : ∀ c, c ≠ b → w'.heap[c]? = w.heap[c]?) (he : Env w w' := by first | exact ⟨rfl, rfl, rfl, Nat.le_refl _⟩ | exact ⟨rfl, rfl, rfl, Nat.le_succ _⟩) : St σ (H1 ++ (b, o') :: H2) w' := by
  have hnd := h.nodup
  simp only [List.map_append, List.map_cons] at hnd
  have hb : σ b = none := h.apart (b, o) (by simp)
  have hne : ∀ p ∈ H1 ++ H2, p.1 ≠ b := by
    intro p hp e
    rw [List.nodup_append] at hnd
    obtain ⟨_, n2, n3⟩ := hnd
    rcases List.mem_append.1 hp with hp | hp
    · exact n3 p.1 (List.mem_map_of_mem hp) b (by simp) e
    · rw [List.nodup_cons] at n2
      exact n2.1 (List.mem_map.2 ⟨p, hp, e⟩)
  refine ⟨h.envOf he, fun c x hx => ?_, ?_, ?_, ?_⟩
  · have : c ≠ b := by rintro rfl; rw [hb] at hx; cases hx
    rw [hk c this]; exact h.view c x hx
  · intro p hp
    simp only [List.mem_append, List.mem_cons] at hp
    rcases hp with hp | rfl | hp
    · rw [hk _ (hne p (by simp [hp]))]; exact h.own p (by simp [hp])
    · exact hs
    · rw [hk _ (hne p (by simp [hp]))]; exact h.own p (by simp [hp])
  · intro p hp
    simp only [List.mem_append, List.mem_cons] at hp
    rcases hp with hp | rfl | hp
    · exact h.apart p (by simp [hp])
    · exact hb
    · exact h.apart p (by simp [hp])
  · simpa using h.nodup

/-- nothing in the heap has turned -/
theorem St.same {σ : View} {H : HList} {w w' : World} (h : St σ H w) (hw : w'.heap = w.heap) (he : Env w w' := by first | exact ⟨rfl, rfl, rfl, Nat.le_refl _⟩ | exact ⟨rfl, rfl, rfl, Nat.le_succ _⟩) : St σ H w' :=
  ⟨h.envOf he, fun b o ho => by rw [hw]; exact h.view b o ho, fun p hp => by rw [hw]; exact h.own p hp, h.apart, h.nodup⟩

/-- what is owned is owned no more: it is known, and stays -/
def View.add (σ : View) (b : Nat) (o : Obj) : View := { σ with mem := fun c => if c = b then some o else σ c }
def View.le (σ σ' : View) : Prop := (σ'.os = σ.os ∧ σ'.tape = σ.tape ∧ σ'.output = σ.output ∧ σ'.drawn = σ.drawn) ∧ ∀ b o, σ b = some o → σ' b = some o
theorem View.le_refl (σ : View) : σ.le σ := ⟨⟨rfl, rfl, rfl, rfl⟩, fun _ _ h => h⟩
theorem View.le_trans {a b c : View} (h : a.le b) (h' : b.le c) : a.le c := ⟨⟨h'.1.1.trans h.1.1, h'.1.2.1.trans h.1.2.1, h'.1.2.2.1.trans h.1.2.2.1, h'.1.2.2.2.trans h.1.2.2.2⟩, fun x o ho => h'.2 x o (h.2 x o ho)⟩
theorem View.add_same (σ : View) (b : Nat) (o : Obj) : σ.add b o b = some o := by simp [View.add]
theorem View.le_add {σ : View} {b : Nat} (o : Obj) (h : σ b = none) : σ.le (σ.add b o) := ⟨⟨rfl, rfl, rfl, rfl⟩, fun c x hx => by
  unfold View.add
  by_cases e : c = b
  · subst e; rw [h] at hx; cases hx
  · simp [e, hx]⟩
theorem St.give {σ : View} {H1 H2 : HList} {b : Nat} {o : Obj} {w : World} (h : St σ (H1 ++ (b, o) :: H2) w) : St (σ.add b o) (H1 ++ H2) w ∧ σ b = none := by
  have hb : σ b = none := h.apart (b, o) (by simp)
  have hnd := h.nodup
  simp only [List.map_append, List.map_cons] at hnd
  have hne : ∀ p ∈ H1 ++ H2, p.1 ≠ b := by
    intro p hp e
    rw [List.nodup_append] at hnd
    obtain ⟨_, n2, n3⟩ := hnd
    rcases List.mem_append.1 hp with hp | hp
    · exact n3 p.1 (List.mem_map_of_mem hp) b (by simp) e
    · rw [List.nodup_cons] at n2
      exact n2.1 (List.mem_map.2 ⟨p, hp, e⟩)
  have h0 : St σ (H1 ++ H2) w := h.weak (by simp)
  refine ⟨⟨h0.env, fun c x hx => ?_, h0.own, fun p hp => ?_, h0.nodup⟩, hb⟩
  · unfold View.add at hx
    by_cases e : c = b
    · subst e; simp at hx; subst hx; exact h.own (c, o) (by simp)
    · simp [e] at hx; exact h.view c x hx
  · unfold View.add; simp [hne p hp, h0.apart p hp]

end Go.Sl
namespace Go.Sl
open Go

section
variable {P : Program} {r : Option Nat} {Q : Exit → Act → World → Prop} {n : Nat} {d : List Deferred} {m : Slots} {σ : View} {H : HList}

theorem WC.weak {c : Code} {m0 : Slots} {H0 : HList} (h : WC P r Q c n d m0 σ H0) (hm : Covers m m0) (hH : H0.Sublist H) : WC P r Q c n d m σ H :=
  fun a w hf hs => h a w (hf.weak hm) (hs.weak hH)
theorem WQ.weak {e : Exit} {m0 : Slots} {H0 : HList} (h : WQ Q e n d m0 σ H0) (hm : Covers m m0) (hH : H0.Sublist H) : WQ Q e n d m σ H :=
  fun a w hf hs => h a w (hf.weak hm) (hs.weak hH)
theorem WC.perm {c : Code} {H0 : HList} (h : WC P r Q c n d m σ H0) (hH : H0.Perm H) : WC P r Q c n d m σ H :=
  fun a w hf hs => h a w hf (hs.perm hH)
theorem WC.give {c : Code} {H1 H2 : HList} {b : Nat} {o : Obj} (h : σ b = none → WC P r Q c n d m (σ.add b o) (H1 ++ H2)) : WC P r Q c n d m σ (H1 ++ (b, o) :: H2) :=
  fun a w hf hs => h hs.give.2 a w hf hs.give.1
theorem WQ.give {e : Exit} {H1 H2 : HList} {b : Nat} {o : Obj} (h : σ b = none → WQ Q e n d m (σ.add b o) (H1 ++ H2)) : WQ Q e n d m σ (H1 ++ (b, o) :: H2) :=
  fun a w hf hs => h hs.give.2 a w hf hs.give.1

/-- what stands behind a piece of code -/
def Thn (P : Program) (r : Option Nat) (y : Code) (Q : Exit → Act → World → Prop) : Exit → Act → World → Prop := Exit.then (y.wpIn (wide r) 0 P Q) Q

theorem WC.seq {x y : Code} (h : WC P r (Thn P r y Q) x n d m σ H) : WC P r Q (.seq x y) n d m σ H :=
  fun a w hf hs => wpIn_seq (h a w hf hs)
theorem WC.block {id : Nat} {c : Code} (h : WC P r (Exit.inBlock id Q) c n d m σ H) : WC P r Q (.block id c) n d m σ H :=
  fun a w hf hs => wpIn_block (h a w hf hs)
theorem WC.skip (h : WQ Q .normal n d m σ H) : WC P r Q .skip n d m σ H := fun a w hf hs => wpIn_skip (h a w hf hs)
theorem WC.label {l : Nat} (h : WQ Q .normal n d m σ H) : WC P r Q (.label l) n d m σ H := fun a w hf hs => wpIn_label (h a w hf hs)
theorem WC.exit {id : Nat} (h : WQ Q (.exit id) n d m σ H) : WC P r Q (.exit id) n d m σ H := fun a w hf hs => wpIn_exit (h a w hf hs)
theorem WC.ret (h : WQ Q .ret n d m σ H) : WC P r Q .ret n d m σ H := fun a w hf hs => wpIn_ret (h a w hf hs)

theorem WC.cond {c : Operand} {x y : Code} {p : Prop} {_ip : Decidable p} (hc : opv m c = some (.bool (decide p)))
    (ht : p → WC P r Q x n d m σ H) (hf : ¬ p → WC P r Q y n d m σ H) : WC P r Q (.cond c x y) n d m σ H := fun a w h hs => by
  by_cases hp : p
  · exact wpIn_cond (t := true) (by rw [h.eval hc]; simp [hp]) (ht hp a w h hs)
  · exact wpIn_cond (t := false) (by rw [h.eval hc]; simp [hp]) (hf hp a w h hs)
theorem WC.condB {c : Operand} {x y : Code} {p : Bool} (hc : opv m c = some (.bool p))
    (ht : p = true → WC P r Q x n d m σ H) (hf : p = false → WC P r Q y n d m σ H) : WC P r Q (.cond c x y) n d m σ H := fun a w h hs => by
  cases hp : p
  · exact wpIn_cond (t := false) (by rw [h.eval hc, hp]) (hf hp a w h hs)
  · exact wpIn_cond (t := true) (by rw [h.eval hc, hp]) (ht hp a w h hs)
theorem WC.condT {c : Operand} {x y : Code} (hc : opv m c = some (.bool true)) (h : WC P r Q x n d m σ H) : WC P r Q (.cond c x y) n d m σ H :=
  fun a w hf hs => wpIn_cond (t := true) (hf.eval hc) (h a w hf hs)
theorem WC.condF {c : Operand} {x y : Code} (hc : opv m c = some (.bool false)) (h : WC P r Q y n d m σ H) : WC P r Q (.cond c x y) n d m σ H :=
  fun a w hf hs => wpIn_cond (t := false) (hf.eval hc) (h a w hf hs)

/-! what stands behind -/
theorem WQ.thn {y : Code} (h : WC P r Q y n d m σ H) : WQ (Thn P r y Q) .normal n d m σ H := h
theorem WQ.thn_exit {y : Code} {id : Nat} (h : WQ Q (.exit id) n d m σ H) : WQ (Thn P r y Q) (.exit id) n d m σ H := h
theorem WQ.thn_ret {y : Code} (h : WQ Q .ret n d m σ H) : WQ (Thn P r y Q) .ret n d m σ H := h
theorem WQ.blk {id : Nat} (h : WQ Q .normal n d m σ H) : WQ (Exit.inBlock id Q) .normal n d m σ H := h
theorem WQ.blk_here {id : Nat} (h : WQ Q .normal n d m σ H) : WQ (Exit.inBlock id Q) (.exit id) n d m σ H := fun a w hf hs => by
  simp only [Exit.inBlock, if_true]; exact h a w hf hs
theorem WQ.blk_on {id id' : Nat} (hne : Nat.beq id' id = false) (h : WQ Q (.exit id') n d m σ H) : WQ (Exit.inBlock id Q) (.exit id') n d m σ H := fun a w hf hs => by
  have : id' ≠ id := by rintro rfl; simp at hne
  simp only [Exit.inBlock, if_neg this]; exact h a w hf hs
theorem WQ.blk_ret {id : Nat} (h : WQ Q .ret n d m σ H) : WQ (Exit.inBlock id Q) .ret n d m σ H := h

/-- a loop's invariant over (measure, slots, view, what is owned) -/
abbrev Inv := Nat → Slots → View → HList → Prop

def Back (I : Inv) (n : Nat) (d : List Deferred) (j : Nat) (Q : Exit → Act → World → Prop) : Exit → Act → World → Prop :=
  Exit.then (fun a w => ∃ j' m σ H, j' < j ∧ I j' m σ H ∧ Fr n d a m ∧ St σ H w) Q

theorem exists_least {p : Nat → Prop} (h : ∃ j, p j) : ∃ j, p j ∧ ∀ k, p k → j ≤ k := by
  obtain ⟨j, hj⟩ := h
  induction j using Nat.strongRecOn with
  | _ j ih =>
    by_cases h : ∃ k, k < j ∧ p k
    · obtain ⟨k, hk, hp⟩ := h; exact ih k hk hp
    · exact ⟨j, hj, fun k hp => Nat.le_of_not_lt fun hk => h ⟨k, hk, hp⟩⟩

theorem WC.loop {c : Code} (I : Inv) {j0 : Nat} {m0 : Slots} {H0 : HList} (h0 : I j0 m0 σ H0) (hm : Covers m m0) (hH : H0.Sublist H)
    (round : ∀ j m σ H, I j m σ H → WC P r (Back I n d j Q) c n d m σ H) : WC P r Q (.loop c) n d m σ H := fun a w hf hs => by
  let ok : Act → World → Nat → Prop := fun a w j => ∃ m σ H, I j m σ H ∧ Fr n d a m ∧ St σ H w
  let μ : Act → World → Nat := fun a w => open Classical in if h : ∃ j, ok a w j then Classical.choose (exists_least h) else 0
  have hμ : ∀ a w j, ok a w j → ok a w (μ a w) ∧ μ a w ≤ j := by
    intro a w j hj
    have h : ∃ j, ok a w j := ⟨j, hj⟩
    have e : μ a w = Classical.choose (exists_least h) := by simp only [μ]; rw [dif_pos h]
    have := Classical.choose_spec (exists_least h)
    rw [e]; exact ⟨this.1, this.2 j hj⟩
  refine wpIn_loop (fun a w => ∃ j, ok a w j) μ ⟨j0, m0, σ, H0, h0, hf.weak hm, hs.weak hH⟩ ?_
  rintro a w ⟨j, hj⟩
  obtain ⟨⟨m, σ, H, hI, hf, hs⟩, _⟩ := hμ a w j hj
  refine wpIn_mono (round _ m σ H hI a w hf hs) ?_
  intro e a' w' hq
  cases e <;> first
    | exact hq
    | (obtain ⟨j', m', σ', H', hlt, hI', hf', hs'⟩ := hq
       have hok : ok a' w' j' := ⟨m', σ', H', hI', hf', hs'⟩
       exact ⟨⟨j', hok⟩, Nat.lt_of_le_of_lt (hμ a' w' j' hok).2 hlt⟩)

/-- the round's end -/
theorem WQ.back {I : Inv} {j : Nat} (j' : Nat) {m0 : Slots} {H0 : HList} (hI : I j' m0 σ H0) (hlt : j' < j) (hm : Covers m m0) (hH : H0.Sublist H) :
    WQ (Back I n d j Q) .normal n d m σ H := fun _ _ hf hs => ⟨j', m0, σ, H0, hlt, hI, hf.weak hm, hs.weak hH⟩
theorem WQ.back_exit {I : Inv} {j id : Nat} (h : WQ Q (.exit id) n d m σ H) : WQ (Back I n d j Q) (.exit id) n d m σ H := h
theorem WQ.back_ret {I : Inv} {j : Nat} (h : WQ Q .ret n d m σ H) : WQ (Back I n d j Q) .ret n d m σ H := h

end
end Go.Sl
namespace Go.Sl
open Go

/-! ### calls -/
def Post (R : Value → View → HList → Prop) (σ : View) (Hr : HList) (e : Ending) (w' : World) : Prop :=
  ∃ v σ' H', e = .returned v ∧ R v σ' H' ∧ σ.le σ' ∧ St σ' (H' ++ Hr) w'

/-- a call, from what is known (σ) and owned (H), hands back v, with what R tells of v, of what is then known and owned. -/
def Tri (P : Program) (f : FuncId) (args : Array Value) (σ : View) (H : HList) (R : Value → View → HList → Prop) : Prop :=
  ∀ Hr w, St σ (H ++ Hr) w → Calls P f args w (Post R σ Hr)

def slotsFrom : Nat → List Value → Slots
  | _, [] => []
  | i, v :: l => (i, v) :: slotsFrom (i + 1) l

theorem slotsFrom_get (l : List Value) : ∀ (i j : Nat) (v : Value), get (slotsFrom i l) j = some v → i ≤ j ∧ l[j - i]? = some v := by
  induction l with
  | nil => intro i j v h; simp [slotsFrom, get] at h
  | cons u l ih =>
    intro i j v h
    simp only [slotsFrom, get] at h
    by_cases e : i = j
    · subst e
      have : Nat.beq i i = true := by simp
      rw [this] at h; simp at h; subst h; simp
    · rw [beq_ne e] at h
      obtain ⟨h1, h2⟩ := ih _ _ _ h
      refine ⟨by omega, ?_⟩
      obtain ⟨k, hk⟩ : ∃ k, j - i = k + 1 := ⟨j - (i + 1), by omega⟩
      rw [hk]; simp
      rw [show j - (i + 1) = k from by omega] at h2; exact h2

theorem Tri.of_body {P : Program} {f : FuncId} {fn : Func} {c : Code} {n : Nat} {args : Array Value} {σ : View} {H : HList} {R : Value → View → HList → Prop} (m : Slots)
    (hf : P.funcs[f]? = some fn) (hb : fn.body = some c) (hn : fn.ntmps = n) (hsz : args.size ≤ n) (hm : slotsFrom 0 args.toList = m)
    (h : ∀ Hr, WC P none (bodyPost P fn (Post R σ Hr)) c n [] m σ (H ++ Hr)) : Tri P f args σ H R := fun Hr w hs => by
  refine (callsIn_wide (n := 0)).1 (callsIn_of_wp hf hb trivial (h Hr _ w ⟨rfl, ?_, fun i v hv => ?_⟩ hs) rfl)
  · simp [hn]; omega
  · subst hm
    obtain ⟨_, h2⟩ := slotsFrom_get _ _ _ _ hv
    simp only [Nat.sub_zero, Array.getElem?_toList] at h2
    have hlt : i < args.size := (Array.getElem?_eq_some_iff.1 h2).1
    rw [Array.getElem?_append_left hlt]; exact h2

theorem Tri.mono {P : Program} {f : FuncId} {args : Array Value} {σ : View} {H : HList} {R R' : Value → View → HList → Prop} (h : Tri P f args σ H R)
    (hr : ∀ v σ' H', R v σ' H' → R' v σ' H') : Tri P f args σ H R' := fun Hr w hs =>
  (h Hr w hs).mono fun _ _ ⟨v, σ', H', e, hR, r⟩ => ⟨v, σ', H', e, hr _ _ _ hR, r⟩

section
variable {P : Program} {r : Option Nat} {ops : Array Oper} {Q : Exit → Act → World → Prop} {n : Nat} {d : List Deferred} {m : Slots} {σ : View} {H : HList}

theorem ret_run {fn : Func} {v : Value} {R : Value → View → HList → Prop} {σ0 : View} {Hr : HList} (H' : HList) (e : Exit) (he : e = .ret ∨ e = .normal)
    (hr : ∀ a w, Fr n [] a m → St σ H w → (results fn a.tmps).run P w = .ok v w) (hs : (H' ++ Hr).Sublist H) (hle : σ0.le σ) (hR : R v σ H') :
    WQ (bodyPost P fn (Post R σ0 Hr)) e n [] m σ H := fun a w hf hst => by
  rcases he with rfl | rfl
  all_goals exact ⟨hf.defers, v, hr a w hf hst, v, σ, H', rfl, hR, hle, hst.weak hs⟩

theorem Fr.getD {a : Act} {t : Nat} {v : Value} (h : Fr n d a m) (ht : get m t = some v) : a.tmps.getD t undef = v := by
  have := h.slot t v ht
  simp [Array.getD_eq_getD_getElem?, this]

theorem WQ.ret0 {fn : Func} {R : Value → View → HList → Prop} {σ0 : View} {Hr : HList} {e : Exit} (hr : fn.results = #[]) (H' : HList) (he : e = .ret ∨ e = .normal)
    (hs : (H' ++ Hr).Sublist H) (hle : σ0.le σ) (hR : R (.tuple #[]) σ H') : WQ (bodyPost P fn (Post R σ0 Hr)) e n [] m σ H :=
  ret_run H' e he (fun _ w _ _ => results_none hr _ _ w) hs hle hR
theorem WQ.ret1 {fn : Func} {t : Tmp} {v : Value} {R : Value → View → HList → Prop} {σ0 : View} {Hr : HList} (hr : fn.results = #[.tmp t]) (ht : get m t = some v) (H' : HList)
    (hs : (H' ++ Hr).Sublist H) (hle : σ0.le σ) (hR : R v σ H') : WQ (bodyPost P fn (Post R σ0 Hr)) .ret n [] m σ H :=
  ret_run H' .ret (.inl rfl) (fun a w hf _ => by rw [results_tmp hr, hf.getD ht]) hs hle hR
theorem WQ.ret2 {fn : Func} {t u : Tmp} {v x : Value} {R : Value → View → HList → Prop} {σ0 : View} {Hr : HList} (hr : fn.results = #[.tmp t, .tmp u]) (ht : get m t = some v) (hu : get m u = some x) (H' : HList)
    (hs : (H' ++ Hr).Sublist H) (hle : σ0.le σ) (hR : R (.tuple #[v, x]) σ H') : WQ (bodyPost P fn (Post R σ0 Hr)) .ret n [] m σ H :=
  ret_run H' .ret (.inl rfl) (fun a w hf _ => by rw [results_tmp2 hr, hf.getD ht, hf.getD hu]) hs hle hR
theorem WQ.ret3 {fn : Func} {t u y : Tmp} {v x z : Value} {R : Value → View → HList → Prop} {σ0 : View} {Hr : HList} (hr : fn.results = #[.tmp t, .tmp u, .tmp y]) (ht : get m t = some v) (hu : get m u = some x) (hy : get m y = some z) (H' : HList)
    (hs : (H' ++ Hr).Sublist H) (hle : σ0.le σ) (hR : R (.tuple #[v, x, z]) σ H') : WQ (bodyPost P fn (Post R σ0 Hr)) .ret n [] m σ H :=
  ret_run H' .ret (.inl rfl) (fun a w hf _ => by
    have h1 := hf.getD ht; have h2 := hf.getD hu; have h3 := hf.getD hy
    simp [results, hr] at h1 h2 h3 ⊢
    simp [h1, h2, h3]) hs hle hR

/-! ### operations -/
def Agree (ρ : Operand → Value) (m : Slots) : Prop := ∀ x v, opv m x = some v → ρ x = v
theorem Fr.agree {a : Act} (h : Fr n d a m) : Agree a.eval m := fun _ _ hx => h.eval hx

/-- an operation that only tells a value -/
def Pur (P : Program) (m : Slots) (o : Oper) (σ : View) (H : HList) (v : Value) : Prop :=
  ∀ ρ w, Agree ρ m → St σ H w → (execOp ρ o).run P w = .ok (.value v) w
/-- an operation that turns memory -/
def Run (P : Program) (m : Slots) (o : Oper) (σ : View) (H : HList) (v : Value) (σ' : View) (H' : HList) : Prop :=
  ∀ ρ w, Agree ρ m → St σ H w → ∃ w', ((execOp ρ o).run P w = .ok (.value v) w' ∨ ((execOp ρ o).run P w = .ok .skip w' ∧ v = undef)) ∧ St σ' H' w'

def Op.noDefer : Op → Bool
  | .defer _ => false
  | _ => true

theorem semAt_noDefer {ρ : Operand → Value} {o : Oper} (h : Op.noDefer o.op = true) : o.semAt r ρ = execOp ρ o := by
  unfold Oper.semAt
  cases r with
  | none => rfl
  | some l => cases ho : o.op <;> first | rfl | (rw [ho] at h; cases h)

theorem WL.nil (h : WQ Q .normal n d m σ H) : WL P r ops Q [] n d m σ H := fun a w hf hs => h a w hf hs
theorem WC.region {id : Nat} {l : List Oper} (h : WL P r l.toArray Q l n d m σ H) : WC P r Q (.region id l.toArray false) n d m σ H :=
  fun a w hf hs => wpIn_region_lit (h a w hf hs)

theorem wanted_none {o : Oper} {y : Nat → Option Bool} (hg : o.guard = none) : Region.wanted o y = true := by simp [Region.wanted, hg]
theorem wanted_guard {o : Oper} {j : Nat} {want b : Bool} {t : Tmp} {a : Act} (hg : o.guard = some (j, want)) (hj : (ops[j]?).bind (·.dst) = some t) (hf : Fr n d a m) (ht : get m t = some (.bool b)) :
    Region.wanted o (yielded ops a.tmps) = (b == want) := by
  simp [Region.wanted, hg, yielded, hj, hf.slot _ _ ht]

/-- an operation runs, the frame and memory turned -/
theorem wl_run {o : Oper} {rest : List Oper} {v : Value} {σ' : View} {H' : HList} {t : Tmp} (hd : o.dst = some t) (ht : Nat.blt t n = true) (hnd : Op.noDefer o.op = true)
    (hw : ∀ a, Fr n d a m → Region.wanted o (yielded ops a.tmps) = true) (hrun : Run P m o σ H v σ' H') (h : WL P r ops Q rest n d ((t, v) :: m) σ' H') : WL P r ops Q (o :: rest) n d m σ H := fun a w hf hs => by
  simp only [wpListIn, hw a hf, if_true]
  refine ⟨fun _ _ => trivial, ?_⟩
  show Oper.uponIn _ _ _ _ _ _ _ ((o.semAt r a.eval).run P w)
  rw [semAt_noDefer hnd]
  obtain ⟨w', hr, hs'⟩ := hrun a.eval w hf.agree hs
  have hnext : wpListIn (wide r) 0 P ops Q rest (a.put o.dst v) w' := by rw [hd]; exact h _ w' (hf.put v ht) hs'
  rcases hr with hr | ⟨hr, hv⟩
  · rw [hr]; exact hnext
  · rw [hr]; subst hv; exact hnext
theorem wl_run0 {o : Oper} {rest : List Oper} {v : Value} {σ' : View} {H' : HList} (hd : o.dst = none) (hnd : Op.noDefer o.op = true)
    (hw : ∀ a, Fr n d a m → Region.wanted o (yielded ops a.tmps) = true) (hrun : Run P m o σ H v σ' H') (h : WL P r ops Q rest n d m σ' H') : WL P r ops Q (o :: rest) n d m σ H := fun a w hf hs => by
  simp only [wpListIn, hw a hf, if_true]
  refine ⟨fun _ _ => trivial, ?_⟩
  show Oper.uponIn _ _ _ _ _ _ _ ((o.semAt r a.eval).run P w)
  rw [semAt_noDefer hnd]
  obtain ⟨w', hr, hs'⟩ := hrun a.eval w hf.agree hs
  have hnext : ∀ u, wpListIn (wide r) 0 P ops Q rest (a.put o.dst u) w' := fun u => by rw [hd]; exact h _ w' hf hs'
  rcases hr with hr | ⟨hr, hv⟩
  · rw [hr]; exact hnext _
  · rw [hr]; exact hnext _
theorem Pur.run {o : Oper} {v : Value} (h : Pur P m o σ H v) : Run P m o σ H v σ H := fun ρ w ha hs => ⟨w, .inl (h ρ w ha hs), hs⟩

theorem WL.pur {t : Tmp} {op : Op} {ty : TypeId} {pos : String} {af : Array Edge} {rest : List Oper} {v : Value} (hrun : Pur P m ⟨some t, op, ty, pos, af, none⟩ σ H v)
    (h : WL P r ops Q rest n d ((t, v) :: m) σ H) (ht : Nat.blt t n = true := by rfl) (hnd : Op.noDefer op = true := by rfl) : WL P r ops Q (⟨some t, op, ty, pos, af, none⟩ :: rest) n d m σ H :=
  wl_run rfl ht hnd (fun _ _ => wanted_none rfl) hrun.run h
theorem WL.run {t : Tmp} {op : Op} {ty : TypeId} {pos : String} {af : Array Edge} {rest : List Oper} {v : Value} {σ' : View} {H' : HList} (hrun : Run P m ⟨some t, op, ty, pos, af, none⟩ σ H v σ' H')
    (h : WL P r ops Q rest n d ((t, v) :: m) σ' H') (ht : Nat.blt t n = true := by rfl) (hnd : Op.noDefer op = true := by rfl) : WL P r ops Q (⟨some t, op, ty, pos, af, none⟩ :: rest) n d m σ H :=
  wl_run rfl ht hnd (fun _ _ => wanted_none rfl) hrun h
theorem WL.run0 {op : Op} {ty : TypeId} {pos : String} {af : Array Edge} {rest : List Oper} {v : Value} {σ' : View} {H' : HList} (hrun : Run P m ⟨none, op, ty, pos, af, none⟩ σ H v σ' H')
    (h : WL P r ops Q rest n d m σ' H') (hnd : Op.noDefer op = true := by rfl) : WL P r ops Q (⟨none, op, ty, pos, af, none⟩ :: rest) n d m σ H :=
  wl_run0 rfl hnd (fun _ _ => wanted_none rfl) hrun h
/-- a guarded operation that runs -/
theorem WL.gpur {t u : Tmp} {op : Op} {ty : TypeId} {pos : String} {af : Array Edge} {rest : List Oper} {v : Value} {j : Nat} {b want : Bool}
    (hj : (ops[j]?).bind (·.dst) = some u) (hu : get m u = some (.bool b)) (hb : (b == want) = true)
    (hrun : Pur P m ⟨some t, op, ty, pos, af, some (j, want)⟩ σ H v)
    (h : WL P r ops Q rest n d ((t, v) :: m) σ H) (ht : Nat.blt t n = true := by rfl) (hnd : Op.noDefer op = true := by rfl) : WL P r ops Q (⟨some t, op, ty, pos, af, some (j, want)⟩ :: rest) n d m σ H :=
  wl_run rfl ht hnd (fun _ hf => by rw [wanted_guard rfl hj hf hu]; exact hb) hrun.run h
/-- a guarded operation that is passed over -/
theorem WL.gskip {t u : Tmp} {op : Op} {ty : TypeId} {pos : String} {af : Array Edge} {rest : List Oper} {j : Nat} {b want : Bool}
    (hj : (ops[j]?).bind (·.dst) = some u) (hu : get m u = some (.bool b)) (hb : (b == want) = false)
    (h : WL P r ops Q rest n d ((t, undef) :: m) σ H) (ht : Nat.blt t n = true := by rfl) : WL P r ops Q (⟨some t, op, ty, pos, af, some (j, want)⟩ :: rest) n d m σ H := fun a w hf hs => by
  have hw := wanted_guard (o := ⟨some t, op, ty, pos, af, some (j, want)⟩) (ops := ops) rfl hj hf hu
  rw [hb] at hw
  simp only [wpListIn, hw]
  exact ⟨fun _ _ => trivial, h _ w (hf.put undef ht) hs⟩
/-- a Bool of a slot is parted -/
theorem WL.part {l : List Oper} {u : Tmp} {p : Prop} {_ip : Decidable p} (hu : get m u = some (.bool (decide p)))
    (ht : p → WL P r ops Q l n d ((u, .bool true) :: m) σ H) (hf : ¬ p → WL P r ops Q l n d ((u, .bool false) :: m) σ H) : WL P r ops Q l n d m σ H := fun a w h hs => by
  have cov : ∀ b, get m u = some b → Covers m ((u, b) :: m) := fun b hb => Covers.cons hb (Covers.refl _)
  by_cases hp : p
  · refine ht hp a w (h.weak (cov _ ?_)) hs; rw [hu]; simp [hp]
  · refine hf hp a w (h.weak (cov _ ?_)) hs; rw [hu]; simp [hp]

/-- a call of a function -/
theorem wl_call {o : Oper} {rest : List Oper} {f : FuncId} {vs : Array Value} {H0 Hr : HList} {R : Value → View → HList → Prop}
    (hop : ∃ c, o.op = .call c) (hw : ∀ a, Fr n d a m → Region.wanted o (yielded ops a.tmps) = true) (hdst : ∀ t, o.dst = some t → Nat.blt t n = true)
    (hrun : ∀ ρ w, Agree ρ m → St σ H w → (execOp ρ o).run P w = .ok (.enter f vs) w)
    (hH : (H0 ++ Hr).Perm H) (hcall : Tri P f vs σ H0 R)
    (h : ∀ v σ' H', R v σ' H' → σ.le σ' → WL P r ops Q rest n d (match o.dst with | some t => (t, v) :: m | none => m) σ' (H' ++ Hr)) : WL P r ops Q (o :: rest) n d m σ H := fun a w hf hs => by
  simp only [wpListIn, hw a hf, if_true]
  refine ⟨fun _ _ => trivial, ?_⟩
  show Oper.uponIn _ _ _ _ _ _ _ ((o.semAt r a.eval).run P w)
  obtain ⟨c, hc⟩ := hop
  rw [semAt_noDefer (by rw [hc]; rfl), hrun _ w hf.agree hs]
  refine ⟨fun h => (by simp [wide, Fence.wide] at h), ?_⟩
  have h1 : CallsIn Fence.wide 0 P f vs w (Post R σ Hr) := (callsIn_wide (n := 0)).2 (hcall Hr w (hs.perm hH))
  refine CallsIn.mono (show CallsIn (wide r) 0 P f vs w (Post R σ Hr) from h1) ?_
  rintro e w' ⟨v, σ', H', rfl, hR, hle, hs'⟩
  have := h v σ' H' hR hle
  show wpListIn (wide r) 0 P ops Q rest (a.put o.dst v) w'
  cases hdd : o.dst with
  | none => rw [hdd] at this; exact this _ w' (hf.putNone v) hs'
  | some t => rw [hdd] at this; exact this _ w' (hf.put v (hdst t hdd)) hs'

end
end Go.Sl
namespace Go.Sl
open Go

/-- how many cells a variable of a type has: 'some none': one, of no aggregate; 'some (some k)': an aggregate of k -/
def tyc (P : Program) (t : TypeId) : Option (Option Nat) :=
  match P.underlying t with
  | some (.struct _) | some (.array _ _) => (P.info? t).map fun i => some i.size
  | some _ => some none
  | none => none

/-- a row of cells without frozen ones -/
def rowO (T : TypeId) (l : List Value) : Obj := .cells l.toArray T (0, 0)

/-- known memory holds these values, one behind the other -/
def RdV (σ : View) (b off : Nat) (vs : List Value) : Prop := ∃ c T fr, σ b = some (.cells c T fr) ∧ ∀ i v, vs[i]? = some v → c[off + i]? = some v
/-- known or owned memory does -/
def Rd (σ : View) (H : HList) (b off : Nat) (vs : List Value) : Prop :=
  ∃ c T fr, (σ b = some (.cells c T fr) ∨ (b, Obj.cells c T fr) ∈ H) ∧ ∀ i v, vs[i]? = some v → c[off + i]? = some v

theorem RdV.rd {σ : View} {H : HList} {b off : Nat} {vs : List Value} (h : RdV σ b off vs) : Rd σ H b off vs :=
  let ⟨c, T, fr, h1, h2⟩ := h; ⟨c, T, fr, .inl h1, h2⟩
theorem RdV.mono {σ σ' : View} {b off : Nat} {vs : List Value} (h : RdV σ b off vs) (hl : σ.le σ') : RdV σ' b off vs :=
  let ⟨c, T, fr, h1, h2⟩ := h; ⟨c, T, fr, hl.2 _ _ h1, h2⟩
theorem Rd.own {σ : View} {H : HList} {b off : Nat} {vs : List Value} {T : TypeId} {l : List Value} (h : (b, rowO T l) ∈ H) (hl : ∀ i v, vs[i]? = some v → l[off + i]? = some v) : Rd σ H b off vs :=
  ⟨_, _, _, .inr h, fun i v hi => by simpa using hl i v hi⟩
theorem Rd.own1 {σ : View} {H : HList} {b off : Nat} {v : Value} {T : TypeId} {l : List Value} (h : (b, rowO T l) ∈ H) (hl : l[off]? = some v) : Rd σ H b off [v] :=
  Rd.own h fun i u hi => by
    cases i with
    | zero => simp at hi; subst hi; exact hl
    | succ i => simp at hi

theorem Rd.cell {σ : View} {H : HList} {w : World} {b off : Nat} {vs : List Value} (hs : St σ H w) (h : Rd σ H b off vs) (i : Nat) (v : Value) (hi : vs[i]? = some v) : w.cell? ⟨b, off + i, none⟩ = some v := by
  obtain ⟨c, T, fr, hb, hc⟩ := h
  have hw : w.heap[b]? = some (.cells c T fr) := by
    rcases hb with hb | hb
    · exact hs.view _ _ hb
    · exact hs.own _ hb
  simp [World.cell?, hw, hc i v hi]

theorem add_none (b off k : Nat) : (⟨b, off, none⟩ : Addr).add k = ⟨b, off + k, none⟩ := by
  unfold Addr.add; split
  · rename_i h; subst h; rfl
  · rfl

theorem loadCellsFrom_run {P : Program} {w : World} {b off : Nat} : ∀ (vs : List Value) (i : Nat) (acc : Array Value), (∀ j v, vs[j]? = some v → w.cell? ⟨b, off + i + j, none⟩ = some v) →
    (loadCellsFrom ⟨b, off, none⟩ i vs.length acc).run P w = .ok (acc ++ vs.toArray) w := by
  intro vs
  induction vs with
  | nil => intro i acc _; simp [loadCellsFrom]
  | cons v vs ih =>
    intro i acc h
    have h0 := h 0 v (by simp)
    simp only [List.length_cons, loadCellsFrom, Sem.run_bind, add_none]
    have : (load ⟨b, off + i, none⟩).run P w = .ok v w := by
      simp only [Nat.add_zero] at h0
      simp [run_load, h0]
    rw [this]
    simp only [Result.andThen_ok]
    rw [ih (i + 1) _ (fun j u hj => by have := h (j + 1) u (by simpa using hj); rw [show off + (i + 1) + j = off + i + (j + 1) from by omega]; exact this)]
    simp

theorem loadCells_run {P : Program} {w : World} {b off : Nat} {vs : List Value} (h : ∀ j v, vs[j]? = some v → w.cell? ⟨b, off + j, none⟩ = some v) {k : Nat} (hk : vs.length = k) :
    (loadCells ⟨b, off, none⟩ k).run P w = .ok vs.toArray w := by
  unfold loadCells; subst hk
  rw [loadCellsFrom_run vs 0 #[] (by simpa using h)]; simp

theorem isAgg_run {P : Program} {t : TypeId} {x : Option Nat} (h : tyc P t = some x) (w : World) : (isAgg t).run P w = .ok x.isSome w := by
  unfold tyc at h
  unfold isAgg underlying
  cases hu : P.underlying t with
  | none => rw [hu] at h; cases h
  | some D =>
    rw [hu] at h
    cases D <;> simp at h <;> first
      | (subst h; simp [hu])
      | (obtain ⟨i, hi, rfl⟩ := h; simp [hu])

theorem sizeOf_run {P : Program} {t : TypeId} {k : Nat} (h : tyc P t = some (some k)) (w : World) : (sizeOf t).run P w = .ok k w := by
  unfold tyc at h
  unfold sizeOf typeInfo
  cases hu : P.underlying t with
  | none => rw [hu] at h; cases h
  | some D =>
    rw [hu] at h
    cases D <;> simp at h
    all_goals
      obtain ⟨i, hi, hk⟩ := h
      simp [hi, hk]

theorem loadVar_run1 {P : Program} {w : World} {t : TypeId} {b off : Nat} {v : Value} (ht : tyc P t = some none) (h : w.cell? ⟨b, off, none⟩ = some v) : (loadVar t ⟨b, off, none⟩).run P w = .ok v w := by
  unfold loadVar
  simp [isAgg_run ht, h]
theorem loadVar_runN {P : Program} {w : World} {t : TypeId} {b off k : Nat} {vs : List Value} (ht : tyc P t = some (some k)) (hk : vs.length = k) (h : ∀ j v, vs[j]? = some v → w.cell? ⟨b, off + j, none⟩ = some v) : (loadVar t ⟨b, off, none⟩).run P w = .ok (.agg vs.toArray) w := by
  unfold loadVar
  simp [isAgg_run ht, sizeOf_run ht, loadCells_run h hk]

section
variable {P : Program} {m : Slots} {σ : View} {H : HList} {dst : Option Tmp} {ty : TypeId} {pos : String} {af : Array Edge} {g : Option (Nat × Bool)}

theorem Pur.move {x : Operand} {v : Value} (hx : opv m x = some v) : Pur P m ⟨dst, .move x, ty, pos, af, g⟩ σ H v := fun ρ w ha _ => by
  simp [execOp, ha x v hx]
theorem Pur.assign {x : Operand} {v : Value} (hx : opv m x = some v) : Pur P m ⟨dst, .assign x, ty, pos, af, g⟩ σ H v := fun ρ w ha _ => by
  simp [execOp, ha x v hx]
theorem Pur.pick {c x y : Operand} {b : Bool} {u v : Value} (hc : opv m c = some (.bool b)) (hx : opv m x = some u) (hy : opv m y = some v) : Pur P m ⟨dst, .pick c x y, ty, pos, af, g⟩ σ H (if b then u else v) := fun ρ w ha _ => by
  cases b <;> simp [execOp, ha c _ hc, ha x _ hx, ha y _ hy, asBool]

theorem Pur.load1 {t : TypeId} {x : Operand} {b off : Nat} {v : Value} (hx : opv m x = some (.pointer (some ⟨b, off, none⟩))) (ht : tyc P t = some none) (hr : Rd σ H b off [v]) :
    Pur P m ⟨dst, .load t x, ty, pos, af, g⟩ σ H v := fun ρ w ha hs => by
  have := loadVar_run1 (P := P) ht (by simpa using hr.cell hs 0 v (by simp))
  simp [execOp, Instr.loadAt, Instr.sureAddr, ha x _ hx, this]
theorem Pur.loadN {t : TypeId} {x : Operand} {b off k : Nat} {vs : List Value} (hx : opv m x = some (.pointer (some ⟨b, off, none⟩))) (ht : tyc P t = some (some k)) (hr : Rd σ H b off vs) (hk : vs.length = k) :
    Pur P m ⟨dst, .load t x, ty, pos, af, g⟩ σ H (.agg vs.toArray) := fun ρ w ha hs => by
  have := loadVar_runN (P := P) ht hk (hr.cell hs)
  simp [execOp, Instr.loadAt, Instr.sureAddr, ha x _ hx, this]

/-! addresses -/
theorem Pur.nilCheck {x : Operand} {a : Addr} (hx : opv m x = some (.pointer (some a))) : Pur P m ⟨dst, .nilCheck x, ty, pos, af, g⟩ σ H (.pointer (some a)) := fun ρ w ha _ => by
  simp [execOp, ha x _ hx]
theorem Pur.nilCheckF {x : Operand} {f : FuncId} {c : Array Value} (hx : opv m x = some (.func (.func f) #[] c)) : Pur P m ⟨dst, .nilCheck x, ty, pos, af, g⟩ σ H (.func (.func f) #[] c) := fun ρ w ha _ => by
  simp [execOp, ha x _ hx]

/-- the offset of a field: a closed fact -/
def fldOff (P : Program) (s : TypeId) (f : Nat) : Option Nat :=
  match P.underlying s with
  | some (.struct fs) => match fs[f]? with
    | some x => match P.info? x.type with
      | some i => if i.size = 0 then none else some x.offset
      | none => none
    | none => none
  | _ => none
theorem Pur.fieldAddr {s : TypeId} {x : Operand} {f b off o : Nat} (hx : opv m x = some (.pointer (some ⟨b, off, none⟩))) (hf : fldOff P s f = some o) : Pur P m ⟨dst, .fieldAddr s x f, ty, pos, af, g⟩ σ H (.pointer (some ⟨b, off + o, none⟩)) := fun ρ w ha _ => by
  unfold fldOff at hf
  split at hf
  · rename_i fs hu
    split at hf
    · rename_i fx hfx
      split at hf
      · rename_i i hi
        split at hf
        · cases hf
        · rename_i hz
          simp at hf
          simp [execOp, Instr.fieldAt, underlying, hu, ha x _ hx, hfx, Instr.sureAddr, fieldPlace, sizeOf, typeInfo, hi, hz, add_none, hf]
      · cases hf
    · cases hf
  · cases hf

/-- the type of a slice's elements, and how many cells one has -/
def slE (P : Program) (t : TypeId) : Option (TypeId × Nat) :=
  match P.underlying t with
  | some (.slice e) => (P.info? e).map fun i => (e, i.size)
  | _ => none
theorem slE_spec {t e k : Nat} (h : slE P t = some (e, k)) : P.underlying t = some (.slice e) ∧ ∃ i, P.info? e = some i ∧ i.size = k := by
  unfold slE at h
  split at h
  · rename_i e' hu
    simp at h
    obtain ⟨i, hi, rfl, rfl⟩ := h
    exact ⟨hu, i, hi, rfl⟩
  · cases h

theorem Pur.indexAddr {t e k : Nat} {x y : Operand} {b off len cap i : Nat} {ki : IntKind} (hx : opv m x = some (.slice (some ⟨b, off, none⟩) len cap)) (hy : opv m y = some (.int ki (i : Int))) (ht : slE P t = some (e, k)) (hi : i < len) :
    Pur P m ⟨dst, .indexAddr t x y, ty, pos, af, g⟩ σ H (.pointer (some ⟨b, off + i * k, none⟩)) := fun ρ w ha _ => by
  obtain ⟨hu, j, hj, rfl⟩ := slE_spec ht
  simp [execOp, Instr.indexAt, asIntOf, underlying, hu, ha x _ hx, ha y _ hy, sizeOf, typeInfo, hj, hi, add_none]

end
end Go.Sl
namespace Go.Sl
open Go

/-! ### regions that draw their order -/
section
variable {P : Program} {r : Option Nat} {ops : Array Oper} {Q : Exit → Act → World → Prop}

/-- what an operation comes to: a value and a world; no panic -/
def Upn (P : Program) (K : Value → World → Prop) : Result Next → Prop
  | .ok (.value v) w' => K v w'
  | .ok .skip w' => K undef w'
  | .ok (.enter f args) w' => Calls P f args w' fun e w'' => ∃ v, e = .returned v ∧ K v w''
  | _ => False

theorem Upn.mono {K K' : Value → World → Prop} {x : Result Next} (h : Upn P K x) (hk : ∀ v w, K v w → K' v w) : Upn P K' x := by
  cases x with
  | ok y w => cases y <;> simp only [Upn] at h ⊢ <;> first | exact hk _ _ h | exact h.mono fun e w ⟨v, he, hv⟩ => ⟨v, he, hk _ _ hv⟩
  | halt y w => simp only [Upn] at h

def sOp (P : Program) (ops : Array Oper) (i : Nat) (K : Act → World → Prop) (a : Act) (w : World) : Prop :=
  match ops[i]? with
  | none => K a w
  | some o => if Region.wanted o (yielded ops a.tmps) = true then Upn P (fun v w' => K (a.put o.dst v) w') ((execOp a.eval o).run P w) else K (a.put o.dst undef) w

theorem sOp.mono {i : Nat} {K K' : Act → World → Prop} {a : Act} {w : World} (h : sOp P ops i K a w) (hk : ∀ a w, K a w → K' a w) : sOp P ops i K' a w := by
  unfold sOp at *
  split
  · exact hk _ _ (by simpa [*] using h)
  · rename_i o ho
    simp only [ho] at h
    split
    · rename_i hw; simp only [hw, if_true] at h; exact h.mono fun v w => hk _ _
    · rename_i hw; simp only [hw] at h; exact hk _ _ h

def AnyC (P : Program) (ops : Array Oper) (Q : Act → World → Prop) (C : World → Prop) (N : Nat) : Nat → Array Bool → Act → World → Prop
  | 0, listed, a, w => Region.ready .any ops listed = [] ∧ Q a w
  | fuel + 1, listed, a, w =>
    (Region.ready .any ops listed = [] → Q a w) ∧
    ∀ i ∈ Region.ready .any ops listed, sOp P ops i (fun a' w' => (N ≤ i ∨ (C w → C w')) ∧ AnyC P ops Q C N fuel (listed.setIfInBounds i true) a' w') a w

/-- no defer, no select in a region -/
def plainOps (ops : Array Oper) : Bool := ops.all fun o => match o.op with | .defer _ => false | .select .. => false | _ => true
theorem plainOps_spec (h : plainOps ops = true) {i : Nat} {o : Oper} (ho : ops[i]? = some o) : Op.noDefer o.op = true ∧ ∀ cs b, o.op ≠ .select cs b := by
  have hm : o ∈ ops := Array.mem_of_getElem? ho
  have := (Array.all_eq_true'.1 h) o hm
  constructor
  · cases e : o.op <;> first | rfl | (rw [e] at this; simp at this)
  · intro cs b e; rw [e] at this; simp at this

theorem wpOpIn_of_sOp (hp : plainOps ops = true) {i : Nat} {K K' : Act → World → Prop} {a : Act} {w : World} (hk : ∀ a w, K a w → K' a w) (h : sOp P ops i K a w) :
    wpOpIn (wide r) 0 P ops Q i K' a w := by
  unfold sOp at h
  unfold wpOpIn
  split
  · rename_i ho; rw [ho] at h; exact hk _ _ h
  · rename_i o ho
    simp only [ho] at h
    split
    · rename_i hw
      simp only [hw, if_true] at h
      refine ⟨fun _ _ => trivial, ?_⟩
      show Oper.uponIn _ _ _ _ _ _ _ ((o.semAt r a.eval).run P w)
      rw [semAt_noDefer (plainOps_spec hp ho).1]
      generalize (execOp a.eval o).run P w = x at h
      cases x with
      | ok y w' =>
        cases y <;> simp only [Upn] at h <;> try exact hk _ _ h
        refine ⟨fun h => (by simp [wide, Fence.wide] at h), ?_⟩
        have h1 := (callsIn_wide (n := 0)).2 h
        refine CallsIn.mono (show CallsIn (wide r) 0 P _ _ w' _ from h1) ?_
        rintro e w'' ⟨v, rfl, hv⟩
        exact hk _ _ hv
      | halt y w' => simp only [Upn] at h
    · rename_i hw
      simp only [hw] at h
      exact ⟨fun _ _ => trivial, hk _ _ h⟩

theorem wpAnyIn_of_AnyC (hp : plainOps ops = true) {Q' : Act → World → Prop} {C : World → Prop} {N : Nat} (hq : ∀ a w, Q' a w → Q .normal a w) : ∀ (fuel : Nat) (listed : Array Bool) (a : Act) (w : World),
    AnyC P ops Q' C N fuel listed a w → wpAnyIn (wide r) 0 P .any ops Q fuel listed a w
  | 0, _, _, _, h => ⟨h.1, hq _ _ h.2⟩
  | fuel + 1, _, _, _, h => ⟨fun h0 => hq _ _ (h.1 h0), fun i hi => wpOpIn_of_sOp hp (fun a w h => wpAnyIn_of_AnyC hp hq fuel _ a w h.2) (h.2 i hi)⟩

/-- in every world of the class, in this frame, the operation tells v, the world as it was -/
def Tells (P : Program) (ops : Array Oper) (C : World → Prop) (o : Oper) (v : Value) (a : Act) : Prop :=
  (Region.wanted o (yielded ops a.tmps) = true ∧ ∀ w, C w → (execOp a.eval o).run P w = .ok (.value v) w) ∨ (Region.wanted o (yielded ops a.tmps) = false ∧ v = undef)

theorem Tells.sOp {C : World → Prop} {i : Nat} {o : Oper} {v : Value} {a : Act} {w : World} (hi : ops[i]? = some o) (hy : Tells P ops C o v a) (hC : C w) {K : Act → World → Prop} (h : K (a.put o.dst v) w) : sOp P ops i K a w := by
  unfold Sl.sOp
  simp only [hi]
  rcases hy with ⟨hw, hv⟩ | ⟨hw, rfl⟩
  · simp only [hw, if_true, hv w hC, Upn]; exact h
  · simp only [hw, Bool.false_eq_true, if_false]; exact h

theorem Tells.put {C : World → Prop} {o oj : Oper} {v : Value} {a : Act} (hy : Tells P ops C o v a) (hs : ∀ cs b, o.op ≠ .select cs b) (u : Value)
    (h3 : ∀ d, oj.dst = some d → d ∉ o.looksAt ops) : Tells P ops C o v (a.put oj.dst u) := by
  unfold Tells at *
  rw [execOp_put o hs a oj.dst u h3, wanted_put o a oj.dst u h3]
  exact hy

theorem sOp_put {j : Nat} {oi oj : Oper} {v : Value} (hj : ops[j]? = some oj) (hap : oi.apart ops oj = true) (hsj : ∀ cs b, oj.op ≠ .select cs b)
    {K : Act → World → Prop} {a : Act} {w : World} (h : sOp P ops j K (a.put oi.dst v) w) :
    sOp P ops j (fun a' w' => (∃ u, a' = a.put oj.dst u) ∧ K (a'.put oi.dst v) w') a w := by
  obtain ⟨h1, h2, h3⟩ := Oper.apart_spec hap
  unfold sOp at *
  simp only [hj] at *
  rw [wanted_put oj a oi.dst v h1] at h
  split
  · rename_i hw
    simp only [hw, if_true] at h
    rw [execOp_put oj hsj a oi.dst v h1] at h
    exact h.mono fun u w' hk => ⟨⟨u, rfl⟩, by rw [← Act.put_comm a v u h2]; exact hk⟩
  · rename_i hw
    simp only [hw] at h
    exact ⟨⟨_, rfl⟩, by rw [← Act.put_comm a v undef h2]; exact h⟩

theorem AnyC.first {Q : Act → World → Prop} {C : World → Prop} {N i : Nat} {oi : Oper} {v : Value} (hp : plainOps ops = true) (hi : ops[i]? = some oi) (hph : ∀ j oj, ops[j]? = some oj → N ≤ j → i ≠ j → ∃ e ∈ oj.after, Region.binds .any e = true ∧ e.on = i) :
    ∀ (fuel : Nat) (listed : Array Bool) (a : Act) (w : World),
      (∀ j oj, ops[j]? = some oj → j ≠ i → listed.getD j true = false → (∀ e ∈ oj.after, Region.binds .any e = true → e.on ≠ i) → oi.apart ops oj = true) →
      i ∈ Region.ready .any ops listed → Tells P ops C oi v a → C w →
      AnyC P ops Q C N fuel (listed.setIfInBounds i true) (a.put oi.dst v) w → AnyC P ops Q C N (fuel + 1) listed a w := by
  intro fuel
  induction fuel with
  | zero =>
    intro listed a w _ hr hy hC H
    refine ⟨fun h => (by rw [h] at hr; cases hr), fun j hj => ?_⟩
    by_cases hji : j = i
    · subst hji; exact hy.sOp hi hC ⟨.inr (fun h => h), H⟩
    · have := ready_mono hj hji
      rw [H.1] at this
      cases this
  | succ fuel ih =>
    intro listed a w hfree hr hy hC H
    refine ⟨fun h => (by rw [h] at hr; cases hr), fun j hj => ?_⟩
    by_cases hji : j = i
    · subst hji; exact hy.sOp hi hC ⟨.inr (fun h => h), H⟩
    · have h1 := H.2 j (ready_mono hj hji)
      obtain ⟨hjun, oj, hoj, hall⟩ := mem_ready.1 hj
      have hnot : ∀ e ∈ oj.after, Region.binds .any e = true → e.on ≠ i := fun e he hb heq => by
        have h1 := hall e he hb
        have h0 := (mem_ready.1 hr).1
        rw [heq] at h1
        rcases Nat.lt_or_ge i listed.size with h' | h'
        · simp [h'] at h0 h1; rw [h0] at h1; cases h1
        · simp [Array.getElem?_eq_none h'] at h1
      have hNj : ¬ N ≤ j := fun hle => by
        obtain ⟨e, he, hb, hon⟩ := hph j oj hoj hle (Ne.symm hji)
        exact hnot e he hb hon
      have hap := hfree j oj hoj hji hjun hnot
      have h2 := sOp_put hoj hap (plainOps_spec hp hoj).2 h1
      have hfree' : ∀ k ok, ops[k]? = some ok → k ≠ i → (listed.setIfInBounds j true).getD k true = false →
          (∀ e ∈ ok.after, Region.binds .any e = true → e.on ≠ i) → oi.apart ops ok = true := fun k ok hk hki hun hno => by
        refine hfree k ok hk hki ?_ hno
        by_cases hjk : j = k
        · subst hjk; exact hjun
        · rw [getD_set_ne true hjk] at hun; exact hun
      refine h2.mono fun a' w' ⟨⟨u, ha'⟩, hc', h3⟩ => ?_
      have hC' : C w' := hc'.resolve_left hNj hC
      refine ⟨.inr (fun _ => hC'), ih (listed.setIfInBounds j true) a' w' hfree' (ready_mono hr (Ne.symm hji)) ?_ hC' ?_⟩
      · subst ha'; exact hy.put (plainOps_spec hp hi).2 u (Oper.apart_spec hap).2.2
      · rw [Array.setIfInBounds_comm _ _ hji]; exact h3


/-- .. likewise, what tells the same in every world: nothing is asked of the others' phases -/
theorem AnyC.firstW {Q : Act → World → Prop} {C : World → Prop} {N i : Nat} {oi : Oper} {v : Value} (hp : plainOps ops = true) (hi : ops[i]? = some oi) :
    ∀ (fuel : Nat) (listed : Array Bool) (a : Act) (w : World),
      (∀ j oj, ops[j]? = some oj → j ≠ i → listed.getD j true = false → (∀ e ∈ oj.after, Region.binds .any e = true → e.on ≠ i) → oi.apart ops oj = true) →
      i ∈ Region.ready .any ops listed → Tells P ops (fun _ => True) oi v a →
      AnyC P ops Q C N fuel (listed.setIfInBounds i true) (a.put oi.dst v) w → AnyC P ops Q C N (fuel + 1) listed a w := by
  intro fuel
  induction fuel with
  | zero =>
    intro listed a w _ hr hy H
    refine ⟨fun h => (by rw [h] at hr; cases hr), fun j hj => ?_⟩
    by_cases hji : j = i
    · subst hji; exact hy.sOp hi trivial ⟨.inr (fun h => h), H⟩
    · have := ready_mono hj hji
      rw [H.1] at this
      cases this
  | succ fuel ih =>
    intro listed a w hfree hr hy H
    refine ⟨fun h => (by rw [h] at hr; cases hr), fun j hj => ?_⟩
    by_cases hji : j = i
    · subst hji; exact hy.sOp hi trivial ⟨.inr (fun h => h), H⟩
    · have h1 := H.2 j (ready_mono hj hji)
      obtain ⟨hjun, oj, hoj, hall⟩ := mem_ready.1 hj
      have hnot : ∀ e ∈ oj.after, Region.binds .any e = true → e.on ≠ i := fun e he hb heq => by
        have h1 := hall e he hb
        have h0 := (mem_ready.1 hr).1
        rw [heq] at h1
        rcases Nat.lt_or_ge i listed.size with h' | h'
        · simp [h'] at h0 h1; rw [h0] at h1; cases h1
        · simp [Array.getElem?_eq_none h'] at h1
      have hap := hfree j oj hoj hji hjun hnot
      have h2 := sOp_put hoj hap (plainOps_spec hp hoj).2 h1
      have hfree' : ∀ k ok, ops[k]? = some ok → k ≠ i → (listed.setIfInBounds j true).getD k true = false →
          (∀ e ∈ ok.after, Region.binds .any e = true → e.on ≠ i) → oi.apart ops ok = true := fun k ok hk hki hun hno => by
        refine hfree k ok hk hki ?_ hno
        by_cases hjk : j = k
        · subst hjk; exact hjun
        · rw [getD_set_ne true hjk] at hun; exact hun
      refine h2.mono fun a' w' ⟨⟨u, ha'⟩, hc', h3⟩ => ?_
      refine ⟨hc', ih (listed.setIfInBounds j true) a' w' hfree' (ready_mono hr (Ne.symm hji)) ?_ ?_⟩
      · subst ha'; exact hy.put (plainOps_spec hp hi).2 u (Oper.apart_spec hap).2.2
      · rw [Array.setIfInBounds_comm _ _ hji]; exact h3

end

/-! in symbols -/
def phaseOk (ops : Array Oper) (N i : Nat) : Bool :=
  (List.range ops.size).all fun j => decide (j < N) || i == j || match ops[j]? with
    | some oj => oj.after.any fun e => Region.binds .any e && e.on == i
    | none => true
theorem phaseOk_spec {ops : Array Oper} {N i : Nat} (h : phaseOk ops N i = true) (j : Nat) (oj : Oper) (hj : ops[j]? = some oj) (hN : N ≤ j) (hne : i ≠ j) : ∃ e ∈ oj.after, Region.binds .any e = true ∧ e.on = i := by
  simp only [phaseOk, List.all_eq_true, List.mem_range] at h
  have h1 := h j (Array.getElem?_eq_some_iff.1 hj).1
  have : ¬ j < N := by omega
  simp only [hj, this, decide_false, Bool.false_or, Bool.or_eq_true, beq_iff_eq, hne, false_or] at h1
  obtain ⟨e, he, hb⟩ := Array.any_eq_true'.1 h1
  simp only [Bool.and_eq_true, beq_iff_eq] at hb
  exact ⟨e, he, hb.1, hb.2⟩

section
variable (P : Program) (ops : Array Oper) (Q : Exit → Act → World → Prop) (σ0 : View) (H0 : HList) (N : Nat)
/-- what is left of a region that draws -/
def SA (fuel : Nat) (listed : Array Bool) (n : Nat) (d : List Deferred) (m : Slots) (σ : View) (H : HList) : Prop :=
  ∀ a w, Fr n d a m → St σ H w → AnyC P ops (Q .normal) (St σ0 H0) N fuel listed a w
end

theorem St.le {σ σ' : View} {H : HList} {w : World} (h : St σ' H w) (hl : σ.le σ') : St σ H w :=
  ⟨⟨h.env.1.trans hl.1.1, h.env.2.1.trans hl.1.2.1, h.env.2.2.1.trans hl.1.2.2.1, hl.1.2.2.2 ▸ h.env.2.2.2⟩, fun b o ho => h.view b o (hl.2 b o ho), h.own, fun p hp => (by
    cases hs : σ p.1 with
    | none => rfl
    | some x =>
      have h1 := h.apart p hp
      rw [hl.2 _ _ hs] at h1
      cases h1), h.nodup⟩

section
variable {P : Program} {r : Option Nat} {Q : Exit → Act → World → Prop} {n : Nat} {d : List Deferred} {m : Slots} {σ : View} {H : HList} {σ0 : View} {H0 : HList} {N : Nat} {ops : Array Oper} {listed : Array Bool} {fuel : Nat}

theorem WC.draw {id : Nat} {ops : Array Oper} (N k : Nat) (H0 : HList) (hm : P.follows .mixedOrders = true) (hp : plainOps ops = true) (hk : ops.size = k)
    (h : SA P ops Q σ H0 N k (Array.replicate k false) n d m σ H) : WC P r Q (.region id ops true) n d m σ H := fun a w hf hs => by
  subst hk
  refine wpIn_region_any hm (wpAnyIn_of_AnyC hp (fun _ _ h => h) _ _ _ _ (h a _ hf (hs.same rfl)))

theorem WC.drawH {id : Nat} {ops : Array Oper} (N k : Nat) (hm : P.follows .mixedOrders = true) (hp : plainOps ops = true) (hk : ops.size = k)
    (h : SA P ops Q σ H N k (Array.replicate k false) n d m σ H) : WC P r Q (.region id ops true) n d m σ H := WC.draw N k H hm hp hk h

/-- the closed facts on a take: no defer in the region; it may come up; all that has not come up waits for it or is apart; what comes in a later phase waits for it -/
def takeOk (ops : Array Oper) (listed : Array Bool) (N i : Nat) : Bool :=
  plainOps ops && (Region.ready .any ops listed).contains i && Region.free .any ops listed i && phaseOk ops N i

def Wanted (ops : Array Oper) (o : Oper) (n : Nat) (d : List Deferred) (m : Slots) : Prop := ∀ a, Fr n d a m → Region.wanted o (yielded ops a.tmps) = true
theorem Wanted.plain {o : Oper} (hg : o.guard = none) : Wanted ops o n d m := fun _ _ => wanted_none hg
theorem Wanted.guard {o : Oper} {j : Nat} {want b : Bool} {u : Tmp} (hg : o.guard = some (j, want)) (hj : (ops[j]?).bind (·.dst) = some u) (hu : get m u = some (.bool b)) (hb : (b == want) = true) : Wanted ops o n d m :=
  fun _ hf => by rw [wanted_guard hg hj hf hu]; exact hb

/-- an operation that only tells a value, in whatever world of the class, may be taken first -/
theorem SA.take (i : Nat) {o : Oper} {t : Tmp} {v : Value} (hok : takeOk ops listed N i = true) (hi : ops[i]? = some o) (hd : o.dst = some t) (ht : Nat.blt t n = true) (hw : Wanted ops o n d m)
    (hH : H0.Sublist H) (hle : σ0.le σ) (hpur : Pur P m o σ0 H0 v)
    (h : SA P ops Q σ0 H0 N fuel (listed.setIfInBounds i true) n d ((t, v) :: m) σ H) : SA P ops Q σ0 H0 N (fuel + 1) listed n d m σ H := fun a w hf hs => by
  simp only [takeOk, Bool.and_eq_true] at hok
  obtain ⟨⟨⟨hp, hr⟩, hfree⟩, hph⟩ := hok
  exact AnyC.first hp hi (phaseOk_spec hph) fuel listed a w (fun j oj hj hne hun hno => Region.free_spec hi hfree j oj hj hne hun hno) (by simpa using hr)
    (.inl ⟨hw a hf, fun w hw => hpur _ w hf.agree hw⟩) ((hs.weak hH).le hle) (by rw [hd]; exact h _ w (hf.put v ht) hs)

def takeOkW (ops : Array Oper) (listed : Array Bool) (i : Nat) : Bool :=
  plainOps ops && (Region.ready .any ops listed).contains i && Region.free .any ops listed i
/-- .. in whatever world at all -/
theorem SA.takeW (i : Nat) {o : Oper} {t : Tmp} {v : Value} (hok : takeOkW ops listed i = true) (hi : ops[i]? = some o) (hd : o.dst = some t) (ht : Nat.blt t n = true) (hw : Wanted ops o n d m)
    (hpur : ∀ ρ w, Agree ρ m → (execOp ρ o).run P w = .ok (.value v) w)
    (h : SA P ops Q σ0 H0 N fuel (listed.setIfInBounds i true) n d ((t, v) :: m) σ H) : SA P ops Q σ0 H0 N (fuel + 1) listed n d m σ H := fun a w hf hs => by
  simp only [takeOkW, Bool.and_eq_true] at hok
  obtain ⟨⟨hp, hr⟩, hfree⟩ := hok
  exact AnyC.firstW hp hi fuel listed a w (fun j oj hj hne hun hno => Region.free_spec hi hfree j oj hj hne hun hno) (by simpa using hr)
    (.inl ⟨hw a hf, fun w _ => hpur _ w hf.agree⟩) (by rw [hd]; exact h _ w (hf.put v ht) hs)
theorem tells_move {x : Operand} {v : Value} {dst : Option Tmp} {ty : TypeId} {pos : String} {af : Array Edge} {g : Option (Nat × Bool)} (hx : opv m x = some v) : ∀ ρ w, Agree ρ m → (execOp ρ ⟨dst, .move x, ty, pos, af, g⟩).run P w = .ok (.value v) w := fun ρ w ha => by
  simp [execOp, ha x _ hx]

/-- one that its guard passes over -/
theorem SA.gskip (i : Nat) {o : Oper} {t u : Tmp} {j : Nat} {b want : Bool} (hok : takeOk ops listed N i = true) (hi : ops[i]? = some o) (hd : o.dst = some t) (ht : Nat.blt t n = true) (hg : o.guard = some (j, want))
    (hj : (ops[j]?).bind (·.dst) = some u) (hu : get m u = some (.bool b)) (hb : (b == want) = false) (hH : H0.Sublist H) (hle : σ0.le σ)
    (h : SA P ops Q σ0 H0 N fuel (listed.setIfInBounds i true) n d ((t, undef) :: m) σ H) : SA P ops Q σ0 H0 N (fuel + 1) listed n d m σ H := fun a w hf hs => by
  simp only [takeOk, Bool.and_eq_true] at hok
  obtain ⟨⟨⟨hp, hr⟩, hfree⟩, hph⟩ := hok
  exact AnyC.first hp hi (phaseOk_spec hph) fuel listed a w (fun j oj hj hne hun hno => Region.free_spec hi hfree j oj hj hne hun hno) (by simpa using hr)
    (.inr ⟨by rw [wanted_guard hg hj hf hu]; exact hb, rfl⟩) ((hs.weak hH).le hle) (by rw [hd]; exact h _ w (hf.put undef ht) hs)

/-- a Bool of a slot is parted -/
theorem SA.part {u : Tmp} {p : Prop} {_ip : Decidable p} (hu : get m u = some (.bool (decide p)))
    (ht : p → SA P ops Q σ0 H0 N fuel listed n d ((u, .bool true) :: m) σ H) (hf : ¬ p → SA P ops Q σ0 H0 N fuel listed n d ((u, .bool false) :: m) σ H) : SA P ops Q σ0 H0 N fuel listed n d m σ H := fun a w h hs => by
  have cov : ∀ b, get m u = some b → Covers m ((u, b) :: m) := fun b hb => Covers.cons hb (Covers.refl _)
  by_cases hp : p
  · refine ht hp a w (h.weak (cov _ ?_)) hs; rw [hu]; simp [hp]
  · refine hf hp a w (h.weak (cov _ ?_)) hs; rw [hu]; simp [hp]

/-- the one operation that may come up runs -/
theorem SA.run (i : Nat) {o : Oper} {v : Value} {σ' : View} {H' : HList} (hi : ops[i]? = some o) (hdt : ∀ t, o.dst = some t → Nat.blt t n = true) (hw : Wanted ops o n d m)
    (hr : Region.ready .any ops listed = [i]) (hrun : Run P m o σ H v σ' H') (hk : N ≤ i ∨ (H0.Sublist H' ∧ σ0.le σ'))
    (h : SA P ops Q σ0 H0 N fuel (listed.setIfInBounds i true) n d (match o.dst with | some t => (t, v) :: m | none => m) σ' H') : SA P ops Q σ0 H0 N (fuel + 1) listed n d m σ H := fun a w hf hs => by
  refine ⟨fun h0 => (by rw [hr] at h0; cases h0), fun j hj => ?_⟩
  rw [hr] at hj; simp at hj; subst hj
  unfold sOp
  simp only [hi, hw a hf, if_true]
  obtain ⟨w', hrr, hs'⟩ := hrun a.eval w hf.agree hs
  have hC : N ≤ j ∨ (St σ0 H0 w → St σ0 H0 w') := hk.imp id fun ⟨h1, h2⟩ _ => (hs'.weak h1).le h2
  have hn : AnyC P ops (Q .normal) (St σ0 H0) N fuel (listed.setIfInBounds j true) (a.put o.dst v) w' := by
    cases hdd : o.dst with
    | none => rw [hdd] at h; exact h _ w' (hf.putNone v) hs'
    | some t => rw [hdd] at h; exact h _ w' (hf.put v (hdt t hdd)) hs'
  rcases hrr with hrr | ⟨hrr, hv⟩
  · rw [hrr]; exact ⟨hC, hn⟩
  · rw [hrr]; subst hv; exact ⟨hC, hn⟩

theorem SA.call (i : Nat) {o : Oper} {f : FuncId} {vs : Array Value} {H1 Hr : HList} {R : Value → View → HList → Prop} (hi : ops[i]? = some o) (hdt : ∀ t, o.dst = some t → Nat.blt t n = true) (hw : Wanted ops o n d m)
    (hr : Region.ready .any ops listed = [i])
    (hrun : ∀ ρ w, Agree ρ m → St σ H w → (execOp ρ o).run P w = .ok (.enter f vs) w)
    (hH : (H1 ++ Hr).Perm H) (hcall : Tri P f vs σ H1 R) (hk : N ≤ i ∨ (H0.Sublist Hr ∧ σ0.le σ))
    (h : ∀ v σ' H', R v σ' H' → σ.le σ' → SA P ops Q σ0 H0 N fuel (listed.setIfInBounds i true) n d (match o.dst with | some t => (t, v) :: m | none => m) σ' (H' ++ Hr)) : SA P ops Q σ0 H0 N (fuel + 1) listed n d m σ H := fun a w hf hs => by
  refine ⟨fun h0 => (by rw [hr] at h0; cases h0), fun j hj => ?_⟩
  rw [hr] at hj; simp at hj; subst hj
  unfold sOp
  simp only [hi, hw a hf, if_true, hrun a.eval w hf.agree hs, Upn]
  refine (hcall Hr w (hs.perm hH)).mono ?_
  rintro e w' ⟨v, σ', H', rfl, hR, hle, hs'⟩
  have h := h v σ' H' hR hle
  refine ⟨v, rfl, hk.imp id fun ⟨h1, h2⟩ _ => (hs'.weak (h1.trans (List.sublist_append_right _ _))).le (View.le_trans h2 hle), ?_⟩
  cases hdd : o.dst with
  | none => rw [hdd] at h; exact h _ w' (hf.putNone v) hs'
  | some t => rw [hdd] at h; exact h _ w' (hf.put v (hdt t hdd)) hs'

theorem SA.done (hr : Region.ready .any ops listed = []) (h : WQ Q .normal n d m σ H) : SA P ops Q σ0 H0 N fuel listed n d m σ H := fun a w hf hs => by
  cases fuel with
  | zero => exact ⟨hr, h a w hf hs⟩
  | succ f => exact ⟨fun _ => h a w hf hs, fun i hi => by rw [hr] at hi; cases hi⟩

end
end Go.Sl
namespace Go.Sl
open Go

/-! ### parts of what is owned -/
def Part (H h h' H' : HList) : Prop := ∃ H1 H2, H = H1 ++ (h ++ H2) ∧ H' = H1 ++ (h' ++ H2)
theorem Part.here {h h' R : HList} : Part (h ++ R) h h' (h' ++ R) := ⟨[], R, rfl, rfl⟩
theorem Part.one {b : Nat} {o o' : Obj} {R : HList} : Part ((b, o) :: R) [(b, o)] [(b, o')] ((b, o') :: R) := ⟨[], R, rfl, rfl⟩
theorem Part.cons {x : Nat × Obj} {H h h' H' : HList} (p : Part H h h' H') : Part (x :: H) h h' (x :: H') := by
  obtain ⟨H1, H2, rfl, rfl⟩ := p; exact ⟨x :: H1, H2, rfl, rfl⟩
theorem Part.app {g H h h' H' : HList} (p : Part H h h' H') : Part (g ++ H) h h' (g ++ H') := by
  obtain ⟨H1, H2, rfl, rfl⟩ := p; exact ⟨g ++ H1, H2, by simp, by simp⟩

theorem St.part {σ : View} {H H' : HList} {b : Nat} {o o' : Obj} {w w' : World} (h : St σ H w) (p : Part H [(b, o)] [(b, o')] H')
    (hs : w'.heap[b]? = some o') (hk : ∀ c, c ≠ b → w'.heap[c]? = w.heap[c]?) (he : Env w w') : St σ H' w' := by
  obtain ⟨H1, H2, rfl, rfl⟩ := p
  exact St.upd h hs hk he
theorem Part.mem {H H' : HList} {b : Nat} {o o' : Obj} (p : Part H [(b, o)] [(b, o')] H') : (b, o) ∈ H := by
  obtain ⟨H1, H2, rfl, rfl⟩ := p; simp

/-! ### an operation of any make -/
def Any (P : Program) (m : Slots) (o : Oper) (σ : View) (H : HList) (J : Value → View → HList → Prop) : Prop :=
  ∀ ρ w, Agree ρ m → St σ H w → ∃ v σ' H' w', (execOp ρ o).run P w = .ok (.value v) w' ∧ J v σ' H' ∧ σ.le σ' ∧ St σ' H' w'
def New (P : Program) (m : Slots) (o : Oper) (σ : View) (H : HList) (mk : Nat → Value) (obj : Obj) : Prop :=
  ∀ ρ w, Agree ρ m → St σ H w → ∃ w', (execOp ρ o).run P w = .ok (.value (mk w.heap.size)) w' ∧ w'.heap = w.heap.push obj ∧ Env w w'

section
variable {P : Program} {r : Option Nat} {ops : Array Oper} {Q : Exit → Act → World → Prop} {n : Nat} {d : List Deferred} {m : Slots} {σ : View} {H : HList}
  {σ0 : View} {H0 : HList} {N : Nat} {listed : Array Bool} {fuel : Nat}

theorem New.any {o : Oper} {mk : Nat → Value} {obj : Obj} (h : New P m o σ H mk obj) : Any P m o σ H (fun v σ' H' => ∃ b, v = mk b ∧ σ' = σ ∧ H' = (b, obj) :: H) := fun ρ w ha hs => by
  obtain ⟨w', hr, hh, he⟩ := h ρ w ha hs
  exact ⟨_, σ, _, w', hr, ⟨_, rfl, rfl, rfl⟩, σ.le_refl, hs.new hh he⟩

theorem wl_any {o : Oper} {rest : List Oper} {J : Value → View → HList → Prop} {t : Tmp} (hd : o.dst = some t) (ht : Nat.blt t n = true) (hnd : Op.noDefer o.op = true)
    (hw : ∀ a, Fr n d a m → Region.wanted o (yielded ops a.tmps) = true) (hrun : Any P m o σ H J)
    (h : ∀ v σ' H', J v σ' H' → σ.le σ' → WL P r ops Q rest n d ((t, v) :: m) σ' H') : WL P r ops Q (o :: rest) n d m σ H := fun a w hf hs => by
  simp only [wpListIn, hw a hf, if_true]
  refine ⟨fun _ _ => trivial, ?_⟩
  show Oper.uponIn _ _ _ _ _ _ _ ((o.semAt r a.eval).run P w)
  rw [semAt_noDefer hnd]
  obtain ⟨v, σ', H', w', hr, hJ, hle, hs'⟩ := hrun a.eval w hf.agree hs
  rw [hr]
  show wpListIn (wide r) 0 P ops Q rest (a.put o.dst v) w'
  rw [hd]; exact h v σ' H' hJ hle _ w' (hf.put v ht) hs'

theorem WL.any {t : Tmp} {op : Op} {ty : TypeId} {pos : String} {af : Array Edge} {rest : List Oper} {J : Value → View → HList → Prop} (hrun : Any P m ⟨some t, op, ty, pos, af, none⟩ σ H J)
    (h : ∀ v σ' H', J v σ' H' → σ.le σ' → WL P r ops Q rest n d ((t, v) :: m) σ' H') (ht : Nat.blt t n = true := by rfl) (hnd : Op.noDefer op = true := by rfl) : WL P r ops Q (⟨some t, op, ty, pos, af, none⟩ :: rest) n d m σ H :=
  wl_any rfl ht hnd (fun _ _ => wanted_none rfl) hrun h
theorem WL.new {t : Tmp} {op : Op} {ty : TypeId} {pos : String} {af : Array Edge} {rest : List Oper} {mk : Nat → Value} {obj : Obj} (hrun : New P m ⟨some t, op, ty, pos, af, none⟩ σ H mk obj)
    (h : ∀ b, WL P r ops Q rest n d ((t, mk b) :: m) σ ((b, obj) :: H)) (ht : Nat.blt t n = true := by rfl) (hnd : Op.noDefer op = true := by rfl) : WL P r ops Q (⟨some t, op, ty, pos, af, none⟩ :: rest) n d m σ H :=
  WL.any hrun.any (fun v σ' H' ⟨b, hv, hσ, hH⟩ _ => by subst hv; subst hσ; subst hH; exact h b) ht hnd

/-- a guarded operation of any make, that runs -/
theorem WL.gany {t u : Tmp} {op : Op} {ty : TypeId} {pos : String} {af : Array Edge} {rest : List Oper} {j : Nat} {b want : Bool} {J : Value → View → HList → Prop}
    (hj : (ops[j]?).bind (·.dst) = some u) (hu : get m u = some (.bool b)) (hb : (b == want) = true)
    (hrun : Any P m ⟨some t, op, ty, pos, af, some (j, want)⟩ σ H J)
    (h : ∀ v σ' H', J v σ' H' → σ.le σ' → WL P r ops Q rest n d ((t, v) :: m) σ' H') (ht : Nat.blt t n = true := by rfl) (hnd : Op.noDefer op = true := by rfl) : WL P r ops Q (⟨some t, op, ty, pos, af, some (j, want)⟩ :: rest) n d m σ H :=
  wl_any rfl ht hnd (fun _ hf => by rw [wanted_guard rfl hj hf hu]; exact hb) hrun h

theorem SA.any (i : Nat) {o : Oper} {t : Tmp} {J : Value → View → HList → Prop} (hi : ops[i]? = some o) (hd : o.dst = some t) (ht : Nat.blt t n = true) (hw : Wanted ops o n d m)
    (hr : Region.ready .any ops listed = [i]) (hrun : Any P m o σ H J) (hk : ∀ v σ' H', J v σ' H' → N ≤ i ∨ (H0.Sublist H' ∧ σ0.le σ))
    (h : ∀ v σ' H', J v σ' H' → σ.le σ' → SA P ops Q σ0 H0 N fuel (listed.setIfInBounds i true) n d ((t, v) :: m) σ' H') : SA P ops Q σ0 H0 N (fuel + 1) listed n d m σ H := fun a w hf hs => by
  refine ⟨fun h0 => (by rw [hr] at h0; cases h0), fun j hj => ?_⟩
  rw [hr] at hj; simp at hj; subst hj
  unfold sOp
  simp only [hi, hw a hf, if_true]
  obtain ⟨v, σ', H', w', hrr, hJ, hle, hs'⟩ := hrun a.eval w hf.agree hs
  rw [hrr]
  refine ⟨(hk v σ' H' hJ).imp id fun ⟨h1, h2⟩ _ => (hs'.weak h1).le (View.le_trans h2 hle), ?_⟩
  rw [hd]; exact h v σ' H' hJ hle _ w' (hf.put v ht) hs'
theorem SA.new (i : Nat) {o : Oper} {t : Tmp} {mk : Nat → Value} {obj : Obj} (hi : ops[i]? = some o) (hd : o.dst = some t) (ht : Nat.blt t n = true) (hw : Wanted ops o n d m)
    (hr : Region.ready .any ops listed = [i]) (hrun : New P m o σ H mk obj) (hk : N ≤ i ∨ (H0.Sublist H ∧ σ0.le σ))
    (h : ∀ b, SA P ops Q σ0 H0 N fuel (listed.setIfInBounds i true) n d ((t, mk b) :: m) σ ((b, obj) :: H)) : SA P ops Q σ0 H0 N (fuel + 1) listed n d m σ H :=
  SA.any i hi hd ht hw hr hrun.any (fun v σ' H' ⟨b, _, _, hH⟩ => hk.imp id fun ⟨h1, h2⟩ => ⟨by subst hH; exact h1.cons _, h2⟩)
    (fun v σ' H' ⟨b, hv, hσ, hH⟩ _ => by subst hv; subst hσ; subst hH; exact h b)
end

/-! ### making memory -/
/-- a type's zero value, cell by cell -/
def zc (P : Program) (t : TypeId) : Option (List Value) := ((P.info? t).bind (·.zero)).map (·.cells.toList)
theorem zc_spec {P : Program} {t : TypeId} {l : List Value} (h : zc P t = some l) : ∃ i z, P.info? t = some i ∧ i.zero = some z ∧ z.cells.toList = l := by
  unfold zc at h
  cases hi : P.info? t with
  | none => rw [hi] at h; simp at h
  | some i =>
    rw [hi] at h
    cases hz : i.zero with
    | none => simp [hz] at h
    | some z => simp [hz] at h; exact ⟨i, z, rfl, hz, h⟩

theorem rowO_cells (T : TypeId) (c : Array Value) : rowO T c.toList = .cells c T (0, 0) := by simp [rowO]

section
variable {P : Program} {m : Slots} {σ : View} {H : HList} {dst : Option Tmp} {ty : TypeId} {pos : String} {af : Array Edge} {g : Option (Nat × Bool)}

theorem New.alloc {e : TypeId} {l : List Value} (hz : zc P e = some l) : New P m ⟨dst, .alloc e, ty, pos, af, g⟩ σ H (fun b => .pointer (some ⟨b, 0, none⟩)) (rowO e l) := fun ρ w _ _ => by
  obtain ⟨i, z, hi, hzz, rfl⟩ := zc_spec hz
  refine ⟨{ w with heap := w.heap.push (.cells z.cells e) }, ?_, by rw [rowO_cells], rfl, rfl, rfl, Nat.le_refl _⟩
  simp [execOp, Instr.alloc, zeroValue, typeInfo, hi, hzz, newVar, newRow]
theorem New.box1 {e : TypeId} {x : Operand} {v : Value} (hx : opv m x = some v) (hv : v.oneCell' = true) : New P m ⟨dst, .box e x, ty, pos, af, g⟩ σ H (fun b => .pointer (some ⟨b, 0, none⟩)) (rowO e [v]) := fun ρ w ha _ => by
  refine ⟨{ w with heap := w.heap.push (rowO e [v]) }, ?_, rfl, rfl, rfl, rfl, Nat.le_refl _⟩
  have hc : v.cells = #[v] := by cases v <;> simp_all [Value.oneCell', Value.cells]
  simp [execOp, Instr.box, ha x v hx, newVar, newRow, rowO, hc]
theorem New.boxN {e : TypeId} {x : Operand} {vs : List Value} (hx : opv m x = some (.agg vs.toArray)) : New P m ⟨dst, .box e x, ty, pos, af, g⟩ σ H (fun b => .pointer (some ⟨b, 0, none⟩)) (rowO e vs) := fun ρ w ha _ => by
  refine ⟨{ w with heap := w.heap.push (rowO e vs) }, ?_, rfl, rfl, rfl, rfl, Nat.le_refl _⟩
  simp [execOp, Instr.box, ha x _ hx, newVar, newRow, rowO, Value.cells]
theorem New.makeMap {t : TypeId} : New P m ⟨dst, .makeMap t none, ty, pos, af, g⟩ σ H (fun b => .map (some b)) (.map #[] 0) := fun ρ w _ _ => by
  refine ⟨{ w with heap := w.heap.push (.map #[] 0) }, ?_, rfl, rfl, rfl, rfl, Nat.le_refl _⟩
  simp [execOp, Instr.makeMap]

/-! a slice's literal -/
theorem slE_size {t e k : Nat} (h : slE P t = some (e, k)) (w : World) : (sizeOf e).run P w = .ok k w := by
  obtain ⟨_, i, hi, rfl⟩ := slE_spec h
  simp [sizeOf, typeInfo, hi]
theorem slE_under {t e k : Nat} (h : slE P t = some (e, k)) (w : World) : (underlying t).run P w = .ok (.slice e) w := by
  obtain ⟨hu, _⟩ := slE_spec h
  simp [underlying, hu]

theorem New.buildSlice0 {t e k : Nat} (ht : slE P t = some (e, k)) : New P m ⟨dst, .buildSlice t 0 #[], ty, pos, af, g⟩ σ H (fun b => .slice (some ⟨b, 0, none⟩) 0 0) (rowO e []) := fun ρ w _ _ => by
  refine ⟨{ w with heap := w.heap.push (rowO e []) }, ?_, rfl, rfl, rfl, rfl, Nat.le_refl _⟩
  simp [execOp, Instr.buildSlice, slE_under ht, slE_size ht, Instr.fill, newRow, rowO, Array.range_zero']

theorem Value.cells_one {v : Value} (hv : v.oneCell' = true) : v.cells = #[v] := by cases v <;> simp_all [Value.oneCell', Value.cells]

theorem foldl_set (off : Nat) : ∀ (l : List Value) (j : Nat) (c : Array Value), off + j + l.length ≤ c.size →
    (l.zipIdx j).foldl (fun cs (p : Value × Nat) => cs.setIfInBounds (off + p.2) p.1) c = (c.toList.take (off + j) ++ l ++ c.toList.drop (off + j + l.length)).toArray := by
  intro l
  induction l with
  | nil => intro j c _; simp
  | cons v l ih =>
    intro j c h
    simp only [List.length_cons] at h
    simp only [List.zipIdx_cons, List.foldl_cons]
    rw [ih (j + 1) _ (by simp; omega)]
    congr 1
    simp only [Array.toList_setIfInBounds]
    apply List.ext_getElem?
    intro k
    rcases Nat.lt_trichotomy k (off + j) with hk | hk | hk
    · rw [List.append_assoc, List.append_assoc, List.getElem?_append_left (by simp; omega), List.getElem?_append_left (by simp; omega), List.getElem?_take_of_lt (by omega), List.getElem?_take_of_lt hk, List.getElem?_set_ne (by omega)]
    · subst hk
      rw [List.append_assoc, List.append_assoc, List.getElem?_append_left (by simp; omega), List.getElem?_append_right (by simp; omega), List.getElem?_take_of_lt (by omega), List.getElem?_set_self (by simp; omega)]
      simp; rw [show off + j - min (off + j) c.size = 0 by omega]; rfl
    · obtain ⟨q, rfl⟩ : ∃ q, k = off + j + (q + 1) := ⟨k - (off + j) - 1, by omega⟩
      have hm1 : min (off + (j + 1)) c.size = off + j + 1 := by omega
      have hm2 : min (off + j) c.size = off + j := by omega
      rw [List.append_assoc, List.append_assoc, List.getElem?_append_right (by simp; omega)]
      rw [List.getElem?_append_right (l₁ := List.take (off + j) c.toList) (by simp; omega)]
      simp only [List.length_take, List.length_set, Array.length_toList, hm1, hm2]
      rw [show off + j + (q + 1) - (off + j + 1) = q by omega, show off + j + (q + 1) - (off + j) = q + 1 by omega, List.cons_append, List.getElem?_cons_succ]
      rcases Nat.lt_or_ge q l.length with h1 | h1
      · rw [List.getElem?_append_left h1, List.getElem?_append_left h1]
      · rw [List.getElem?_append_right h1, List.getElem?_append_right h1, List.getElem?_drop, List.getElem?_drop, List.getElem?_set_ne (by omega)]
        congr 1; simp only [List.length_cons]; omega

theorem fill_all (sz : Nat) : ∀ (vs : List Value) (i : Nat) (c : Array Value), (∀ v ∈ vs, v.cells.size = sz) → c.size = (i + vs.length) * sz →
    Instr.fill (fun i => some (i * sz, sz)) c ((vs.zipIdx i).map fun p => (p.2, p.1)) = some (c.toList.take (i * sz) ++ vs.flatMap (·.cells.toList)).toArray := by
  intro vs
  induction vs with
  | nil =>
    intro i c _ hc
    simp only [List.zipIdx_nil, List.map_nil, Instr.fill, List.flatMap_nil, List.append_nil]
    congr 1
    apply Array.ext'
    rw [List.take_of_length_le (by simp at hc ⊢; omega)]
  | cons v vs ih =>
    intro i c h1 hc
    have hv := h1 v (by simp)
    simp only [List.length_cons] at hc
    have hmul : (i + (vs.length + 1)) * sz = i * sz + sz + vs.length * sz := by rw [Nat.add_mul, Nat.add_mul]; omega
    have hle : i * sz + sz ≤ c.size := by omega
    simp only [List.zipIdx_cons, List.map_cons, Instr.fill]
    rw [if_neg (by simp [hv]; omega)]
    have hfold : (Array.foldl (fun (cs : Array Value) (x : Value × Nat) => cs.setIfInBounds (i * sz + x.2) x.1) c v.cells.zipIdx) = (c.toList.take (i * sz) ++ v.cells.toList ++ c.toList.drop (i * sz + sz)).toArray := by
      rw [← Array.foldl_toList]
      have hf := foldl_set (i * sz) v.cells.toList 0 c (by simp [hv]; omega)
      simp only [Nat.add_zero, Array.length_toList, hv] at hf
      rw [Array.toList_zipIdx]
      exact hf
    have e : (fun (cs : Array Value) (x : Value × Nat) => match x with | (c, j) => cs.setIfInBounds (i * sz + j) c) = (fun (cs : Array Value) (x : Value × Nat) => cs.setIfInBounds (i * sz + x.2) x.1) := by funext cs x; rfl
    rw [e, hfold, ih (i + 1) _ (fun u hu => h1 u (by simp [hu])) (by simp [hv]; rw [show (i + 1 + vs.length) * sz = i * sz + sz + vs.length * sz by rw [Nat.add_mul, Nat.add_mul]; omega]; omega)]
    congr 1
    apply Array.ext'
    simp only [List.flatMap_cons]
    rw [List.take_append_of_le_length (by simp [hv]; rw [Nat.add_mul]; omega), List.take_of_length_le (by simp [hv]; rw [Nat.add_mul]; omega), List.append_assoc]

/-- the values of some operands -/
def evs (m : Slots) : List Operand → Option (List Value)
  | [] => some []
  | x :: l => match opv m x, evs m l with
    | some v, some vs => some (v :: vs)
    | _, _ => none
theorem evs_spec {ρ : Operand → Value} (ha : Agree ρ m) : ∀ (l : List Operand) (vs : List Value), evs m l = some vs → l.map ρ = vs
  | [], vs, h => by simp [evs] at h; subst h; rfl
  | x :: l, vs, h => by
    simp only [evs] at h
    split at h
    · rename_i v us hv hu
      simp at h; subst h
      simp [ha x v hv, evs_spec ha l us hu]
    · cases h

theorem makeZeros_size (z : Array Value) (n : Nat) : ((Array.range n).map (z[· % z.size]!)).size = n := by simp

theorem run_buildSlice {t e sz : Nat} {vs : List Value} {len : Nat} (ht : slE P t = some (e, sz)) {z : List Value} (hz : zc P e = some z) (hl : vs.length = len) (h1 : ∀ v ∈ vs, v.cells.size = sz) (hlen : len * sz ≤ 16777216) (w : World) :
    (Instr.buildSlice t len ((vs.zipIdx 0).map fun p => (p.2, p.1)).toArray).run P w = .ok (.slice (some ⟨w.heap.size, 0, none⟩) len len) { w with heap := w.heap.push (rowO e (vs.flatMap (·.cells.toList))) } := by
  obtain ⟨i, zz, hi, hzz, rfl⟩ := zc_spec hz
  have hf : ∀ (c : Array Value), c.size = len * sz → Instr.fill (fun i => some (i * sz, sz)) c ((vs.zipIdx 0).map fun p => (p.2, p.1)) = some (vs.flatMap (·.cells.toList)).toArray := fun c hc => by
    have := fill_all sz vs 0 c h1 (by simp [hl, hc])
    simpa using this
  have hno : ¬ (16777216 < len * sz) := by omega
  by_cases h0 : len * sz = 0
  · simp [Instr.buildSlice, slE_under ht, slE_size ht, h0, newRow, rowO]
    rw [hf _ (by simp [h0])]
    simp
  · simp [Instr.buildSlice, slE_under ht, slE_size ht, h0, hno, zeroValue, typeInfo, hi, hzz, newRow, rowO]
    rw [hf _ (by simp)]
    simp

/-- all elements given, each of one cell -/
theorem New.buildSliceS {t e : Nat} {xs : List Operand} {parts : List (Nat × Operand)} {len : Nat} {vs z : List Value} (ht : slE P t = some (e, 1)) (hz : zc P e = some z) (hp : parts = (xs.zipIdx.map fun p => (p.2, p.1))) (hl : xs.length = len) (hx : evs m xs = some vs) (h1 : vs.all (·.oneCell') = true) (hlen : decide (len ≤ 16777216) = true) :
    New P m ⟨dst, .buildSlice t len parts.toArray, ty, pos, af, g⟩ σ H (fun b => .slice (some ⟨b, 0, none⟩) len len) (rowO e vs) := fun ρ w ha _ => by
  have hvs := evs_spec ha xs vs hx
  have hlv : vs.length = len := by rw [← hvs]; simpa using hl
  refine ⟨{ w with heap := w.heap.push (rowO e vs) }, ?_, rfl, rfl, rfl, rfl, Nat.le_refl _⟩
  have h1' : ∀ v ∈ vs, v.oneCell' = true := by simpa using h1
  have hpm : (parts.toArray.map fun (i, x) => (i, ρ x)) = ((vs.zipIdx 0).map fun p => (p.2, p.1)).toArray := by
    subst hp; rw [← hvs]; simp [List.zipIdx_map, Function.comp_def]
  have hr := run_buildSlice (P := P) ht hz hlv (fun v hv => by rw [Value.cells_one (h1' v hv)]; rfl) (by simp at hlen; omega) w
  have hfl : ∀ l : List Value, (∀ v ∈ l, v.oneCell' = true) → l.flatMap (·.cells.toList) = l := by
    intro l
    induction l with
    | nil => intro _; rfl
    | cons v l ih => intro h; rw [List.flatMap_cons, ih (fun u hu => h u (by simp [hu])), Value.cells_one (h v (by simp))]; rfl
  rw [hfl vs h1'] at hr
  show ((do pure (.value (← Instr.buildSlice t len (parts.toArray.map fun (i, x) => (i, ρ x)))) : Sem Next)).run P w = _
  rw [hpm]
  simp [hr]
/-- all elements given, each an aggregate -/
theorem New.buildSliceN {t e sz : Nat} {xs : List Operand} {parts : List (Nat × Operand)} {len : Nat} {vss : List (List Value)} {z : List Value} (ht : slE P t = some (e, sz)) (hz : zc P e = some z) (hp : parts = (xs.zipIdx.map fun p => (p.2, p.1))) (hl : xs.length = len) (hx : evs m xs = some (vss.map fun vs => .agg vs.toArray)) (h1 : vss.all (·.length == sz) = true) (hlen : decide (len * sz ≤ 16777216) = true) :
    New P m ⟨dst, .buildSlice t len parts.toArray, ty, pos, af, g⟩ σ H (fun b => .slice (some ⟨b, 0, none⟩) len len) (rowO e vss.flatten) := fun ρ w ha _ => by
  have hvs := evs_spec ha xs _ hx
  have hlv : (vss.map fun vs => Value.agg vs.toArray).length = len := by rw [← hvs]; simpa using hl
  refine ⟨{ w with heap := w.heap.push (rowO e vss.flatten) }, ?_, rfl, rfl, rfl, rfl, Nat.le_refl _⟩
  have h1' : ∀ vs ∈ vss, vs.length = sz := by simpa using h1
  have hpm : (parts.toArray.map fun (i, x) => (i, ρ x)) = (((vss.map fun vs => Value.agg vs.toArray).zipIdx 0).map fun p => (p.2, p.1)).toArray := by
    subst hp; rw [← hvs]; simp [List.zipIdx_map, Function.comp_def]
  have hr := run_buildSlice (P := P) ht hz hlv (fun v hv => by
    obtain ⟨vs, hm, rfl⟩ := List.mem_map.1 hv
    simp [Value.cells, h1' vs hm]) (by simpa using hlen) w
  have hfl : (vss.map fun vs => Value.agg vs.toArray).flatMap (·.cells.toList) = vss.flatten := by
    rw [List.flatMap_map]; simp [Value.cells]
  rw [hfl] at hr
  show ((do pure (.value (← Instr.buildSlice t len (parts.toArray.map fun (i, x) => (i, ρ x)))) : Sem Next)).run P w = _
  rw [hpm]
  simp [hr]

end
end Go.Sl
namespace Go.Sl
open Go

section
variable {P : Program} {m : Slots} {σ : View} {H : HList} {dst : Option Tmp} {ty : TypeId} {pos : String} {af : Array Edge} {g : Option (Nat × Bool)}

/-! ### stores -/
/-- a list with others laid over it -/
def lput (l : List Value) (off : Nat) (vs : List Value) : List Value := l.take off ++ vs ++ l.drop (off + vs.length)

theorem setRow_st {H' : HList} {b : Nat} {T : TypeId} {l l' : List Value} {w : World} (hs : St σ H w) (p : Part H [(b, rowO T l)] [(b, rowO T l')] H') : St σ H' (w.setRow b l'.toArray) := by
  have hb := hs.own _ p.mem
  have hlt : b < w.heap.size := (Array.getElem?_eq_some_iff.1 hb).1
  refine hs.part p ?_ (fun c hc => ?_) ⟨rfl, rfl, rfl, by first | exact Nat.le_refl _ | exact Nat.le_succ _⟩
  · have h1 : w.heap[b] = rowO T l := (Array.getElem?_eq_some_iff.1 hb).2
    show (w.heap.modify b _)[b]? = _
    rw [Array.getElem?_eq_getElem (by rw [Array.size_modify]; exact hlt), Array.getElem_modify_self, h1]
    rfl
  · show (w.heap.modify b _)[c]? = _
    rw [Array.getElem?_modify, if_neg (Ne.symm hc)]

/-- a store of one cell -/
theorem Run.store1 {t : TypeId} {x y : Operand} {b off : Nat} {v : Value} {T : TypeId} {l : List Value} {H' : HList} (hx : opv m x = some (.pointer (some ⟨b, off, none⟩))) (hy : opv m y = some v)
    (_ht : tyc P t = some none) (h1 : v.oneCell' = true) (p : Part H [(b, rowO T l)] [(b, rowO T (l.set off v))] H') (hlt : off < l.length) (hsz : (P.info? t).map (·.size) = some 1) :
    Run P m ⟨dst, .store t x y, ty, pos, af, g⟩ σ H undef σ H' := fun ρ w ha hs => by
  have hb := hs.own _ p.mem
  have hst := run_storeCells_at P b off T [v] 0 l.toArray w hb (by simp; omega) (by simp [h1])
  have e : lput l off [v] = l.set off v := by
    unfold lput; rw [List.set_eq_take_append_cons_drop, if_pos hlt]; simp
  refine ⟨_, .inr ⟨?_, rfl⟩, setRow_st hs p⟩
  rw [← e]
  simp only [Nat.add_zero] at hst
  cases hi : P.info? t with
  | none => simp [hi] at hsz
  | some i =>
    simp [hi] at hsz
    simp [execOp, Instr.storeAt, Instr.sureAddr, ha x _ hx, ha y _ hy, storeVar, Value.cells_one h1, sizeOf, typeInfo, hi, hsz, lput]
    have hst' : (storeCells ⟨b, off, none⟩ [v]).run P w = .ok () (w.setRow b (List.take off l ++ v :: List.drop (off + 1) l).toArray) := by simpa using hst
    rw [hst']; rfl

theorem Run.storeN {t : TypeId} {x y : Operand} {b off k : Nat} {vs : List Value} {T : TypeId} {l : List Value} {H' : HList} (hx : opv m x = some (.pointer (some ⟨b, off, none⟩))) (hy : opv m y = some (.agg vs.toArray))
    (ht : tyc P t = some (some k)) (hk : vs.length = k) (h1 : vs.all (·.oneCell') = true) (p : Part H [(b, rowO T l)] [(b, rowO T (lput l off vs))] H') (hlt : off + vs.length ≤ l.length) :
    Run P m ⟨dst, .store t x y, ty, pos, af, g⟩ σ H undef σ H' := fun ρ w ha hs => by
  have hb := hs.own _ p.mem
  have hst := run_storeCells_at P b off T vs 0 l.toArray w hb (by simp; omega) (by simpa using h1)
  refine ⟨_, .inr ⟨?_, rfl⟩, setRow_st hs p⟩
  simp only [Nat.add_zero] at hst
  simp [execOp, Instr.storeAt, Instr.sureAddr, ha x _ hx, ha y _ hy, storeVar, Value.cells, sizeOf_run ht, hk, lput]
  have hst' : (storeCells ⟨b, off, none⟩ vs).run P w = .ok () (w.setRow b (List.take off l ++ (vs ++ List.drop (off + k) l)).toArray) := by simpa [hk] using hst
  rw [hst']; rfl

/-- the whole of a variable -/
theorem Run.storeAll {t : TypeId} {x y : Operand} {b k : Nat} {vs : List Value} {T : TypeId} {l : List Value} {H' : HList} (hx : opv m x = some (.pointer (some ⟨b, 0, none⟩))) (hy : opv m y = some (.agg vs.toArray))
    (ht : tyc P t = some (some k)) (p : Part H [(b, rowO T l)] [(b, rowO T vs)] H') (hk : vs.length = k) (hl : l.length = k) (h1 : vs.all (·.oneCell') = true) :
    Run P m ⟨dst, .store t x y, ty, pos, af, g⟩ σ H undef σ H' := by
  have e : lput l 0 vs = vs := by unfold lput; simp; omega
  exact Run.storeN hx hy ht hk h1 (by rw [e]; exact p) (by omega)

/-! ### slices of the call's own -/
/-- the slice value sv, of k elements of sz cells, owns h; its cells are xs -/
def SlOwn (T : TypeId) (sz : Nat) (sv : Value) (k : Nat) (xs : List Value) (h : HList) : Prop :=
  xs.length = k * sz ∧ ((sv = .slice none 0 0 ∧ k = 0 ∧ h = []) ∨
    ∃ b cap junk, sv = .slice (some ⟨b, 0, none⟩) k cap ∧ h = [(b, rowO T (xs ++ junk))] ∧ junk.length = (cap - k) * sz ∧ k ≤ cap)

theorem SlOwn.nil (T sz : Nat) : SlOwn T sz (.slice none 0 0) 0 [] [] := ⟨by simp, .inl ⟨rfl, rfl, rfl⟩⟩
theorem SlOwn.row {T sz b k : Nat} {xs : List Value} (h : xs.length = k * sz) : SlOwn T sz (.slice (some ⟨b, 0, none⟩) k k) k xs [(b, rowO T xs)] :=
  ⟨h, .inr ⟨b, k, [], rfl, by simp, by simp, Nat.le_refl _⟩⟩

theorem makeSlice_run {t e sz : Nat} {z : List Value} (ht : slE P t = some (e, sz)) (hz : zc P e = some z) {bytes : Nat} (hb : (P.info? e).map (·.bytes) = some bytes) (kl kc : IntKind) (l c : Nat) (hlc : l ≤ c) (hbytes : bytes * c ≤ 281474976710656) (h63 : c ≤ 9223372036854775807) (w : World) :
    ∃ junk : List Value, junk.length = c * sz ∧ (sz = 1 → ∀ z0, z = [z0] → junk = List.replicate c z0) ∧
    (Instr.makeSlice t (.int kl (l : Int)) (.int kc (c : Int))).run P w = .ok (.slice (some ⟨w.heap.size, 0, none⟩) l c) { w with heap := w.heap.push (rowO e junk) } := by
  obtain ⟨i, zz, hi, hzz, rfl⟩ := zc_spec hz
  obtain ⟨hu, j, hj, rfl⟩ := slE_spec ht
  obtain rfl : i = j := by rw [hi] at hj; exact Option.some.inj hj
  simp [hi] at hb
  subst hb
  refine ⟨(madeCells zz.cells (c * i.size)).toList, by simp [size_madeCells], fun h1 z0 h0 => ?_, ?_⟩
  · apply List.ext_getElem?
    intro k
    have hc1 : zz.cells = #[z0] := by apply Array.ext'; simpa using h0
    simp [madeCells, hc1, h1, List.getElem?_replicate, Nat.mod_one]
    split <;> simp_all
  · have := run_make w t e i zz hu hi hzz kl kc (l : Int) (c : Int) (by omega) (by omega) (by rw [← Int.natCast_mul]; omega) (by omega)
    simp at this
    rw [this, rowO_cells]
    rfl

/-- make([]T, n): of one cell each -/
theorem Any.make1 {t e bytes : Nat} {z0 : Value} {x y : Operand} {kl kc : IntKind} {c : Nat} (ht : slE P t = some (e, 1)) (hz : zc P e = some [z0]) (hb : (P.info? e).map (·.bytes) = some bytes)
    (hx : opv m x = some (.int kl (c : Int))) (hy : opv m y = some (.int kc (c : Int))) (hbytes : bytes * c ≤ 281474976710656) (h63 : c ≤ 9223372036854775807) :
    Any P m ⟨dst, .makeSlice t x y, ty, pos, af, g⟩ σ H (fun v σ' H' => ∃ b, v = .slice (some ⟨b, 0, none⟩) c c ∧ σ' = σ ∧ H' = (b, rowO e (List.replicate c z0)) :: H) := fun ρ w ha hs => by
  obtain ⟨junk, _, hj, hr⟩ := makeSlice_run ht hz hb kl kc c c (Nat.le_refl _) hbytes h63 w
  obtain rfl := hj rfl z0 rfl
  exact ⟨_, σ, _, _, by simp [execOp, ha x _ hx, ha y _ hy, hr]; rfl, ⟨_, rfl, rfl, rfl⟩, σ.le_refl, hs.new rfl⟩
/-- make([]T, 0, n) -/
theorem Any.make0 {t e sz bytes : Nat} {z : List Value} {x y : Operand} {kl kc : IntKind} {c : Nat} (ht : slE P t = some (e, sz)) (hz : zc P e = some z) (hb : (P.info? e).map (·.bytes) = some bytes)
    (hx : opv m x = some (.int kl 0)) (hy : opv m y = some (.int kc (c : Int))) (hbytes : bytes * c ≤ 281474976710656) (h63 : c ≤ 9223372036854775807) :
    Any P m ⟨dst, .makeSlice t x y, ty, pos, af, g⟩ σ H (fun v σ' H' => ∃ h, SlOwn e sz v 0 [] h ∧ σ' = σ ∧ H' = h ++ H) := fun ρ w ha hs => by
  obtain ⟨junk, hl, _, hr⟩ := makeSlice_run ht hz hb kl kc 0 c (Nat.zero_le _) hbytes h63 w
  exact ⟨_, σ, _, _, by simp [execOp, ha x _ hx, ha y _ hy]; simp at hr; rw [hr]; rfl, ⟨[(w.heap.size, rowO e junk)], ⟨by simp, .inr ⟨_, c, junk, rfl, rfl, by simpa using hl, Nat.zero_le _⟩⟩, rfl, rfl⟩, σ.le_refl, hs.new rfl⟩

/-! ### append -/
theorem rd_cells {w : World} {b off : Nat} {vs : List Value} (hs : St σ H w) (h : Rd σ H b off vs) : ∀ j v, vs[j]? = some v → w.cell? ((⟨b, off, none⟩ : Addr).add j) = some v := fun j v hj => by
  rw [add_none]; exact h.cell hs j v hj

/-- what is appended: known or owned cells (behind a slice value), or nothing -/
def Src (σ : View) (H : HList) (x : Value) (n sz : Nat) (ys : List Value) : Prop :=
  ys.length = n * sz ∧ ∃ a c, x = .slice a n c ∧ (n = 0 ∨ ∃ b off, a = some ⟨b, off, none⟩ ∧ Rd σ H b off ys)


end
end Go.Sl
namespace Go.Sl
open Go

section
variable {P : Program} {m : Slots} {σ : View} {H : HList} {dst : Option Tmp} {ty : TypeId} {pos : String} {af : Array Edge} {g : Option (Nat × Bool)}

/-- what an append that grows leaves -/
theorem append_fin {e sz : Nat} {xs ys : List Value} {k n : Nat} {h H1 H2 : HList} {w w' : World} {zc : Array Value} (hxl : xs.length = k * sz) (hyl : ys.length = n * sz) (hzs : zc.size = sz)
    (hH : H = H1 ++ (h ++ H2)) (hs : St σ H w) (cap : Nat) (hw : w'.heap = w.heap.push (.cells (xs.toArray ++ ys.toArray ++ Builtin.zeroCells zc (cap - (k + n))) e)) (he : Env w w') (hle : k + n ≤ cap) :
    ∃ h', SlOwn e sz (.slice (some ⟨w.heap.size, 0, none⟩) (k + n) cap) (k + n) (xs ++ ys) h' ∧ St σ (H1 ++ (h' ++ H2)) w' := by
  have hrow : Obj.cells (xs.toArray ++ ys.toArray ++ Builtin.zeroCells zc (cap - (k + n))) e = rowO e ((xs ++ ys) ++ (Builtin.zeroCells zc (cap - (k + n))).toList) := by
    unfold rowO; congr 1; apply Array.ext'; simp
  refine ⟨[(w.heap.size, rowO e ((xs ++ ys) ++ (Builtin.zeroCells zc (cap - (k + n))).toList))], ⟨by simp [hxl, hyl, Nat.add_mul], .inr ⟨_, cap, _, rfl, rfl, ?_, hle⟩⟩, ?_⟩
  · simp [size_zeroCells, hzs]
  · rw [hrow] at hw
    have h2 := hs.new hw he
    subst hH
    refine (h2.weak (H0 := (w.heap.size, rowO e ((xs ++ ys) ++ (Builtin.zeroCells zc (cap - (k + n))).toList)) :: (H1 ++ H2)) ?_).perm ?_
    · exact List.Sublist.cons_cons _ (List.Sublist.append_left (List.sublist_append_right _ _) _)
    · simp only [List.singleton_append]
      exact List.perm_middle

theorem src_first {x : Value} {n sz : Nat} {ys : List Value} (hsrc : Src σ H x n sz ys) (w : World) (hs : St σ H w) : (Builtin.firstCells sz n x).run P w = .ok ys.toArray w := by
  obtain ⟨hyl, a, c, rfl, hsrc⟩ := hsrc
  rcases hsrc with rfl | ⟨b, off, rfl, hr⟩
  · have : ys = [] := List.length_eq_zero_iff.1 (by simpa using hyl)
    subst this
    cases a with
    | none => simp [Builtin.firstCells]
    | some a => simp [Builtin.firstCells, loadCells, loadCellsFrom]
  · exact run_firstCells_some w sz n ⟨b, off, none⟩ n c ys hyl (rd_cells hs hr)

theorem src_slice {x : Value} {n sz : Nat} {ys : List Value} (hsrc : Src σ H x n sz ys) : ∃ a c, x = .slice a n c := let ⟨_, a, c, h, _⟩ := hsrc; ⟨a, c, h⟩

/-- the append as it runs, to where memory is asked for -/
theorem append_run_grow {t e : Nat} {i : TypeInfo} {zz : Value} (hu : P.underlying t = some (.slice e)) (hi : P.info? e = some i) (hzz : i.zero = some zz)
    {a : Option Addr} {k cap n : Nat} {x : Value} {xs ys : List Value} {w : World} (hx : ∃ a c, x = .slice a n c) (hfo : (Builtin.firstCells i.size k (.slice a k cap)).run P w.drew = .ok xs.toArray w.drew) (hfr : (Builtin.firstCells i.size n x).run P w.drew = .ok ys.toArray w.drew)
    (hroom : ¬ k + n ≤ cap) (h63' : ¬ (9223372036854775807 < ((k : Int) + (n : Int)))) (hgc : ¬ (281474976710656 < Builtin.nextslicecap (k + n) cap * i.bytes)) (ty : TypeId) :
    (Builtin.append_ #[t, t] ty #[.slice a k cap, x]).run P w = .ok (.slice (some ⟨w.heap.size, 0, none⟩) (k + n) ((Question.appendCap (k + n) cap e).cut (w.tape w.drawn (.appendCap (k + n) cap e))))
      (w.drew.alloc (.cells (xs.toArray ++ ys.toArray ++ Builtin.zeroCells zz.cells (((Question.appendCap (k + n) cap e).cut (w.tape w.drawn (.appendCap (k + n) cap e))) - (k + n))) e)) := by
  obtain ⟨a', c', rfl⟩ := hx
  simp only [Builtin.append_]
  simp [run_underlying hu, sizeOf, typeInfo, zeroValue, hi, hzz, Builtin.lenOf, hroom, h63', hgc, Question.forced, hfr, hfo, newRow]
  congr 2
  apply Array.ext'
  simp

theorem append_grows {t e sz bytes : Nat} {z : List Value} (ht : slE P t = some (e, sz)) (hz : zc P e = some z) (hzl : z.length = sz) (hb : (P.info? e).map (·.bytes) = some bytes)
    {a : Option Addr} {cap : Nat} {x : Value} {k n : Nat} {xs ys : List Value} {h : HList} (hxl : xs.length = k * sz) (hold : ∀ w, St σ H w → (Builtin.firstCells sz k (.slice a k cap)).run P w = .ok xs.toArray w) (hsrc : Src σ H x n sz ys)
    {H1 H2 : HList} (hH : H = H1 ++ (h ++ H2)) (hfit : ∀ old, old < k + n → Builtin.nextslicecap (k + n) old * bytes ≤ 281474976710656) (h63 : k + n ≤ 9223372036854775807) (hroom : ¬ k + n ≤ cap) (w : World) (hs : St σ H w) (ty : TypeId) :
    ∃ sv' h' w', (Builtin.append_ #[t, t] ty #[.slice a k cap, x]).run P w = .ok sv' w' ∧ SlOwn e sz sv' (k + n) (xs ++ ys) h' ∧ St σ (H1 ++ (h' ++ H2)) w' := by
  obtain ⟨i, zz, hi, hzz, rfl⟩ := zc_spec hz
  obtain ⟨hu, j, hj, rfl⟩ := slE_spec ht
  obtain rfl : i = j := by rw [hi] at hj; exact Option.some.inj hj
  simp [hi] at hb
  subst hb
  have hgc : ¬ (281474976710656 < Builtin.nextslicecap (k + n) cap * i.bytes) := by
    have := hfit cap (by omega); omega
  have hd : St σ H w.drew := hs.same rfl
  have hr := append_run_grow hu hi hzz (src_slice hsrc) (hold _ hd) (src_first hsrc _ hd) hroom (by omega) hgc ty
  have hcapge : k + n ≤ (Question.appendCap (k + n) cap e).cut (w.tape w.drawn (.appendCap (k + n) cap e)) := by simp only [Question.cut]; omega
  obtain ⟨h', hso', hst'⟩ := append_fin (e := e) (w' := w.drew.alloc (.cells (xs.toArray ++ ys.toArray ++ Builtin.zeroCells zz.cells (((Question.appendCap (k + n) cap e).cut (w.tape w.drawn (.appendCap (k + n) cap e))) - (k + n))) e)) hxl hsrc.1 (by simpa using hzl) hH hs _ rfl ⟨rfl, rfl, rfl, by first | exact Nat.le_refl _ | exact Nat.le_succ _⟩ hcapge
  exact ⟨_, h', _, hr, hso', hst'⟩

theorem append_rooms {t e sz : Nat} {z : List Value} (ht : slE P t = some (e, sz)) (hz : zc P e = some z)
    {b cap : Nat} {junk : List Value} {x : Value} {k n : Nat} {xs ys : List Value} (hxl : xs.length = k * sz) (hjl : junk.length = (cap - k) * sz) (hkc : k ≤ cap) (hsrc : Src σ H x n sz ys) (h1 : ∀ v ∈ ys, v.oneCell' = true)
    {H1 H2 : HList} (hH : H = H1 ++ ([(b, rowO e (xs ++ junk))] ++ H2)) (hroom : k + n ≤ cap) (w : World) (hs : St σ H w) (ty : TypeId) :
    ∃ sv' h' w', (Builtin.append_ #[t, t] ty #[.slice (some ⟨b, 0, none⟩) k cap, x]).run P w = .ok sv' w' ∧ SlOwn e sz sv' (k + n) (xs ++ ys) h' ∧ St σ (H1 ++ (h' ++ H2)) w' := by
  obtain ⟨i, zz, hi, hzz, rfl⟩ := zc_spec hz
  obtain ⟨hu, j, hj, rfl⟩ := slE_spec ht
  obtain rfl : i = j := by rw [hi] at hj; exact Option.some.inj hj
  have hyl := hsrc.1
  have hb := hs.own (b, rowO e (xs ++ junk)) (by subst hH; simp)
  have hcs : (cap - k) * i.size = n * i.size + (cap - (k + n)) * i.size := by
    rw [← Nat.add_mul]; congr 1; omega
  have hst := run_storeCells_at P b (k * i.size) e ys 0 (xs ++ junk).toArray w hb (by simp [hxl, hyl, hjl]; omega) h1
  simp only [Nat.add_zero] at hst
  have hrow : (List.take (k * i.size) (xs ++ junk) ++ ys ++ List.drop (k * i.size + ys.length) (xs ++ junk)) = (xs ++ ys) ++ junk.drop (n * i.size) := by
    rw [List.take_left' hxl, List.drop_append, hxl]
    rw [show List.drop (k * i.size + ys.length) xs = [] from List.drop_of_length_le (by omega)]
    simp [hyl]
  rw [hrow] at hst
  have hfr := src_first (P := P) hsrc w hs
  obtain ⟨a', c', rfl⟩ := src_slice hsrc
  refine ⟨.slice (some ⟨b, 0, none⟩) (k + n) cap, [(b, rowO e ((xs ++ ys) ++ junk.drop (n * i.size)))], w.setRow b ((xs ++ ys) ++ junk.drop (n * i.size)).toArray, ?_, ⟨by simp [hxl, hyl, Nat.add_mul], .inr ⟨b, cap, _, rfl, rfl, by simp [hjl]; omega, hroom⟩⟩, ?_⟩
  · simp only [Builtin.append_]
    simp [run_underlying hu, sizeOf, typeInfo, hi, Builtin.lenOf, hroom, hfr, Addr.add_lit]
    have hst' : (storeCells ⟨b, k * i.size, none⟩ ys).run P w = .ok () (w.setRow b (xs ++ (ys ++ List.drop (n * i.size) junk)).toArray) := by rw [hst]; simp
    rw [hst']
    rfl
  · exact setRow_st (T := e) (l := xs ++ junk) (l' := (xs ++ ys) ++ junk.drop (n * i.size)) hs ⟨H1, H2, hH, rfl⟩

theorem append_run {t e sz bytes : Nat} {z : List Value} (ht : slE P t = some (e, sz)) (hz : zc P e = some z) (hzl : z.length = sz) (hb : (P.info? e).map (·.bytes) = some bytes)
    {sv x : Value} {k n : Nat} {xs ys : List Value} {h : HList} (hso : SlOwn e sz sv k xs h) (hsrc : Src σ H x n sz ys) (h1 : ys.all (·.oneCell') = true)
    {H1 H2 : HList} (hH : H = H1 ++ (h ++ H2)) (hfit : ∀ old, old < k + n → Builtin.nextslicecap (k + n) old * bytes ≤ 281474976710656) (h63 : k + n ≤ 9223372036854775807) (w : World) (hs : St σ H w) (ty : TypeId) :
    ∃ sv' h' w', (Builtin.append_ #[t, t] ty #[sv, x]).run P w = .ok sv' w' ∧ SlOwn e sz sv' (k + n) (xs ++ ys) h' ∧ St σ (H1 ++ (h' ++ H2)) w' := by
  have h1' : ∀ v ∈ ys, v.oneCell' = true := by simpa using h1
  obtain ⟨hxl, hso⟩ := hso
  rcases hso with ⟨rfl, rfl, rfl⟩ | ⟨b, cap, junk, rfl, rfl, hjl, hkc⟩
  · have hx0 : xs = [] := List.length_eq_zero_iff.1 (by simpa using hxl)
    subst hx0
    by_cases hn0 : n = 0
    · subst hn0
      have hy0 : ys = [] := List.length_eq_zero_iff.1 (by simpa using hsrc.1)
      subst hy0
      have hfr := src_first (P := P) hsrc w hs
      obtain ⟨a', c', rfl⟩ := src_slice hsrc
      obtain ⟨i, zz, hi, hzz, rfl⟩ := zc_spec hz
      obtain ⟨hu, j, hj, rfl⟩ := slE_spec ht
      obtain rfl : i = j := by rw [hi] at hj; exact Option.some.inj hj
      refine ⟨.slice none 0 0, [], w, ?_, SlOwn.nil _ _, by subst hH; exact hs⟩
      simp only [Builtin.append_]
      simp [run_underlying hu, sizeOf, typeInfo, hi, Builtin.lenOf, hfr]
    · exact append_grows ht hz hzl hb hxl (fun w _ => by simp [run_firstCells_none]) hsrc hH hfit h63 (by omega) w hs ty
  · by_cases hroom : k + n ≤ cap
    · exact append_rooms ht hz hxl hjl hkc hsrc h1' hH hroom w hs ty
    · refine append_grows ht hz hzl hb hxl (fun w hs => ?_) hsrc hH hfit h63 hroom w hs ty
      exact run_firstCells_some w sz k ⟨b, 0, none⟩ k cap xs hxl (rd_cells hs (Rd.own (T := e) (l := xs ++ junk) (by subst hH; simp) (fun j v hj => by rw [Nat.zero_add, List.getElem?_append_left (List.getElem?_eq_some_iff.1 hj).1]; exact hj)))

theorem Any.appendF {t e sz bytes : Nat} {z : List Value} {x y : Operand} {sv xv : Value} {k n : Nat} {xs ys : List Value} {h H1 H2 : HList} (ht : slE P t = some (e, sz)) (hz : zc P e = some z) (hzl : z.length = sz) (hb : (P.info? e).map (·.bytes) = some bytes)
    (hx : opv m x = some sv) (hy : opv m y = some xv) (hso : SlOwn e sz sv k xs h) (hsrc : Src σ H xv n sz ys) (h1 : ys.all (·.oneCell') = true)
    (hH : H = H1 ++ (h ++ H2)) (hfit : ∀ old, old < k + n → Builtin.nextslicecap (k + n) old * bytes ≤ 281474976710656) (h63 : k + n ≤ 9223372036854775807) :
    Any P m ⟨dst, .call { callee := .builtin .append, args := #[x, y], argTypes := #[t, t] }, ty, pos, af, g⟩ σ H (fun v σ' H' => ∃ h', SlOwn e sz v (k + n) (xs ++ ys) h' ∧ σ' = σ ∧ H' = H1 ++ (h' ++ H2)) := fun ρ w ha hs => by
  obtain ⟨sv', h', w', hr, hso', hs'⟩ := append_run ht hz hzl hb hso hsrc h1 hH hfit h63 w hs ty
  refine ⟨sv', σ, _, w', ?_, ⟨h', hso', rfl, rfl⟩, σ.le_refl, hs'⟩
  simp [execOp, resolve, ha x _ hx, ha y _ hy, invoke, builtin, hr]
theorem Any.append {t e sz bytes : Nat} {z : List Value} {x y : Operand} {sv xv : Value} {k n : Nat} {xs ys : List Value} {h H1 H2 : HList} (ht : slE P t = some (e, sz)) (hz : zc P e = some z) (hzl : z.length = sz) (hb : (P.info? e).map (·.bytes) = some bytes)
    (hx : opv m x = some sv) (hy : opv m y = some xv) (hso : SlOwn e sz sv k xs h) (hsrc : Src σ H xv n sz ys) (h1 : ys.all (·.oneCell') = true)
    (hH : H = H1 ++ (h ++ H2)) (hbound : (k + n) * bytes ≤ 140737488355328) (h63 : k + n ≤ 9223372036854775807) :
    Any P m ⟨dst, .call { callee := .builtin .append, args := #[x, y], argTypes := #[t, t] }, ty, pos, af, g⟩ σ H (fun v σ' H' => ∃ h', SlOwn e sz v (k + n) (xs ++ ys) h' ∧ σ' = σ ∧ H' = H1 ++ (h' ++ H2)) :=
  Any.appendF ht hz hzl hb hx hy hso hsrc h1 hH (fun old ho => growslice_fits ho hbound) h63

end
end Go.Sl
namespace Go.Sl
open Go

section
variable {P : Program} {m : Slots} {σ : View} {H : HList} {dst : Option Tmp} {ty : TypeId} {pos : String} {af : Array Edge} {g : Option (Nat × Bool)}

/-! ### values alone -/
theorem Pur.extract {x : Operand} {i : Nat} {vs : Array Value} {v : Value} (hx : opv m x = some (.tuple vs)) (hi : vs[i]? = some v) : Pur P m ⟨dst, .extract x i, ty, pos, af, g⟩ σ H v := fun ρ w ha _ => by
  simp [execOp, Instr.extract, ha x _ hx, hi]
theorem Pur.notB {x : Operand} {t : TypeId} {b : Bool} (hx : opv m x = some (.bool b)) : Pur P m ⟨dst, .unOp .not t x, ty, pos, af, g⟩ σ H (.bool (!b)) := fun ρ w ha _ => by
  simp [execOp, Op.unary, ha x _ hx]
theorem Pur.not {x : Operand} {t : TypeId} {p : Prop} {_ip : Decidable p} (hx : opv m x = some (.bool (decide p))) : Pur P m ⟨dst, .unOp .not t x, ty, pos, af, g⟩ σ H (.bool (decide ¬ p)) := fun ρ w ha _ => by
  simp [execOp, Op.unary, ha x _ hx]
theorem evs_map {xs : List Operand} {vs : List Value} (h : evs m xs = some vs) {ρ : Operand → Value} (ha : Agree ρ m) : xs.toArray.map ρ = vs.toArray := by
  simp [evs_spec ha xs vs h]
theorem Pur.makeFunc {fn : Fn} {fs cs : List Operand} {us vs : List Value} (hf : evs m fs = some us) (hc : evs m cs = some vs) : Pur P m ⟨dst, .makeFunc fn fs.toArray cs.toArray, ty, pos, af, g⟩ σ H (.func fn us.toArray vs.toArray) := fun ρ w ha _ => by
  have h1 := evs_map hf ha; have h2 := evs_map hc ha
  simp only [execOp, Instr.makeFunc, h1, h2]
  simp
theorem Pur.makeInterface {t : TypeId} {x : Operand} {v : Value} (hx : opv m x = some v) (ht : ∀ w, (Instr.makeInterface t v).run P w = .ok (.iface t v) w) : Pur P m ⟨dst, .makeInterface t x, ty, pos, af, g⟩ σ H (.iface t v) := fun ρ w ha _ => by
  simp [execOp, ha x _ hx, ht]

theorem fieldRun1 {s f o : Nat} {fs : Array Field} {fx : Field} (hs : P.underlying s = some (.struct fs)) (hf : fs[f]? = some fx) (ho : fx.offset = o) (ht : tyc P fx.type = some none) {vs : List Value} {v : Value} (hv : vs[o]? = some v) (w : World) :
    (Instr.field s (.agg vs.toArray) f).run P w = .ok v w := by
  subst ho
  simp [Instr.field, underlying, hs, hf, asAgg, part, isAgg_run ht, hv]
/-- the field of a struct by value: its type's cells, its offset -/
def fldTy (P : Program) (s f : Nat) : Option (Nat × Option Nat) :=
  match P.underlying s with
  | some (.struct fs) => match fs[f]? with
    | some x => (tyc P x.type).map fun k => (x.offset, k)
    | none => none
  | _ => none
theorem Pur.field1 {s f o : Nat} {x : Operand} {vs : List Value} {v : Value} (hx : opv m x = some (.agg vs.toArray)) (hf : fldTy P s f = some (o, none)) (hv : vs[o]? = some v) : Pur P m ⟨dst, .field s x f, ty, pos, af, g⟩ σ H v := fun ρ w ha _ => by
  unfold fldTy at hf
  split at hf
  · rename_i fs hs
    split at hf
    · rename_i fx hfx
      simp at hf
      obtain ⟨hk, rfl⟩ := hf
      have := fieldRun1 hs hfx rfl hk hv w
      simp [execOp, ha x _ hx, this]
    · cases hf
  · cases hf
theorem Pur.fieldN {s f o k : Nat} {x : Operand} {vs us : List Value} (hx : opv m x = some (.agg vs.toArray)) (hf : fldTy P s f = some (o, some k)) (hv : (vs.drop o).take k = us) : Pur P m ⟨dst, .field s x f, ty, pos, af, g⟩ σ H (.agg us.toArray) := fun ρ w ha _ => by
  unfold fldTy at hf
  split at hf
  · rename_i fs hs
    split at hf
    · rename_i fx hfx
      simp at hf
      obtain ⟨hk, rfl⟩ := hf
      subst hv
      simp [execOp, ha x _ hx, Instr.field, underlying, hs, hfx, asAgg, part, isAgg_run hk, sizeOf_run hk]
    · cases hf
  · cases hf

/-! ### lengths -/
def isSlice (P : Program) (t : TypeId) : Bool := match P.underlying t with | some (.slice _) => true | _ => false
def isString (P : Program) (t : TypeId) : Bool := match P.underlying t with | some .string => true | _ => false
theorem Pur.len {t : TypeId} {x : Operand} {a : Option Addr} {k c : Nat} (hx : opv m x = some (.slice a k c)) (ht : isSlice P t = true) :
    Pur P m ⟨dst, .call { callee := .builtin .len, args := #[x], argTypes := #[t] }, ty, pos, af, g⟩ σ H (.int .i64 (k : Int)) := fun ρ w ha _ => by
  unfold isSlice at ht
  split at ht
  · rename_i e hu
    simp [execOp, resolve, ha x _ hx, invoke, builtin, Builtin.len_, underlying, hu, goInt]
  · cases ht
theorem Pur.lenS {t : TypeId} {x : Operand} {s : ByteArray} (hx : opv m x = some (.string s)) (ht : isString P t = true) :
    Pur P m ⟨dst, .call { callee := .builtin .len, args := #[x], argTypes := #[t] }, ty, pos, af, g⟩ σ H (.int .i64 (s.size : Int)) := fun ρ w ha _ => by
  unfold isString at ht
  split at ht
  · rename_i hu
    simp [execOp, resolve, ha x _ hx, invoke, builtin, Builtin.len_, underlying, hu, goInt]
  · cases ht
theorem Pur.maxN {t u : TypeId} {x y : Operand} {k : IntKind} {a b : Nat} (hx : opv m x = some (.int k (a : Int))) (hy : opv m y = some (.int k (b : Int))) :
    Pur P m ⟨dst, .call { callee := .builtin .max, args := #[x, y], argTypes := #[t, u] }, ty, pos, af, g⟩ σ H (.int k ((max a b : Nat) : Int)) := fun ρ w ha _ => by
  simp [execOp, resolve, ha x _ hx, ha y _ hy, invoke, builtin, Builtin.max_, Builtin.max2]
  by_cases h : a < b
  · rw [if_pos h, Nat.max_eq_right (by omega)]
  · rw [if_neg h, Nat.max_eq_left (by omega)]
theorem Pur.maxI {t u : TypeId} {x y : Operand} {k : IntKind} {a b : Int} (hx : opv m x = some (.int k a)) (hy : opv m y = some (.int k b)) :
    Pur P m ⟨dst, .call { callee := .builtin .max, args := #[x, y], argTypes := #[t, u] }, ty, pos, af, g⟩ σ H (.int k (max a b)) := fun ρ w ha _ => by
  simp [execOp, resolve, ha x _ hx, ha y _ hy, invoke, builtin, Builtin.max_, Builtin.max2]
  by_cases h : a < b
  · rw [if_pos h, Int.max_eq_right (by omega)]
  · rw [if_neg h, Int.max_eq_left (by omega)]

/-! ### two operands -/
def Bin (P : Program) (op : BinOp) (t : TypeId) (a b v : Value) : Prop := ∀ (x y : Operand) w, (do eqGuard op t x y a b; binOp op t a b : Sem Value).run P w = .ok v w
theorem Pur.bin {op : BinOp} {t u : TypeId} {x y : Operand} {a b v : Value} (hx : opv m x = some a) (hy : opv m y = some b) (h : Bin P op t a b v) : Pur P m ⟨dst, .binOp op t x y u, ty, pos, af, g⟩ σ H v := fun ρ w ha _ => by
  have := h x y w
  simp only [execOp, ha x _ hx, ha y _ hy]
  rw [Sem.run_bind, this]
  rfl

theorem eqGuard_int {op : BinOp} {t : TypeId} {x y : Operand} {k k' : IntKind} {a b : Int} (w : World) : (eqGuard op t x y (.int k a) (.int k' b)).run P w = .ok () w := by
  cases op <;> simp [eqGuard]
theorem Bin.int {op : BinOp} {t : TypeId} {k k' : IntKind} {a b : Int} {v : Value} (h : ∀ w, (binOp op t (.int k a) (.int k' b)).run P w = .ok v w) : Bin P op t (.int k a) (.int k' b) v := fun x y w => by
  simp [eqGuard_int, h]

theorem i64_wrap {x : Int} (h : -9223372036854775808 ≤ x ∧ x ≤ 9223372036854775807) : IntKind.i64.wrap x = x := by rw [IntKind.wrap_i64]; omega
theorem u64_wrap {x : Int} (h : 0 ≤ x ∧ x ≤ 18446744073709551615) : IntKind.u64.wrap x = x := by
  rw [IntKind.wrap_u64]; omega

section ints
variable {t : TypeId} {a b : Nat} {x y : Int} {k : IntKind}
theorem Bin.addN (h : a + b ≤ 9223372036854775807) : Bin P .add t (.int .i64 (a : Int)) (.int .i64 (b : Int)) (.int .i64 ((a + b : Nat) : Int)) := Bin.int fun w => by
  simp [binOp, Op.intArith]; exact i64_wrap (by omega)
theorem Bin.addI (h : -9223372036854775808 ≤ x + y ∧ x + y ≤ 9223372036854775807) : Bin P .add t (.int .i64 x) (.int .i64 y) (.int .i64 (x + y)) := Bin.int fun w => by
  simp [binOp, Op.intArith]; exact i64_wrap h
theorem Bin.subN (h : b ≤ a) (ha : a ≤ 9223372036854775807) : Bin P .sub t (.int .i64 (a : Int)) (.int .i64 (b : Int)) (.int .i64 ((a - b : Nat) : Int)) := Bin.int fun w => by
  simp [binOp, Op.intArith]; rw [i64_wrap (by omega)]; omega
theorem Bin.subI (h : -9223372036854775808 ≤ x - y ∧ x - y ≤ 9223372036854775807) : Bin P .sub t (.int .i64 x) (.int .i64 y) (.int .i64 (x - y)) := Bin.int fun w => by
  simp [binOp, Op.intArith]; exact i64_wrap h
theorem Bin.subK {c : Nat} (h : x - y = c) (hc : c ≤ 9223372036854775807) : Bin P .sub t (.int .i64 x) (.int .i64 y) (.int .i64 (c : Int)) := Bin.int fun w => by
  simp [binOp, Op.intArith]; rw [i64_wrap (by omega)]; exact h
theorem Bin.addK {c : Nat} (h : x + y = c) (hc : c ≤ 9223372036854775807) : Bin P .add t (.int .i64 x) (.int .i64 y) (.int .i64 (c : Int)) := Bin.int fun w => by
  simp [binOp, Op.intArith]; rw [i64_wrap (by omega)]; exact h
theorem Bin.mulN (h : a * b ≤ 9223372036854775807) : Bin P .mul t (.int .i64 (a : Int)) (.int .i64 (b : Int)) (.int .i64 ((a * b : Nat) : Int)) := Bin.int fun w => by
  have := Int.natCast_mul a b
  simp [binOp, Op.intArith]; rw [← this]; exact i64_wrap (by omega)
theorem Bin.quoN (h : 0 < b) (ha : a ≤ 9223372036854775807) : Bin P .quo t (.int .i64 (a : Int)) (.int .i64 (b : Int)) (.int .i64 ((a / b : Nat) : Int)) := Bin.int fun w => by
  have h0 : ¬ b = 0 := by omega
  have : a / b ≤ a := Nat.div_le_self _ _
  simp [binOp, Op.intDiv, h0]
  rw [show ((a : Int) / (b : Int)) = ((a / b : Nat) : Int) from (Int.natCast_ediv a b).symm]
  generalize a / b = q at *
  exact i64_wrap (by omega)
theorem Bin.remN (h : 0 < b) : Bin P .rem t (.int .i64 (a : Int)) (.int .i64 (b : Int)) (.int .i64 ((a % b : Nat) : Int)) := Bin.int fun w => by
  have h0 : ¬ b = 0 := by omega
  simp [binOp, Op.intDiv, h0]
  exact Int.tmod_eq_emod_of_nonneg (by omega)
theorem Bin.ltN : Bin P .lss t (.int k (a : Int)) (.int k (b : Int)) (.bool (decide (a < b))) := Bin.int fun w => by simp [binOp, Op.intCmp]
theorem Bin.leN : Bin P .leq t (.int k (a : Int)) (.int k (b : Int)) (.bool (decide (a ≤ b))) := Bin.int fun w => by simp [binOp, Op.intCmp]
theorem Bin.gtN : Bin P .gtr t (.int k (a : Int)) (.int k (b : Int)) (.bool (decide (b < a))) := Bin.int fun w => by simp [binOp, Op.intCmp]
theorem Bin.geN : Bin P .geq t (.int k (a : Int)) (.int k (b : Int)) (.bool (decide (b ≤ a))) := Bin.int fun w => by simp [binOp, Op.intCmp]
theorem Bin.eqN : Bin P .eql t (.int k (a : Int)) (.int k (b : Int)) (.bool (decide (a = b))) := Bin.int fun w => by
  simp [binOp, Op.intCmp]; rw [Bool.eq_iff_iff]; simp; omega
theorem Bin.neN : Bin P .neq t (.int k (a : Int)) (.int k (b : Int)) (.bool (decide (a ≠ b))) := Bin.int fun w => by
  simp [binOp, Op.intCmp]; rw [Bool.eq_iff_iff]; simp; omega
theorem Bin.ltI : Bin P .lss t (.int k x) (.int k y) (.bool (decide (x < y))) := Bin.int fun w => by simp [binOp, Op.intCmp]
theorem Bin.leI : Bin P .leq t (.int k x) (.int k y) (.bool (decide (x ≤ y))) := Bin.int fun w => by simp [binOp, Op.intCmp]
theorem Bin.gtI : Bin P .gtr t (.int k x) (.int k y) (.bool (decide (y < x))) := Bin.int fun w => by simp [binOp, Op.intCmp]
theorem Bin.geI : Bin P .geq t (.int k x) (.int k y) (.bool (decide (y ≤ x))) := Bin.int fun w => by simp [binOp, Op.intCmp]
theorem Bin.eqI : Bin P .eql t (.int k x) (.int k y) (.bool (decide (x = y))) := Bin.int fun w => by
  simp [binOp, Op.intCmp]; rw [Bool.eq_iff_iff]; simp
theorem Bin.neI : Bin P .neq t (.int k x) (.int k y) (.bool (decide (x ≠ y))) := Bin.int fun w => by
  simp [binOp, Op.intCmp]; rw [Bool.eq_iff_iff]; simp
end ints

/-! strings -/
theorem Bin.str {op : BinOp} {t : TypeId} {a b : ByteArray} {v : Value} (h : ∀ w, (Op.stringOp op a b).run P w = .ok v w) : Bin P op t (.string a) (.string b) v := fun x y w => by
  have : (eqGuard op t x y (.string a) (.string b)).run P w = .ok () w := by cases op <;> simp [eqGuard]
  simp [this, binOp, h]
theorem bytes_toList (a : ByteArray) : a.toList = a.data.toList := by
  exact ByteArray.toList_eq a
theorem str_eq {a b : ByteArray} : (a.toList == b.toList) = decide (a = b) := by
  rw [Bool.eq_iff_iff]; simp [bytes_toList]
  constructor
  · intro h
    cases a
    cases b
    simp_all
  · rintro rfl; rfl
theorem Bin.eqS {t : TypeId} {a b : ByteArray} : Bin P .eql t (.string a) (.string b) (.bool (decide (a = b))) := Bin.str fun w => by simp [Op.stringOp, str_eq]
theorem Bin.neS {t : TypeId} {a b : ByteArray} : Bin P .neq t (.string a) (.string b) (.bool (decide (a ≠ b))) := Bin.str fun w => by simp [Op.stringOp, str_eq]
theorem Bin.ltS {t : TypeId} {a b : ByteArray} : Bin P .lss t (.string a) (.string b) (.bool (decide (Op.bytesLess a.toList b.toList = true))) := Bin.str fun w => by simp [Op.stringOp]
theorem Bin.leS {t : TypeId} {a b : ByteArray} : Bin P .leq t (.string a) (.string b) (.bool (decide (Op.bytesLess a.toList b.toList = true ∨ a = b))) := Bin.str fun w => by simp [Op.stringOp, str_eq]

/-! Bools, pointers, slices against nil -/
theorem Bin.other {op : BinOp} {t : TypeId} {a b : Value} {v : Value} (hg : ∀ (x y : Operand) w, (eqGuard op t x y a b).run P w = .ok () w) (h : ∀ w, (binOp op t a b).run P w = .ok v w) : Bin P op t a b v := fun x y w => by
  simp [hg, h]
def isBool (P : Program) (t : TypeId) : Bool := match P.underlying t with | some .bool => true | _ => false
theorem equalIn_bool (d : Nat) {t : TypeId} (ht : isBool P t = true) (a b : Bool) (w : World) : (Op.equalIn (d + 1) t (.bool a) (.bool b)).run P w = .ok (a == b) w := by
  unfold isBool at ht
  split at ht
  · rename_i hu
    simp [Op.equalIn, underlying, hu]
  · cases ht
theorem equal_bool {t : TypeId} (ht : isBool P t = true) (a b : Bool) (w : World) : (Op.equal t (.bool a) (.bool b)).run P w = .ok (a == b) w := equalIn_bool 9999 ht a b w
theorem Bin.eqB {t : TypeId} {a b : Bool} (ht : isBool P t = true) : Bin P .eql t (.bool a) (.bool b) (.bool (decide (a = b))) := Bin.other (fun x y w => by simp [eqGuard]) fun w => by
  simp [binOp, equal_bool ht]; rw [Bool.eq_iff_iff]; simp
theorem Bin.neB {t : TypeId} {a b : Bool} (ht : isBool P t = true) : Bin P .neq t (.bool a) (.bool b) (.bool (decide (a ≠ b))) := Bin.other (fun x y w => by simp [eqGuard]) fun w => by
  simp [binOp, equal_bool ht]; rw [Bool.eq_iff_iff]; simp
def isPtr (P : Program) (t : TypeId) : Bool := match P.underlying t with | some (.pointer _) => true | _ => false
theorem equalIn_ptr (d : Nat) {t : TypeId} (ht : isPtr P t = true) (a : Option Addr) (w : World) : (Op.equalIn (d + 1) t (.pointer a) (.pointer none)).run P w = .ok a.isNone w := by
  unfold isPtr at ht
  split at ht
  · rename_i e hu
    cases a <;> simp [Op.equalIn, underlying, hu]
  · cases ht
theorem equal_ptr {t : TypeId} (ht : isPtr P t = true) (a : Option Addr) (w : World) : (Op.equal t (.pointer a) (.pointer none)).run P w = .ok a.isNone w := equalIn_ptr 9999 ht a w
theorem equalIn_slice (d : Nat) {t : TypeId} (ht : isSlice P t = true) (a : Option Addr) (k c : Nat) (w : World) : (Op.equalIn (d + 1) t (.slice a k c) (.slice none 0 0)).run P w = .ok a.isNone w := by
  unfold isSlice at ht
  split at ht
  · rename_i e hu
    cases a <;> simp [Op.equalIn, underlying, hu]
  · cases ht
theorem equal_slice {t : TypeId} (ht : isSlice P t = true) (a : Option Addr) (k c : Nat) (w : World) : (Op.equal t (.slice a k c) (.slice none 0 0)).run P w = .ok a.isNone w := equalIn_slice 9999 ht a k c w
theorem Bin.eqP {t : TypeId} {a : Option Addr} (ht : isPtr P t = true) : Bin P .eql t (.pointer a) (.pointer none) (.bool (decide (a = none))) := Bin.other (fun x y w => by simp [eqGuard]) fun w => by
  cases a <;> simp [binOp, equal_ptr ht]
theorem Bin.neP {t : TypeId} {a : Option Addr} (ht : isPtr P t = true) : Bin P .neq t (.pointer a) (.pointer none) (.bool (decide (a ≠ none))) := Bin.other (fun x y w => by simp [eqGuard]) fun w => by
  cases a <;> simp [binOp, equal_ptr ht]
theorem Bin.eqSl {t : TypeId} {a : Option Addr} {k c : Nat} (ht : isSlice P t = true) : Bin P .eql t (.slice a k c) (.slice none 0 0) (.bool (decide (a = none))) := Bin.other (fun x y w => by simp [eqGuard]) fun w => by
  cases a <;> simp [binOp, equal_slice ht]

/-! uint64 -/
theorem toNat_ofInt64 {a : Nat} (ha : a < 2 ^ 64) : (BitVec.ofInt 64 (a : Int)).toNat = a := by
  rw [BitVec.toNat_ofInt]; omega
theorem Bin.orU {t : TypeId} {a b : Nat} (ha : a < 2 ^ 64) (hb : b < 2 ^ 64) : Bin P .or t (.int .u64 (a : Int)) (.int .u64 (b : Int)) (.int .u64 ((a ||| b : Nat) : Int)) := Bin.int fun w => by
  have e : (BitVec.ofInt 64 (a : Int) ||| BitVec.ofInt 64 (b : Int)).toNat = a ||| b := by rw [BitVec.toNat_or, toNat_ofInt64 ha, toNat_ofInt64 hb]
  have hr : (binOp .or t (.int .u64 (a : Int)) (.int .u64 (b : Int))).run P w = .ok (.int .u64 (IntKind.u64.wrap ((BitVec.ofInt 64 (a : Int) ||| BitVec.ofInt 64 (b : Int)).toNat : Int))) w := rfl
  have : a ||| b < 2 ^ 64 := Nat.or_lt_two_pow ha hb
  rw [hr, e, u64_wrap (by omega)]
theorem Bin.andU {t : TypeId} {a b : Nat} (ha : a < 2 ^ 64) (hb : b < 2 ^ 64) : Bin P .and t (.int .u64 (a : Int)) (.int .u64 (b : Int)) (.int .u64 ((a &&& b : Nat) : Int)) := Bin.int fun w => by
  have e : (BitVec.ofInt 64 (a : Int) &&& BitVec.ofInt 64 (b : Int)).toNat = a &&& b := by rw [BitVec.toNat_and, toNat_ofInt64 ha, toNat_ofInt64 hb]
  have hr : (binOp .and t (.int .u64 (a : Int)) (.int .u64 (b : Int))).run P w = .ok (.int .u64 (IntKind.u64.wrap ((BitVec.ofInt 64 (a : Int) &&& BitVec.ofInt 64 (b : Int)).toNat : Int))) w := rfl
  have : a &&& b < 2 ^ 64 := Nat.and_lt_two_pow _ hb
  rw [hr, e, u64_wrap (by omega)]
theorem Bin.shlU {t : TypeId} {a b : Nat} (hb : b < 64) (h : a * 2 ^ b < 2 ^ 64) : Bin P .shl t (.int .u64 (a : Int)) (.int .i64 (b : Int)) (.int .u64 ((a * 2 ^ b : Nat) : Int)) := Bin.int fun w => by
  have h0 : ¬ (b : Int) < 0 := by omega
  have : min b 64 = b := by omega
  simp [binOp, Op.shift, h0, IntKind.bits, this]
  have e : ((a : Int) * 2 ^ b) = ((a * 2 ^ b : Nat) : Int) := by simp
  rw [e]; exact u64_wrap (by omega)
theorem Bin.shrU {t : TypeId} {a b : Nat} (hb : b < 64) : Bin P .shr t (.int .u64 (a : Int)) (.int .i64 (b : Int)) (.int .u64 ((a / 2 ^ b : Nat) : Int)) := Bin.int fun w => by
  have h0 : ¬ (b : Int) < 0 := by omega
  have : min b 64 = b := by omega
  simp [binOp, Op.shift, h0, IntKind.bits, this]
  rw [Int.fdiv_eq_ediv_of_nonneg _ (Int.le_of_lt (Int.pow_pos (by decide)))]

end
end Go.Sl
namespace Go.Sl
open Go

/-! ### hashes: a number below 2^256, its 32 bytes, the greatest first -/
def hdig (h i : Nat) : Nat := h / 256 ^ (31 - i) % 256
def hc (h i : Nat) : Value := .int .u8 (hdig h i : Int)
def hashCells (h : Nat) : List Value :=
  [hc h 0, hc h 1, hc h 2, hc h 3, hc h 4, hc h 5, hc h 6, hc h 7, hc h 8, hc h 9, hc h 10, hc h 11, hc h 12, hc h 13, hc h 14, hc h 15,
   hc h 16, hc h 17, hc h 18, hc h 19, hc h 20, hc h 21, hc h 22, hc h 23, hc h 24, hc h 25, hc h 26, hc h 27, hc h 28, hc h 29, hc h 30, hc h 31]
def hashV (h : Nat) : Value := .agg (hashCells h).toArray
def HashMax : Nat := 2 ^ 256
/-- a hash -/
def IsH (h : Nat) : Prop := h < HashMax

theorem hashCells_length (h : Nat) : (hashCells h).length = 32 := rfl
theorem hashCells_eq (h : Nat) : hashCells h = (List.range 32).map (hc h) := rfl
theorem hashCells_get (h i : Nat) (hi : i < 32) : (hashCells h)[i]? = some (hc h i) := by
  rw [hashCells_eq]; simp [hi]
theorem hashCells_one (h : Nat) : (hashCells h).all (·.oneCell') = true := rfl

theorem hdig_lt (h i : Nat) : hdig h i < 256 := Nat.mod_lt _ (by decide)

/-- the value of some bytes, the greatest first -/
def ofDigs : List Nat → Nat
  | [] => 0
  | d :: l => d * 256 ^ l.length + ofDigs l
theorem ofDigs_lt : ∀ l : List Nat, (∀ d ∈ l, d < 256) → ofDigs l < 256 ^ l.length
  | [], _ => by simp [ofDigs]
  | d :: l, h => by
    have h1 := ofDigs_lt l (fun x hx => h x (by simp [hx]))
    have h2 := h d (by simp)
    simp only [ofDigs, List.length_cons, Nat.pow_succ]
    have : d * 256 ^ l.length ≤ 255 * 256 ^ l.length := Nat.mul_le_mul_right _ (by omega)
    omega
theorem ofDigs_dig : ∀ (l : List Nat) (i : Nat), (∀ d ∈ l, d < 256) → i < l.length → ofDigs l / 256 ^ (l.length - 1 - i) % 256 = l.getD i 0
  | [], i, _, hi => by simp at hi
  | d :: l, i, h, hi => by
    have h1 := ofDigs_lt l (fun x hx => h x (by simp [hx]))
    cases i with
    | zero =>
      have h2 := h d (by simp)
      simp only [ofDigs, List.length_cons, Nat.add_sub_cancel, Nat.sub_zero, List.getD_cons_zero]
      rw [Nat.mul_comm, Nat.mul_add_div (by exact Nat.pow_pos (by decide)), Nat.div_eq_of_lt h1]
      omega
    | succ i =>
      simp only [List.length_cons] at hi
      have ih := ofDigs_dig l i (fun x hx => h x (by simp [hx])) (by omega)
      simp only [ofDigs, List.length_cons, List.getD_cons_succ]
      rw [show l.length + 1 - 1 - (i + 1) = l.length - 1 - i by omega, ← ih]
      obtain ⟨q, hq⟩ : ∃ q, l.length = (l.length - 1 - i) + 1 + q := ⟨i, by omega⟩
      have e : 256 ^ l.length = 256 ^ (l.length - 1 - i) * (256 * 256 ^ q) := by
        rw [← Nat.mul_assoc, ← Nat.pow_succ, ← Nat.pow_add, Nat.succ_eq_add_one, ← hq]
      rw [e, show d * (256 ^ (l.length - 1 - i) * (256 * 256 ^ q)) = 256 ^ (l.length - 1 - i) * (256 * (256 ^ q * d)) by
        rw [Nat.mul_comm d, Nat.mul_assoc, Nat.mul_assoc]]
      rw [Nat.mul_add_div (by exact Nat.pow_pos (by decide)), Nat.mul_add_mod]

/-- whatever 32 bytes are a hash's -/
theorem hash_of_cells (l : List Value) (hl : l.length = 32) (hb : ∀ v ∈ l, ∃ n : Nat, v = .int .u8 (n : Int) ∧ n < 256) : ∃ h, IsH h ∧ l = hashCells h := by
  let ds : List Nat := l.map fun v => match v with | .int _ n => n.toNat | _ => 0
  have hds : ds.length = 32 := by simp [ds, hl]
  have hd : ∀ d ∈ ds, d < 256 := by
    intro d hdm
    obtain ⟨v, hv, rfl⟩ := List.mem_map.1 hdm
    obtain ⟨n, rfl, hn⟩ := hb v hv
    simpa using hn
  refine ⟨ofDigs ds, ?_, ?_⟩
  · have := ofDigs_lt ds hd
    rw [hds] at this
    exact this
  · rw [hashCells_eq]
    apply List.ext_getElem?
    intro i
    rcases Nat.lt_or_ge i 32 with hi | hi
    · have h1 : l[i]? = some l[i] := List.getElem?_eq_getElem (by omega)
      obtain ⟨n, hn, hlt⟩ := hb l[i] (List.getElem_mem _)
      have h2 := ofDigs_dig ds i hd (by omega)
      rw [hds] at h2
      rw [h1]
      simp only [List.getElem?_map, List.getElem?_range hi, Option.map_some, hc, hdig]
      rw [h2]
      simp [ds, h1, hn]
    · rw [List.getElem?_eq_none (by omega), List.getElem?_eq_none (by simp; omega)]

/-- the top i bytes are alike -/
theorem top_succ (h i : Nat) (hi : i < 32) : h / 256 ^ (31 - i) = 256 * (h / 256 ^ (32 - i)) + hdig h i := by
  unfold hdig
  rw [show 32 - i = (31 - i) + 1 by omega, Nat.pow_succ, ← Nat.div_div_eq_div_mul]
  omega
theorem hash_ext {a b : Nat} (ha : IsH a) (hb : IsH b) (h : ∀ i, i < 32 → hdig a i = hdig b i) : a = b := by
  have key : ∀ i, i ≤ 32 → a / 256 ^ (32 - i) = b / 256 ^ (32 - i) := by
    intro i
    induction i with
    | zero =>
      intro _
      have e : (256 : Nat) ^ (32 - 0) = HashMax := by decide
      rw [e, Nat.div_eq_of_lt ha, Nat.div_eq_of_lt hb]
    | succ i ih =>
      intro hi
      have := ih (by omega)
      rw [show 32 - (i + 1) = 31 - i by omega, top_succ a i (by omega), top_succ b i (by omega), this, h i (by omega)]
  simpa using key 32 (Nat.le_refl _)
theorem hashCells_inj {a b : Nat} (ha : IsH a) (hb : IsH b) (h : hashCells a = hashCells b) : a = b :=
  hash_ext ha hb fun i hi => by
    have h1 := hashCells_get a i hi
    rw [h, hashCells_get b i hi] at h1
    simp [hc] at h1
    omega
/-- the first byte in which two hashes part decides how they stand -/
theorem hash_lt {a b i : Nat} (hi : i < 32) (htop : a / 256 ^ (32 - i) = b / 256 ^ (32 - i)) (hd : hdig a i < hdig b i) : a < b := by
  have h1 := top_succ a i hi
  have h2 := top_succ b i hi
  have : a / 256 ^ (31 - i) < b / 256 ^ (31 - i) := by omega
  exact Nat.lt_of_not_le fun hle => by
    have := Nat.div_le_div_right (c := 256 ^ (31 - i)) hle
    omega

section
variable {P : Program}
theorem array_loop {e : Nat} {k : IntKind} (he : P.underlying e = some (.int k)) (d : Nat) (xs ys : List Int) (w : World) : ∀ (n j : Nat), xs.length = j + n → ys.length = j + n →
    (forIn (m := Sem) (List.range' j n) ((none, ()) : Option Bool × Unit) (fun i _ => do
            let a ← part e (xs.map (Value.int k)).toArray i
            let b ← part e (ys.map (Value.int k)).toArray i
            let c ← Op.equalIn (d + 1) e a b
            if c = false then pure (ForInStep.done (some false, ())) else pure (ForInStep.yield (none, ())))).run P w = .ok (if xs.drop j = ys.drop j then none else some false, ()) w := by
  intro n
  induction n with
  | zero =>
    intro j hx hy
    rw [List.drop_of_length_le (by omega), List.drop_of_length_le (by omega)]
    simp
  | succ n ih =>
    intro j hx hy
    have hxj : xs[j]? = some xs[j] := List.getElem?_eq_getElem (by omega)
    have hyj : ys[j]? = some ys[j] := List.getElem?_eq_getElem (by omega)
    have hte : tyc P e = some none := by simp [tyc, he]
    have hpx : (part e (xs.map (Value.int k)).toArray j).run P w = .ok (.int k xs[j]) w := by
      simp [part, isAgg_run hte, hxj]
    have hpy : (part e (ys.map (Value.int k)).toArray j).run P w = .ok (.int k ys[j]) w := by
      simp [part, isAgg_run hte, hyj]
    rw [List.range'_succ]
    simp only [List.forIn_cons, Sem.run_bind, hpx, hpy, Result.andThen_ok, run_equalIn_int w d e k k _ _ he]
    have hdx : xs.drop j = xs[j] :: xs.drop (j + 1) := by rw [List.drop_eq_getElem_cons (by omega)]
    have hdy : ys.drop j = ys[j] :: ys.drop (j + 1) := by rw [List.drop_eq_getElem_cons (by omega)]
    rw [hdx, hdy]
    by_cases hab : xs[j] = ys[j]
    · have := ih (j + 1) (by omega) (by omega)
      simp only [hab, List.cons.injEq, true_and]
      simpa using this
    · have : (xs[j] == ys[j]) = false := by simpa using hab
      rw [if_neg (fun h => hab (List.cons.inj h).1)]
      simp [this]

/-- '==' of two arrays of whole numbers -/
theorem equalIn_array {t len e : Nat} {k : IntKind} (ht : P.underlying t = some (.array len e)) (he : P.underlying e = some (.int k)) (hs : (P.info? e).map (·.size) = some 1) (d : Nat) (xs ys : List Int) (hx : xs.length = len) (hy : ys.length = len) (w : World) :
    (Op.equalIn (d + 2) t (.agg (xs.map (Value.int k)).toArray) (.agg (ys.map (Value.int k)).toArray)).run P w = .ok (decide (xs = ys)) w := by
  cases hi : P.info? e with
  | none => simp [hi] at hs
  | some i =>
    simp [hi] at hs
    have hl := array_loop he d xs ys w len 0 (by omega) (by omega)
    rw [Op.equalIn]
    simp only [underlying, ht, sizeOf, typeInfo, hi, hs, Sem.run_bind, run_program, Result.andThen_ok, Sem.run_pure, Nat.mul_one]
    simp at hl ⊢
    rw [hl]
    by_cases h : xs = ys <;> simp [h]

/-- a type of 32 bytes -/
def isHash (P : Program) (t : TypeId) : Bool :=
  match P.underlying t with
  | some (.array 32 e) => (match P.underlying e with | some (.int .u8) => true | _ => false) && (P.info? e).map (·.size) == some 1 && !P.eqGuardType P.depth t
  | _ => false
def digs (h : Nat) : List Int := (List.range 32).map fun i => (hdig h i : Int)
theorem hashCells_digs (h : Nat) : hashCells h = (digs h).map (Value.int .u8) := by rw [hashCells_eq, digs, List.map_map]; rfl
theorem digs_inj {a b : Nat} (ha : IsH a) (hb : IsH b) : digs a = digs b ↔ a = b :=
  ⟨fun h => hashCells_inj ha hb (by rw [hashCells_digs, hashCells_digs, h]), fun h => by rw [h]⟩
theorem isHash_spec {t : TypeId} (h : isHash P t = true) : ∃ e, P.underlying t = some (.array 32 e) ∧ P.underlying e = some (.int .u8) ∧ (P.info? e).map (·.size) = some 1 ∧ P.eqGuardType P.depth t = false := by
  unfold isHash at h
  split at h
  · rename_i e hu
    simp only [Bool.and_eq_true, Bool.not_eq_true', beq_iff_eq] at h
    refine ⟨e, hu, ?_, h.1.2, h.2⟩
    have h1 := h.1.1
    split at h1
    · assumption
    · cases h1
  · cases h
theorem equalIn_hash {t a b : Nat} (d : Nat) (h : isHash P t = true) (ha : IsH a) (hb : IsH b) (w : World) : (Op.equalIn (d + 2) t (hashV a) (hashV b)).run P w = .ok (decide (a = b)) w := by
  obtain ⟨e, h1, h2, h3, _⟩ := isHash_spec h
  have := equalIn_array h1 h2 h3 d (digs a) (digs b) (by simp [digs]) (by simp [digs]) w
  unfold hashV
  rw [hashCells_digs, hashCells_digs, this]
  simp [digs_inj ha hb]
theorem Bin.eqH {t a b : Nat} (h : isHash P t = true) (ha : IsH a) (hb : IsH b) : Bin P .eql t (hashV a) (hashV b) (.bool (decide (a = b))) :=
  Bin.other (fun x y w => run_eqGuard_agg w .eql t x y _ _ (isHash_spec h).choose_spec.2.2.2) fun w => by
    have := equalIn_hash (P := P) 9998 h ha hb w
    unfold hashV at this ⊢
    rw [run_eql_struct, this]; simp
theorem Bin.neH {t a b : Nat} (h : isHash P t = true) (ha : IsH a) (hb : IsH b) : Bin P .neq t (hashV a) (hashV b) (.bool (decide (a ≠ b))) :=
  Bin.other (fun x y w => run_eqGuard_agg w .neq t x y _ _ (isHash_spec h).choose_spec.2.2.2) fun w => by
    have := equalIn_hash (P := P) 9998 h ha hb w
    unfold hashV at this ⊢
    rw [run_neq_struct, this]; simp
end

/-! ### the program's structs, cell by cell -/
def identCells (node : Nat) (o : Int) : List Value := hashCells node ++ [.int .i64 o]
def entCells (id : Nat) (au cl : Int) (pv ov : Value) : List Value := hashCells id ++ [.int .i64 au, .int .i64 cl, pv, ov]
def nodeCells (au cl : Int) (pv ov : Value) : List Value := [.int .i64 au, .int .i64 cl, pv, ov]

end Go.Sl
namespace Go.Sl
open Go

/-! ### parts of a row of cells -/
def Sub (l : List Value) (off : Nat) (vs : List Value) : Prop := ∀ i v, vs[i]? = some v → l[off + i]? = some v
theorem Sub.mid {A vs B : List Value} : Sub (A ++ (vs ++ B)) A.length vs := fun i v hi => by
  rw [List.getElem?_append_right (by omega), Nat.add_sub_cancel_left, List.getElem?_append_left (List.getElem?_eq_some_iff.1 hi).1]; exact hi
theorem Sub.head {vs B : List Value} : Sub (vs ++ B) 0 vs := fun i v hi => by
  rw [Nat.zero_add, List.getElem?_append_left (List.getElem?_eq_some_iff.1 hi).1]; exact hi
theorem Sub.tail {A vs : List Value} : Sub (A ++ vs) A.length vs := fun i v hi => by
  rw [List.getElem?_append_right (by omega), Nat.add_sub_cancel_left]; exact hi
theorem Sub.one {l : List Value} {i : Nat} {v : Value} (h : l[i]? = some v) : Sub l i [v] := fun j u hj => by
  cases j with
  | zero => simp at hj; subst hj; exact h
  | succ j => simp at hj
theorem Sub.refl (l : List Value) : Sub l 0 l := fun i v hi => by rw [Nat.zero_add]; exact hi
theorem Sub.trans {l vs us : List Value} {i j : Nat} (h : Sub l i vs) (h' : Sub vs j us) : Sub l (i + j) us := fun k v hk => by
  rw [Nat.add_assoc]; exact h _ _ (h' k v hk)

theorem Rd.own_sub {σ : View} {H : HList} {b off : Nat} {T : TypeId} {l vs : List Value} (h : (b, rowO T l) ∈ H) (hs : Sub l off vs) : Rd σ H b off vs := Rd.own h hs
theorem RdV.sub {σ : View} {b off i : Nat} {l vs : List Value} (h : RdV σ b off l) (hs : Sub l i vs) : RdV σ b (off + i) vs :=
  let ⟨c, T, fr, h1, h2⟩ := h; ⟨c, T, fr, h1, fun j v hj => by rw [Nat.add_assoc]; exact h2 _ _ (hs j v hj)⟩
theorem RdV.sub0 {σ : View} {b off : Nat} {l vs : List Value} (h : RdV σ b off l) (hs : Sub l 0 vs) : RdV σ b off vs := by have := h.sub hs; simpa using this
theorem RdV.idx {σ : View} {b off i : Nat} {l : List Value} {v : Value} (h : RdV σ b off l) (hs : l[i]? = some v) : RdV σ b (off + i) [v] := h.sub (Sub.one hs)
theorem RdV.row {σ : View} {b : Nat} {T : TypeId} {l : List Value} (h : σ b = some (rowO T l)) : RdV σ b 0 l := ⟨_, _, _, h, fun i v hi => by simpa using hi⟩

def opCells (k : Int) (key text : ByteArray) (n : Int) (atn : Nat) (ato : Int) : List Value := [.int .i64 k, .string key, .string text, .int .i64 n] ++ identCells atn ato
def itemCells (node : Nat) (o : Int) (text : ByteArray) : List Value := identCells node o ++ [.string text]

theorem Sub.ent_hash (id : Nat) (au cl : Int) (pv ov : Value) : Sub (entCells id au cl pv ov) 0 (hashCells id) := Sub.head
theorem Sub.ent_node (id : Nat) (au cl : Int) (pv ov : Value) : Sub (entCells id au cl pv ov) 32 (nodeCells au cl pv ov) := Sub.tail (A := hashCells id)
theorem Sub.ident_hash (n : Nat) (o : Int) : Sub (identCells n o) 0 (hashCells n) := Sub.head
theorem Sub.op_ident (k : Int) (key text : ByteArray) (n : Int) (atn : Nat) (ato : Int) : Sub (opCells k key text n atn ato) 4 (identCells atn ato) := Sub.tail (A := [_, _, _, _])
theorem Sub.op_hash (k : Int) (key text : ByteArray) (n : Int) (atn : Nat) (ato : Int) : Sub (opCells k key text n atn ato) 4 (hashCells atn) := (Sub.op_ident k key text n atn ato).trans (Sub.ident_hash atn ato)
theorem Sub.item_ident (n : Nat) (o : Int) (t : ByteArray) : Sub (itemCells n o t) 0 (identCells n o) := Sub.head
theorem Sub.item_hash (n : Nat) (o : Int) (t : ByteArray) : Sub (itemCells n o t) 0 (hashCells n) := (Sub.item_ident n o t).trans (Sub.ident_hash n o)

/-! ### data -/
structure OpD where
  kind : Int
  key : ByteArray
  text : ByteArray
  n : Int
  atn : Nat
  ato : Int
  deriving DecidableEq
structure NodeD where
  au : Int
  cl : Int
  ps : List Nat
  ops : List OpD
structure EntD where
  id : Nat
  node : NodeD

def I64 (n : Int) : Prop := -9223372036854775808 ≤ n ∧ n ≤ 9223372036854775807
def StrOk (s : ByteArray) : Prop := s.size ≤ 140737488351232

def OpD.cells (o : OpD) : List Value := opCells o.kind o.key o.text o.n o.atn o.ato
def OpD.ok (o : OpD) : Prop := I64 o.kind ∧ StrOk o.key ∧ StrOk o.text ∧ I64 o.n ∧ IsH o.atn ∧ I64 o.ato

/-- an encoding: of things in known memory, by cells -/
abbrev Enc (α : Type) := View → α → List Value → Prop
def Enc.Mono {α : Type} (E : Enc α) : Prop := ∀ (σ σ' : View) (x : α) (vs : List Value), σ.le σ' → E σ x vs → E σ' x vs

/-- a slice value in known memory: the things that it holds. sz: an element's cells, by: its bytes -/
def SlE {α : Type} (σ : View) (E : Enc α) (sz byt : Nat) (sv : Value) (l : List α) : Prop :=
  ∃ a cap, sv = .slice a l.length cap ∧ l.length ≤ cap ∧ l.length * byt ≤ 140737488355328 ∧ (l.length = 0 ∨ ∃ b off, a = some ⟨b, off, none⟩ ∧
    ∀ i x, l[i]? = some x → ∃ vs, vs.length = sz ∧ vs.all (·.oneCell') = true ∧ E σ x vs ∧ RdV σ b (off + i * sz) vs)

theorem SlE.mono {α : Type} {σ σ' : View} {E : Enc α} (hE : E.Mono) {sz byt : Nat} {sv : Value} {l : List α} (h : SlE σ E sz byt sv l) (hl : σ.le σ') : SlE σ' E sz byt sv l := by
  obtain ⟨a, cap, h1, h2, h3, h4⟩ := h
  refine ⟨a, cap, h1, h2, h3, h4.imp id ?_⟩
  rintro ⟨b, off, ha, hi⟩
  refine ⟨b, off, ha, fun i x hx => ?_⟩
  obtain ⟨vs, v1, v2, v3, v4⟩ := hi i x hx
  exact ⟨vs, v1, v2, hE _ _ _ _ hl v3, v4.mono hl⟩

/-- its shape -/
theorem SlE.shape {α : Type} {σ : View} {E : Enc α} {sz byt : Nat} {sv : Value} {l : List α} (h : SlE σ E sz byt sv l) : ∃ a cap, sv = .slice a l.length cap ∧ l.length ≤ cap ∧ l.length * byt ≤ 140737488355328 :=
  let ⟨a, cap, h1, h2, h3, _⟩ := h; ⟨a, cap, h1, h2, h3⟩
/-- where there is an element -/
theorem SlE.at {α : Type} {σ : View} {E : Enc α} {sz byt : Nat} {sv : Value} {l : List α} (h : SlE σ E sz byt sv l) (h0 : 0 < l.length) : ∃ b off cap, sv = .slice (some ⟨b, off, none⟩) l.length cap ∧ l.length ≤ cap ∧ l.length * byt ≤ 140737488355328 ∧
    ∀ i x, l[i]? = some x → ∃ vs, vs.length = sz ∧ vs.all (·.oneCell') = true ∧ E σ x vs ∧ RdV σ b (off + i * sz) vs := by
  obtain ⟨a, cap, h1, h2, h3, h4⟩ := h
  rcases h4 with h4 | ⟨b, off, rfl, h4⟩
  · omega
  · exact ⟨b, off, cap, h1, h2, h3, h4⟩

def eHash : Enc Nat := fun _ h vs => vs = hashCells h ∧ IsH h
def eOp : Enc OpD := fun _ o vs => vs = o.cells ∧ o.ok
def eStr : Enc ByteArray := fun _ s vs => vs = [.string s] ∧ StrOk s
def eInt : Enc Int := fun _ n vs => vs = [.int .i64 n] ∧ I64 n
def eNat : Enc Nat := fun _ n vs => vs = [.int .i64 (n : Int)]
theorem eHash_mono : Enc.Mono eHash := fun _ _ _ _ _ h => h
theorem eOp_mono : Enc.Mono eOp := fun _ _ _ _ _ h => h
theorem eStr_mono : Enc.Mono eStr := fun _ _ _ _ _ h => h
theorem eInt_mono : Enc.Mono eInt := fun _ _ _ _ _ h => h
theorem eNat_mono : Enc.Mono eNat := fun _ _ _ _ _ h => h

/-- a node's two lists -/
def NodeR (σ : View) (x : NodeD) (pv ov : Value) : Prop := SlE σ eHash 32 32 pv x.ps ∧ SlE σ eOp 37 88 ov x.ops ∧ I64 x.au ∧ I64 x.cl
def eEnt : Enc EntD := fun σ e vs => ∃ pv ov, vs = entCells e.id e.node.au e.node.cl pv ov ∧ IsH e.id ∧ NodeR σ e.node pv ov
theorem NodeR.mono {σ σ' : View} {x : NodeD} {pv ov : Value} (h : NodeR σ x pv ov) (hl : σ.le σ') : NodeR σ' x pv ov :=
  ⟨h.1.mono eHash_mono hl, h.2.1.mono eOp_mono hl, h.2.2⟩
theorem eEnt_mono : Enc.Mono eEnt := fun _ _ _ _ hl ⟨pv, ov, h1, h2, h3⟩ => ⟨pv, ov, h1, h2, h3.mono hl⟩
abbrev Ents (σ : View) (sv : Value) (l : List EntD) : Prop := SlE σ eEnt 36 96 sv l
abbrev Hashes (σ : View) (sv : Value) (l : List Nat) : Prop := SlE σ eHash 32 32 sv l
abbrev Strs (σ : View) (sv : Value) (l : List ByteArray) : Prop := SlE σ eStr 1 16 sv l
abbrev Ops (σ : View) (sv : Value) (l : List OpD) : Prop := SlE σ eOp 37 88 sv l

/-- a prefix -/
theorem SlE.take {α : Type} {σ : View} {E : Enc α} {sz byt : Nat} {a : Option Addr} {k cap : Nat} {l : List α} (h : SlE σ E sz byt (.slice a k cap) l) (i : Nat) (hi : i ≤ l.length) : SlE σ E sz byt (.slice a i cap) (l.take i) := by
  obtain ⟨a', cap', h1, h2, h3, h4⟩ := h
  cases h1
  refine ⟨a, cap, by rw [List.length_take, Nat.min_eq_left hi], by rw [List.length_take, Nat.min_eq_left hi]; omega, Nat.le_trans (Nat.mul_le_mul_right _ (by rw [List.length_take]; omega)) h3, ?_⟩
  rcases h4 with h4 | ⟨b, off, ha, h4⟩
  · exact .inl (by rw [List.length_take]; omega)
  · refine .inr ⟨b, off, ha, fun j x hj => h4 j x ?_⟩
    have hlt := (List.getElem?_eq_some_iff.1 hj).1
    rw [List.length_take] at hlt
    rw [List.getElem?_take_of_lt (by omega)] at hj
    exact hj

/-- a call of a function that hands back one value and leaves what is known and owned as it is -/
def TriP (P : Program) (f : FuncId) (args : Array Value) (σ : View) (v : Value) : Prop := Tri P f args σ [] (fun v' σ' H' => v' = v ∧ σ' = σ ∧ H' = [])
/-- likewise, with what is said of the value -/
def TriQ (P : Program) (f : FuncId) (args : Array Value) (σ : View) (J : Value → Prop) : Prop := Tri P f args σ [] (fun v' σ' H' => J v' ∧ σ' = σ ∧ H' = [])

section
variable {P : Program} {r : Option Nat} {ops : Array Oper} {Q : Exit → Act → World → Prop} {n : Nat} {d : List Deferred} {m : Slots} {σ : View} {H : HList}

theorem call_run {f : FuncId} {xs : List Operand} {vs : List Value} {ats : Array TypeId} {dst : Option Tmp} {ty : TypeId} {pos : String} {af : Array Edge} {g : Option (Nat × Bool)}
    (hx : evs m xs = some vs) (hf : ∀ args w, (callFunc f args).run P w = .ok (.enter f args) w) (ρ : Operand → Value) (w : World) (ha : Agree ρ m) :
    (execOp ρ ⟨dst, .call { callee := .value (.func f), args := xs.toArray, argTypes := ats }, ty, pos, af, g⟩).run P w = .ok (.enter f vs.toArray) w := by
  have h1 := evs_map hx ha
  have hfv : ρ (.func f) = .func (.func f) #[] #[] := ha (.func f) _ rfl
  simp only [execOp, resolve, h1, hfv, Deferred.ofValue, Sem.run_bind, Sem.run_pure, Result.andThen_ok, invoke]
  have := hf (#[] ++ vs.toArray ++ #[]) w
  simpa using this

theorem WL.call {t : Tmp} {f : FuncId} {xs : List Operand} {vs : List Value} {ats : Array TypeId} {ty : TypeId} {pos : String} {af : Array Edge} {rest : List Oper} {H0 Hr : HList} {R : Value → View → HList → Prop}
    (hx : evs m xs = some vs) (hf : ∀ args w, (callFunc f args).run P w = .ok (.enter f args) w) (hH : (H0 ++ Hr).Perm H) (hcall : Tri P f vs.toArray σ H0 R)
    (h : ∀ v σ' H', R v σ' H' → σ.le σ' → WL P r ops Q rest n d ((t, v) :: m) σ' (H' ++ Hr)) (ht : Nat.blt t n = true := by rfl) :
    WL P r ops Q (⟨some t, .call { callee := .value (.func f), args := xs.toArray, argTypes := ats }, ty, pos, af, none⟩ :: rest) n d m σ H :=
  wl_call ⟨_, rfl⟩ (fun _ _ => wanted_none rfl) (fun t' e => by cases e; exact ht) (fun ρ w ha _ => call_run hx hf ρ w ha) hH hcall h
/-- a call whose value is told -/
theorem WL.callP {t : Tmp} {f : FuncId} {xs : List Operand} {vs : List Value} {ats : Array TypeId} {ty : TypeId} {pos : String} {af : Array Edge} {rest : List Oper} {v : Value}
    (hx : evs m xs = some vs) (hf : ∀ args w, (callFunc f args).run P w = .ok (.enter f args) w) (hcall : TriP P f vs.toArray σ v)
    (h : WL P r ops Q rest n d ((t, v) :: m) σ H) (ht : Nat.blt t n = true := by rfl) :
    WL P r ops Q (⟨some t, .call { callee := .value (.func f), args := xs.toArray, argTypes := ats }, ty, pos, af, none⟩ :: rest) n d m σ H :=
  WL.call (Hr := H) hx hf (List.Perm.refl _) hcall (fun v' σ' H' ⟨e1, e2, e3⟩ _ => by subst e1; subst e2; subst e3; exact h) ht
theorem WL.callQ {t : Tmp} {f : FuncId} {xs : List Operand} {vs : List Value} {ats : Array TypeId} {ty : TypeId} {pos : String} {af : Array Edge} {rest : List Oper} {J : Value → Prop}
    (hx : evs m xs = some vs) (hf : ∀ args w, (callFunc f args).run P w = .ok (.enter f args) w) (hcall : TriQ P f vs.toArray σ J)
    (h : ∀ v, J v → WL P r ops Q rest n d ((t, v) :: m) σ H) (ht : Nat.blt t n = true := by rfl) :
    WL P r ops Q (⟨some t, .call { callee := .value (.func f), args := xs.toArray, argTypes := ats }, ty, pos, af, none⟩ :: rest) n d m σ H :=
  WL.call (Hr := H) hx hf (List.Perm.refl _) hcall (fun v' σ' H' ⟨e1, e2, e3⟩ _ => by subst e2; subst e3; exact h v' e1) ht
/-- a guarded call that runs -/
theorem WL.gcallP {t u : Tmp} {f : FuncId} {xs : List Operand} {vs : List Value} {ats : Array TypeId} {ty : TypeId} {pos : String} {af : Array Edge} {rest : List Oper} {v : Value} {j : Nat} {b want : Bool}
    (hj : (ops[j]?).bind (·.dst) = some u) (hu : get m u = some (.bool b)) (hb : (b == want) = true)
    (hx : evs m xs = some vs) (hf : ∀ args w, (callFunc f args).run P w = .ok (.enter f args) w) (hcall : TriP P f vs.toArray σ v)
    (h : WL P r ops Q rest n d ((t, v) :: m) σ H) (ht : Nat.blt t n = true := by rfl) :
    WL P r ops Q (⟨some t, .call { callee := .value (.func f), args := xs.toArray, argTypes := ats }, ty, pos, af, some (j, want)⟩ :: rest) n d m σ H :=
  wl_call (Hr := H) ⟨_, rfl⟩ (fun _ hf => by rw [wanted_guard rfl hj hf hu]; exact hb) (fun t' e => by cases e; exact ht) (fun ρ w ha _ => call_run hx hf ρ w ha) (List.Perm.refl _) hcall
    (fun v' σ' H' ⟨e1, e2, e3⟩ _ => by subst e1; subst e2; subst e3; exact h)
end

section
variable {P : Program} {Q : Exit → Act → World → Prop} {n : Nat} {d : List Deferred} {m : Slots} {σ : View} {H : HList} {σ0 : View} {H0 : HList} {N : Nat} {ops : Array Oper} {listed : Array Bool} {fuel : Nat}
/-- in a region that draws: a call whose value is told -/
theorem SA.callP (i : Nat) {t : Tmp} {f : FuncId} {xs : List Operand} {vs : List Value} {ats : Array TypeId} {ty : TypeId} {pos : String} {af : Array Edge} {g : Option (Nat × Bool)} {v : Value}
    (hi : ops[i]? = some ⟨some t, .call { callee := .value (.func f), args := xs.toArray, argTypes := ats }, ty, pos, af, g⟩) (ht : Nat.blt t n = true) (hw : Wanted ops ⟨some t, .call { callee := .value (.func f), args := xs.toArray, argTypes := ats }, ty, pos, af, g⟩ n d m)
    (hr : Region.ready .any ops listed = [i]) (hx : evs m xs = some vs) (hf : ∀ args w, (callFunc f args).run P w = .ok (.enter f args) w) (hH : H0.Sublist H) (hle : σ0.le σ) (hcall : TriP P f vs.toArray σ v)
    (h : SA P ops Q σ0 H0 N fuel (listed.setIfInBounds i true) n d ((t, v) :: m) σ H) : SA P ops Q σ0 H0 N (fuel + 1) listed n d m σ H :=
  SA.call (Hr := H) i hi (fun t' e => by cases e; exact ht) hw hr (fun ρ w ha _ => call_run hx hf ρ w ha) (List.Perm.refl _) hcall (.inr ⟨hH, hle⟩)
    (fun v' σ' H' ⟨e1, e2, e3⟩ _ => by subst e1; subst e2; subst e3; exact h)
theorem SA.callQ (i : Nat) {t : Tmp} {f : FuncId} {xs : List Operand} {vs : List Value} {ats : Array TypeId} {ty : TypeId} {pos : String} {af : Array Edge} {g : Option (Nat × Bool)} {J : Value → Prop}
    (hi : ops[i]? = some ⟨some t, .call { callee := .value (.func f), args := xs.toArray, argTypes := ats }, ty, pos, af, g⟩) (ht : Nat.blt t n = true) (hw : Wanted ops ⟨some t, .call { callee := .value (.func f), args := xs.toArray, argTypes := ats }, ty, pos, af, g⟩ n d m)
    (hr : Region.ready .any ops listed = [i]) (hx : evs m xs = some vs) (hf : ∀ args w, (callFunc f args).run P w = .ok (.enter f args) w) (hH : H0.Sublist H) (hle : σ0.le σ) (hcall : TriQ P f vs.toArray σ J)
    (h : ∀ v, J v → SA P ops Q σ0 H0 N fuel (listed.setIfInBounds i true) n d ((t, v) :: m) σ H) : SA P ops Q σ0 H0 N (fuel + 1) listed n d m σ H :=
  SA.call (Hr := H) i hi (fun t' e => by cases e; exact ht) hw hr (fun ρ w ha _ => call_run hx hf ρ w ha) (List.Perm.refl _) hcall (.inr ⟨hH, hle⟩)
    (fun v' σ' H' ⟨e1, e2, e3⟩ _ => by subst e2; subst e3; exact h v' e1)
/-- in a region that draws: a call of any make -/
theorem SA.callR (i : Nat) {t : Tmp} {f : FuncId} {xs : List Operand} {vs : List Value} {ats : Array TypeId} {ty : TypeId} {pos : String} {af : Array Edge} {g : Option (Nat × Bool)} {H1 Hr : HList} {R : Value → View → HList → Prop}
    (hi : ops[i]? = some ⟨some t, .call { callee := .value (.func f), args := xs.toArray, argTypes := ats }, ty, pos, af, g⟩) (ht : Nat.blt t n = true) (hw : Wanted ops ⟨some t, .call { callee := .value (.func f), args := xs.toArray, argTypes := ats }, ty, pos, af, g⟩ n d m)
    (hr : Region.ready .any ops listed = [i]) (hx : evs m xs = some vs) (hf : ∀ args w, (callFunc f args).run P w = .ok (.enter f args) w) (hH : (H1 ++ Hr).Perm H) (hk : N ≤ i ∨ (H0.Sublist Hr ∧ σ0.le σ)) (hcall : Tri P f vs.toArray σ H1 R)
    (h : ∀ v σ' H', R v σ' H' → σ.le σ' → SA P ops Q σ0 H0 N fuel (listed.setIfInBounds i true) n d ((t, v) :: m) σ' (H' ++ Hr)) : SA P ops Q σ0 H0 N (fuel + 1) listed n d m σ H :=
  SA.call i hi (fun t' e => by cases e; exact ht) hw hr (fun ρ w ha _ => call_run hx hf ρ w ha) hH hcall hk h
end

/-! ### '&&' and '||' -/
theorem Covers.push {m m0 : Slots} {k : Nat} {v : Value} (h : Covers m m0) (hk : get m0 k = none) : Covers ((k, v) :: m) m0 := fun i u hu => by
  simp only [get]
  by_cases e : k = i
  · subst e; rw [hk] at hu; cases hu
  · rw [beq_ne e]; exact h i u hu
theorem Covers.opv {m m0 : Slots} (h : Covers m m0) {x : Operand} {v : Value} (hx : opv m0 x = some v) : opv m x = some v := by
  cases x with
  | tmp t => exact h t v hx
  | const c => exact hx
  | global g => exact hx
  | func f => exact hx
theorem gT {p : Prop} {_ip : Decidable p} (hp : p) : (decide p == true) = true := by simp [hp]
theorem gF {p : Prop} {_ip : Decidable p} (hp : ¬ p) : (decide p == false) = true := by simp [hp]
theorem sT {p : Prop} {_ip : Decidable p} (hp : ¬ p) : (decide p == true) = false := by simp [hp]
theorem sF {p : Prop} {_ip : Decidable p} (hp : p) : (decide p == false) = false := by simp [hp]
theorem Wanted.covers {ops : Array Oper} {o : Oper} {n : Nat} {d : List Deferred} {m m0 : Slots} (h : Wanted ops o n d m0) (hc : Covers m m0) : Wanted ops o n d m := fun a hf => h a (hf.weak hc)

section
variable {P : Program} {r : Option Nat} {ops : Array Oper} {Q : Exit → Act → World → Prop} {n : Nat} {d : List Deferred} {m : Slots} {σ : View} {H : HList}
  {σ0 : View} {H0 : HList} {N : Nat} {listed : Array Bool} {fuel : Nat}

theorem pick_eval {a : Act} {c x y : Operand} {b : Bool} {t : Option Tmp} {ty : TypeId} {pos : String} {af : Array Edge} {g : Option (Nat × Bool)} {w : World} (hc : a.eval c = .bool b) :
    (execOp a.eval ⟨t, .pick c x y, ty, pos, af, g⟩).run P w = .ok (.value (if b then a.eval x else a.eval y)) w := by
  cases b <;> simp [execOp, hc, asBool]

theorem wanted_undef {o : Oper} {j : Nat} {want : Bool} {t : Tmp} {a : Act} (hg : o.guard = some (j, want)) (hj : (ops[j]?).bind (·.dst) = some t) (hf : Fr n d a m) (ht : get m t = some undef) :
    Region.wanted o (yielded ops a.tmps) = false := by
  simp [Region.wanted, hg, yielded, hj, hf.slot _ _ ht, undef]
/-- an operation whose guard was itself passed over -/
theorem WL.gskipU {t u : Tmp} {op : Op} {ty : TypeId} {pos : String} {af : Array Edge} {rest : List Oper} {j : Nat} {want : Bool}
    (hj : (ops[j]?).bind (·.dst) = some u) (hu : get m u = some undef)
    (h : WL P r ops Q rest n d ((t, undef) :: m) σ H) (ht : Nat.blt t n = true := by rfl) : WL P r ops Q (⟨some t, op, ty, pos, af, some (j, want)⟩ :: rest) n d m σ H := fun a w hf hs => by
  have hw := wanted_undef (o := ⟨some t, op, ty, pos, af, some (j, want)⟩) (ops := ops) rfl hj hf hu
  simp only [wpListIn, hw]
  exact ⟨fun _ _ => trivial, h _ w (hf.put undef ht) hs⟩
theorem SA.gskipU (i : Nat) {o : Oper} {t u : Tmp} {j : Nat} {want : Bool} (hok : takeOk ops listed N i = true) (hi : ops[i]? = some o) (hd : o.dst = some t) (ht : Nat.blt t n = true) (hg : o.guard = some (j, want))
    (hj : (ops[j]?).bind (·.dst) = some u) (hu : get m u = some undef) (hH : H0.Sublist H) (hle : σ0.le σ)
    (h : SA P ops Q σ0 H0 N fuel (listed.setIfInBounds i true) n d ((t, undef) :: m) σ H) : SA P ops Q σ0 H0 N (fuel + 1) listed n d m σ H := fun a w hf hs => by
  simp only [takeOk, Bool.and_eq_true] at hok
  obtain ⟨⟨⟨hp, hr⟩, hfree⟩, hph⟩ := hok
  exact AnyC.first hp hi (phaseOk_spec hph) fuel listed a w (fun j oj hj hne hun hno => Region.free_spec hi hfree j oj hj hne hun hno) (by simpa using hr)
    (.inr ⟨wanted_undef hg hj hf hu, rfl⟩) ((hs.weak hH).le hle) (by rw [hd]; exact h _ w (hf.put undef ht) hs)

theorem WL.pickv {u t : Tmp} {x y : Operand} {ty : TypeId} {pos : String} {af : Array Edge} {g : Option (Nat × Bool)} {rest : List Oper} {b : Bool} {v : Value} {m1 : Slots} (hcov : Covers m1 m)
    (hw : Wanted ops ⟨some t, .pick (.tmp u) x y, ty, pos, af, g⟩ n d m) (hu : get m1 u = some (.bool b)) (hv : opv m1 (if b then x else y) = some v) (ht : Nat.blt t n = true)
    (h : WL P r ops Q rest n d ((t, v) :: m) σ H) : WL P r ops Q (⟨some t, .pick (.tmp u) x y, ty, pos, af, g⟩ :: rest) n d m1 σ H := by
  refine wl_run (v := v) rfl ht rfl (hw.covers hcov) (Pur.run fun ρ w ha _ => ?_) (fun a w hf hs => h a w (hf.weak fun i u hu => ?_) hs)
  · have h1 := ha (.tmp u) _ hu
    have h2 := ha _ _ hv
    cases b <;> simp [execOp, h1, asBool] <;> simpa using h2
  · simp only [get] at hu ⊢
    cases hb : Nat.beq t i
    · rw [hb] at hu; exact hcov i u hu
    · rw [hb] at hu; exact hu

theorem WL.andp {l rest : List Oper} {u t : Tmp} {x : Operand} {ty : TypeId} {pos : String} {af : Array Edge} {g : Option (Nat × Bool)} {p q : Prop} {_ip : Decidable p} {_iq : Decidable q}
    (hu : get m u = some (.bool (decide p)))
    (ht : p → (∀ m1, Covers m1 m → opv m1 x = some (.bool (decide q)) → WL P r ops Q (⟨some t, .pick (.tmp u) x (.const (.bool false)), ty, pos, af, g⟩ :: rest) n d m1 σ H) → WL P r ops Q l n d m σ H)
    (hf : ¬ p → (∀ m1, Covers m1 m → WL P r ops Q (⟨some t, .pick (.tmp u) x (.const (.bool false)), ty, pos, af, g⟩ :: rest) n d m1 σ H) → WL P r ops Q l n d m σ H)
    (hw : Wanted ops ⟨some t, .pick (.tmp u) x (.const (.bool false)), ty, pos, af, g⟩ n d m) (htn : Nat.blt t n = true)
    (h : WL P r ops Q rest n d ((t, .bool (decide (p ∧ q))) :: m) σ H) : WL P r ops Q l n d m σ H := by
  by_cases hp : p
  · refine ht hp fun m1 hc hx => WL.pickv hc hw (b := true) (by rw [hc u _ hu]; simp [hp]) hx htn ?_
    simpa [hp] using h
  · refine hf hp fun m1 hc => WL.pickv hc hw (b := false) (by rw [hc u _ hu]; simp [hp]) rfl htn ?_
    simpa [hp] using h
theorem WL.orp {l rest : List Oper} {u t : Tmp} {x : Operand} {ty : TypeId} {pos : String} {af : Array Edge} {g : Option (Nat × Bool)} {p q : Prop} {_ip : Decidable p} {_iq : Decidable q}
    (hu : get m u = some (.bool (decide p)))
    (ht : ¬ p → (∀ m1, Covers m1 m → opv m1 x = some (.bool (decide q)) → WL P r ops Q (⟨some t, .pick (.tmp u) (.const (.bool true)) x, ty, pos, af, g⟩ :: rest) n d m1 σ H) → WL P r ops Q l n d m σ H)
    (hf : p → (∀ m1, Covers m1 m → WL P r ops Q (⟨some t, .pick (.tmp u) (.const (.bool true)) x, ty, pos, af, g⟩ :: rest) n d m1 σ H) → WL P r ops Q l n d m σ H)
    (hw : Wanted ops ⟨some t, .pick (.tmp u) (.const (.bool true)) x, ty, pos, af, g⟩ n d m) (htn : Nat.blt t n = true)
    (h : WL P r ops Q rest n d ((t, .bool (decide (p ∨ q))) :: m) σ H) : WL P r ops Q l n d m σ H := by
  by_cases hp : p
  · refine hf hp fun m1 hc => WL.pickv hc hw (b := true) (by rw [hc u _ hu]; simp [hp]) rfl htn ?_
    simpa [hp] using h
  · refine ht hp fun m1 hc hx => WL.pickv hc hw (b := false) (by rw [hc u _ hu]; simp [hp]) hx htn ?_
    simpa [hp] using h

theorem SA.pickv (i : Nat) {u t : Tmp} {x y : Operand} {ty : TypeId} {pos : String} {af : Array Edge} {g : Option (Nat × Bool)} {b : Bool} {v : Value} {m1 : Slots} (hcov : Covers m1 m)
    (hok : takeOk ops listed N i = true) (hi : ops[i]? = some ⟨some t, .pick (.tmp u) x y, ty, pos, af, g⟩) (hH : H0.Sublist H) (hle : σ0.le σ)
    (hw : Wanted ops ⟨some t, .pick (.tmp u) x y, ty, pos, af, g⟩ n d m) (hu : get m1 u = some (.bool b)) (hv : opv m1 (if b then x else y) = some v) (ht : Nat.blt t n = true)
    (h : SA P ops Q σ0 H0 N fuel (listed.setIfInBounds i true) n d ((t, v) :: m) σ H) : SA P ops Q σ0 H0 N (fuel + 1) listed n d m1 σ H := by
  refine SA.take (v := v) i hok hi rfl ht (hw.covers hcov) hH hle (fun ρ w ha _ => ?_) (fun a w hf hs => h a w (hf.weak fun i u hu => ?_) hs)
  · have h1 := ha (.tmp u) _ hu
    have h2 := ha _ _ hv
    cases b <;> simp [execOp, h1, asBool] <;> simpa using h2
  · simp only [get] at hu ⊢
    cases hb : Nat.beq t i
    · rw [hb] at hu; exact hcov i u hu
    · rw [hb] at hu; exact hu
theorem SA.andp (i : Nat) {fuel' : Nat} {listed' : Array Bool} {u t : Tmp} {x : Operand} {ty : TypeId} {pos : String} {af : Array Edge} {g : Option (Nat × Bool)} {p q : Prop} {_ip : Decidable p} {_iq : Decidable q}
    (hu : get m u = some (.bool (decide p)))
    (ht : p → (∀ m1, Covers m1 m → opv m1 x = some (.bool (decide q)) → SA P ops Q σ0 H0 N (fuel' + 1) listed' n d m1 σ H) → SA P ops Q σ0 H0 N fuel listed n d m σ H)
    (hf : ¬ p → (∀ m1, Covers m1 m → SA P ops Q σ0 H0 N (fuel' + 1) listed' n d m1 σ H) → SA P ops Q σ0 H0 N fuel listed n d m σ H)
    (hok : takeOk ops listed' N i = true) (hi : ops[i]? = some ⟨some t, .pick (.tmp u) x (.const (.bool false)), ty, pos, af, g⟩) (hH : H0.Sublist H) (hle : σ0.le σ)
    (hw : Wanted ops ⟨some t, .pick (.tmp u) x (.const (.bool false)), ty, pos, af, g⟩ n d m) (htn : Nat.blt t n = true)
    (h : SA P ops Q σ0 H0 N fuel' (listed'.setIfInBounds i true) n d ((t, .bool (decide (p ∧ q))) :: m) σ H) : SA P ops Q σ0 H0 N fuel listed n d m σ H := by
  by_cases hp : p
  · refine ht hp fun m1 hc hx => SA.pickv i hc hok hi hH hle hw (b := true) (by rw [hc u _ hu]; simp [hp]) hx htn ?_
    simpa [hp] using h
  · refine hf hp fun m1 hc => SA.pickv i hc hok hi hH hle hw (b := false) (by rw [hc u _ hu]; simp [hp]) rfl htn ?_
    simpa [hp] using h
theorem SA.orp (i : Nat) {fuel' : Nat} {listed' : Array Bool} {u t : Tmp} {x : Operand} {ty : TypeId} {pos : String} {af : Array Edge} {g : Option (Nat × Bool)} {p q : Prop} {_ip : Decidable p} {_iq : Decidable q}
    (hu : get m u = some (.bool (decide p)))
    (ht : ¬ p → (∀ m1, Covers m1 m → opv m1 x = some (.bool (decide q)) → SA P ops Q σ0 H0 N (fuel' + 1) listed' n d m1 σ H) → SA P ops Q σ0 H0 N fuel listed n d m σ H)
    (hf : p → (∀ m1, Covers m1 m → SA P ops Q σ0 H0 N (fuel' + 1) listed' n d m1 σ H) → SA P ops Q σ0 H0 N fuel listed n d m σ H)
    (hok : takeOk ops listed' N i = true) (hi : ops[i]? = some ⟨some t, .pick (.tmp u) (.const (.bool true)) x, ty, pos, af, g⟩) (hH : H0.Sublist H) (hle : σ0.le σ)
    (hw : Wanted ops ⟨some t, .pick (.tmp u) (.const (.bool true)) x, ty, pos, af, g⟩ n d m) (htn : Nat.blt t n = true)
    (h : SA P ops Q σ0 H0 N fuel' (listed'.setIfInBounds i true) n d ((t, .bool (decide (p ∨ q))) :: m) σ H) : SA P ops Q σ0 H0 N fuel listed n d m σ H := by
  by_cases hp : p
  · refine hf hp fun m1 hc => SA.pickv i hc hok hi hH hle hw (b := true) (by rw [hc u _ hu]; simp [hp]) rfl htn ?_
    simpa [hp] using h
  · refine ht hp fun m1 hc hx => SA.pickv i hc hok hi hH hle hw (b := false) (by rw [hc u _ hu]; simp [hp]) hx htn ?_
    simpa [hp] using h
end

/-- an array's length, its elements' type, their cells -/
def arE (P : Program) (t : TypeId) : Option (Nat × TypeId × Nat) :=
  match P.underlying t with
  | some (.array l e) => (P.info? e).map fun i => (l, e, i.size)
  | _ => none
theorem Pur.indexAddrA {P : Program} {m : Slots} {σ : View} {H : HList} {dst : Option Tmp} {ty : TypeId} {pos : String} {af : Array Edge} {g : Option (Nat × Bool)} {t l e k : Nat} {x y : Operand} {b off i : Nat} {ki : IntKind} (hx : opv m x = some (.pointer (some ⟨b, off, none⟩))) (hy : opv m y = some (.int ki (i : Int))) (ht : arE P t = some (l, e, k)) (hi : i < l) :
    Pur P m ⟨dst, .indexAddr t x y, ty, pos, af, g⟩ σ H (.pointer (some ⟨b, off + i * k, none⟩)) := fun ρ w ha _ => by
  unfold arE at ht
  split at ht
  · rename_i l' e' hu
    simp at ht
    obtain ⟨j, hj, rfl, rfl, rfl⟩ := ht
    simp [execOp, Instr.indexAt, asIntOf, underlying, hu, ha x _ hx, ha y _ hy, sizeOf, typeInfo, hj, hi, add_none, Instr.sureAddr]
  · cases ht

/-- what lies in an owned row that a list tells -/
theorem Rd.own_map {α : Type} {σ : View} {H : HList} {b i : Nat} {T : TypeId} {xs : List α} {f : α → Value} {x : α} (h : (b, rowO T (xs.map f)) ∈ H) (hx : xs[i]? = some x) : Rd σ H b (0 + i * 1) [f x] :=
  Rd.own1 h (by simp [hx])

/-! ### a quiet call in a region that draws -/
theorem Calls_class {P : Program} {f : FuncId} {args : Array Value} {σ : View} {v : Value} (h : TriP P f args σ v) {H : HList} {w : World} (hs : St σ H w) :
    Calls P f args w (fun e w' => e = .returned v ∧ St σ H w') :=
  (h H w (by simpa using hs)).mono fun e w' ⟨v', σ', H', he, ⟨h1, h2, h3⟩, _, hs'⟩ => by subst h1; subst h2; subst h3; exact ⟨he, by simpa using hs'⟩

end Go.Sl
namespace Go.Sl
open Go

/-! ### a struct's or an array's literal -/
def places (P : Program) (t : TypeId) : Option (List (Nat × Nat)) :=
  match P.underlying t with
  | some (.struct fs) => fs.toList.mapM fun f => (P.info? f.type).map fun i => (f.offset, i.size)
  | _ => none
def fillL (pl : List (Nat × Nat)) : List Value → List (Nat × Value) → Option (List Value)
  | z, [] => some z
  | z, (i, v) :: r => match pl[i]? with
    | some (off, sz) => bif Nat.beq v.cells.size sz && Nat.ble (off + sz) z.length then fillL pl (lput z off v.cells.toList) r else none
    | none => none

def evp (m : Slots) : List (Nat × Operand) → Option (List (Nat × Value))
  | [] => some []
  | (i, x) :: l => match opv m x, evp m l with
    | some v, some vs => some ((i, v) :: vs)
    | _, _ => none
theorem evp_spec {m : Slots} {ρ : Operand → Value} (ha : Agree ρ m) : ∀ (l : List (Nat × Operand)) (vs : List (Nat × Value)), evp m l = some vs → l.map (fun p => (p.1, ρ p.2)) = vs
  | [], vs, h => by simp [evp] at h; subst h; rfl
  | (i, x) :: l, vs, h => by
    simp only [evp] at h
    split at h
    · rename_i v us hv hu
      simp at h; subst h
      simp [ha x v hv, evp_spec ha l us hu]
    · cases h

theorem fill_fillL (pl : List (Nat × Nat)) : ∀ (parts : List (Nat × Value)) (z l : List Value), fillL pl z parts = some l → Instr.fill (fun i => pl[i]?) z.toArray parts = some l.toArray
  | [], z, l, h => by simp [fillL] at h; subst h; rfl
  | (i, v) :: r, z, l, h => by
    simp only [fillL] at h
    split at h
    · rename_i off sz hp
      cases hc : (Nat.beq v.cells.size sz && Nat.ble (off + sz) z.length)
      · rw [hc] at h; cases h
      · rw [hc] at h
        simp only [cond_true] at h
        simp only [Bool.and_eq_true] at hc
        have h1 : v.cells.size = sz := Nat.eq_of_beq_eq_true hc.1
        have h2 : off + sz ≤ z.length := Nat.le_of_ble_eq_true hc.2
        subst h1
        simp only [Instr.fill, hp]
        rw [if_neg (by simp; omega)]
        have hfold : (Array.foldl (fun (cs : Array Value) (x : Value × Nat) => cs.setIfInBounds (off + x.2) x.1) z.toArray v.cells.zipIdx) = (lput z off v.cells.toList).toArray := by
          rw [← Array.foldl_toList, Array.toList_zipIdx]
          have := foldl_set off v.cells.toList 0 z.toArray (by simp; omega)
          simpa [lput] using this
        have e : (fun (cs : Array Value) (x : Value × Nat) => match x with | (c, j) => cs.setIfInBounds (off + j) c) = (fun (cs : Array Value) (x : Value × Nat) => cs.setIfInBounds (off + x.2) x.1) := by funext cs x; rfl
        rw [e, hfold]
        exact fill_fillL pl r _ l h
    · cases h

theorem places_run {P : Program} (w : World) : ∀ (fs : List Field) (pl : List (Nat × Nat)), (fs.mapM fun f => (P.info? f.type).map fun i => (f.offset, i.size)) = some pl →
    (fs.mapM (m := Sem) fun f => do pure (f.offset, ← sizeOf f.type)).run P w = .ok pl w
  | [], pl, h => by simp at h; subst h; simp
  | f :: fs, pl, h => by
    rw [List.mapM_cons] at h
    simp only [Option.bind_eq_bind, Option.bind_eq_some_iff] at h
    obtain ⟨x, hx, y, hy, hp⟩ := h
    simp at hx hp
    obtain ⟨i, hi, rfl⟩ := hx
    subst hp
    have ih := places_run w fs y hy
    rw [List.mapM_cons]
    simp [sizeOf, typeInfo, hi] at ih ⊢
    rw [ih]
    rfl

section
variable {P : Program} {m : Slots} {σ : View} {H : HList} {dst : Option Tmp} {ty : TypeId} {pos : String} {af : Array Edge} {g : Option (Nat × Bool)}
theorem Pur.build {t : TypeId} {parts : List (Nat × Operand)} {pvs : List (Nat × Value)} {pl : List (Nat × Nat)} {z l : List Value} (hp : places P t = some pl) (hz : zc P t = some z) (hx : evp m parts = some pvs) (hl : fillL pl z pvs = some l) :
    Pur P m ⟨dst, .build t parts.toArray, ty, pos, af, g⟩ σ H (.agg l.toArray) := fun ρ w ha _ => by
  obtain ⟨i, zz, hi, hzz, rfl⟩ := zc_spec hz
  unfold places at hp
  split at hp
  · rename_i fs hu
    have h1 := places_run (P := P) w fs.toList pl hp
    have h2 := fill_fillL pl pvs _ _ hl
    have h3 : (parts.toArray.map fun (i, x) => (i, ρ x)).toList = pvs := by rw [← evp_spec ha parts pvs hx]; simp
    show ((do pure (.value (← Instr.build t (parts.toArray.map fun (i, x) => (i, ρ x)))) : Sem Next)).run P w = _
    have h4 : (fs.mapM (m := Sem) fun f => do pure (f.offset, ← sizeOf f.type)).run P w = .ok pl.toArray w := by
      rw [Array.mapM_eq_mapM_toList]
      simp at h1 ⊢
      rw [h1]; rfl
    simp only [Instr.build, zeroValue, typeInfo, hi, hzz, underlying, hu, Sem.run_bind, run_program, Result.andThen_ok, Sem.run_pure, h4]
    have h5 : Instr.fill (fun i => (pl.toArray)[i]?) zz.cells pvs = some l.toArray := by simpa using h2
    rw [h3, h5]
    simp
  · cases hp
/-- no part is given: an array -/
theorem Pur.buildA0 {t l e k : Nat} {z : List Value} (hz : zc P t = some z) (ht : arE P t = some (l, e, k)) :
    Pur P m ⟨dst, .build t #[], ty, pos, af, g⟩ σ H (.agg z.toArray) := fun ρ w ha _ => by
  obtain ⟨i, zz, hi, hzz, rfl⟩ := zc_spec hz
  unfold arE at ht
  split at ht
  · rename_i l' e' hu
    simp at ht
    obtain ⟨j, hj, rfl, rfl, rfl⟩ := ht
    simp [execOp, Instr.build, zeroValue, typeInfo, hi, hzz, underlying, hu, sizeOf, hj, Instr.fill]
  · cases ht
/-- the first elements of an array are given, each of one cell -/
theorem Pur.buildA {t l e : Nat} {parts : List (Nat × Operand)} {pvs : List (Nat × Value)} {z us : List Value} (hz : zc P t = some z) (ht : arE P t = some (l, e, 1)) (hx : evp m parts = some pvs)
    (hl : fillL ((List.range l).map fun i => (i, 1)) z pvs = some us) (hlt : pvs.all (fun p => decide (p.1 < l)) = true) :
    Pur P m ⟨dst, .build t parts.toArray, ty, pos, af, g⟩ σ H (.agg us.toArray) := fun ρ w ha _ => by
  obtain ⟨i, zz, hi, hzz, rfl⟩ := zc_spec hz
  unfold arE at ht
  split at ht
  · rename_i l' e' hu
    simp at ht
    obtain ⟨j, hj, rfl, rfl, hs⟩ := ht
    have h2 := fill_fillL _ pvs _ _ hl
    have h3 : (parts.toArray.map fun (i, x) => (i, ρ x)).toList = pvs := by rw [← evp_spec ha parts pvs hx]; simp
    have key : ∀ (ps : List (Nat × Value)) (c : Array Value), (∀ p ∈ ps, p.1 < l') → Instr.fill (fun i => some (i * 1, 1)) c ps = Instr.fill (fun i => ((List.range l').map fun i => (i, 1))[i]?) c ps := by
      intro ps
      induction ps with
      | nil => intro c _; rfl
      | cons p ps ih =>
        intro c h
        have hp := h p (by simp)
        have e1 : ((List.range l').map fun i => (i, 1))[p.1]? = some (p.1, 1) := by simp [hp]
        obtain ⟨q, v⟩ := p
        simp only [Instr.fill, e1, Nat.mul_one]
        split
        · rfl
        · have h6 := fun c => ih c (fun p hp => h p (by simp [hp]))
          simp only [Nat.mul_one] at h6
          exact h6 _
    show ((do pure (.value (← Instr.build t (parts.toArray.map fun (i, x) => (i, ρ x)))) : Sem Next)).run P w = _
    simp only [Instr.build, zeroValue, typeInfo, hi, hzz, underlying, hu, sizeOf, hj, hs, Sem.run_bind, run_program, Result.andThen_ok, Sem.run_pure]
    have h5 : Instr.fill (fun i => some (i * 1, 1)) zz.cells pvs = some us.toArray := by
      rw [key pvs zz.cells (by simpa using hlt)]; simpa using h2
    rw [h3, h5]
    simp
  · cases ht
end
end Go.Sl
namespace Go.Sl
open Go

section
variable {P : Program} {Q : Exit → Act → World → Prop} {n : Nat} {d : List Deferred} {m : Slots} {σ : View} {H : HList} {σ0 : View} {H0 : HList} {N : Nat} {ops : Array Oper} {listed : Array Bool} {fuel : Nat}

/-! ### two operations may come up -/
/-- operation i comes up, now, whatever else may -/
def SStep (P : Program) (ops : Array Oper) (Q : Exit → Act → World → Prop) (σ0 : View) (H0 : HList) (N : Nat) (fuel : Nat) (listed : Array Bool) (n : Nat) (d : List Deferred) (m : Slots) (σ : View) (H : HList) (i : Nat) : Prop :=
  ∀ a w, Fr n d a m → St σ H w → sOp P ops i (fun a' w' => (N ≤ i ∨ (St σ0 H0 w → St σ0 H0 w')) ∧ AnyC P ops (Q .normal) (St σ0 H0) N fuel (listed.setIfInBounds i true) a' w') a w
theorem SA.two (i j : Nat) (hr : Region.ready .any ops listed = [i, j]) (h1 : SStep P ops Q σ0 H0 N fuel listed n d m σ H i) (h2 : SStep P ops Q σ0 H0 N fuel listed n d m σ H j) : SA P ops Q σ0 H0 N (fuel + 1) listed n d m σ H := fun a w hf hs => by
  refine ⟨fun h0 => (by rw [hr] at h0; cases h0), fun k hk => ?_⟩
  rw [hr] at hk
  simp at hk
  rcases hk with rfl | rfl
  · exact h1 a w hf hs
  · exact h2 a w hf hs
theorem SStep.any (i : Nat) {o : Oper} {t : Tmp} {J : Value → View → HList → Prop} (hi : ops[i]? = some o) (hd : o.dst = some t) (ht : Nat.blt t n = true) (hw : Wanted ops o n d m)
    (hrun : Any P m o σ H J) (hk : ∀ v σ' H', J v σ' H' → N ≤ i ∨ (H0.Sublist H' ∧ σ0.le σ))
    (h : ∀ v σ' H', J v σ' H' → σ.le σ' → SA P ops Q σ0 H0 N fuel (listed.setIfInBounds i true) n d ((t, v) :: m) σ' H') : SStep P ops Q σ0 H0 N fuel listed n d m σ H i := fun a w hf hs => by
  unfold sOp
  simp only [hi, hw a hf, if_true]
  obtain ⟨v, σ', H', w', hrr, hJ, hle, hs'⟩ := hrun a.eval w hf.agree hs
  rw [hrr]
  refine ⟨(hk v σ' H' hJ).imp id fun ⟨h1, h2⟩ _ => (hs'.weak h1).le (View.le_trans h2 hle), ?_⟩
  rw [hd]; exact h v σ' H' hJ hle _ w' (hf.put v ht) hs'
theorem SStep.new (i : Nat) {o : Oper} {t : Tmp} {mk : Nat → Value} {obj : Obj} (hi : ops[i]? = some o) (hd : o.dst = some t) (ht : Nat.blt t n = true) (hw : Wanted ops o n d m)
    (hrun : New P m o σ H mk obj) (hk : N ≤ i ∨ (H0.Sublist H ∧ σ0.le σ))
    (h : ∀ b, SA P ops Q σ0 H0 N fuel (listed.setIfInBounds i true) n d ((t, mk b) :: m) σ ((b, obj) :: H)) : SStep P ops Q σ0 H0 N fuel listed n d m σ H i :=
  SStep.any i hi hd ht hw hrun.any (fun v σ' H' ⟨b, _, _, hH⟩ => hk.imp id fun ⟨h1, h2⟩ => ⟨by subst hH; exact h1.cons _, h2⟩)
    (fun v σ' H' ⟨b, hv, hσ, hH⟩ _ => by subst hv; subst hσ; subst hH; exact h b)
end

section
variable {P : Program} {r : Option Nat} {ops : Array Oper} {Q : Exit → Act → World → Prop} {n : Nat} {d : List Deferred} {m : Slots} {σ : View} {H : HList}

/-! ### results that lie in cells -/
theorem WQ.retC {fn : Func} {a : Tmp} {t : TypeId} {b off k : Nat} {vs : List Value} {R : Value → View → HList → Prop} {σ0 : View} {Hr : HList} (hr : fn.results = #[.cell a t]) (ha : get m a = some (.pointer (some ⟨b, off, none⟩)))
    (ht : tyc P t = some (some k)) (hrd : Rd σ H b off vs) (hk : vs.length = k) (H' : HList) (hs : (H' ++ Hr).Sublist H) (hle : σ0.le σ) (hR : R (.agg vs.toArray) σ H') : WQ (bodyPost P fn (Post R σ0 Hr)) .ret n [] m σ H :=
  ret_run H' .ret (.inl rfl) (fun x w hf hst => by
    have h1 := hf.getD ha
    have h2 := loadVar_runN (P := P) ht hk (hrd.cell hst)
    simp [results, hr] at h1 ⊢
    simp [h1, asAddr, h2]) hs hle hR
theorem WQ.retCT {fn : Func} {a u : Tmp} {t : TypeId} {b off k : Nat} {x : Value} {vs : List Value} {R : Value → View → HList → Prop} {σ0 : View} {Hr : HList} (hr : fn.results = #[.cell a t, .tmp u]) (ha : get m a = some (.pointer (some ⟨b, off, none⟩))) (hu : get m u = some x)
    (ht : tyc P t = some (some k)) (hrd : Rd σ H b off vs) (hk : vs.length = k) (H' : HList) (hs : (H' ++ Hr).Sublist H) (hle : σ0.le σ) (hR : R (.tuple #[.agg vs.toArray, x]) σ H') : WQ (bodyPost P fn (Post R σ0 Hr)) .ret n [] m σ H :=
  ret_run H' .ret (.inl rfl) (fun y w hf hst => by
    have h1 := hf.getD ha
    have h3 := hf.getD hu
    have h2 := loadVar_runN (P := P) ht hk (hrd.cell hst)
    simp [results, hr] at h1 h3 ⊢
    simp [h1, asAddr, h2, h3]) hs hle hR

/-! ### a call of a function value -/
theorem callv_run {f : FuncId} {c : Operand} {xs : List Operand} {vs fs cs : List Value} {ats : Array TypeId} {dst : Option Tmp} {ty : TypeId} {pos : String} {af : Array Edge} {g : Option (Nat × Bool)}
    (hc : opv m c = some (.func (.func f) fs.toArray cs.toArray)) (hx : evs m xs = some vs) (hf : ∀ args w, (callFunc f args).run P w = .ok (.enter f args) w) (ρ : Operand → Value) (w : World) (ha : Agree ρ m) :
    (execOp ρ ⟨dst, .call { callee := .value c, args := xs.toArray, argTypes := ats }, ty, pos, af, g⟩).run P w = .ok (.enter f (fs ++ vs ++ cs).toArray) w := by
  have h1 := evs_map hx ha
  have hfv := ha c _ hc
  simp only [execOp, resolve, h1, hfv, Deferred.ofValue, Sem.run_bind, Sem.run_pure, Result.andThen_ok, invoke]
  have := hf (fs.toArray ++ vs.toArray ++ cs.toArray) w
  simpa using this
theorem WL.callV {t : Tmp} {f : FuncId} {c : Operand} {xs : List Operand} {vs fs cs : List Value} {ats : Array TypeId} {ty : TypeId} {pos : String} {af : Array Edge} {rest : List Oper} {H0 Hr : HList} {R : Value → View → HList → Prop}
    (hc : opv m c = some (.func (.func f) fs.toArray cs.toArray)) (hx : evs m xs = some vs) (hf : ∀ args w, (callFunc f args).run P w = .ok (.enter f args) w) (hH : (H0 ++ Hr).Perm H) (hcall : Tri P f (fs ++ vs ++ cs).toArray σ H0 R)
    (h : ∀ v σ' H', R v σ' H' → σ.le σ' → WL P r ops Q rest n d ((t, v) :: m) σ' (H' ++ Hr)) (ht : Nat.blt t n = true := by rfl) :
    WL P r ops Q (⟨some t, .call { callee := .value c, args := xs.toArray, argTypes := ats }, ty, pos, af, none⟩ :: rest) n d m σ H :=
  wl_call ⟨_, rfl⟩ (fun _ _ => wanted_none rfl) (fun t' e => by cases e; exact ht) (fun ρ w ha _ => callv_run hc hx hf ρ w ha) hH hcall h
theorem WL.callVP {t : Tmp} {f : FuncId} {c : Operand} {xs : List Operand} {vs fs cs : List Value} {ats : Array TypeId} {ty : TypeId} {pos : String} {af : Array Edge} {rest : List Oper} {v : Value}
    (hc : opv m c = some (.func (.func f) fs.toArray cs.toArray)) (hx : evs m xs = some vs) (hf : ∀ args w, (callFunc f args).run P w = .ok (.enter f args) w) (hcall : TriP P f (fs ++ vs ++ cs).toArray σ v)
    (h : WL P r ops Q rest n d ((t, v) :: m) σ H) (ht : Nat.blt t n = true := by rfl) :
    WL P r ops Q (⟨some t, .call { callee := .value c, args := xs.toArray, argTypes := ats }, ty, pos, af, none⟩ :: rest) n d m σ H :=
  WL.callV (Hr := H) hc hx hf (List.Perm.refl _) hcall (fun v' σ' H' ⟨e1, e2, e3⟩ _ => by subst e1; subst e2; subst e3; exact h) ht

/-! a condition that is known already -/
theorem WC.condY {c : Operand} {x y : Code} {p : Prop} {_ip : Decidable p} (hp : p) (hc : opv m c = some (.bool (decide p))) (h : WC P r Q x n d m σ H) : WC P r Q (.cond c x y) n d m σ H :=
  WC.condT (by rw [hc]; simp [hp]) h
theorem WC.condN {c : Operand} {x y : Code} {p : Prop} {_ip : Decidable p} (hp : ¬ p) (hc : opv m c = some (.bool (decide p))) (h : WC P r Q y n d m σ H) : WC P r Q (.cond c x y) n d m σ H :=
  WC.condF (by rw [hc]; simp [hp]) h

/-! a seam: whatever way, the rest is walked once -/
/-- what is asked behind a piece of code, by an assertion -/
theorem WC.cut {c y : Code} (J : Slots → View → HList → Prop) (h2 : ∀ m σ H, J m σ H → WC P r Q y n d m σ H)
    (h1 : (∀ m σ H, (∃ m0 H0, J m0 σ H0 ∧ Covers m m0 ∧ H0.Sublist H) → WC P r Q y n d m σ H) → WC P r (Thn P r y Q) c n d m σ H) : WC P r Q (.seq c y) n d m σ H :=
  WC.seq (h1 fun m σ H ⟨m0, H0, hJ, hc, hs⟩ => (h2 m0 σ H0 hJ).weak hc hs)
end

/-! ### identifiers -/
/-- a struct of a hash and an int -/
def identT (P : Program) (t : TypeId) : Bool :=
  match P.underlying t with
  | some (.struct fs) => (match fs.toList with
    | [f1, f2] => isHash P f1.type && f1.offset == 0 && f2.offset == 32 && f1.name != "_" && f2.name != "_" && (match P.underlying f2.type with | some (.int .i64) => true | _ => false) && tyc P f1.type == some (some 32)
    | _ => false) && !P.stoodInHeld t && !P.eqGuardType P.depth t
  | _ => false
theorem identT_spec {P : Program} {t : TypeId} (h : identT P t = true) : ∃ fs f1 f2, P.underlying t = some (.struct fs) ∧ fs.toList = [f1, f2] ∧ isHash P f1.type = true ∧ f1.offset = 0 ∧ f2.offset = 32 ∧ f1.name ≠ "_" ∧ f2.name ≠ "_" ∧ P.underlying f2.type = some (.int .i64) ∧ tyc P f1.type = some (some 32) ∧ P.stoodInHeld t = false ∧ P.eqGuardType P.depth t = false := by
  unfold identT at h
  split at h
  · rename_i fs hu
    simp only [Bool.and_eq_true, Bool.not_eq_true'] at h
    obtain ⟨⟨h1, h2⟩, h3⟩ := h
    split at h1
    · rename_i f1 f2 hl
      simp only [Bool.and_eq_true, beq_iff_eq, bne_iff_ne] at h1
      obtain ⟨⟨⟨⟨⟨⟨a1, a2⟩, a3⟩, a4⟩, a5⟩, a6⟩, a7⟩ := h1
      refine ⟨fs, f1, f2, hu, hl, a1, a2, a3, a4, a5, ?_, a7, h2, h3⟩
      split at a6
      · assumption
      · cases a6
    · cases h1
  · cases h
theorem equalIn_ident {P : Program} {t : TypeId} (d : Nat) (h : identT P t = true) {a b : Nat} (ha : IsH a) (hb : IsH b) (x y : Int) (w : World) :
    (Op.equalIn (d + 3) t (.agg (identCells a x).toArray) (.agg (identCells b y).toArray)).run P w = .ok (decide (a = b ∧ x = y)) w := by
  obtain ⟨fs, f1, f2, hu, hl, h1, h2, h3, h4, h5, h6, h7, h8, h9⟩ := identT_spec h
  have hfo : P.fieldsOf t = fs := by simp [Program.fieldsOf, hu]
  have hsf : P.underlying t = some (.struct (P.fieldsOf t)) := by rw [hfo]; exact hu
  rw [show d + 3 = (d + 2) + 1 from rfl, run_equalIn_struct w (d + 2) t _ _ hsf h8, hfo, hl]
  have e1 : ∀ (z : Nat) (u : Int), (part f1.type (identCells z u).toArray f1.offset).run P w = .ok (hashV z) w := by
    intro z u
    have hn := hashCells_length z
    have : ((identCells z u).toArray.extract f1.offset (f1.offset + 32)) = (hashCells z).toArray := by
      rw [h2]; unfold identCells
      generalize hashCells z = hz at hn
      apply Array.ext'
      simp [List.take_left' hn]
    simp only [part, Sem.run_bind, isAgg_run h7, Result.andThen_ok, sizeOf_run h7, Option.isSome_some, if_true, Sem.run_pure, this, hashV]
  have hty2 : tyc P f2.type = some none := by simp [tyc, h6]
  have e2 : ∀ (z : Nat) (u : Int), (part f2.type (identCells z u).toArray f2.offset).run P w = .ok (.int .i64 u) w := by
    intro z u
    have hn := hashCells_length z
    have : (identCells z u).toArray[f2.offset]? = some (.int .i64 u) := by
      rw [h3]; unfold identCells
      generalize hashCells z = hz at hn
      simp [List.getElem?_append_right, hn]
    simp only [part, Sem.run_bind, isAgg_run hty2, Result.andThen_ok, Option.isSome_none, this]
    simp
  have q1 := equalIn_hash (P := P) d h1 ha hb w
  have q2 := run_equalIn_int (P := P) w (d + 1) f2.type .i64 .i64 x y h6
  simp only [Op.eqFields, h4, h5, ne_eq, not_false_eq_true, if_true, Sem.run_bind, e1, e2, Result.andThen_ok, q1, q2]
  by_cases hab : a = b
  · by_cases hxy : x = y <;> simp [hab, hxy, e2, show d + 2 = d + 1 + 1 from rfl, run_equalIn_int (P := P) w (d + 1) f2.type .i64 .i64 _ _ h6]
  · simp [hab]
theorem Bin.eqId {P : Program} {t a b : Nat} {x y : Int} (h : identT P t = true) (ha : IsH a) (hb : IsH b) : Bin P .eql t (.agg (identCells a x).toArray) (.agg (identCells b y).toArray) (.bool (decide (a = b ∧ x = y))) :=
  Bin.other (fun p q w => run_eqGuard_agg w .eql t p q _ _ (identT_spec h).choose_spec.choose_spec.choose_spec.2.2.2.2.2.2.2.2.2.2) fun w => by
    have := equalIn_ident (P := P) 9997 h ha hb x y w
    rw [run_eql_struct, this]; simp
theorem Bin.neId {P : Program} {t a b : Nat} {x y : Int} (h : identT P t = true) (ha : IsH a) (hb : IsH b) : Bin P .neq t (.agg (identCells a x).toArray) (.agg (identCells b y).toArray) (.bool (decide (¬ (a = b ∧ x = y)))) :=
  Bin.other (fun p q w => run_eqGuard_agg w .neq t p q _ _ (identT_spec h).choose_spec.choose_spec.choose_spec.2.2.2.2.2.2.2.2.2.2) fun w => by
    have := equalIn_ident (P := P) 9997 h ha hb x y w
    rw [run_neq_struct, this]; simp

/-! ### parts of slices and strings -/
section
variable {P : Program} {m : Slots} {σ : View} {H : HList} {dst : Option Tmp} {ty : TypeId} {pos : String} {af : Array Edge} {g : Option (Nat × Bool)}
/-- xs[:h] -/
theorem Pur.sliceT {t e k : Nat} {x y : Operand} {a : Option Addr} {len cap h : Nat} {kh : IntKind} (hx : opv m x = some (.slice a len cap)) (hy : opv m y = some (.int kh (h : Int))) (ht : slE P t = some (e, k)) (hh : h ≤ cap) :
    Pur P m ⟨dst, .slice t x none (some y) none, ty, pos, af, g⟩ σ H (.slice a h cap) := fun ρ w ha _ => by
  have hu := slE_under ht w
  have hz := slE_size ht w
  have h1 : (a.map fun x => x.add 0) = a := by cases a <;> simp [Addr.add]
  by_cases h0 : cap = 0
  · simp [execOp, Instr.sliceAt, Instr.slice, Instr.sliceBounds, Instr.sliceBound, asIntOf, ha x _ hx, ha y _ hy, hu, hz, hh, h0]
    omega
  · have h0' : ¬ (0 = cap) := fun e => h0 e.symm
    simp [execOp, Instr.sliceAt, Instr.slice, Instr.sliceBounds, Instr.sliceBound, asIntOf, ha x _ hx, ha y _ hy, hu, hz, hh, h0, h1]
/-- xs[l:] -/
theorem Pur.sliceD {t e k : Nat} {x y : Operand} {b off len cap l : Nat} {kl : IntKind} (hx : opv m x = some (.slice (some ⟨b, off, none⟩) len cap)) (hy : opv m y = some (.int kl (l : Int))) (ht : slE P t = some (e, k)) (hl : l ≤ len) (hlc : l < cap) :
    Pur P m ⟨dst, .slice t x (some y) none none, ty, pos, af, g⟩ σ H (.slice (some ⟨b, off + l * k, none⟩) (len - l) (cap - l)) := fun ρ w ha _ => by
  have hu := slE_under ht w
  have hz := slE_size ht w
  have h0 : ¬ cap = l := by omega
  simp [execOp, Instr.sliceAt, Instr.slice, Instr.sliceBounds, Instr.sliceBound, asIntOf, ha x _ hx, ha y _ hy, hu, hz, hl, h0, add_none]
/-- xs[l:] where nothing is left of the capacity: the old address -/
theorem Pur.sliceD0 {t e k : Nat} {x y : Operand} {a : Option Addr} {len l : Nat} {kl : IntKind} (hx : opv m x = some (.slice a len l)) (hy : opv m y = some (.int kl (l : Int))) (ht : slE P t = some (e, k)) (hl : l ≤ len) :
    Pur P m ⟨dst, .slice t x (some y) none none, ty, pos, af, g⟩ σ H (.slice a (len - l) 0) := fun ρ w ha _ => by
  have hu := slE_under ht w
  have hz := slE_size ht w
  simp [execOp, Instr.sliceAt, Instr.slice, Instr.sliceBounds, Instr.sliceBound, asIntOf, ha x _ hx, ha y _ hy, hu, hz, hl]

/-! conversions between kinds of whole numbers -/
def intK (P : Program) (t : TypeId) : Option IntKind := match P.underlying t with | some (.int k) => some k | _ => none
theorem intK_spec {t : TypeId} {k : IntKind} (h : intK P t = some k) : P.underlying t = some (.int k) := by
  unfold intK at h
  split at h
  · simp at h; subst h; assumption
  · cases h
theorem Pur.conv {s t : TypeId} {ks kt : IntKind} {x : Operand} {v : Int} {k' : IntKind} (hx : opv m x = some (.int k' v)) (hs : intK P s = some ks) (ht : intK P t = some kt) : Pur P m ⟨dst, .convert s t x, ty, pos, af, g⟩ σ H (.int kt (kt.wrap v)) := fun ρ w ha _ => by
  have h1 := intK_spec hs; have h2 := intK_spec ht
  simp [execOp, convert, underlying, h1, h2, ha x _ hx, Conv.intToInt]
theorem Pur.convTo {s t : TypeId} {ks kt : IntKind} {x : Operand} {v u : Int} {k' : IntKind} (hx : opv m x = some (.int k' v)) (hs : intK P s = some ks) (ht : intK P t = some kt) (hu : kt.wrap v = u) : Pur P m ⟨dst, .convert s t x, ty, pos, af, g⟩ σ H (.int kt u) := by
  subst hu; exact Pur.conv hx hs ht
end
end Go.Sl
namespace Go.Sl
open Go

/-! ### a range over a function -/
/-- a round of loop l, from what is known and owned -/
def YTri (P : Program) (l : Nat) (args : Array Value) (σ : View) (H : HList) (R : Value → View → HList → Prop) : Prop :=
  ∀ Hr w, St σ (H ++ Hr) w → YieldAt (wide none) 0 P l args w (Post R σ Hr)

/-- a function that hands what G tells, N times, to what it is called with, and stops where it is told so -/
def IterAll (P : Program) (gf : FuncId) (lb : List Value) (N : Nat) (G : Nat → List Value → View → Prop) (σ0 : View) : Prop :=
  ∀ (l : Nat) (J Jx : Nat → View → HList → Prop) (σ : View) (H : HList), σ0.le σ →
    (∀ i args σ1 H1 σ2, i < N → J i σ1 H1 → σ.le σ1 → σ1.le σ2 → G i args σ2 → YTri P l args.toArray σ2 H1 (fun v σ' H' => (v = .bool true ∧ J (i + 1) σ' H') ∨ (v = .bool false ∧ Jx (i + 1) σ' H'))) →
    J 0 σ H → Tri P gf (.func (.yield l) #[] #[] :: lb).toArray σ H (fun _ σ' H' => J N σ' H' ∨ ∃ i, i ≤ N ∧ Jx i σ' H')

/-- slots that a list of values is laid into -/
def lay : List Tmp → List Value → Slots → Slots
  | p :: ps, v :: vs, m => lay ps vs ((p, v) :: m)
  | _, _, m => m
theorem Fr.lay {n : Nat} {d : List Deferred} : ∀ (ps : List Tmp) (vs : List Value) (a : Act) (m : Slots), Fr n d a m → (∀ p ∈ ps, p < n) →
    Fr n d { a with tmps := (ps.zip vs).foldl (fun t (p, v) => t.setIfInBounds p v) a.tmps } (lay ps vs m) := by
  intro ps
  induction ps with
  | nil => intro vs a m h _; simpa [Sl.lay] using h
  | cons p ps ih =>
    intro vs a m h hp
    cases vs with
    | nil => simpa [Sl.lay] using h
    | cons v vs =>
      simp only [List.zip_cons_cons, List.foldl_cons, Sl.lay]
      have h1 := h.put v (t := p) (by simpa [Nat.blt_eq] using hp p (by simp))
      have := ih vs (a.put (some p) v) ((p, v) :: m) h1 (fun q hq => hp q (by simp [hq]))
      simpa [Act.put] using this

theorem zip_fold (ps : Array Tmp) (vs : List Value) (t0 : Array Value) :
    (ps.zip vs.toArray).foldl (fun t (p, v) => t.setIfInBounds p v) t0 = (ps.toList.zip vs).foldl (fun t (p, v) => t.setIfInBounds p v) t0 := by
  rw [← Array.foldl_toList]; simp

section
variable {P : Program} {Q : Exit → Act → World → Prop} {n : Nat} {d : List Deferred} {m : Slots} {σ : View} {H : HList}

theorem St.putObj {σ : View} {H H' : HList} {b : Nat} {o o' : Obj} {w : World} (h : St σ H w) (p : Part H [(b, o)] [(b, o')] H') : St σ H' (w.putObj b o') := by
  have h1 := h.own _ p.mem
  have hlt : b < w.heap.size := (Array.getElem?_eq_some_iff.1 h1).1
  exact h.part p (World.putObj_heap_same hlt) (fun c hc => World.putObj_heap_other hc) ⟨rfl, rfl, rfl, by first | exact Nat.le_refl _ | exact Nat.le_succ _⟩

theorem WC.rangeFunc {g : Operand} {ps : Array Tmp} {assign body : Code} {gf : FuncId} {lb : List Value} {N : Nat} {G : Nat → List Value → View → Prop} {σ0 : View} {H0 Hr : HList}
    (hg : opv m g = some (.func (.func gf) #[] lb.toArray)) (hen : ∀ args w, (callFunc gf args).run P w = .ok (.enter gf args) w)
    (hit : IterAll P gf lb N G σ0) (hle0 : σ0.le σ) (hH : (H0 ++ Hr).Perm H)
    (J : Nat → View → HList → Prop) (Jx : Exit → View → HList → Prop)
    (hps : ∀ i args σ2, G i args σ2 → args.length = ps.size) (hpn : ∀ p ∈ ps.toList, p < n)
    (h0 : J 0 σ H0)
    (hbody : ∀ (l : Nat) (rec0 rec1 : Obj) (i : Nat) (args : List Value) (σ1 σ2 : View) (H1 Hq : HList) (A B : Exit → Act → World → Prop),
      i < N → J i σ1 H1 → σ.le σ1 → σ1.le σ2 → G i args σ2 →
      (∀ m' σ' H' H'', Part H' [(l, rec0)] [(l, rec1)] H'' → WC P (some l) B body n [] m' σ' H'' → WQ A .normal n [] m' σ' H') →
      (∀ m' σ' H' H'', J (i + 1) σ' H'' → σ2.le σ' → (H'' ++ (l, rec1) :: Hq).Sublist H' → WQ B .normal n [] m' σ' H') →
      (∀ e m' σ' H' H'', (e = .ret ∨ ∃ id, e = .exit id) → Jx e σ' H'' → σ2.le σ' → (H'' ++ (l, rec1) :: Hq).Sublist H' → WQ B e n [] m' σ' H') →
      WC P (some l) A assign n [] (lay ps.toList args m) σ2 (H1 ++ (l, rec0) :: Hq))
    (hdone : ∀ D σ' H', J N σ' H' → σ.le σ' → WQ Q .normal n (⟨.collected D, #[]⟩ :: d) m σ' (H' ++ (D, .deferred (some [])) :: Hr))
    (hstop : ∀ e D σ' H', (e = .ret ∨ ∃ id, e = .exit id) → Jx e σ' H' → σ.le σ' → WQ Q e n (⟨.collected D, #[]⟩ :: d) m σ' (H' ++ (D, .deferred (some [])) :: Hr)) :
    WC P none Q (.rangeFunc g ps assign body) n d m σ H := fun a w hf hst => by
  refine wpIn_rangeFunc fun fn _ => ?_
  obtain ⟨rec, hrec⟩ : ∃ rec : LoopState → Option Code → Loop, rec = fun st pe => { state := st, pending := pe, fn, tmps := a.tmps, params := ps, assign, body, defers := w.heap.size } := ⟨_, rfl⟩
  obtain ⟨W1, hW1⟩ : ∃ W1, (w.alloc (.deferred (some []))).alloc (.loop (rec .ready none)) = W1 := ⟨_, rfl⟩
  obtain ⟨l, hl⟩ : ∃ l, l = w.heap.size + 1 := ⟨_, rfl⟩
  obtain ⟨D, hD⟩ : ∃ D, D = w.heap.size := ⟨_, rfl⟩
  have s0 := hst.perm hH
  have s1 : St σ ((D, .deferred (some [])) :: (H0 ++ Hr)) (w.alloc (.deferred (some []))) := by subst hD; exact s0.new rfl
  have s2 : St σ ((l, .loop (rec .ready none)) :: (D, .deferred (some [])) :: (H0 ++ Hr)) W1 := by
    have := s1.new (w' := W1) (o := .loop (rec .ready none)) (by rw [← hW1]; rfl) (by rw [← hW1]; exact ⟨rfl, rfl, rfl, by first | exact Nat.le_refl _ | exact Nat.le_succ _⟩)
    rw [World.size_alloc] at this; subst hl; exact this
  have s3 : St σ ((H0 ++ [(l, .loop (rec .ready none))]) ++ (D, .deferred (some [])) :: Hr) W1 := s2.perm (by
    simp only [List.append_assoc, List.singleton_append]
    exact List.perm_middle.trans (List.Perm.cons _ List.perm_middle))
  have hgv := hf.eval hg
  have hsz : ∀ i args σ2, G i args σ2 → args.toArray.size = ps.size := fun i args σ2 h => by simpa using hps i args σ2 h
  -- the rounds
  obtain ⟨R, hRR⟩ : ∃ R : Nat → Value → View → HList → Prop, R = fun i v σ' H' => (v = .bool true ∧ ∃ H2, H' = H2 ++ [(l, .loop (rec .ready none))] ∧ J (i + 1) σ' H2 ∧ σ.le σ') ∨ (v = .bool false ∧ ∃ H2 e c, H' = H2 ++ [(l, .loop (rec .done (some c)))] ∧ Jx e σ' H2 ∧ σ.le σ' ∧ ((e = .ret ∧ c = .ret) ∨ ∃ id, e = .exit id ∧ c = .exit id)) := ⟨_, rfl⟩
  have hround : ∀ i args σ1 H1 σ2, i < N → (∃ H2, H1 = H2 ++ [(l, .loop (rec .ready none))] ∧ J i σ1 H2 ∧ σ.le σ1) → σ1.le σ2 → G i args σ2 → YTri P l args.toArray σ2 H1 (R i) := by
      rintro i args σ1 _ σ2 hi ⟨H2, rfl, hJ, hσ1⟩ h12 hG Hq w2 hs2
      have hs2' : St σ2 (H2 ++ (l, .loop (rec .ready none)) :: Hq) w2 := by simpa using hs2
      have hown := hs2'.own (l, .loop (rec .ready none)) (by simp)
      refine ⟨fn, (ps.toList.zip args).foldl (fun t (p, v) => t.setIfInBounds p v) a.tmps, assign, body, ?_, ?_⟩
      · have := run_yield (P := P) (w := w2) (l := l) (args := args.toArray) hown (by rw [hsz _ _ _ hG, hrec])
        rw [this, hrec, zip_fold]
      refine roundIn_of_wpIn trivial ?_
      refine hbody l (.loop (rec .ready none)) (.loop (rec .busy none)) i args σ1 σ2 H2 Hq _ (roundPost P l (Post (R i) σ2 Hq)) hi hJ hσ1 h12 hG ?_ ?_ ?_ _ w2 (Fr.lay ps.toList args { tmps := a.tmps, defers := [] } m ⟨rfl, hf.size, hf.slot⟩ hpn) hs2'
      · intro m' σ' H' H'' hp hb a1 w1 hf1 hs1'
        have ho := hs1'.own _ hp.mem
        refine ⟨_, run_beginRound ho (by rw [hrec]), ?_⟩
        have hrb : ({ rec .ready none with state := .busy } : Loop) = rec .busy none := by rw [hrec]
        rw [hrb]
        exact hb a1 _ hf1 (hs1'.putObj hp)
      · intro m' σ' H' H'' hJ' hle' hsub a1 w1 hf1 hs1'
        have hs1 := hs1'.weak hsub
        have ho := hs1.own (l, .loop (rec .busy none)) (by simp)
        refine ⟨_, _, run_endRound none ho, .bool true, σ', H'' ++ [(l, .loop (rec .ready none))], rfl, (by rw [hRR]; exact .inl ⟨rfl, H'', rfl, hJ', View.le_trans hσ1 (View.le_trans h12 hle')⟩), hle', ?_⟩
        have hrb : ({ rec .busy none with state := .ready, pending := none } : Loop) = rec .ready none := by rw [hrec]
        have := hs1.putObj (o' := .loop (rec .ready none)) (H' := H'' ++ (l, .loop (rec .ready none)) :: Hq) (Part.app Part.one)
        simpa [hrb] using this
      · intro e m' σ' H' H'' he hJ' hle' hsub a1 w1 hf1 hs1'
        have hs1 := hs1'.weak hsub
        have ho := hs1.own (l, .loop (rec .busy none)) (by simp)
        have hend : ∀ c : Code, ((e = .ret ∧ c = .ret) ∨ ∃ id, e = .exit id ∧ c = .exit id) → ∃ v w', (Instr.endRound l (some c)).run P w1 = .ok v w' ∧ Post (R i) σ2 Hq (.returned v) w' := by
          intro c hc
          refine ⟨_, _, run_endRound (some c) ho, .bool false, σ', H'' ++ [(l, .loop (rec .done (some c)))], rfl, (by rw [hRR]; exact .inr ⟨rfl, H'', e, c, rfl, hJ', View.le_trans hσ1 (View.le_trans h12 hle'), hc⟩), hle', ?_⟩
          have hrb : ({ rec .busy none with state := .done, pending := some c } : Loop) = rec .done (some c) := by rw [hrec]
          have := hs1.putObj (o' := .loop (rec .done (some c))) (H' := H'' ++ (l, .loop (rec .done (some c))) :: Hq) (Part.app Part.one)
          simpa [hrb] using this
        rcases he with rfl | ⟨id, rfl⟩
        · exact hend .ret (.inl ⟨rfl, rfl⟩)
        · exact hend (.exit id) (.inr ⟨id, rfl, rfl⟩)
  have hcall := hit l (fun i σ1 H1 => ∃ H2, H1 = H2 ++ [(l, .loop (rec .ready none))] ∧ J i σ1 H2 ∧ σ.le σ1)
    (fun _ σ1 H1 => ∃ H2 e c, H1 = H2 ++ [(l, .loop (rec .done (some c)))] ∧ Jx e σ1 H2 ∧ σ.le σ1 ∧ ((e = .ret ∧ c = .ret) ∨ ∃ id, e = .exit id ∧ c = .exit id))
    σ (H0 ++ [(l, .loop (rec .ready none))]) hle0 (fun i args σ1 H1 σ2 hi hJ _ h12 hG => by have := hround i args σ1 H1 σ2 hi hJ h12 hG; rw [hRR] at this; exact this) ⟨H0, rfl, h0, View.le_refl _⟩
  refine ⟨l, [⟨.collected D, #[]⟩], W1, ⟨.fn (.func gf) lb.toArray, #[.func (.yield l) #[] #[]]⟩, W1, gf, (.func (.yield l) #[] #[] :: lb).toArray, W1, ?_, ?_, ?_, ?_, ?_, ?_⟩
  · rw [← hW1, hrec, hl, hD]; exact run_enterLoop_outer _ _ _ _ _
  · have hcv : ∀ v, a.eval (.const v) = v := fun _ => rfl
    simp [resolve, rangeCall, hgv, hcv, Deferred.ofValue, Sem.run_bind, Sem.run_pure, Result.andThen]
  · intro f' _; trivial
  · have := hen (#[.func (.yield l) #[] #[]] ++ lb.toArray) W1
    simp [invoke] at this ⊢
    exact this
  · intro h; simp [wide, Fence.wide] at h
  have h1 : CallsIn Fence.wide 0 P gf _ W1 _ := (callsIn_wide (n := 0)).2 (hcall _ W1 s3)
  refine CallsIn.mono (show CallsIn (wide none) (0 - 1) P gf _ W1 _ from h1) ?_
  rintro e w3 ⟨v, σ', H', rfl, hR, hle, hs'⟩
  rcases hR with ⟨H2, rfl, hJ, hσ⟩ | ⟨i, _, H2, e, c, rfl, hJ, hσ, hc⟩
  · have ho := hs'.own (l, .loop (rec .ready none)) (by simp)
    have hel : (Instr.endLoop l).run P w3 = .ok none (w3.putObj l (.loop { rec .ready none with state := .exhausted })) := by
      have := run_endLoop (P := P) ho (by rw [hrec]; simp)
      have hp : (rec .ready none).pending = none := by rw [hrec]
      exact this.trans (congrArg (fun z => Result.ok z _) hp)
    refine ⟨none, _, hel, ?_⟩
    have hs4 : St σ' (H2 ++ (l, .loop (rec .ready none)) :: (D, .deferred (some [])) :: Hr) w3 := by simpa using hs'
    have hs5 := hs4.putObj (o' := .loop { rec .ready none with state := .exhausted }) (Part.app Part.one)
    exact hdone D σ' H2 hJ hσ _ _ ⟨by simp [hf.defers], hf.size, hf.slot⟩ (hs5.weak (H0 := H2 ++ (D, .deferred (some [])) :: Hr) (by simp))
  · have ho := hs'.own (l, .loop (rec .done (some c))) (by simp)
    have hel : (Instr.endLoop l).run P w3 = .ok (some c) (w3.putObj l (.loop { rec .done (some c) with state := .exhausted })) := by
      have := run_endLoop (P := P) ho (by rw [hrec]; simp)
      have hp : (rec .done (some c)).pending = some c := by rw [hrec]
      exact this.trans (congrArg (fun z => Result.ok z _) hp)
    refine ⟨some c, _, hel, ?_⟩
    have hs4 : St σ' (H2 ++ (l, .loop (rec .done (some c))) :: (D, .deferred (some [])) :: Hr) w3 := by simpa using hs'
    have hs5 := hs4.putObj (o' := .loop { rec .done (some c) with state := .exhausted }) (Part.app Part.one)
    have hs6 := hs5.weak (H0 := H2 ++ (D, .deferred (some [])) :: Hr) (by simp)
    rcases hc with ⟨rfl, rfl⟩ | ⟨id, rfl, rfl⟩
    · exact wpIn_ret (hstop .ret D σ' H2 (.inl rfl) hJ hσ _ _ ⟨by simp [hf.defers], hf.size, hf.slot⟩ hs6)
    · exact wpIn_exit (hstop (.exit id) D σ' H2 (.inr ⟨id, rfl⟩) hJ hσ _ _ ⟨by simp [hf.defers], hf.size, hf.slot⟩ hs6)

/-! a function that holds such a loop -/
theorem Tri.of_bodyM {f : FuncId} {fn : Func} {c : Code} {args : Array Value} {R : Value → View → HList → Prop} (m : Slots)
    (hf : P.funcs[f]? = some fn) (hb : fn.body = some c) (hn : fn.ntmps = n) (hsz : args.size ≤ n) (hm : slotsFrom 0 args.toList = m)
    (h : ∀ Hr, WC P none (bodyPostM (wide none) 0 P fn (Post R σ Hr)) c n [] m σ (H ++ Hr)) : Tri P f args σ H R := fun Hr w hs => by
  refine (callsIn_wide (n := 0)).1 (callsIn_of_wp_marks hf hb trivial (h Hr _ w ⟨rfl, ?_, fun i v hv => ?_⟩ hs) rfl)
  · simp [hn]; omega
  · subst hm
    obtain ⟨_, h2⟩ := slotsFrom_get _ _ _ _ hv
    simp only [Nat.sub_zero, Array.getElem?_toList] at h2
    have hlt : i < args.size := (Array.getElem?_eq_some_iff.1 h2).1
    rw [Array.getElem?_append_left hlt]; exact h2
theorem leavesM_marks {fn : Func} {tmps : Array Value} {R : Ending → World → Prop} : ∀ (Ds : List Nat) (H1 : HList) (w : World), St σ ((Ds.map fun D => (D, Obj.deferred (some []))) ++ H1) w →
    (∀ w', St σ H1 w' → ∃ v, (results fn tmps).run P w' = .ok v w' ∧ R (.returned v) w') → LeavesInM (wide none) 0 P fn tmps R (Ds.map fun D => ⟨.collected D, #[]⟩) .returning w := by
  intro Ds
  induction Ds with
  | nil => intro H1 w hs h; exact h w (by simpa using hs)
  | cons D Ds ih =>
    intro H1 w hs h
    simp only [List.map_cons, LeavesInM]
    refine ⟨by simp, .inl ⟨D, w.putObj D (.deferred none), rfl, run_takeDeferred (hs.own (D, _) (by simp)), ?_⟩⟩
    have h2 := hs.putObj (o' := .deferred none) (by rw [List.map_cons, List.cons_append]; exact Part.one)
    exact ih H1 _ (h2.weak (by simp)) h
/-- behind loops over functions: as ever, the marks taken away -/
theorem WQ.marks {fn : Func} {R : Ending → World → Prop} {e : Exit} (he : e = .ret ∨ e = .normal) (Ds : List Nat) (H1 : HList) (hH : ((Ds.map fun D => (D, Obj.deferred (some []))) ++ H1).Perm H)
    (h : WQ (bodyPost P fn R) e n [] m σ H1) : WQ (bodyPostM (wide none) 0 P fn R) e n (Ds.map fun D => ⟨.collected D, #[]⟩) m σ H := fun a w hf hs => by
  have hs' := hs.perm hH
  have key : LeavesInM (wide none) 0 P fn a.tmps R (Ds.map fun D => ⟨.collected D, #[]⟩) .returning w := by
    refine leavesM_marks Ds H1 w hs' fun w' hw' => ?_
    rcases he with rfl | rfl
    · exact (h { a with defers := [] } w' ⟨rfl, hf.size, hf.slot⟩ hw').2
    · exact (h { a with defers := [] } w' ⟨rfl, hf.size, hf.slot⟩ hw').2
  rcases he with rfl | rfl
  all_goals (show LeavesInM _ _ _ _ _ _ a.defers _ _; rw [hf.defers]; exact key)

/-! a call of yield -/
theorem WL.callY {r : Option Nat} {ops : Array Oper} {t : Tmp} {l : Nat} {c : Operand} {xs : List Operand} {vs : List Value} {ats : Array TypeId} {ty : TypeId} {pos : String} {af : Array Edge} {rest : List Oper} {H0 Hr : HList} {R : Value → View → HList → Prop}
    (hc : opv m c = some (.func (.yield l) #[] #[])) (hx : evs m xs = some vs) (hH : (H0 ++ Hr).Perm H) (hcall : YTri P l vs.toArray σ H0 R)
    (h : ∀ v σ' H', R v σ' H' → σ.le σ' → WL P r ops Q rest n d ((t, v) :: m) σ' (H' ++ Hr)) (ht : Nat.blt t n = true := by rfl) :
    WL P r ops Q (⟨some t, .call { callee := .value c, args := xs.toArray, argTypes := ats }, ty, pos, af, none⟩ :: rest) n d m σ H := fun a w hf hs => by
  simp only [wpListIn, wanted_none, if_true]
  refine ⟨fun _ _ => trivial, ?_⟩
  show Oper.uponIn _ _ _ _ _ _ _ ((Oper.semAt r a.eval _).run P w)
  obtain ⟨fn, tmps, assign, body, hy, hround⟩ := hcall Hr w (hs.perm hH)
  have hrun : ((Oper.semAt r a.eval ⟨some t, .call { callee := .value c, args := xs.toArray, argTypes := ats }, ty, pos, af, none⟩).run P w) = .ok (.round l fn tmps assign body) w := by
    rw [semAt_noDefer rfl]
    have h1 := evs_map hx hf.agree
    have hfv := hf.agree c _ hc
    simp only [execOp, resolve, h1, hfv, Deferred.ofValue, Sem.run_bind, Sem.run_pure, Result.andThen_ok, invoke]
    simpa using hy
  rw [hrun]
  refine ⟨fun h => (by simp [wide, Fence.wide] at h), ?_⟩
  refine RoundIn.mono (show RoundIn (wide r) 0 P l fn tmps assign body w _ from hround) ?_
  rintro e w' ⟨v, σ', H', rfl, hR, hle, hs'⟩
  exact h v σ' H' hR hle _ w' (hf.put v ht) hs'
end
end Go.Sl
namespace Go.Sl
open Go

/-! ### maps: the entries in the order in which they were laid; nothing is taken out -/
def mEnts {α : Type} (K : α → Value) : List (α × Value) → Nat → List MapEntry
  | [], _ => []
  | (k, v) :: l, i => { key := K k, val := v, born := i } :: mEnts K l (i + 1)
def mapO {α : Type} (K : α → Value) (l : List (α × Value)) : Obj := .map (mEnts K l 0).toArray l.length
def findP {α : Type} [DecidableEq α] (a : α) : List (α × Value) → Nat → Option (Nat × Value)
  | [], _ => none
  | (k, v) :: l, i => if a = k then some (i, v) else findP a l (i + 1)
/-- the value at a key -/
def mget {α : Type} [DecidableEq α] (l : List (α × Value)) (a : α) : Option Value := (findP a l 0).map (·.2)
/-- a value is laid at a key -/
def mput {α : Type} [DecidableEq α] : List (α × Value) → α → Value → List (α × Value)
  | [], a, x => [(a, x)]
  | (k, v) :: l, a, x => if a = k then (k, x) :: l else (k, v) :: mput l a x

structure KeyC (P : Program) (kt : TypeId) (α : Type) [DecidableEq α] (K : α → Value) (ok : α → Prop) : Prop where
  check : ∀ a, ok a → ∀ b w, (Instr.checkKey b 10000 kt (K a)).run P w = .ok () w
  find : ∀ a, ok a → ∀ (l : List (α × Value)), (∀ p ∈ l, ok p.1) → ∀ i w, (Instr.findKey kt (K a) (mEnts K l i)).run P w = .ok (findP a l 0) w
  stays : ∀ a w, (Instr.keyThatStays (K a) (K a)).run P w = .ok (K a) w

section lists
variable {α : Type} [DecidableEq α] {K : α → Value}
theorem mEnts_length : ∀ (l : List (α × Value)) (i : Nat), (mEnts K l i).length = l.length
  | [], _ => rfl
  | (k, v) :: l, i => by simp [mEnts, mEnts_length l]
theorem mEnts_get : ∀ (l : List (α × Value)) (i j : Nat), (mEnts K l i)[j]? = (l[j]?).map fun p => { key := K p.1, val := p.2, born := i + j }
  | [], _, j => by simp [mEnts]
  | (k, v) :: l, i, 0 => by simp [mEnts]
  | (k, v) :: l, i, j + 1 => by simp [mEnts, mEnts_get l, Nat.add_assoc, Nat.add_comm 1 j]
theorem findP_shift (a : α) : ∀ (l : List (α × Value)) (i j : Nat), findP a l (i + j) = (findP a l i).map fun p => (p.1 + j, p.2)
  | [], _, _ => rfl
  | (k, v) :: l, i, j => by
    simp only [findP]
    split
    · simp
    · rw [show i + j + 1 = (i + 1) + j by omega, findP_shift a l]
theorem mget_nil (a : α) : mget ([] : List (α × Value)) a = none := rfl
theorem mget_cons (k : α) (v : Value) (l : List (α × Value)) (a : α) : mget ((k, v) :: l) a = if a = k then some v else mget l a := by
  unfold mget
  simp only [findP]
  split
  · rfl
  · rw [show (0 : Nat) + 1 = 0 + 1 from rfl, findP_shift a l 0 1]; cases findP a l 0 <;> rfl
theorem mget_mput (l : List (α × Value)) (a b : α) (x : Value) : mget (mput l a x) b = if b = a then some x else mget l b := by
  induction l with
  | nil => simp [mput, mget_cons, mget_nil]
  | cons p l ih =>
    obtain ⟨k, v⟩ := p
    simp only [mput]
    by_cases h : a = k
    · subst h; simp only [if_true, mget_cons]; by_cases hb : b = a <;> simp [hb]
    · simp only [if_neg h, mget_cons, ih]
      by_cases hb : b = k
      · subst hb; rw [if_pos rfl, if_pos rfl, if_neg (Ne.symm h)]
      · simp [hb]
/-- what laying a value does to the entries -/
theorem mEnts_put (a : α) (x : Value) : ∀ (l : List (α × Value)) (i : Nat), mEnts K (mput l a x) i =
    match findP a l 0 with
    | some (j, _) => (mEnts K l i).modify j fun e => { e with val := x }
    | none => mEnts K l i ++ [{ key := K a, val := x, born := i + l.length }]
  | [], i => by simp [mput, findP, mEnts]
  | (k, v) :: l, i => by
    simp only [mput, findP]
    by_cases h : a = k
    · subst h; simp [mEnts]
    · simp only [if_neg h, mEnts]
      rw [mEnts_put a x l (i + 1), findP_shift a l 0 1]
      cases findP a l 0 with
      | none => simp [Nat.add_assoc, Nat.add_comm 1]
      | some p => simp
theorem mput_length (a : α) (x : Value) : ∀ (l : List (α × Value)), (mput l a x).length = match findP a l 0 with | some _ => l.length | none => l.length + 1
  | [] => rfl
  | (k, v) :: l => by
    simp only [mput, findP]
    by_cases h : a = k
    · subst h; simp
    · simp only [if_neg h, List.length_cons, mput_length a x l, show (0 : Nat) + 1 = 0 + 1 from rfl, findP_shift a l 0 1]
      cases findP a l 0 <;> rfl
theorem findP_spec (a : α) : ∀ (l : List (α × Value)) (j : Nat) (v : Value), findP a l 0 = some (j, v) → l[j]? = some (a, v)
  | [], _, _, h => by simp [findP] at h
  | (k, u) :: l, j, v, h => by
    simp only [findP] at h
    by_cases hk : a = k
    · rw [if_pos hk] at h; simp at h; obtain ⟨rfl, rfl⟩ := h; simp [hk]
    · rw [if_neg hk, show (0 : Nat) + 1 = 0 + 1 from rfl, findP_shift a l 0 1] at h
      cases hf : findP a l 0 with
      | none => simp [hf] at h
      | some p =>
        obtain ⟨i, x⟩ := p
        simp [hf] at h; obtain ⟨rfl, rfl⟩ := h
        simpa using findP_spec a l i x hf
theorem mput_ok {ok : α → Prop} {l : List (α × Value)} (h : ∀ p ∈ l, ok p.1) {a : α} (ha : ok a) (x : Value) : ∀ p ∈ mput l a x, ok p.1 := by
  induction l with
  | nil => simp [mput, ha]
  | cons q l ih =>
    obtain ⟨k, v⟩ := q
    simp only [mput]
    split
    · intro p hp; rcases List.mem_cons.1 hp with rfl | hp
      · exact h (k, v) (by simp)
      · exact h p (by simp [hp])
    · intro p hp; rcases List.mem_cons.1 hp with rfl | hp
      · exact h (k, v) (by simp)
      · exact ih (fun p hp => h p (by simp [hp])) p hp
end lists

/-! strings -/
theorem keyC_string {P : Program} {kt : TypeId} (h : isString P kt = true) : KeyC P kt ByteArray Value.string (fun _ => True) := by
  have hu : P.underlying kt = some .string := by
    unfold isString at h; split at h <;> first | assumption | cases h
  refine ⟨fun a _ b w => MapKept.run_checkKey hu (k := .string a) trivial b 9999, fun a _ l _ i w => ?_, fun a w => MapKept.run_keyThatStays (d := .string) (k := .string a) trivial⟩
  refine MapKept.run_findKey hu ?_
  have : ∀ (l : List (ByteArray × Value)) (i j : Nat), Instr.findNow .string (.string a) (mEnts Value.string l i) j = some (findP a l j) := by
    intro l
    induction l with
    | nil => intro i j; rfl
    | cons p l ih =>
      intro i j
      obtain ⟨k, v⟩ := p
      simp only [mEnts, Instr.findNow, Instr.sameNow, findP]
      by_cases hk : a = k
      · subst hk; rw [(MapKept.bytes_beq a a).2 rfl]; simp
      · have : (a == k) = false := by
          cases hb : a == k
          · rfl
          · exact absurd ((MapKept.bytes_beq a k).1 hb) hk
        simp only [this, if_neg hk]; exact ih _ _
  exact this l i 0

/-! hashes -/
def isHKey (P : Program) (t : TypeId) : Bool :=
  isHash P t && P.keyTypeAt 2 t && P.cellsOf t == 32 && (match P.underlying t with | some (.array _ e) => P.cellsOf e == 1 | _ => false)
theorem mapM_some {α β : Type} (f : α → Option β) (g : α → β) : ∀ (l : List α), (∀ a ∈ l, f a = some (g a)) → l.mapM f = some (l.map g)
  | [], _ => rfl
  | a :: l, h => by simp [List.mapM_cons, h a (by simp), mapM_some f g l (fun b hb => h b (by simp [hb]))]
theorem sameBits_hash (h : Nat) : Instr.sameBits 10000 (hashV h) (hashV h) = true := by
  unfold hashV
  rw [show (10000 : Nat) = 9999 + 1 from rfl, Instr.sameBits]
  simp only [beq_self_eq_true, Bool.true_and, hashCells_eq]
  have hone : ∀ i, Instr.sameBits 9999 (hc h i) (hc h i) = true := fun i => by
    unfold hc
    rw [show (9999 : Nat) = 9998 + 1 from rfl]
    simp [Instr.sameBits]
  have : ∀ (l : List Nat), ((l.map (hc h)).zip (l.map (hc h))).all (fun (x, y) => Instr.sameBits 9999 x y) = true := by
    intro l
    induction l with
    | nil => rfl
    | cons i l ih => simp only [List.map_cons, List.zip_cons_cons, List.all_cons, hone, ih, Bool.and_self]
  exact this _
theorem keyC_hash {P : Program} {kt : TypeId} (h : isHKey P kt = true) : KeyC P kt Nat hashV IsH := by
  unfold isHKey at h
  simp only [Bool.and_eq_true, beq_iff_eq] at h
  obtain ⟨⟨⟨h1, h2⟩, h3⟩, h4⟩ := h
  obtain ⟨e, hu, hue, _, _⟩ := isHash_spec h1
  simp only [hu, beq_iff_eq] at h4
  have hwide : (match P.underlying kt with | some (.array _ _) | some (.struct _) => true | _ => false) = true := by simp [hu]
  refine ⟨fun a ha b w => ?_, fun a ha l hl i w => ?_, fun a w => ?_⟩
  · have hf : (hashV a).formed P kt = true := by simp [Value.formed, hashV, hu, h3, hashCells_length]
    have hlit : P.keyLits 2 kt (hashV a).cells.toList = some (((List.range 32).map fun i => [Lit.int .u8 (hdig a i : Int)]).flatten) := by
      have hcl : (hashV a).cells.toList = hashCells a := by simp [Value.cells, hashV]
      rw [hcl]
      unfold Program.keyLits
      simp only [hu, hashCells_length, h3, if_true, h4, Nat.mul_one]
      rw [mapM_some _ (fun i => [Lit.int .u8 (hdig a i : Int)])]
      · simp
      · intro i hi
        have hi' : i < 32 := by simpa using hi
        have hd : ((hashCells a).drop i).take 1 = [hc a i] := by
          rw [hashCells_eq]
          apply List.ext_getElem?
          intro k
          cases k with
          | zero => simp [hi']
          | succ k => simp; omega
        have hwf : (Lit.int .u8 (hdig a i : Int)).wf = true := by
          have := hdig_lt a i
          have e1 : IntKind.u8.min = 0 := by decide
          have e2 : IntKind.u8.max = 255 := by decide
          simp only [Lit.wf, e1, e2, Bool.and_eq_true, decide_eq_true_eq]
          omega
        rw [hd]
        unfold Program.keyLits
        simp [hue, hc, hwf]
    have := run_checkKey_deep (P := P) b 9998 2 kt h2 w 2 (hashV a) _ hf hlit
    exact this
  · rw [run_findKey_eq w hwide]
    have : ∀ (l : List (Nat × Value)), (∀ p ∈ l, IsH p.1) → ∀ (i j : Nat), (Instr.findAsking kt (hashV a) (mEnts hashV l i) j).run P w = .ok (findP a l j) w := by
      intro l
      induction l with
      | nil => intro _ i j; simp [mEnts, Instr.findAsking, findP]
      | cons p l ih =>
        intro hl i j
        obtain ⟨k, v⟩ := p
        have hq : (Op.equal kt (hashV a) (hashV k)).run P w = .ok (decide (a = k)) w := equalIn_hash (P := P) 9998 h1 ha (hl (k, v) (by simp)) w
        simp only [mEnts, Instr.findAsking, findP, Sem.run_bind, hq, Result.andThen_ok]
        by_cases hk : a = k
        · simp [hk]
        · simp only [hk, decide_false, Bool.false_eq_true, if_false]
          exact ih (fun p hp => hl p (by simp [hp])) _ _
    exact this l hl i 0
  · simp [Instr.keyThatStays, sameBits_hash]

/-! ### the operations -/
section
variable {P : Program} {m : Slots} {σ : View} {H : HList} {dst : Option Tmp} {ty : TypeId} {pos : String} {af : Array Edge} {g : Option (Nat × Bool)}
/-- the map's block is known or owned -/
def Has (σ : View) (H : HList) (b : Nat) (o : Obj) : Prop := (b, o) ∈ H ∨ σ b = some o
theorem Has.at {b : Nat} {o : Obj} {w : World} (h : Has σ H b o) (hs : St σ H w) : w.heap[b]? = some o := by
  rcases h with h | h
  · exact hs.own _ h
  · exact hs.view _ _ h

/-- a map's type: of keys of type k, of elements whose zero value is z -/
def mapT (P : Program) (t : TypeId) : Option (TypeId × TypeId) := match P.underlying t with | some (.map k e) => some (k, e) | _ => none
theorem mapT_spec {t k e : TypeId} (h : mapT P t = some (k, e)) : P.underlying t = some (.map k e) := by
  unfold mapT at h
  split at h
  · simp at h; obtain ⟨rfl, rfl⟩ := h; assumption
  · cases h
theorem run_lookup {α : Type} [DecidableEq α] {K : α → Value} {ok : α → Prop} {t k e : TypeId} {z : Value} {b : Nat} {l : List (α × Value)} {a : α} {w : World} (c : Bool) (ht : mapT P t = some (k, e)) (hK : KeyC P k α K ok)
    (hz : ∀ w, (zeroValue e).run P w = .ok z w) (hb : w.heap[b]? = some (mapO K l)) (hl : ∀ p ∈ l, ok p.1) (ha : ok a) :
    (Instr.lookup t (.map (some b)) (K a) c).run P w = .ok (if c then .tuple #[(mget l a).getD z, .bool (mget l a).isSome] else (mget l a).getD z) w := by
  have h1 := hK.check a ha
  have h2 := hK.find a ha l hl 0 w
  have hg := MapKept.run_getObj_map (P := P) hb
  simp only [Instr.lookup, Sem.run_bind, run_underlying (mapT_spec ht), Result.andThen_ok, hg, h1, Sem.run_pure, h2]
  unfold mget
  cases hf : findP a l 0 with
  | none => cases c <;> simp [hz]
  | some p => cases c <;> simp
theorem Pur.lookup {α : Type} [DecidableEq α] {K : α → Value} {ok : α → Prop} {t k e : TypeId} {z : Value} {x y : Operand} {b : Nat} {l : List (α × Value)} {a : α}
    (hx : opv m x = some (.map (some b))) (hy : opv m y = some (K a)) (ht : mapT P t = some (k, e)) (hK : KeyC P k α K ok) (hz : ∀ w, (zeroValue e).run P w = .ok z w)
    (hb : Has σ H b (mapO K l)) (hl : ∀ p ∈ l, ok p.1) (ha : ok a) : Pur P m ⟨dst, .lookup t x y false, ty, pos, af, g⟩ σ H ((mget l a).getD z) := fun ρ w hag hs => by
  have := run_lookup (P := P) (w := w) false ht hK hz (hb.at hs) hl ha
  simp [execOp, hag x _ hx, hag y _ hy, this]
theorem Pur.lookupOk {α : Type} [DecidableEq α] {K : α → Value} {ok : α → Prop} {t k e : TypeId} {z : Value} {x y : Operand} {b : Nat} {l : List (α × Value)} {a : α}
    (hx : opv m x = some (.map (some b))) (hy : opv m y = some (K a)) (ht : mapT P t = some (k, e)) (hK : KeyC P k α K ok) (hz : ∀ w, (zeroValue e).run P w = .ok z w)
    (hb : Has σ H b (mapO K l)) (hl : ∀ p ∈ l, ok p.1) (ha : ok a) : Pur P m ⟨dst, .lookup t x y true, ty, pos, af, g⟩ σ H (.tuple #[(mget l a).getD z, .bool (mget l a).isSome]) := fun ρ w hag hs => by
  have := run_lookup (P := P) (w := w) true ht hK hz (hb.at hs) hl ha
  simp [execOp, hag x _ hx, hag y _ hy, this]
theorem Run.mapUpdate {α : Type} [DecidableEq α] {K : α → Value} {ok : α → Prop} {t k e : TypeId} {x y z : Operand} {b : Nat} {l : List (α × Value)} {a : α} {v : Value} {H' : HList}
    (hx : opv m x = some (.map (some b))) (hy : opv m y = some (K a)) (hv : opv m z = some v) (ht : mapT P t = some (k, e)) (hK : KeyC P k α K ok)
    (hp : Part H [(b, mapO K l)] [(b, mapO K (mput l a v))] H') (hl : ∀ p ∈ l, ok p.1) (ha : ok a) : Run P m ⟨none, .mapUpdate t x y z, ty, pos, af, g⟩ σ H undef σ H' := fun ρ w hag hs => by
  have hb := hs.own _ hp.mem
  have h1 := hK.check a ha
  have h2 := hK.find a ha l hl 0 w
  have hg := MapKept.run_getObj_map (P := P) hb
  have hrun : (Instr.mapUpdate t (.map (some b)) (K a) v).run P w = .ok () (w.putObj b (mapO K (mput l a v))) := by
    simp only [Instr.mapUpdate, Sem.run_bind, run_underlying (mapT_spec ht), Result.andThen_ok, hg, h1, h2]
    have hmp := mEnts_put (K := K) a v l 0
    have hml := mput_length a v l
    cases hf : findP a l 0 with
    | none =>
      rw [hf] at hmp hml
      simp only at hmp hml
      simp only [MapKept.run_setObj_map _ hb, mapO, hmp, hml, World.putObj]
      simp
    | some p =>
      obtain ⟨j, u⟩ := p
      rw [hf] at hmp hml
      simp only at hmp hml
      have hsp := findP_spec a l j u hf
      have hent : (mEnts K l 0).toArray[j]? = some { key := K a, val := u, born := 0 + j } := by simp [mEnts_get, hsp]
      simp only [hent, Option.map_some, Option.getD_some, hK.stays, Result.andThen_ok, Sem.run_bind, MapKept.run_setObj_map _ hb, mapO, hmp, hml, World.putObj]
      congr 4
      apply Array.ext'
      simp only [Array.toList_modify]
      apply List.ext_getElem?
      intro i
      simp only [List.getElem?_modify, mEnts_get]
      by_cases hij : j = i
      · subst hij; simp [hsp]
      · simp [hij]
  refine ⟨_, .inr ⟨?_, rfl⟩, hs.putObj hp⟩
  simp [execOp, hag x _ hx, hag y _ hy, hag z _ hv, hrun]
end

/-! ### ranges over maps: which entries have been handed out -/
def iterO (b n : Nat) (seen : List Nat) : Obj := .mapIter (some b) n seen.toArray n
section
variable {P : Program} {m : Slots} {σ : View} {H : HList} {dst : Option Tmp} {ty : TypeId} {pos : String} {af : Array Edge} {g : Option (Nat × Bool)}
theorem New.range {α : Type} [DecidableEq α] {K : α → Value} {t k e : TypeId} {x : Operand} {b : Nat} {l : List (α × Value)} (hx : opv m x = some (.map (some b))) (ht : mapT P t = some (k, e)) (hb : Has σ H b (mapO K l)) :
    New P m ⟨dst, .range t x, ty, pos, af, g⟩ σ H (fun r => .pointer (some ⟨r, 0, none⟩)) (iterO b l.length []) := fun ρ w hag hs => by
  have hg := MapKept.run_getObj_map (P := P) (hb.at hs)
  refine ⟨w.alloc (iterO b l.length []), ?_, rfl, rfl, rfl, rfl, Nat.le_refl _⟩
  simp [execOp, hag x _ hx, Instr.range, run_underlying (mapT_spec ht), hg, Result.andThen, iterO]

/-- what 'next' tells -/
def nextV {α : Type} (K : α → Value) (more : Bool) (k : α) (x : Value) : Value := .tuple (if more then #[.bool true, K k, x] else #[.bool false])
def NextIs {α : Type} (l : List (α × Value)) (seen seen' : List Nat) (more : Bool) (k : α) (x : Value) : Prop :=
  (more = true → ∃ i, i ∉ seen ∧ l[i]? = some (k, x) ∧ seen' = seen ++ [i]) ∧ (more = false → (∀ i, i < l.length → i ∈ seen) ∧ seen' = seen)
theorem Any.next {α : Type} [DecidableEq α] [Inhabited α] {K : α → Value} {it : Operand} {b r : Nat} {l : List (α × Value)} {seen : List Nat} {Hf : List Nat → HList} (hx : opv m it = some (.pointer (some ⟨r, 0, none⟩)))
    (hp : ∀ s, Part H [(r, iterO b l.length seen)] [(r, iterO b l.length s)] (Hf s)) (hb : Has σ H b (mapO K l)) :
    Any P m ⟨dst, .next it false, ty, pos, af, g⟩ σ H (fun v σ' H' => ∃ more seen' k x, NextIs l seen seen' more k x ∧ v = nextV K more k x ∧ σ' = σ ∧ H' = Hf seen') := fun ρ w hag hs => by
  have hr := hs.own _ (hp seen).mem
  have hm := hb.at hs
  have hold : ∀ x ∈ (mEnts K l 0).toArray.toList, x.born < l.length := by
    intro x hx
    obtain ⟨i, hi⟩ := List.getElem?_of_mem hx
    simp only [mEnts_get] at hi
    cases hli : l[i]? with
    | none => simp [hli] at hi
    | some p =>
      simp only [hli, Option.map_some, Nat.zero_add, Option.some.injEq] at hi
      subst hi
      exact (List.getElem?_eq_some_iff.1 hli).1
  rcases run_next_at (P := P) w ty r b l.length l.length seen.toArray (mEnts K l 0).toArray l.length hr hm hold (Nat.le_refl _) with ⟨h0, hrun⟩ | ⟨e, he, w1, hw1, hrun⟩
  · refine ⟨_, σ, Hf seen, w, ?_, ⟨false, seen, default, .bool false, ⟨fun h => (by cases h), fun _ => ⟨fun i hi => ?_, rfl⟩⟩, rfl, rfl, rfl⟩, View.le_refl _, ?_⟩
    · simp [execOp, hag it _ hx, hrun, nextV]
    · by_cases hmem : i ∈ seen
      · exact hmem
      exfalso
      have hent : (mEnts K l 0)[i]? = some { key := K l[i].1, val := l[i].2, born := 0 + i } := by rw [mEnts_get]; simp [hi]
      have hin : ({ key := K l[i].1, val := l[i].2, born := 0 + i } : MapEntry) ∈ (leftOf (mEnts K l 0).toArray seen.toArray).toList := by
        unfold leftOf
        simp only [Array.toList_filter, List.mem_filter]
        exact ⟨List.mem_of_getElem? hent, by simpa using hmem⟩
      have : (leftOf (mEnts K l 0).toArray seen.toArray) = #[] := Array.eq_empty_of_size_eq_zero h0
      rw [this] at hin; simp at hin
    · exact hs.part (hp seen) hr (fun _ _ => rfl) ⟨rfl, rfl, rfl, by first | exact Nat.le_refl _ | exact Nat.le_succ _⟩
  · have he' : e ∈ mEnts K l 0 ∧ e.born ∉ seen := by
      unfold leftOf at he
      simpa using he
    obtain ⟨i, hi⟩ := List.getElem?_of_mem he'.1
    rw [mEnts_get] at hi
    cases hli : l[i]? with
    | none => simp [hli] at hi
    | some p =>
      obtain ⟨k, x⟩ := p
      simp only [hli, Option.map_some, Nat.zero_add, Option.some.injEq] at hi
      subst hi
      have henv : Env w w1 := by rcases hw1 with rfl | rfl <;> exact ⟨rfl, rfl, rfl, by first | exact Nat.le_refl _ | exact Nat.le_succ _⟩
      have hheap : w1.heap = w.heap := by rcases hw1 with rfl | rfl <;> rfl
      have hs1 : St σ H w1 := hs.same hheap henv
      refine ⟨_, σ, Hf (seen ++ [i]), _, ?_, ⟨true, seen ++ [i], k, x, ⟨fun _ => ⟨i, he'.2, hli, rfl⟩, fun h => (by cases h)⟩, rfl, rfl, rfl⟩, View.le_refl _, hs1.putObj (hp _)⟩
      simp [execOp, hag it _ hx, hrun, nextV, World.putObj, iterO, ChangeMaps.setBlock]
theorem Pur.extractNext {α : Type} {K : α → Value} {x : Operand} {more : Bool} {k : α} {v : Value} (hx : opv m x = some (nextV K more k v)) : Pur P m ⟨dst, .extract x 0, ty, pos, af, g⟩ σ H (.bool more) :=
  Pur.extract hx (by cases more <;> rfl)
theorem mEnts_born {α : Type} {K : α → Value} : ∀ (l : List (α × Value)) (i : Nat), (mEnts K l i).map (·.born) = List.range' i l.length
  | [], _ => rfl
  | (k, v) :: l, i => by simp [mEnts, mEnts_born l, List.range'_succ]
theorem Pur.entry {α : Type} [DecidableEq α] {K : α → Value} {it : Operand} {b r i : Nat} {l : List (α × Value)} {seen : List Nat} {k : α} {x : Value} (hx : opv m it = some (.pointer (some ⟨r, 0, none⟩)))
    (hr : (r, iterO b l.length (seen ++ [i])) ∈ H) (hb : Has σ H b (mapO K l)) (hi : l[i]? = some (k, x)) : Pur P m ⟨dst, .entry it, ty, pos, af, g⟩ σ H (.tuple #[K k, x]) := fun ρ w hag hs => by
  have h1 := hs.own _ hr
  have h2 := hb.at hs
  have hmem : ({ key := K k, val := x, born := i } : MapEntry) ∈ mEnts K l 0 := List.mem_of_getElem? (i := i) (by rw [mEnts_get, hi]; simp)
  have hit : iterO b l.length (seen ++ [i]) = .mapIter (some b) l.length (seen.toArray.push i) l.length := by simp [iterO]
  have := run_entry_at (P := P) w r b l.length seen.toArray (mEnts K l 0).toArray l.length { key := K k, val := x, born := i } (by rw [h1, hit]) h2 (by simpa using hmem)
    (by simp only [mEnts_born]; exact List.nodup_range')
  simp [execOp, hag it _ hx, this]
end
end Go.Sl
namespace Go.Sl
open Go

/-! ### hashes as bytes -/
theorem hash_first {a b : Nat} (ha : IsH a) (hb : IsH b) : ∀ i, i ≤ 32 → (∀ j, j < i → hdig a j = hdig b j) → a / 256 ^ (32 - i) = b / 256 ^ (32 - i) := by
  intro i
  induction i with
  | zero =>
    intro _ _
    have e : (256 : Nat) ^ (32 - 0) = HashMax := by decide
    rw [e, Nat.div_eq_of_lt ha, Nat.div_eq_of_lt hb]
  | succ i ih =>
    intro hi h
    rw [show 32 - (i + 1) = 31 - i by omega, top_succ a i (by omega), top_succ b i (by omega), ih (by omega) (fun j hj => h j (by omega)), h i (by omega)]
/-- how two hashes stand -/
def cmpH (a b : Nat) : Int := if a < b then -1 else if b < a then 1 else 0
def hashB (a : Nat) : ByteArray := ⟨((List.range 32).map fun i => UInt8.ofNat (hdig a i)).toArray⟩
theorem hashB_size (a : Nat) : (hashB a).size = 32 := by simp [hashB, ByteArray.size]
theorem hashB_get (a i : Nat) (hi : i < 32) : (hashB a)[i]! = UInt8.ofNat (hdig a i) := by
  have : i < (hashB a).size := by rw [hashB_size]; exact hi
  rw [getElem!_pos (hashB a) i this]
  change (hashB a).data[i]'this = _
  simp [hashB]
theorem u8_eq {x y : Nat} (hx : x < 256) (hy : y < 256) : UInt8.ofNat x = UInt8.ofNat y ↔ x = y := by
  constructor
  · intro h
    have := congrArg UInt8.toNat h
    simp [UInt8.toNat_ofNat'] at this
    omega
  · rintro rfl; rfl
theorem u8_lt {x y : Nat} (hx : x < 256) (hy : y < 256) : UInt8.ofNat x < UInt8.ofNat y ↔ x < y := by
  rw [UInt8.lt_iff_toNat_lt]
  simp [UInt8.toNat_ofNat']
  omega
theorem cmp_hash {a b : Nat} (ha : IsH a) (hb : IsH b) : Extern.BytealgCompare.cmp (hashB a) (hashB b) = cmpH a b := by
  unfold Extern.BytealgCompare.cmp
  simp only [hashB_size, Nat.min_self]
  have hne : ∀ i, i < 32 → ((hashB a)[i]! != (hashB b)[i]!) = !decide (hdig a i = hdig b i) := fun i hi => by
    rw [hashB_get a i hi, hashB_get b i hi]
    by_cases h : hdig a i = hdig b i
    · simp [h]
    · have := mt (u8_eq (hdig_lt a i) (hdig_lt b i)).1 h
      simp [h, this]
  cases hf : (List.range 32).find? fun i => (hashB a)[i]! != (hashB b)[i]! with
  | none =>
    have hall : ∀ i, i < 32 → hdig a i = hdig b i := fun i hi => by
      have := List.find?_eq_none.1 hf i (by simpa using hi)
      rw [hne i hi] at this
      simpa using this
    have := hash_ext ha hb hall
    subst this
    simp [cmpH]
  | some i =>
    obtain ⟨hp, as, bs, he, hlt⟩ := List.find?_eq_some_iff_append.1 hf
    have hi : i < 32 := by have := List.mem_of_find?_eq_some hf; simpa using this
    rw [hne i hi] at hp
    have hd : hdig a i ≠ hdig b i := by simpa using hp
    have hlen : as.length = i := by
      have h1 := congrArg (fun l => l[as.length]?) he
      simp only [List.getElem?_append_right (Nat.le_refl _), Nat.sub_self, List.getElem?_cons_zero] at h1
      have h2 : as.length < 32 := by
        have := congrArg List.length he
        simp at this; omega
      rw [List.getElem?_range h2] at h1
      simpa using h1
    have hpre : ∀ j, j < i → hdig a j = hdig b j := fun j hj => by
      have hmem : j ∈ as := by
        have h1 := congrArg (fun l => l[j]?) he
        simp only [List.getElem?_range (show j < 32 by omega)] at h1
        rw [List.getElem?_append_left (by omega)] at h1
        exact List.mem_of_getElem? h1.symm
      have := hlt j hmem
      rw [hne j (by omega)] at this
      simpa using this
    have htop := hash_first ha hb i (by omega) hpre
    simp only [hashB_get a i hi, hashB_get b i hi]
    by_cases hl : hdig a i < hdig b i
    · rw [if_pos ((u8_lt (hdig_lt a i) (hdig_lt b i)).2 hl)]
      have := hash_lt hi htop hl
      simp [cmpH, this]
    · rw [if_neg (fun h => hl ((u8_lt (hdig_lt a i) (hdig_lt b i)).1 h))]
      have := hash_lt hi htop.symm (by omega)
      have h2 : ¬ a < b := by omega
      simp [cmpH, this, h2]

section
variable {P : Program} {m : Slots} {σ : View} {H : HList} {dst : Option Tmp} {ty : TypeId} {pos : String} {af : Array Edge} {g : Option (Nat × Bool)}
theorem run_bytesOf_hash {a b off cap : Nat} {w : World} (hs : St σ H w) (h : Rd σ H b off (hashCells a)) : (Extern.Bytes.bytesOf (.slice (some ⟨b, off, none⟩) 32 cap)).run P w = .ok (hashB a) w := by
  have := Lib.run_loadBytesX (P := P) w ((List.range 32).map fun i => (hdig a i : Int)) ⟨b, off, none⟩ .empty (fun j x hx => by
    have hj : j < 32 := by
      have := (List.getElem?_eq_some_iff.1 hx).1; simpa using this
    have hx' : x = (hdig a j : Int) := by simp [hj] at hx; exact hx.symm
    have := h.cell hs j (.int .u8 x) (by rw [hashCells_get a j hj, hx']; rfl)
    rw [add_none]
    exact this)
  simp only [List.length_map, List.length_range] at this
  refine (show (Extern.Bytes.bytesOf (.slice (some ⟨b, off, none⟩) 32 cap)).run P w = (Extern.Bytes.loadBytes ⟨b, off, none⟩ 32 .empty).run P w from rfl).trans (this.trans ?_)
  refine congrArg (fun z => Result.ok z w) ?_
  apply ByteArray.ext
  simp [hashB, Lib.bytesOf, List.map_map]
/-- bytes compared, by the model's entry -/
theorem Pur.cmpHash {f : FuncId} {x y : Operand} {ats : Array TypeId} {a b ba oa ca bb ob cb : Nat} (hx : opv m x = some (.slice (some ⟨ba, oa, none⟩) 32 ca)) (hy : opv m y = some (.slice (some ⟨bb, ob, none⟩) 32 cb))
    (hf : ∀ args w, (callFunc f args).run P w = ((do pure (.value (← Extern.BytealgCompare.compare args))) : Sem Next).run P w)
    (ha : IsH a) (hb : IsH b) (h1 : Rd σ H ba oa (hashCells a)) (h2 : Rd σ H bb ob (hashCells b)) :
    Pur P m ⟨dst, .call { callee := .value (.func f), args := #[x, y], argTypes := ats }, ty, pos, af, g⟩ σ H (.int .i64 (cmpH a b)) := fun ρ w hag hs => by
  have hfv : ρ (.func f) = .func (.func f) #[] #[] := hag (.func f) _ rfl
  have e1 := run_bytesOf_hash (P := P) (cap := ca) hs h1
  have e2 := run_bytesOf_hash (P := P) (cap := cb) hs h2
  have := hf #[.slice (some ⟨ba, oa, none⟩) 32 ca, .slice (some ⟨bb, ob, none⟩) 32 cb] w
  have hcmp : ∀ x y : Value, Extern.BytealgCompare.compare #[x, y] = (do pure (goInt (Extern.BytealgCompare.cmp (← Extern.Bytes.bytesOf x) (← Extern.Bytes.bytesOf y)))) := fun _ _ => rfl
  simp only [hcmp, Sem.run_bind, e1, e2, Result.andThen_ok, Sem.run_pure, cmp_hash ha hb] at this
  simp [execOp, resolve, hfv, hag x _ hx, hag y _ hy, Deferred.ofValue, invoke, this, goInt]

/-- the whole of an array, as a slice -/
theorem Pur.sliceArr {t e n k : Nat} {x : Operand} {b off : Nat} (hx : opv m x = some (.pointer (some ⟨b, off, none⟩))) (ht : arE P t = some (n, e, k)) (hn : 0 < n) :
    Pur P m ⟨dst, .slice t x none none none, ty, pos, af, g⟩ σ H (.slice (some ⟨b, off, none⟩) n n) := fun ρ w hag _ => by
  unfold arE at ht
  split at ht
  · rename_i l' e' hu
    simp at ht
    obtain ⟨j, hj, rfl, rfl, rfl⟩ := ht
    have h0 : ¬ l' = 0 := by omega
    simp [execOp, Instr.sliceAt, Instr.sliceBounds, underlying, hu, hag x _ hx, sizeOf, typeInfo, hj, h0, Instr.sureAddr, Addr.add]
  · cases ht
end

section
variable {P : Program} {r : Option Nat} {ops : Array Oper} {Q : Exit → Act → World → Prop} {n : Nat} {d : List Deferred} {m : Slots} {σ : View} {H : HList}
/-! ### a method of an interface's value -/
theorem calli_run {T : TypeId} {x : Operand} {v : Value} {name : String} {f : FuncId} {xs : List Operand} {vs us : List Value} {ats : Array TypeId} {dst : Option Tmp} {ty : TypeId} {pos : String} {af : Array Edge} {g : Option (Nat × Bool)}
    (hr : opv m x = some (.iface T v)) (hx : evs m xs = some vs) (hf : ∀ w, St σ H w → (callMethod (.iface T v) name vs.toArray).run P w = .ok (.enter f us.toArray) w) (ρ : Operand → Value) (w : World) (ha : Agree ρ m) (hs : St σ H w) :
    (execOp ρ ⟨dst, .call { callee := .invoke x name, args := xs.toArray, argTypes := ats }, ty, pos, af, g⟩).run P w = .ok (.enter f us.toArray) w := by
  have h1 := evs_map hx ha
  have hv := ha x _ hr
  have h2 : (#[(.iface T v : Value)] ++ vs.toArray).extract 1 (#[(.iface T v : Value)] ++ vs.toArray).size = vs.toArray := by
    apply Array.ext'; simp
  have h3 : (#[(.iface T v : Value)] ++ vs.toArray)[0]? = some (.iface T v) := by simp
  simp only [execOp, resolve, h1, hv, Sem.run_bind, Sem.run_pure, Result.andThen_ok, invoke, h3, h2]
  exact hf w hs
theorem WL.callI {t : Tmp} {T : TypeId} {x : Operand} {v : Value} {name : String} {f : FuncId} {xs : List Operand} {vs us : List Value} {ats : Array TypeId} {ty : TypeId} {pos : String} {af : Array Edge} {rest : List Oper} {H0 Hr : HList} {R : Value → View → HList → Prop}
    (hr : opv m x = some (.iface T v)) (hx : evs m xs = some vs) (hf : ∀ w, St σ H w → (callMethod (.iface T v) name vs.toArray).run P w = .ok (.enter f us.toArray) w) (hH : (H0 ++ Hr).Perm H) (hcall : Tri P f us.toArray σ H0 R)
    (h : ∀ v σ' H', R v σ' H' → σ.le σ' → WL P r ops Q rest n d ((t, v) :: m) σ' (H' ++ Hr)) (ht : Nat.blt t n = true := by rfl) :
    WL P r ops Q (⟨some t, .call { callee := .invoke x name, args := xs.toArray, argTypes := ats }, ty, pos, af, none⟩ :: rest) n d m σ H :=
  wl_call ⟨_, rfl⟩ (fun _ _ => wanted_none rfl) (fun t' e => by cases e; exact ht) (fun ρ w ha hs => calli_run hr hx hf ρ w ha hs) hH hcall h
theorem WL.callIP {t : Tmp} {T : TypeId} {x : Operand} {v z : Value} {name : String} {f : FuncId} {xs : List Operand} {vs us : List Value} {ats : Array TypeId} {ty : TypeId} {pos : String} {af : Array Edge} {rest : List Oper}
    (hr : opv m x = some (.iface T v)) (hx : evs m xs = some vs) (hf : ∀ w, St σ H w → (callMethod (.iface T v) name vs.toArray).run P w = .ok (.enter f us.toArray) w) (hcall : TriP P f us.toArray σ z)
    (h : WL P r ops Q rest n d ((t, z) :: m) σ H) (ht : Nat.blt t n = true := by rfl) :
    WL P r ops Q (⟨some t, .call { callee := .invoke x name, args := xs.toArray, argTypes := ats }, ty, pos, af, none⟩ :: rest) n d m σ H :=
  WL.callI (Hr := H) hr hx hf (List.Perm.refl _) hcall (fun v' σ' H' ⟨e1, e2, e3⟩ _ => by subst e1; subst e2; subst e3; exact h) ht
theorem WL.gcallIP {t u : Tmp} {T : TypeId} {x : Operand} {v z : Value} {name : String} {f : FuncId} {xs : List Operand} {vs us : List Value} {ats : Array TypeId} {ty : TypeId} {pos : String} {af : Array Edge} {rest : List Oper} {j : Nat} {b want : Bool}
    (hj : (ops[j]?).bind (·.dst) = some u) (hu : get m u = some (.bool b)) (hb : (b == want) = true)
    (hr : opv m x = some (.iface T v)) (hx : evs m xs = some vs) (hf : ∀ w, St σ H w → (callMethod (.iface T v) name vs.toArray).run P w = .ok (.enter f us.toArray) w) (hcall : TriP P f us.toArray σ z)
    (h : WL P r ops Q rest n d ((t, z) :: m) σ H) (ht : Nat.blt t n = true := by rfl) :
    WL P r ops Q (⟨some t, .call { callee := .invoke x name, args := xs.toArray, argTypes := ats }, ty, pos, af, some (j, want)⟩ :: rest) n d m σ H :=
  wl_call (Hr := H) ⟨_, rfl⟩ (fun _ hf' => by rw [wanted_guard rfl hj hf' hu]; exact hb) (fun t' e => by cases e; exact ht) (fun ρ w ha hs => calli_run hr hx hf ρ w ha hs) (List.Perm.refl _) hcall
    (fun v' σ' H' ⟨e1, e2, e3⟩ _ => by subst e1; subst e2; subst e3; exact h)
/-- a guarded call of a function value, with a told result -/
theorem WL.gcallVP {t u : Tmp} {f : FuncId} {c : Operand} {xs : List Operand} {vs fs cs : List Value} {ats : Array TypeId} {ty : TypeId} {pos : String} {af : Array Edge} {rest : List Oper} {v : Value} {j : Nat} {b want : Bool}
    (hj : (ops[j]?).bind (·.dst) = some u) (hu : get m u = some (.bool b)) (hb : (b == want) = true)
    (hc : opv m c = some (.func (.func f) fs.toArray cs.toArray)) (hx : evs m xs = some vs) (hf : ∀ args w, (callFunc f args).run P w = .ok (.enter f args) w) (hcall : TriP P f (fs ++ vs ++ cs).toArray σ v)
    (h : WL P r ops Q rest n d ((t, v) :: m) σ H) (ht : Nat.blt t n = true := by rfl) :
    WL P r ops Q (⟨some t, .call { callee := .value c, args := xs.toArray, argTypes := ats }, ty, pos, af, some (j, want)⟩ :: rest) n d m σ H :=
  wl_call (Hr := H) ⟨_, rfl⟩ (fun _ hf' => by rw [wanted_guard rfl hj hf' hu]; exact hb) (fun t' e => by cases e; exact ht) (fun ρ w ha _ => callv_run hc hx hf ρ w ha) (List.Perm.refl _) hcall
    (fun v' σ' H' ⟨e1, e2, e3⟩ _ => by subst e1; subst e2; subst e3; exact h)
end
section
variable {P : Program} {m : Slots} {σ : View} {H : HList} {dst : Option Tmp} {ty : TypeId} {pos : String} {af : Array Edge} {g : Option (Nat × Bool)}
/-- a type that is no interface -/
def isPlainT (P : Program) (t : TypeId) : Bool := match P.underlying t with | some (.interface _) => false | some _ => true | none => false
theorem Pur.typeAssert {x : Operand} {s t : TypeId} {v : Value} (hx : opv m x = some (.iface t v)) (ht : isPlainT P t = true) : Pur P m ⟨dst, .typeAssert x s t false, ty, pos, af, g⟩ σ H v := fun ρ w hag _ => by
  unfold isPlainT at ht
  split at ht
  · cases ht
  · rename_i u hne hu
    have hrun : (Instr.typeAssert (.iface t v) s t false).run P w = .ok v w := by
      cases u <;> simp_all [Instr.typeAssert, underlying]
    simp [execOp, hag x _ hx, hrun]
  · cases ht
end
end Go.Sl
