/- The words of this seat's walks: a frame known in part (slot, value), a heap known in part (blocks that the call owns, blocks that nobody writes), and one rule for each form of code. Conditions: none; every rule is a theorem over any program. The heap known in part: what the call owns, what nobody writes; and what each operation of the model does to it. Conditions: as each theorem says. One theorem for each operation of the model that this seat's code uses: what it yields, or what it does to the heap. Conditions: as each theorem says. One theorem for each operation that reads or writes the heap. Conditions: as each theorem says. Calls by contract, the begin and the end of a function, copy, and slices as rows of data. Conditions: as each theorem says. Facts on the types and functions of this seat's program, each by the kernel: made by gen_ty.py. Conditions: none. The moves of a walk as a program types them: one a kind of operation. Conditions: none. The digest as a plain function on bytes, and the operations on 32-bit words that it is made of. Conditions: none. Short forms of the moves, and slices of data in memory that nobody writes. Conditions: none. -/
import Derived.Tactics
import Derived.OrdersHeld
import Derived.Below
import Derived.KernelRfl
import Derived.Laws.AppendOwn
import Derived.IntWalk
import Derived.Laws.Tables
import Derived.Laws.Slices
import Derived.Great.BuildSlice
import Derived.Conc.MuLone
import Derived.Laws.CopyRow
import Derived.Laws.Append
import Derived.Test.YtecbpmgfikgoaaaGreatDoorProg
section
set_option linter.unusedVariables false
set_option linter.unusedSimpArgs false
namespace Go.Proofs.YtecbpmgfikgoaaaGreatDoor
open Go

/-! ### 1. A frame known in part -/
def look : List (Nat × Value) → Nat → Option Value
  | [], _ => none
  | (d, v) :: E, t => bif Nat.beq d t then some v else look E t

structure Env (n : Nat) (a : Act) (E : List (Nat × Value)) : Prop where
  size : a.tmps.size = n
  defers : a.defers = []
  at_ : ∀ t v, look E t = some v → a.tmps.getD t undef = v

def ev (E : List (Nat × Value)) : Operand → Option Value
  | .tmp t => look E t
  | .const v => some v
  | .global g => some (.pointer (some ⟨g, 0, none⟩))
  | .func f => some (.func (.func f) #[] #[])

theorem Env.ev {n : Nat} {a : Act} {E : List (Nat × Value)} (h : Env n a E) {x : Operand} {v : Value} (hx : ev E x = some v) : a.eval x = v := by
  cases x with
  | tmp t => exact h.at_ t v hx
  | const u => simpa [YtecbpmgfikgoaaaGreatDoor.ev, Act.eval] using hx
  | global g => simpa [YtecbpmgfikgoaaaGreatDoor.ev, Act.eval] using hx
  | func f => simpa [YtecbpmgfikgoaaaGreatDoor.ev, Act.eval] using hx

def putE : Option Nat → Value → List (Nat × Value) → List (Nat × Value)
  | none, _, E => E
  | some d, v, E => (d, v) :: E

def dstOk : Option Nat → Nat → Bool
  | none, _ => true
  | some d, n => Nat.blt d n

theorem Env.put {n : Nat} {a : Act} {E : List (Nat × Value)} (h : Env n a E) {d : Option Nat} (hd : dstOk d n = true) (v : Value) : Env n (a.put d v) (putE d v E) := by
  cases d with
  | none => exact h
  | some d =>
    have hd' : d < n := Nat.le_of_ble_eq_true hd
    refine ⟨by simp [Act.put, h.size], by simp [Act.put, h.defers], fun t u hu => ?_⟩
    simp only [putE, look] at hu
    by_cases e : d = t
    · subst e
      have hb : Nat.beq d d = true := Nat.beq_refl d
      rw [hb] at hu
      simp only [cond_true, Option.some.injEq] at hu
      subst hu
      simp [Act.put, Array.getD, h.size, hd']
    · have hb : Nat.beq d t = false := by
        cases hbb : Nat.beq d t with
        | false => rfl
        | true => exact absurd (Nat.eq_of_beq_eq_true hbb) e
      rw [hb] at hu
      have := h.at_ t u hu
      simp only [Act.put]
      rw [← this]
      simp [Array.getD_eq_getD_getElem?, Array.getElem?_setIfInBounds, e]

/-- All that 'F' knows stands in 'E' too. -/
def Sub (F E : List (Nat × Value)) : Prop := ∀ t v, look F t = some v → look E t = some v
theorem Sub.nil {E : List (Nat × Value)} : Sub [] E := fun _ _ h => by cases h
theorem Sub.cons {F E : List (Nat × Value)} {t : Nat} {v : Value} (h : look E t = some v) (hs : Sub F E) : Sub ((t, v) :: F) E := by
  intro s u hu
  simp only [look] at hu
  cases hb : Nat.beq t s with
  | false => rw [hb] at hu; exact hs s u hu
  | true =>
    rw [hb] at hu
    have := Nat.eq_of_beq_eq_true hb
    subst this
    simpa [h] using hu
theorem Sub.conv {F E : List (Nat × Value)} {t : Nat} {v v' : Value} (h : look E t = some v') (e : v' = v) (hs : Sub F E) : Sub ((t, v) :: F) E := Sub.cons (e ▸ h) hs
theorem Sub.refl (E : List (Nat × Value)) : Sub E E := fun _ _ h => h
theorem Env.sub {n : Nat} {a : Act} {E F : List (Nat × Value)} (h : Env n a E) (hs : Sub F E) : Env n a F := ⟨h.size, h.defers, fun t v hv => h.at_ t v (hs t v hv)⟩

/-! ### 2. What stands behind a piece of code: nothing panics here -/
structure Kont where
  nrm : Act → World → Prop
  ext : Nat → Act → World → Prop
  ret : Act → World → Prop

def Kont.post (k : Kont) : Exit → Act → World → Prop
  | .normal, a, w => k.nrm a w
  | .exit i, a, w => k.ext i a w
  | .ret, a, w => k.ret a w
  | _, _, _ => False

def W (P : Program) (n : Nat) (c : Code) (k : Kont) (E : List (Nat × Value)) (w : World) : Prop := ∀ a, Env n a E → c.wp P k.post a w

def Kont.seq (P : Program) (y : Code) (k : Kont) : Kont := { k with nrm := fun a w => y.wp P k.post a w }
def Kont.block (id : Nat) (k : Kont) : Kont := { k with ext := fun j a w => bif Nat.beq j id then k.nrm a w else k.ext j a w }
def Kont.loop (I : Act → World → Prop) (k : Kont) : Kont := { k with nrm := I }
def Kont.body (P : Program) (fn : Func) (R : Ending → World → Prop) : Kont where
  nrm := fun a w => bodyPost P fn R .normal a w
  ext := fun _ _ _ => False
  ret := fun a w => bodyPost P fn R .ret a w

section
variable {P : Program} {n : Nat} {k : Kont} {E : List (Nat × Value)} {w : World}

theorem W.sub {c : Code} {F : List (Nat × Value)} (hs : Sub F E) (h : W P n c k F w) : W P n c k E w := fun a ha => h a (ha.sub hs)

theorem W.seq {x y : Code} (h : W P n x (k.seq P y) E w) : W P n (.seq x y) k E w := fun a ha => wp_seq (wp_mono (h a ha) (by
  intro e a w h
  cases e <;> exact h))
theorem W.skip (h : ∀ a, Env n a E → k.nrm a w) : W P n .skip k E w := fun a ha => wp_skip (h a ha)
theorem W.ret (h : ∀ a, Env n a E → k.ret a w) : W P n .ret k E w := fun a ha => wp_ret (h a ha)
theorem W.exit {id : Nat} (h : ∀ a, Env n a E → k.ext id a w) : W P n (.exit id) k E w := fun a ha => wp_exit (h a ha)
theorem W.block {id : Nat} {c : Code} (h : W P n c (k.block id) E w) : W P n (.block id c) k E w := fun a ha => wp_block (wp_mono (h a ha) (by
  intro e a w h
  cases e with
  | exit j =>
    simp only [Kont.post, Kont.block] at h
    simp only [Exit.inBlock]
    by_cases e : j = id
    · subst e
      rw [Nat.beq_refl] at h
      rw [if_pos rfl]
      exact h
    · have hb : Nat.beq j id = false := by
        cases hbb : Nat.beq j id with
        | false => rfl
        | true => exact absurd (Nat.eq_of_beq_eq_true hbb) e
      rw [hb] at h
      rw [if_neg e]
      exact h
  | _ => exact h))
theorem W.cond {c : Operand} {x y : Code} {b : Bool} (hc : ev E c = some (.bool b)) (ht : b = true → W P n x k E w) (hf : b = false → W P n y k E w) : W P n (.cond c x y) k E w := fun a ha => by
  refine wp_cond_split (ha.ev hc) (fun h => ht h a ha) (fun h => hf h a ha)

/-- What a loop's round leaves. -/
def Rounds {α : Type} (n : Nat) (F : α → List (Nat × Value)) (J : α → World → Prop) (m : α → Nat) (x : α) (a : Act) (w : World) : Prop :=
  ∃ x', Env n a (F x') ∧ J x' w ∧ m x' < m x

theorem wp_loop_held {α : Type} {c : Code} {Q : Exit → Act → World → Prop} (I : α → Act → World → Prop) (m : α → Nat)
    (round : ∀ x a w, I x a w → c.wp P (Exit.then (fun a' w' => ∃ x', I x' a' w' ∧ m x' < m x) Q) a w) (x : α) (a : Act) (w : World) (h : I x a w) : (Code.loop c).wp P Q a w := by
  intro b k cs
  have key : ∀ j x a w, m x = j → I x a w →
      ∃ e a' w', Q e a' w' ∧ Arrives P (lone (b.at a (.code c :: .inLoop c :: k)) cs w) b k cs e a' w' := by
    intro j
    induction j using Nat.strongRecOn with
    | _ j ih =>
      intro x a w hm hI
      obtain ⟨e, a₁, w₁, hq, harr⟩ := round x a w hI b (.inLoop c :: k) cs
      cases e with
      | normal =>
        obtain ⟨x', hI₁, hlt⟩ := hq
        obtain ⟨e₂, a₂, w₂, hq₂, harr₂⟩ := ih (m x') (hm ▸ hlt) x' a₁ w₁ rfl hI₁
        exact ⟨e₂, a₂, w₂, hq₂, .of_steps (Steps.trans harr (.one step_inLoop)) harr₂⟩
      | exit id => exact ⟨_, a₁, w₁, hq, .pass (x := .inLoop c) rfl (fun _ _ => .inl (by simp)) harr⟩
      | goto l => exact ⟨_, a₁, w₁, hq, .pass (x := .inLoop c) rfl (fun _ _ => .inl (by simp)) harr⟩
      | ret => exact ⟨_, a₁, w₁, hq, .pass (x := .inLoop c) rfl (fun _ _ => .inl (by simp)) harr⟩
      | panic ch => exact ⟨_, a₁, w₁, hq, .pass (x := .inLoop c) rfl (fun _ _ => .inl (by simp)) harr⟩
      | outgrown => exact ⟨_, a₁, w₁, hq, .pass (x := .inLoop c) rfl (fun _ _ => .inl (by simp)) harr⟩
  obtain ⟨e, a', w', hq, harr⟩ := key _ x a w rfl h
  exact ⟨e, a', w', hq, .of_steps (.one step_loop) harr⟩

theorem W.loop {α : Type} {c : Code} (F : α → List (Nat × Value)) (J : α → World → Prop) (m : α → Nat) (x : α) (hE : Sub (F x) E) (hJ : J x w)
    (round : ∀ x w, J x w → W P n c (k.loop (Rounds n F J m x)) (F x) w) : W P n (.loop c) k E w := fun a ha =>
  wp_loop_held (fun x a w => Env n a (F x) ∧ J x w) m (fun x a w ⟨he, hj⟩ => wp_mono (round x w hj a he) (by
    intro e a w h
    cases e with
    | normal => obtain ⟨x', h1, h2, h3⟩ := h; exact ⟨x', ⟨h1, h2⟩, h3⟩
    | _ => exact h)) x a w ⟨ha.sub hE, hJ⟩

theorem round_end {α : Type} {F : α → List (Nat × Value)} {J : α → World → Prop} {m : α → Nat} {x : α} (x' : α) (hE : Sub (F x') E) (hJ : J x' w) (hm : m x' < m x) :
    ∀ a, Env n a E → Rounds n F J m x a w := fun a ha => ⟨x', ha.sub hE, hJ, hm⟩

attribute [irreducible] Rounds

/-- A piece of code whose ways meet again: what holds behind it is said once. -/
theorem W.cut {c : Code} {α : Type} (F : α → List (Nat × Value)) (J : α → World → Prop) (h : W P n c { k with nrm := fun a w' => ∃ x, Env n a (F x) ∧ J x w' } E w)
    (hb : ∀ x w', J x w' → ∀ a, Env n a (F x) → k.nrm a w') : W P n c k E w := fun a ha => wp_mono (h a ha) (by
  intro e a w h
  cases e with
  | normal => obtain ⟨x, h1, h2⟩ := h; exact hb x w h2 a h1
  | _ => exact h)
theorem cut_end {α : Type} {F : α → List (Nat × Value)} {J : α → World → Prop} (x : α) (hE : Sub (F x) E) (hJ : J x w) : ∀ a, Env n a E → ∃ x, Env n a (F x) ∧ J x w :=
  fun a ha => ⟨x, ha.sub hE, hJ⟩

/-! ### 3. Regions -/
def RL (P : Program) (n : Nat) (ops : Array Oper) (k : Kont) (rest : List Oper) (E : List (Nat × Value)) (w : World) : Prop := ∀ a, Env n a E → wpList P ops k.post rest a w

theorem W.region {id : Nat} {l : List Oper} (h : RL P n l.toArray k l E w) : W P n (.region id l.toArray false) k E w := fun a ha => wp_region_lit (h a ha)

/-- In every frame that E knows and every world that meets S, 'o' yields v and leaves the world as it is. -/
def PV (P : Program) (n : Nat) (o : Oper) (E : List (Nat × Value)) (S : World → Prop) (v : Value) : Prop :=
  ∀ a, Env n a E → ∀ w, S w → (execOp a.eval o).run P w = .ok (.value v) w

/-- What 'o' leaves: a value in its slot, and a world, of which 'post' is known. -/
def EF (P : Program) (n : Nat) (o : Oper) (E : List (Nat × Value)) (w : World) (post : Value → World → Prop) : Prop :=
  ∀ a, Env n a E → ∀ (next : Act → World → Prop) (Q : Exit → Act → World → Prop), (∀ v w', post v w' → next (a.put o.dst v) w') → o.wp P a w next Q

theorem RL.done {ops : Array Oper} (h : ∀ a, Env n a E → k.nrm a w) : RL P n ops k [] E w := fun a ha => h a ha

/-- Is the operation carried out? -/
def Want (n : Nat) (ops : Array Oper) (o : Oper) (E : List (Nat × Value)) (b : Bool) : Prop := ∀ a, Env n a E → Region.wanted o (yielded ops a.tmps) = b
theorem Want.none {ops : Array Oper} {o : Oper} (hg : o.guard = none) : Want n ops o E true := fun a _ => by simp [Region.wanted, hg]
theorem yielded_of {ops : Array Oper} {a : Act} (ha : Env n a E) {j t : Nat} {o : Oper} {b : Bool} (hj : ops[j]? = some o) (ht : o.dst = some t) (hb : look E t = some (.bool b)) :
    yielded ops a.tmps j = some b := by
  have h := ha.at_ t _ hb
  simp only [yielded, hj, ht, Option.bind_some]
  rw [Array.getD_eq_getD_getElem?] at h
  cases hc : a.tmps[t]? with
  | none => rw [hc] at h; exact absurd h (by simp [undef])
  | some v => rw [hc] at h; simp only [Option.getD_some] at h; rw [h]
theorem Want.of {ops : Array Oper} {o : Oper} {j t : Nat} {oj : Oper} {p b c : Bool} (hg : o.guard = some (j, p)) (hj : ops[j]? = some oj) (ht : oj.dst = some t) (hb : look E t = some (.bool b)) (hc : (b == p) = c) :
    Want n ops o E c := fun a ha => by
  simp only [Region.wanted, hg, yielded_of ha hj ht hb]
  rw [← hc]
  cases b <;> cases p <;> rfl

theorem RL.pure {ops : Array Oper} {o : Oper} {rest : List Oper} {S : World → Prop} {v : Value} (hg : Want n ops o E true) (hd : dstOk o.dst n = true) (hv : PV P n o E S v) (hS : S w)
    (h : RL P n ops k rest (putE o.dst v E) w) : RL P n ops k (o :: rest) E w := fun a ha => by
  unfold wpList
  rw [if_pos (hg a ha)]
  refine .inl ?_
  simp only [Oper.wp, hv a ha w hS, Oper.upon]
  exact h _ (ha.put hd v)

theorem RL.eff {ops : Array Oper} {o : Oper} {rest : List Oper} {post : Value → World → Prop} (hg : Want n ops o E true) (hd : dstOk o.dst n = true) (he : EF P n o E w post)
    (h : ∀ v w', post v w' → RL P n ops k rest (putE o.dst v E) w') : RL P n ops k (o :: rest) E w := fun a ha => by
  unfold wpList
  rw [if_pos (hg a ha)]
  exact .inl (he a ha _ _ fun v w' hp => h v w' hp _ (ha.put hd v))

theorem RL.skip {ops : Array Oper} {o : Oper} {rest : List Oper} (hg : Want n ops o E false) (hd : dstOk o.dst n = true)
    (h : RL P n ops k rest (putE o.dst undef E) w) : RL P n ops k (o :: rest) E w := fun a ha => by
  unfold wpList
  rw [if_neg (by rw [hg a ha]; simp)]
  exact h _ (ha.put hd undef)

end

/-! ### 4. Regions that draw their order -/
/-- Does 'oj' wait for number i, by an edge of its own? -/
def waitsOn (oj : Oper) (i : Nat) : Bool := oj.after.any fun e => Region.binds .any e && e.on == i
/-- Must S hold behind number j? Not where j waits for all that may be taken first. -/
def needOf (ops : Array Oper) (order : List (Nat × Bool)) (j : Nat) : Bool :=
  match ops[j]? with
  | some oj => order.any fun x => x.2 && !waitsOn oj x.1 && x.1 != j
  | none => false

def wpAnyG (P : Program) (ops : Array Oper) (Q : Exit → Act → World → Prop) (S : World → Prop) (need : Nat → Bool) : Nat → Array Bool → Act → World → Prop
  | 0, listed, a, w => Region.ready .any ops listed = [] ∧ Q .normal a w
  | fuel + 1, listed, a, w =>
    (Region.ready .any ops listed = [] → Q .normal a w) ∧
    ∀ i ∈ Region.ready .any ops listed, wpOp P ops Q i (fun a' w' => (need i = true → S w') ∧ wpAnyG P ops Q S need fuel (listed.setIfInBounds i true) a' w') a w

section
variable {P : Program} {ops : Array Oper} {Q : Exit → Act → World → Prop} {S : World → Prop} {need : Nat → Bool}

theorem wpAny_of_G : ∀ (fuel : Nat) (listed : Array Bool) (a : Act) (w : World), wpAnyG P ops Q S need fuel listed a w → wpAny P .any ops Q fuel listed a w
  | 0, _, _, _, h => h
  | fuel + 1, _, _, _, h => ⟨h.1, fun i hi => wpOp_mono (fun a' w' h' => wpAny_of_G fuel _ a' w' h'.2) (h.2 i hi)⟩

theorem wpAnyG_first {i : Nat} {oi : Oper} {v : Value} (hi : ops[i]? = some oi) (hsel : ∀ (j : Nat) (o : Oper) cs b, ops[j]? = some o → o.op ≠ .select cs b)
    (hQ : ∀ c a w, Q (.panic c) (a.put oi.dst v) w → Q (.panic c) a w)
    (hneed : ∀ j oj, ops[j]? = some oj → j ≠ i → (∀ e ∈ oj.after, Region.binds .any e = true → e.on ≠ i) → need j = true) :
    ∀ (fuel : Nat) (listed : Array Bool) (a : Act) (w : World),
      (∀ j oj, ops[j]? = some oj → j ≠ i → listed.getD j true = false → (∀ e ∈ oj.after, Region.binds .any e = true → e.on ≠ i) → oi.apart ops oj = true) →
      i ∈ Region.ready .any ops listed → YieldsIf P ops S oi v a → S w →
      wpAnyG P ops Q S need fuel (listed.setIfInBounds i true) (a.put oi.dst v) w → wpAnyG P ops Q S need (fuel + 1) listed a w := by
  intro fuel
  induction fuel with
  | zero =>
    intro listed a w _ hr hy hS H
    refine ⟨fun h => (by rw [h] at hr; cases hr), fun j hj => ?_⟩
    by_cases hji : j = i
    · subst hji; exact hy.wpOp hi hS ⟨fun _ => hS, H⟩
    · have := ready_mono hj hji
      rw [H.1] at this
      cases this
  | succ fuel ih =>
    intro listed a w hfree hr hy hS H
    refine ⟨fun h => (by rw [h] at hr; cases hr), fun j hj => ?_⟩
    by_cases hji : j = i
    · subst hji; exact hy.wpOp hi hS ⟨fun _ => hS, H⟩
    · have h1 := H.2 j (ready_mono hj hji)
      obtain ⟨hjun, oj, hoj, hall⟩ := mem_ready.1 hj
      have hnot : ∀ e ∈ oj.after, Region.binds .any e = true → e.on ≠ i := fun e he hb heq => by
        have h1 := hall e he hb
        have h0 := (mem_ready.1 hr).1
        rw [heq] at h1
        rcases Nat.lt_or_ge i listed.size with h' | h'
        · simp [h'] at h0 h1; rw [h0] at h1; cases h1
        · simp [Array.getElem?_eq_none h'] at h1
      have hn := hneed j oj hoj hji hnot
      have h2 := wpOp_putIf hoj (hfree j oj hoj hji hjun hnot) (fun cs b => hsel i oi cs b hi) (fun cs b => hsel j oj cs b hoj) hQ hy h1
      have hfree' : ∀ k ok, ops[k]? = some ok → k ≠ i → (listed.setIfInBounds j true).getD k true = false →
          (∀ e ∈ ok.after, Region.binds .any e = true → e.on ≠ i) → oi.apart ops ok = true := fun k ok hk hki hun hno => by
        refine hfree k ok hk hki ?_ hno
        by_cases hjk : j = k
        · subst hjk; exact hjun
        · rw [getD_set_ne true hjk] at hun; exact hun
      refine wpOp_mono (fun a' w' h3 => ⟨fun _ => h3.2.1 hn, ih (listed.setIfInBounds j true) a' w' hfree' (ready_mono hr (Ne.symm hji)) h3.1 (h3.2.1 hn) ?_⟩) h2
      rw [Array.setIfInBounds_comm _ _ hji]
      exact h3.2.2
end

def TWo (P : Program) (ops : Array Oper) (Q : Exit → Act → World → Prop) (S : World → Prop) (need : Nat → Bool) : List (Nat × Bool) → Act → World → Prop
  | [], a, w => Q .normal a w
  | (i, true) :: rest, a, w => S w ∧ ∃ o v, ops[i]? = some o ∧ YieldsIf P ops S o v a ∧ TWo P ops Q S need rest (a.put o.dst v) w
  | (i, false) :: rest, a, w => wpOp P ops Q i (fun a' w' => (need i = true → S w') ∧ TWo P ops Q S need rest a' w') a w

def orderOk (ops : Array Oper) (all : List (Nat × Bool)) : Nat → List (Nat × Bool) → Array Bool → Bool
  | 0, [], listed => (Region.ready .any ops listed).isEmpty
  | _ + 1, [], listed => false
  | 0, _ :: _, _ => false
  | fuel + 1, (i, p) :: rest, listed =>
    (bif p then Region.free .any ops listed i && (Region.ready .any ops listed).contains i && all.contains (i, true) else Region.ready .any ops listed == [i]) && orderOk ops all fuel rest (listed.setIfInBounds i true)

section
variable {P : Program} {n : Nat} {k : Kont} {E : List (Nat × Value)} {w : World}

theorem need_of {ops : Array Oper} {all : List (Nat × Bool)} {i : Nat} (hall : all.contains (i, true) = true) (j : Nat) (oj : Oper) (hj : ops[j]? = some oj) (hji : j ≠ i)
    (hno : ∀ e ∈ oj.after, Region.binds .any e = true → e.on ≠ i) : needOf ops all j = true := by
  simp only [needOf, hj]
  refine List.any_eq_true.2 ⟨(i, true), by simpa using hall, ?_⟩
  have hw : waitsOn oj i = false := by
    cases hb : waitsOn oj i with
    | false => rfl
    | true =>
      obtain ⟨e, he, hh⟩ := Array.any_eq_true'.1 hb
      simp only [Bool.and_eq_true, beq_iff_eq] at hh
      exact absurd hh.2 (hno e he hh.1)
  have hne : (i != j) = true := by rw [bne_iff_ne]; exact Ne.symm hji
  simp [hw, hne]

theorem wpAnyG_of_order {ops : Array Oper} {S : World → Prop} {all : List (Nat × Bool)} (hs : Region.noSelect ops = true) : ∀ (l : List (Nat × Bool)) (fuel : Nat) (listed : Array Bool) (a : Act) (w : World),
    orderOk ops all fuel l listed = true → TWo P ops k.post S (needOf ops all) l a w → wpAnyG P ops k.post S (needOf ops all) fuel listed a w
  | [], 0, listed, a, w, ho, h => ⟨by simpa [orderOk] using ho, h⟩
  | [], _ + 1, listed, a, w, ho, h => by simp [orderOk] at ho
  | _ :: _, 0, listed, a, w, ho, h => by simp [orderOk] at ho
  | (i, true) :: rest, fuel + 1, listed, a, w, ho, h => by
    simp only [orderOk, cond_true, Bool.and_eq_true] at ho
    obtain ⟨hS, o, v, hi, hy, ht⟩ := h
    exact wpAnyG_first hi (Region.noSelect_spec hs) (fun _ _ _ h => h) (fun j oj hj hji hno => need_of ho.1.2 j oj hj hji hno) fuel listed a w (Region.free_spec hi ho.1.1.1) (by simpa using ho.1.1.2) hy hS
      (wpAnyG_of_order hs rest fuel _ _ _ ho.2 ht)
  | (i, false) :: rest, fuel + 1, listed, a, w, ho, h => by
    simp only [orderOk, cond_false, Bool.and_eq_true] at ho
    have hr : Region.ready .any ops listed = [i] := by simpa using ho.1
    refine ⟨fun h0 => (by rw [h0] at hr; cases hr), fun j hj => ?_⟩
    rw [hr] at hj
    obtain rfl : j = i := by simpa using hj
    exact wpOp_mono (fun a' w' ⟨h1, h2⟩ => ⟨h1, wpAnyG_of_order hs rest fuel _ a' w' ho.2 h2⟩) h

def TW (P : Program) (n : Nat) (ops : Array Oper) (k : Kont) (S : World → Prop) (need : Nat → Bool) (order : List (Nat × Bool)) (E : List (Nat × Value)) (w : World) : Prop :=
  ∀ a, Env n a E → TWo P ops k.post S need order a w

theorem W.draws {id : Nat} {ops : Array Oper} (S : World → Prop) (order : List (Nat × Bool)) (hm : P.follows .mixedOrders = true) (hs : Region.noSelect ops = true)
    (ho : orderOk ops order ops.size order (Array.replicate ops.size false) = true) (h : TW P n ops k S (needOf ops order) order E w.drew) : W P n (.region id ops true) k E w := fun a ha =>
  wp_region_any hm (wpAny_of_G _ _ _ _ (wpAnyG_of_order hs order _ _ a w.drew ho (h a ha)))

theorem W.drawsH {id : Nat} {ops : Array Oper} {S : World → Prop} (hS : S w) (order : List (Nat × Bool)) (hm : P.follows .mixedOrders = true) (hs : Region.noSelect ops = true)
    (ho : orderOk ops order ops.size order (Array.replicate ops.size false) = true) (h : TW P n ops k S (needOf ops order) order E w.drew) : W P n (.region id ops true) k E w := W.draws S order hm hs ho h

theorem TW.done {ops : Array Oper} {S : World → Prop} {need : Nat → Bool} (h : ∀ a, Env n a E → k.nrm a w) : TW P n ops k S need [] E w := fun a ha => h a ha

theorem TW.pure {ops : Array Oper} {S : World → Prop} {need : Nat → Bool} {i : Nat} {o : Oper} {rest : List (Nat × Bool)} {v : Value} (hi : ops[i]? = some o) (hg : Want n ops o E true) (hd : dstOk o.dst n = true)
    (hv : PV P n o E S v) (hS : S w) (h : TW P n ops k S need rest (putE o.dst v E) w) : TW P n ops k S need ((i, true) :: rest) E w := fun a ha =>
  ⟨hS, o, v, hi, .inl ⟨hg a ha, fun w hS => hv a ha w hS⟩, h _ (ha.put hd v)⟩

theorem TW.skip {ops : Array Oper} {S : World → Prop} {need : Nat → Bool} {i : Nat} {o : Oper} {rest : List (Nat × Bool)} (hi : ops[i]? = some o) (hg : Want n ops o E false) (hd : dstOk o.dst n = true)
    (hS : S w) (h : TW P n ops k S need rest (putE o.dst undef E) w) : TW P n ops k S need ((i, true) :: rest) E w := fun a ha =>
  ⟨hS, o, undef, hi, .inr ⟨hg a ha, rfl⟩, h _ (ha.put hd undef)⟩

theorem TW.eff {ops : Array Oper} {S : World → Prop} {need : Nat → Bool} {i : Nat} {o : Oper} {rest : List (Nat × Bool)} {post : Value → World → Prop} (hi : ops[i]? = some o) (hg : Want n ops o E true) (hd : dstOk o.dst n = true)
    (he : EF P n o E w post) (h : ∀ v w', post v w' → (need i = true → S w') ∧ TW P n ops k S need rest (putE o.dst v E) w') : TW P n ops k S need ((i, false) :: rest) E w := fun a ha => by
  simp only [TWo, wpOp, hi, hg a ha, if_true]
  exact .inl (he a ha _ _ fun v w' hp => ⟨(h v w' hp).1, (h v w' hp).2 _ (ha.put hd v)⟩)
theorem TW.effSkip {ops : Array Oper} {S : World → Prop} {need : Nat → Bool} {i : Nat} {o : Oper} {rest : List (Nat × Bool)} (hi : ops[i]? = some o) (hg : Want n ops o E false) (hd : dstOk o.dst n = true)
    (hS : need i = true → S w) (h : TW P n ops k S need rest (putE o.dst undef E) w) : TW P n ops k S need ((i, false) :: rest) E w := fun a ha => by
  simp only [TWo, wpOp, hi, hg a ha]
  exact ⟨hS, h _ (ha.put hd undef)⟩
end
end Go.Proofs.YtecbpmgfikgoaaaGreatDoor
end
section
set_option linter.unusedVariables false
set_option linter.unusedSimpArgs false
namespace Go.Proofs.YtecbpmgfikgoaaaGreatDoor
open Go Go.RowKit

abbrev Chunk := Nat × List Value × TypeId
def cellsO (cs : List Value) (T : TypeId) : Obj := .cells cs.toArray T (0, 0)
def aggL (cs : List Value) : Value := .agg cs.toArray
def ptr (b off : Nat) : Value := .pointer (some ⟨b, off, none⟩)
abbrev Imm := Nat → Option Obj
def Le (I J : Imm) : Prop := ∀ b o, I b = some o → J b = some o
theorem Le.refl (I : Imm) : Le I I := fun _ _ h => h
theorem Le.trans {I J K : Imm} (h : Le I J) (h' : Le J K) : Le I K := fun b o hb => h' b o (h b o hb)

structure Sat (G : World) (M : List Chunk) (I : Imm) (w : World) : Prop where
  tape : w.tape = G.tape
  os : w.os = G.os
  output : w.output = G.output
  own : ∀ b cs T, (b, cs, T) ∈ M → w.heap[b]? = some (cellsO cs T)
  nodup : (M.map (·.1)).Nodup
  imm : ∀ b o, I b = some o → w.heap[b]? = some o
  apart : ∀ b cs T, (b, cs, T) ∈ M → I b = none

def Upd (b : Nat) (T : TypeId) (cs cs' : List Value) (M M' : List Chunk) : Prop := ∃ l r, M = l ++ (b, cs, T) :: r ∧ M' = l ++ (b, cs', T) :: r
theorem Upd.here {b : Nat} {T : TypeId} {cs cs' : List Value} {M : List Chunk} : Upd b T cs cs' ((b, cs, T) :: M) ((b, cs', T) :: M) := ⟨[], M, rfl, rfl⟩
theorem Upd.there {b : Nat} {T : TypeId} {cs cs' : List Value} {M M' : List Chunk} {c : Chunk} (h : Upd b T cs cs' M M') : Upd b T cs cs' (c :: M) (c :: M') := by
  obtain ⟨l, r, rfl, rfl⟩ := h
  exact ⟨c :: l, r, rfl, rfl⟩
def Del (c : Chunk) (M M' : List Chunk) : Prop := ∃ l r, M = l ++ c :: r ∧ M' = l ++ r
theorem Del.here {c : Chunk} {M : List Chunk} : Del c (c :: M) M := ⟨[], M, rfl, rfl⟩
theorem Del.there {c d : Chunk} {M M' : List Chunk} (h : Del c M M') : Del c (d :: M) (d :: M') := by
  obtain ⟨l, r, rfl, rfl⟩ := h
  exact ⟨d :: l, r, rfl, rfl⟩
theorem Upd.mem {b : Nat} {T : TypeId} {cs cs' : List Value} {M M' : List Chunk} (h : Upd b T cs cs' M M') : (b, cs, T) ∈ M := by
  obtain ⟨l, r, rfl, rfl⟩ := h
  simp

section
variable {G w : World} {M : List Chunk} {I : Imm}

theorem Sat.drew (h : Sat G M I w) : Sat G M I w.drew := ⟨h.tape, h.os, h.output, h.own, h.nodup, h.imm, h.apart⟩
theorem Sat.lt (h : Sat G M I w) {b : Nat} {cs : List Value} {T : TypeId} (hm : (b, cs, T) ∈ M) : b < w.heap.size := (Array.getElem?_eq_some_iff.1 (h.own b cs T hm)).1
theorem Sat.ltI (h : Sat G M I w) {b : Nat} {o : Obj} (hm : I b = some o) : b < w.heap.size := (Array.getElem?_eq_some_iff.1 (h.imm b o hm)).1

theorem Sat.alloc (h : Sat G M I w) (cs : List Value) (T : TypeId) : Sat G ((w.heap.size, cs, T) :: M) I (w.alloc (cellsO cs T)) := by
  refine ⟨h.tape, h.os, h.output, fun b c U hm => ?_, ?_, fun b o hb => ?_, fun b c U hm => ?_⟩
  · simp only [World.alloc, Array.getElem?_push]
    rcases List.mem_cons.1 hm with hm | hm
    · simp only [Prod.mk.injEq] at hm
      obtain ⟨rfl, rfl, rfl⟩ := hm
      simp
    · rw [if_neg (Nat.ne_of_lt (h.lt hm))]
      exact h.own b c U hm
  · simp only [List.map_cons, List.nodup_cons]
    refine ⟨fun hm => ?_, h.nodup⟩
    obtain ⟨⟨b, c, U⟩, hc, hb⟩ := List.mem_map.1 hm
    have := h.lt hc
    simp only at hb
    omega
  · simp only [World.alloc, Array.getElem?_push]
    rw [if_neg (Nat.ne_of_lt (h.ltI hb))]
    exact h.imm b o hb
  · rcases List.mem_cons.1 hm with hm | hm
    · simp only [Prod.mk.injEq] at hm
      obtain ⟨rfl, _, _⟩ := hm
      cases hI : I w.heap.size with
      | none => rfl
      | some o => exact absurd (h.ltI hI) (by omega)
    · exact h.apart b c U hm

theorem Sat.perm (h : Sat G M I w) {M' : List Chunk} (hp : M'.Perm M) : Sat G M' I w :=
  ⟨h.tape, h.os, h.output, fun b cs T hm => h.own b cs T (hp.mem_iff.1 hm), (hp.map _).nodup_iff.2 h.nodup, h.imm, fun b cs T hm => h.apart b cs T (hp.mem_iff.1 hm)⟩
theorem Sat.sub (h : Sat G M I w) {M' : List Chunk} (hp : M'.Sublist M) : Sat G M' I w :=
  ⟨h.tape, h.os, h.output, fun b cs T hm => h.own b cs T (hp.subset hm), h.nodup.sublist (hp.map _), h.imm, fun b cs T hm => h.apart b cs T (hp.subset hm)⟩
theorem Sat.tail {c : Chunk} (h : Sat G (c :: M) I w) : Sat G M I w := h.sub (List.sublist_cons_self c M)
theorem Sat.drop {L : List Chunk} (h : Sat G (L ++ M) I w) : Sat G M I w := h.sub (List.sublist_append_right L M)
theorem Sat.le {J : Imm} (h : Sat G M J w) (hl : Le I J) : Sat G M I w :=
  ⟨h.tape, h.os, h.output, h.own, h.nodup, fun b o hb => h.imm b o (hl b o hb), fun b cs T hm => by
    cases hI : I b with
    | none => rfl
    | some o => exact absurd (hl b o hI) (by rw [h.apart b cs T hm]; simp)⟩

theorem Sat.ne (h : Sat G M I w) {b : Nat} {cs : List Value} {T : TypeId} (hm : (b, cs, T) ∈ M) {c : Nat} {o : Obj} (hc : I c = some o) : b ≠ c := fun e => by
  subst e
  rw [h.apart b cs T hm] at hc
  cases hc

theorem Del.perm {c : Chunk} {M M' : List Chunk} (h : Del c M M') : (c :: M').Perm M := by
  obtain ⟨l, r, rfl, rfl⟩ := h
  exact (List.perm_middle (a := c) (l₁ := l) (l₂ := r)).symm

/-- A block that the call owns is given over: nobody writes it any more. -/
theorem Sat.freeze (h : Sat G M I w) {b : Nat} {cs : List Value} {T : TypeId} {M' : List Chunk} (hd : Del (b, cs, T) M M') :
    ∃ J, Le I J ∧ J b = some (cellsO cs T) ∧ Sat G M' J w := by
  have h1 : Sat G ((b, cs, T) :: M') I w := h.perm hd.perm
  have h0 : I b = none := h1.apart b cs T (by simp)
  refine ⟨fun c => if c = b then some (cellsO cs T) else I c, fun c o hc => ?_, by simp, h1.tape, h1.os, h1.output, fun c d U hm => h1.own c d U (by simp [hm]), (List.nodup_cons.1 h1.nodup).2, fun c o hc => ?_, fun c d U hm => ?_⟩
  · have : c ≠ b := fun e => by subst e; rw [h0] at hc; cases hc
    simpa [this] using hc
  · by_cases e : c = b
    · subst e
      simp only [if_true, Option.some.injEq] at hc
      subst hc
      exact h1.own c cs T (by simp)
    · simp only [e, if_false] at hc
      exact h1.imm c o hc
  · have : c ≠ b := fun e => by
      subst e
      exact (List.nodup_cons.1 h1.nodup).1 (List.mem_map.2 ⟨(c, d, U), hm, rfl⟩)
    simpa [this] using h1.apart c d U (by simp [hm])

theorem Sat.setRow (h : Sat G M I w) {b : Nat} {T : TypeId} {cs cs' : List Value} {M' : List Chunk} (hu : Upd b T cs cs' M M') : Sat G M' I (w.setRow b cs'.toArray) := by
  obtain ⟨l, r, rfl, rfl⟩ := hu
  have hb := h.own b cs T (by simp)
  have hnd := h.nodup
  simp only [List.map_append, List.map_cons] at hnd
  have hne : ∀ c, c ≠ b → (w.setRow b cs'.toArray).heap[c]? = w.heap[c]? := fun c hc => by
    simp [World.setRow, Array.getElem?_modify, Ne.symm hc]
  have hself : (w.setRow b cs'.toArray).heap[b]? = some (cellsO cs' T) := by
    simp [World.setRow, Array.getElem?_modify, hb, cellsO]
  refine ⟨h.tape, h.os, h.output, fun c d U hm => ?_, by simpa using hnd, fun c o hc => ?_, fun c d U hm => ?_⟩
  · rcases List.mem_append.1 hm with hm1 | hm1
    · have : c ≠ b := fun e => by
        subst e
        exact (List.nodup_append.1 hnd).2.2 c (List.mem_map.2 ⟨(c, d, U), hm1, rfl⟩) c (by simp) rfl
      rw [hne c this]
      exact h.own c d U (by simp [hm1])
    · rcases List.mem_cons.1 hm1 with hm2 | hm2
      · simp only [Prod.mk.injEq] at hm2
        obtain ⟨rfl, rfl, rfl⟩ := hm2
        exact hself
      · have : c ≠ b := fun e => by
          subst e
          exact (List.nodup_cons.1 (List.nodup_append.1 hnd).2.1).1 (List.mem_map.2 ⟨(c, d, U), hm2, rfl⟩)
        rw [hne c this]
        exact h.own c d U (by simp [hm2])
  · have : c ≠ b := fun e => by
      subst e
      rw [h.apart c cs T (by simp)] at hc
      cases hc
    rw [hne c this]
    exact h.imm c o hc
  · rcases List.mem_append.1 hm with hm | hm
    · exact h.apart c d U (by simp [hm])
    · rcases List.mem_cons.1 hm with hm | hm
      · simp only [Prod.mk.injEq] at hm
        obtain ⟨rfl, rfl, rfl⟩ := hm
        exact h.apart c cs U (by simp)
      · exact h.apart c d U (by simp [hm])

/-- What is known of the heap before a call, where the call owns nothing yet. -/
def allOf (w : World) : Imm := fun b => w.heap[b]?
theorem Sat.start (w : World) : Sat w [] (allOf w) w := ⟨rfl, rfl, rfl, by simp, by simp, fun _ _ h => h, by simp⟩
theorem Sat.below (h : Sat G M (allOf G) w) : Below G.heap.size G w := by
  refine ⟨h.os, h.tape, h.output, ?_, fun i hi => ?_⟩
  · rcases Nat.eq_zero_or_pos G.heap.size with h0 | h0
    · rw [h0]; exact Nat.zero_le _
    · have : allOf G (G.heap.size - 1) = some (G.heap[G.heap.size - 1]'(by omega)) := by
        simp only [allOf]
        exact Array.getElem?_eq_getElem (by omega)
      have := h.ltI this
      omega
  · have hg : allOf G i = some (G.heap[i]'hi) := by
      simp only [allOf]
      exact Array.getElem?_eq_getElem hi
    rw [h.imm i _ hg]
    exact hg.symm
end
end Go.Proofs.YtecbpmgfikgoaaaGreatDoor
end
section
set_option linter.unusedVariables false
set_option linter.unusedSimpArgs false
namespace Go.Proofs.YtecbpmgfikgoaaaGreatDoor
open Go Go.RowKit

/-! ### What is known of a type -/
structure TyA (P : Program) (T : TypeId) (n : Nat) (z : List Value) : Prop where
  agg : ∀ w, (isAgg T).run P w = .ok true w
  info : (P.info? T).map (fun i => (i.zero, i.size)) = some (some (aggL z), n)
structure Ty1 (P : Program) (T : TypeId) (z : Value) : Prop where
  agg : ∀ w, (isAgg T).run P w = .ok false w
  info : (P.info? T).map (fun i => (i.zero, i.size)) = some (some z, 1)
structure El (P : Program) (TS e : TypeId) (z : List Value) (bytes : Nat) : Prop where
  sl : P.underlying TS = some (.slice e)
  info : (P.info? e).map (fun i => (i.zero.map (·.cells.toList), i.size, i.bytes)) = some (some z, z.length, bytes)
  pos : 0 < z.length
def FA (P : Program) (T : TypeId) (f off : Nat) : Prop := ∀ a w, (Instr.fieldAt T (.pointer (some a)) f).run P w = .ok (.pointer (some (a.add off))) w
def Fn1 (P : Program) (f : FuncId) : Prop := ∀ args w, (callFunc f args).run P w = .ok (.enter f args) w

theorem add_lit' (b o n : Nat) : (⟨b, o, none⟩ : Addr).add n = ⟨b, o + n, none⟩ := by
  unfold Addr.add
  split
  · subst_vars; rfl
  · rfl

section
variable {P : Program} {n : Nat} {E : List (Nat × Value)} {S : World → Prop} {o : Oper}

/-! ### Operations that yield a value in every world -/
theorem PV.of {v : Value} (h : ∀ a, Env n a E → ∀ w, (execOp a.eval o).run P w = .ok (.value v) w) : PV P n o E S v := fun a ha w _ => h a ha w

theorem PV_move {x : Operand} {v : Value} (ho : o.op = .move x) (hx : ev E x = some v) : PV P n o E S v := .of fun a ha w => by simp [execOp, ho, ha.ev hx]
theorem PV_assign {x : Operand} {v : Value} (ho : o.op = .assign x) (hx : ev E x = some v) : PV P n o E S v := .of fun a ha w => by simp [execOp, ho, ha.ev hx]
theorem PV_pick {c x y : Operand} {b : Bool} {v : Value} (ho : o.op = .pick c x y) (hc : ev E c = some (.bool b)) (hv : ev E (bif b then x else y) = some v) : PV P n o E S v := .of fun a ha w => by
  have := ha.ev hv
  cases b <;> simpa [execOp, ho, ha.ev hc, asBool] using this
theorem PV_nilCheck {x : Operand} {a : Addr} (ho : o.op = .nilCheck x) (hx : ev E x = some (.pointer (some a))) : PV P n o E S (.pointer (some a)) := .of fun ac ha w => by simp [execOp, ho, ha.ev hx]
theorem PV_fieldAddr {T : TypeId} {x : Operand} {f b q off : Nat} (ho : o.op = .fieldAddr T x f) (hx : ev E x = some (ptr b q)) (hf : FA P T f off) : PV P n o E S (ptr b (q + off)) := .of fun a ha w => by
  have h := hf ⟨b, q, none⟩ w
  simp [execOp, ho, ha.ev hx, ptr, h, add_lit']
theorem PV_fieldAddr0 {T : TypeId} {x : Operand} {f b off : Nat} (ho : o.op = .fieldAddr T x f) (hx : ev E x = some (ptr b 0)) (hf : FA P T f off) : PV P n o E S (ptr b off) := by
  have := PV_fieldAddr (n := n) (S := S) ho hx hf
  rwa [Nat.zero_add] at this

/-! integers -/
theorem PV_arith {T T' : TypeId} {x y : Operand} {k : IntKind} {p q r : Int} {op : BinOp} (ho : o.op = .binOp op T x y T') (hx : ev E x = some (.int k p)) (hy : ev E y = some (.int k q))
    (hr : (op = .add ∧ r = p + q) ∨ (op = .sub ∧ r = p - q) ∨ (op = .mul ∧ r = p * q)) : PV P n o E S (.int k (k.wrap r)) := .of fun a ha w => by
  rcases hr with ⟨rfl, rfl⟩ | ⟨rfl, rfl⟩ | ⟨rfl, rfl⟩ <;> simp [execOp, ho, ha.ev hx, ha.ev hy, eqGuard, binOp, Op.intArith]
theorem PV_add {T T' : TypeId} {x y : Operand} {p q : Int} (ho : o.op = .binOp .add T x y T') (hx : ev E x = some (.int .i64 p)) (hy : ev E y = some (.int .i64 q))
    (hb : -9223372036854775808 ≤ p + q ∧ p + q ≤ 9223372036854775807) : PV P n o E S (.int .i64 (p + q)) := by
  have := PV_arith (P := P) (n := n) (S := S) ho hx hy (.inl ⟨rfl, rfl⟩)
  rwa [IntWalk.i64_in _ hb] at this
theorem PV_sub {T T' : TypeId} {x y : Operand} {p q : Int} (ho : o.op = .binOp .sub T x y T') (hx : ev E x = some (.int .i64 p)) (hy : ev E y = some (.int .i64 q))
    (hb : -9223372036854775808 ≤ p - q ∧ p - q ≤ 9223372036854775807) : PV P n o E S (.int .i64 (p - q)) := by
  have := PV_arith (P := P) (n := n) (S := S) ho hx hy (.inr (.inl ⟨rfl, rfl⟩))
  rwa [IntWalk.i64_in _ hb] at this
theorem PV_mul {T T' : TypeId} {x y : Operand} {p q : Int} (ho : o.op = .binOp .mul T x y T') (hx : ev E x = some (.int .i64 p)) (hy : ev E y = some (.int .i64 q))
    (hb : -9223372036854775808 ≤ p * q ∧ p * q ≤ 9223372036854775807) : PV P n o E S (.int .i64 (p * q)) := by
  have := PV_arith (P := P) (n := n) (S := S) ho hx hy (.inr (.inr ⟨rfl, rfl⟩))
  rwa [IntWalk.i64_in _ hb] at this
theorem PV_lss {T T' : TypeId} {x y : Operand} {k : IntKind} {p q : Int} (ho : o.op = .binOp .lss T x y T') (hx : ev E x = some (.int k p)) (hy : ev E y = some (.int k q)) : PV P n o E S (.bool (decide (p < q))) := .of fun a ha w => by
  simp [execOp, ho, ha.ev hx, ha.ev hy, eqGuard, binOp, Op.intCmp]
theorem PV_leq {T T' : TypeId} {x y : Operand} {k : IntKind} {p q : Int} (ho : o.op = .binOp .leq T x y T') (hx : ev E x = some (.int k p)) (hy : ev E y = some (.int k q)) : PV P n o E S (.bool (decide (p ≤ q))) := .of fun a ha w => by
  simp [execOp, ho, ha.ev hx, ha.ev hy, eqGuard, binOp, Op.intCmp]
theorem PV_gtr {T T' : TypeId} {x y : Operand} {k : IntKind} {p q : Int} (ho : o.op = .binOp .gtr T x y T') (hx : ev E x = some (.int k p)) (hy : ev E y = some (.int k q)) : PV P n o E S (.bool (decide (q < p))) := .of fun a ha w => by
  simp [execOp, ho, ha.ev hx, ha.ev hy, eqGuard, binOp, Op.intCmp]
theorem PV_geq {T T' : TypeId} {x y : Operand} {k : IntKind} {p q : Int} (ho : o.op = .binOp .geq T x y T') (hx : ev E x = some (.int k p)) (hy : ev E y = some (.int k q)) : PV P n o E S (.bool (decide (q ≤ p))) := .of fun a ha w => by
  simp [execOp, ho, ha.ev hx, ha.ev hy, eqGuard, binOp, Op.intCmp]
theorem PV_eqi {T T' : TypeId} {x y : Operand} {k : IntKind} {p q : Int} (ho : o.op = .binOp .eql T x y T') (hx : ev E x = some (.int k p)) (hy : ev E y = some (.int k q)) : PV P n o E S (.bool (decide (p = q))) := .of fun a ha w => by
  simp [execOp, ho, ha.ev hx, ha.ev hy, eqGuard, binOp, Op.intCmp]
  exact decide_eq_decide.2 Iff.rfl
theorem PV_nei {T T' : TypeId} {x y : Operand} {k : IntKind} {p q : Int} (ho : o.op = .binOp .neq T x y T') (hx : ev E x = some (.int k p)) (hy : ev E y = some (.int k q)) : PV P n o E S (.bool (decide (p ≠ q))) := .of fun a ha w => by
  simp [execOp, ho, ha.ev hx, ha.ev hy, eqGuard, binOp, Op.intCmp]
  by_cases h : p = q <;> simp [h]
theorem PV_not {T : TypeId} {x : Operand} {b : Bool} (ho : o.op = .unOp .not T x) (hx : ev E x = some (.bool b)) : PV P n o E S (.bool (!b)) := .of fun a ha w => by
  simp [execOp, ho, ha.ev hx, Op.unary]

/-! strings -/
theorem PV_eqs {T T' : TypeId} {x y : Operand} {p q : ByteArray} (ho : o.op = .binOp .eql T x y T') (hx : ev E x = some (.string p)) (hy : ev E y = some (.string q)) : PV P n o E S (.bool (p.toList == q.toList)) := .of fun a ha w => by
  simp [execOp, ho, ha.ev hx, ha.ev hy, eqGuard, binOp, Op.stringOp]
theorem PV_nes {T T' : TypeId} {x y : Operand} {p q : ByteArray} (ho : o.op = .binOp .neq T x y T') (hx : ev E x = some (.string p)) (hy : ev E y = some (.string q)) : PV P n o E S (.bool (!(p.toList == q.toList))) := .of fun a ha w => by
  simp [execOp, ho, ha.ev hx, ha.ev hy, eqGuard, binOp, Op.stringOp]
theorem PV_lts {T T' : TypeId} {x y : Operand} {p q : ByteArray} (ho : o.op = .binOp .lss T x y T') (hx : ev E x = some (.string p)) (hy : ev E y = some (.string q)) : PV P n o E S (.bool (Op.bytesLess p.toList q.toList)) := .of fun a ha w => by
  simp [execOp, ho, ha.ev hx, ha.ev hy, eqGuard, binOp, Op.stringOp]
theorem PV_ges {T T' : TypeId} {x y : Operand} {p q : ByteArray} (ho : o.op = .binOp .geq T x y T') (hx : ev E x = some (.string p)) (hy : ev E y = some (.string q)) : PV P n o E S (.bool (!(Op.bytesLess p.toList q.toList))) := .of fun a ha w => by
  simp [execOp, ho, ha.ev hx, ha.ev hy, eqGuard, binOp, Op.stringOp]

/-! pointers -/
theorem run_equalIn_nil {T e : TypeId} (ht : P.underlying T = some (.pointer e)) (d : Nat) (a : Option Addr) (w : World) : (Op.equalIn (d + 1) T (.pointer a) (.pointer none)).run P w = .ok a.isNone w := by
  cases a <;> simp [Op.equalIn, run_underlying ht]
theorem PV_eqnil {T T' e : TypeId} {x y : Operand} {a : Option Addr} (ho : o.op = .binOp .eql T x y T') (ht : P.underlying T = some (.pointer e)) (hx : ev E x = some (.pointer a)) (hy : ev E y = some (.pointer none)) : PV P n o E S (.bool a.isNone) := .of fun ac ha w => by
  have h : (Op.equal T (.pointer a) (.pointer none)).run P w = .ok a.isNone w := run_equalIn_nil ht 9999 a w
  have h2 : (binOp .eql T (.pointer a) (.pointer none)).run P w = .ok (.bool a.isNone) w := by
    unfold binOp
    simp [h]
  simp [execOp, ho, ha.ev hx, ha.ev hy, eqGuard, h2]
theorem PV_nenil {T T' e : TypeId} {x y : Operand} {a : Option Addr} (ho : o.op = .binOp .neq T x y T') (ht : P.underlying T = some (.pointer e)) (hx : ev E x = some (.pointer a)) (hy : ev E y = some (.pointer none)) : PV P n o E S (.bool a.isSome) := .of fun ac ha w => by
  have h : (Op.equal T (.pointer a) (.pointer none)).run P w = .ok a.isNone w := run_equalIn_nil ht 9999 a w
  have h2 : (binOp .neq T (.pointer a) (.pointer none)).run P w = .ok (.bool a.isSome) w := by
    unfold binOp
    cases a <;> simp [h]
  simp [execOp, ho, ha.ev hx, ha.ev hy, eqGuard, h2]

/-! conversions of integers -/
theorem PV_conv {T T' : TypeId} {x : Operand} {k j : IntKind} {p : Int} {d : TypeDesc} (ho : o.op = .convert T T' x) (hs : P.underlying T = some d) (hd : P.underlying T' = some (.int k)) (hx : ev E x = some (.int j p)) : PV P n o E S (.int k (k.wrap p)) := .of fun a ha w => by
  simp [execOp, ho, ha.ev hx, convert, run_underlying hs, run_underlying hd, Conv.intToInt]

/-! len, min, max -/
theorem PV_len {T e : TypeId} {x : Operand} {a : Option Addr} {l c : Nat} (ho : o.op = .call { callee := .builtin .len, args := #[x], argTypes := #[T] }) (ht : P.underlying T = some (.slice e)) (hx : ev E x = some (.slice a l c)) : PV P n o E S (.int .i64 l) := .of fun ac ha w => by
  simp [execOp, ho, resolve, invoke, builtin, ha.ev hx, Builtin.len_, run_underlying ht, goInt]
theorem PV_lens {T : TypeId} {x : Operand} {s : ByteArray} (ho : o.op = .call { callee := .builtin .len, args := #[x], argTypes := #[T] }) (ht : P.underlying T = some .string) (hx : ev E x = some (.string s)) : PV P n o E S (.int .i64 s.size) := .of fun ac ha w => by
  simp [execOp, ho, resolve, invoke, builtin, ha.ev hx, Builtin.len_, run_underlying ht, goInt]
theorem PV_min {T T' : TypeId} {x y : Operand} {p q : Int} {k : IntKind} (ho : o.op = .call { callee := .builtin .min, args := #[x, y], argTypes := #[T, T'] }) (hx : ev E x = some (.int k p)) (hy : ev E y = some (.int k q)) : PV P n o E S (.int k (if q < p then q else p)) := .of fun ac ha w => by
  simp [execOp, ho, resolve, invoke, builtin, ha.ev hx, ha.ev hy, Builtin.min_, Builtin.min2]
theorem PV_max {T T' : TypeId} {x y : Operand} {p q : Int} {k : IntKind} (ho : o.op = .call { callee := .builtin .max, args := #[x, y], argTypes := #[T, T'] }) (hx : ev E x = some (.int k p)) (hy : ev E y = some (.int k q)) : PV P n o E S (.int k (if p < q then q else p)) := .of fun ac ha w => by
  simp [execOp, ho, resolve, invoke, builtin, ha.ev hx, ha.ev hy, Builtin.max_, Builtin.max2]

/-! aggregates, tuples, functions -/
theorem PV_build {T : TypeId} {parts : Array (Nat × Operand)} {cs : List Value} (ho : o.op = .build T parts) (h : ∀ a, Env n a E → P.built T (parts.map fun (i, x) => (i, a.eval x)).toList = some cs.toArray) : PV P n o E S (aggL cs) := .of fun ac ha w => by
  simp [execOp, ho, run_build w T _ _ (h ac ha), aggL]
theorem PV_extract {x : Operand} {i : Nat} {vs : Array Value} {v : Value} (ho : o.op = .extract x i) (hx : ev E x = some (.tuple vs)) (hv : vs[i]? = some v) : PV P n o E S v := .of fun ac ha w => by
  simp [execOp, ho, ha.ev hx, Instr.extract, hv]
theorem PV_makeFunc0 {f : Fn} (ho : o.op = .makeFunc f #[] #[]) : PV P n o E S (.func f #[] #[]) := .of fun ac ha w => by simp [execOp, ho, Instr.makeFunc]
theorem PV_makeFunc1 {f : Fn} {x : Operand} {v : Value} (ho : o.op = .makeFunc f #[x] #[]) (hx : ev E x = some v) : PV P n o E S (.func f #[v] #[]) := .of fun ac ha w => by simp [execOp, ho, Instr.makeFunc, ha.ev hx]
theorem PV_makeFuncC {f : Fn} {x : Operand} {v : Value} (ho : o.op = .makeFunc f #[] #[x]) (hx : ev E x = some v) : PV P n o E S (.func f #[] #[v]) := .of fun ac ha w => by simp [execOp, ho, Instr.makeFunc, ha.ev hx]

/-! slices -/
theorem PV_sliceArr {T e : TypeId} {x : Operand} {b q len : Nat} (ho : o.op = .slice T x none none none) (ht : P.underlying T = some (.array len e)) (hx : ev E x = some (ptr b q)) {sz : Nat} (hs : (P.info? e).map (·.size) = some sz) : PV P n o E S (.slice (some ⟨b, q, none⟩) len len) := .of fun ac ha w => by
  cases hi : P.info? e with
  | none => simp [hi] at hs
  | some i =>
    simp [execOp, ho, ha.ev hx, ptr, Instr.sliceAt, run_underlying ht, Instr.sureAddr, Instr.sliceBounds, sizeOf, typeInfo, hi, Addr.add]
theorem PV_indexAddr {T e : TypeId} {x y : Operand} {b q l c i sz : Nat} {k : IntKind} {p : Int} (ho : o.op = .indexAddr T x y) (ht : P.underlying T = some (.slice e)) (hs : (P.info? e).map (·.size) = some sz)
    (hx : ev E x = some (.slice (some ⟨b, q, none⟩) l c)) (hy : ev E y = some (.int k p)) (hp : p = (i : Int)) (hl : i < l) : PV P n o E S (ptr b (q + i * sz)) := .of fun ac ha w => by
  subst hp
  cases hi : P.info? e with
  | none => simp [hi] at hs
  | some j =>
    have hj : j.size = sz := by simpa [hi] using hs
    have h1 : (0 : Int) ≤ (i : Int) ∧ (i : Int) < (l : Int) := by omega
    simp [execOp, ho, ha.ev hx, ha.ev hy, Instr.indexAt, asIntOf, run_underlying ht, h1, sizeOf, typeInfo, hi, hj, add_lit', ptr]
    intro hh
    omega
theorem PV_indexArr {T e : TypeId} {x y : Operand} {b q l i sz : Nat} {k : IntKind} {p : Int} (ho : o.op = .indexAddr T x y) (ht : P.underlying T = some (.array l e)) (hs : (P.info? e).map (·.size) = some sz)
    (hx : ev E x = some (ptr b q)) (hy : ev E y = some (.int k p)) (hp : p = (i : Int)) (hl : i < l) : PV P n o E S (ptr b (q + i * sz)) := .of fun ac ha w => by
  subst hp
  cases hi : P.info? e with
  | none => simp [hi] at hs
  | some j =>
    have hj : j.size = sz := by simpa [hi] using hs
    have h1 : (0 : Int) ≤ (i : Int) ∧ (i : Int) < (l : Int) := by omega
    simp [execOp, ho, ha.ev hx, ha.ev hy, Instr.indexAt, asIntOf, run_underlying ht, h1, sizeOf, typeInfo, hi, hj, add_lit', ptr, Instr.sureAddr]
    intro hh
    omega
theorem PV_sliceSl {T e : TypeId} {x : Operand} {lo hi : Option Operand} {b q l c p r sz : Nat} (ho : o.op = .slice T x lo hi none) (ht : P.underlying T = some (.slice e)) (hs : (P.info? e).map (·.size) = some sz)
    (hx : ev E x = some (.slice (some ⟨b, q, none⟩) l c)) (hlo : (lo = none ∧ p = 0) ∨ ∃ y, lo = some y ∧ ∃ k pp, ev E y = some (.int k pp) ∧ pp = (p : Int))
    (hhi : (hi = none ∧ r = l) ∨ ∃ y, hi = some y ∧ ∃ k rr, ev E y = some (.int k rr) ∧ rr = (r : Int)) (h1 : p ≤ r) (h2 : r ≤ c) :
    PV P n o E S (.slice (some ⟨b, if c = p then q else q + p * sz, none⟩) (r - p) (c - p)) := .of fun ac ha w => by
  cases hi' : P.info? e with
  | none => simp [hi'] at hs
  | some j =>
    have hj : j.size = sz := by simpa [hi'] using hs
    rcases hlo with ⟨rfl, rfl⟩ | ⟨y, rfl, k, pp, hy, rfl⟩ <;> rcases hhi with ⟨rfl, rfl⟩ | ⟨z, rfl, k', rr, hz, rfl⟩
    · simp [execOp, ho, ha.ev hx, Instr.sliceAt, run_underlying ht, Instr.slice, Instr.sliceBounds, sizeOf, typeInfo, hi', Addr.add]
    · have g : (0 : Int) ≤ (r : Int) ∧ (r : Int) ≤ (c : Int) := by omega
      simp [execOp, ho, ha.ev hx, ha.ev hz, Instr.sliceAt, run_underlying ht, Instr.slice, Instr.sliceBounds, Instr.sliceBound, asIntOf, g, h2, sizeOf, typeInfo, hi', Addr.add]
    · have g : (0 : Int) ≤ (p : Int) ∧ (p : Int) ≤ (r : Int) := by omega
      simp [execOp, ho, ha.ev hx, ha.ev hy, Instr.sliceAt, run_underlying ht, Instr.slice, Instr.sliceBounds, Instr.sliceBound, asIntOf, g, sizeOf, typeInfo, hi', hj, h1]
      split <;> simp [add_lit', *]
    · have g : (0 : Int) ≤ (p : Int) ∧ (p : Int) ≤ (r : Int) := by omega
      have g' : (0 : Int) ≤ (r : Int) ∧ (r : Int) ≤ (c : Int) := by omega
      simp [execOp, ho, ha.ev hx, ha.ev hy, ha.ev hz, Instr.sliceAt, run_underlying ht, Instr.slice, Instr.sliceBounds, Instr.sliceBound, asIntOf, g, g', sizeOf, typeInfo, hi', hj, h1, h2]
      split <;> simp [add_lit', *]
end
end Go.Proofs.YtecbpmgfikgoaaaGreatDoor
end
section
set_option linter.unusedVariables false
set_option linter.unusedSimpArgs false
namespace Go.Proofs.YtecbpmgfikgoaaaGreatDoor
open Go Go.RowKit

def part (cs : List Value) (off n : Nat) : List Value := (cs.drop off).take n
def splice (cs : List Value) (off : Nat) (vs : List Value) : List Value := cs.take off ++ vs ++ cs.drop (off + vs.length)
def one1 (vs : List Value) : Bool := vs.all (·.oneCell')
theorem splice_whole {cs vs : List Value} (h : vs.length = cs.length) : splice cs 0 vs = vs := by simp [splice, h]
theorem part_whole {cs : List Value} {n : Nat} (h : cs.length = n) : part cs 0 n = cs := by subst h; simp [part]
theorem length_splice {cs vs : List Value} {off : Nat} (h : off + vs.length ≤ cs.length) : (splice cs off vs).length = cs.length := by
  simp only [splice, List.length_append, List.length_take, List.length_drop]; omega

/-- A slice value of m elements of sz cells, whose cells are 'news' in the world w. -/
def RdW (w : World) (sz : Nat) (x : Value) (m : Nat) (news : List Value) : Prop :=
  news.length = m * sz ∧ ∃ A c, x = .slice A m c ∧ m ≤ c ∧ (m = 0 ∨ ∃ b off cs T fr, A = some ⟨b, off, none⟩ ∧ w.heap[b]? = some (.cells cs T fr) ∧ off + m * sz ≤ cs.size ∧ part cs.toList off (m * sz) = news)

theorem cells_of_heap {w : World} {b off : Nat} {cs : Array Value} {T : TypeId} {fr : Nat × Nat} (h : w.heap[b]? = some (.cells cs T fr)) {m : Nat} {news : List Value} (hf : off + m ≤ cs.size) (hp : part cs.toList off m = news) :
    ∀ j v, news[j]? = some v → w.cell? ((⟨b, off, none⟩ : Addr).add j) = some v := by
  intro j v hv
  subst hp
  rw [add_lit', cell_of_row' w b (off + j) cs T fr h]
  simp only [part, List.getElem?_take, List.getElem?_drop] at hv
  split at hv
  · simpa using hv
  · cases hv where
  cell_of_row' (w : World) (g j : Nat) (cs : Array Value) (t : TypeId) (fr : Nat × Nat) (hg : w.heap[g]? = some (.cells cs t fr)) : w.cell? ⟨g, j, none⟩ = cs[j]? := by
    simp [World.cell?, hg]

section
variable {P : Program} {n : Nat} {E : List (Nat × Value)} {S : World → Prop} {o : Oper} {G w : World} {M : List Chunk} {I : Imm}

theorem El.parts {TS e : TypeId} {z : List Value} {bytes : Nat} (h : El P TS e z bytes) : ∃ i zv, P.info? e = some i ∧ i.zero = some zv ∧ zv.cells.toList = z ∧ i.size = z.length ∧ i.bytes = bytes := by
  have hi := h.info
  cases hq : P.info? e with
  | none => simp [hq] at hi
  | some i =>
    simp only [hq, Option.map_some, Option.some.injEq, Prod.mk.injEq] at hi
    obtain ⟨h1, h2, h3⟩ := hi
    cases hz : i.zero with
    | none => simp [hz] at h1
    | some zv =>
      rw [hz] at h1
      simp only [Option.map_some, Option.some.injEq] at h1
      exact ⟨i, zv, rfl, hz, h1, h2, h3⟩

/-! ### New variables -/
theorem EF_box {T : TypeId} {x : Operand} {v : Value} {cs : List Value} (ho : o.op = .box T x) (hx : ev E x = some v) (hc : v.cells.toList = cs) (hs : Sat G M I w) :
    EF P n o E w (fun r w' => ∃ b, r = ptr b 0 ∧ Sat G ((b, cs, T) :: M) I w') := by
  intro a ha next Q h
  subst hc
  simp only [Oper.wp, execOp, ho, ha.ev hx, Instr.box, newVar, newRow, newObj, Sem.run_bind, Sem.run_pure, Result.andThen_ok, Oper.upon]
  refine h _ _ ⟨w.heap.size, rfl, ?_⟩
  have := hs.alloc v.cells.toList T
  simpa [cellsO] using this
theorem EF_alloc {T : TypeId} {zv : Value} {cs : List Value} {m : Nat} (ho : o.op = .alloc T) (hT : (P.info? T).map (fun i => (i.zero, i.size)) = some (some zv, m)) (hc : zv.cells.toList = cs) (hs : Sat G M I w) :
    EF P n o E w (fun r w' => ∃ b, r = ptr b 0 ∧ Sat G ((b, cs, T) :: M) I w') := by
  intro a ha next Q h
  subst hc
  cases hq : P.info? T with
  | none => simp [hq] at hT
  | some i =>
    simp only [hq, Option.map_some, Option.some.injEq, Prod.mk.injEq] at hT
    simp only [Oper.wp, execOp, ho, Instr.alloc, zeroValue, typeInfo, program, Sem.run, hq, hT.1, newVar, newRow, newObj, Sem.run_bind, Sem.run_pure, Result.andThen_ok, Oper.upon]
    refine h _ _ ⟨w.heap.size, rfl, ?_⟩
    have := hs.alloc zv.cells.toList T
    simpa [cellsO] using this

/-! ### Reads -/
theorem run_load1 {T b off : Nat} {cs : Array Value} {TT : TypeId} {fr : Nat × Nat} {v : Value} (hT : ∀ w, (isAgg T).run P w = .ok false w) (hb : w.heap[b]? = some (.cells cs TT fr)) (hc : cs[off]? = some v) :
    (loadVar T ⟨b, off, none⟩).run P w = .ok v w := by
  have : w.cell? ⟨b, off, none⟩ = some v := by simp [World.cell?, hb, hc]
  simp [loadVar, hT, this]
theorem run_loadA {T b off m : Nat} {cs : Array Value} {TT : TypeId} {fr : Nat × Nat} {r : List Value} (hT : ∀ w, (isAgg T).run P w = .ok true w) (hsz : (P.info? T).map (·.size) = some m) (hb : w.heap[b]? = some (.cells cs TT fr))
    (hf : off + m ≤ cs.size) (hc : part cs.toList off m = r) : (loadVar T ⟨b, off, none⟩).run P w = .ok (aggL r) w := by
  cases hq : P.info? T with
  | none => simp [hq] at hsz
  | some i =>
    have hi : i.size = m := by simpa [hq] using hsz
    have hl : r.length = m := by subst hc; simp [part]; omega
    have h1 := run_loadCells_list (P := P) w ⟨b, off, none⟩ r (cells_of_heap hb hf hc)
    rw [hl] at h1
    simp [loadVar, hT, sizeOf, typeInfo, hq, hi, h1, aggL]

theorem PV_loadM1 {T : TypeId} {x : Operand} {b off : Nat} {cs : List Value} {TT : TypeId} {v : Value} (ho : o.op = .load T x) (hT : ∀ w, (isAgg T).run P w = .ok false w) (hx : ev E x = some (ptr b off)) (hm : (b, cs, TT) ∈ M) (hc : cs[off]? = some v) :
    PV P n o E (Sat G M I) v := by
  intro a ha w hs
  have := run_load1 (P := P) hT (hs.own b cs TT hm) (off := off) (v := v) (by simpa using hc)
  simp [execOp, ho, ha.ev hx, ptr, Instr.loadAt, Instr.sureAddr, this]
theorem PV_loadMA {T : TypeId} {x : Operand} {b off m : Nat} {cs : List Value} {TT : TypeId} {r : List Value} (ho : o.op = .load T x) (hT : ∀ w, (isAgg T).run P w = .ok true w) (hsz : (P.info? T).map (·.size) = some m) (hx : ev E x = some (ptr b off))
    (hm : (b, cs, TT) ∈ M) (hf : off + m ≤ cs.length) (hc : part cs off m = r) : PV P n o E (Sat G M I) (aggL r) := by
  intro a ha w hs
  have := run_loadA (P := P) hT hsz (hs.own b cs TT hm) (off := off) (r := r) (by simpa using hf) (by simpa using hc)
  simp [execOp, ho, ha.ev hx, ptr, Instr.loadAt, Instr.sureAddr, this]
theorem PV_loadI1 {T : TypeId} {x : Operand} {b off : Nat} {cs : Array Value} {TT : TypeId} {fr : Nat × Nat} {v : Value} (ho : o.op = .load T x) (hT : ∀ w, (isAgg T).run P w = .ok false w) (hx : ev E x = some (ptr b off)) (hm : I b = some (.cells cs TT fr)) (hc : cs[off]? = some v) :
    PV P n o E (Sat G M I) v := by
  intro a ha w hs
  have := run_load1 (P := P) hT (hs.imm b _ hm) (off := off) (v := v) hc
  simp [execOp, ho, ha.ev hx, ptr, Instr.loadAt, Instr.sureAddr, this]
theorem PV_loadIA {T : TypeId} {x : Operand} {b off m : Nat} {cs : Array Value} {TT : TypeId} {fr : Nat × Nat} {r : List Value} (ho : o.op = .load T x) (hT : ∀ w, (isAgg T).run P w = .ok true w) (hsz : (P.info? T).map (·.size) = some m) (hx : ev E x = some (ptr b off))
    (hm : I b = some (.cells cs TT fr)) (hf : off + m ≤ cs.size) (hc : part cs.toList off m = r) : PV P n o E (Sat G M I) (aggL r) := by
  intro a ha w hs
  have := run_loadA (P := P) hT hsz (hs.imm b _ hm) (off := off) (r := r) hf hc
  simp [execOp, ho, ha.ev hx, ptr, Instr.loadAt, Instr.sureAddr, this]

/-! ### Stores -/
theorem EF_store {T : TypeId} {x y : Operand} {b off : Nat} {cs vs : List Value} {TT : TypeId} {v : Value} {M' : List Chunk} (ho : o.op = .store T x y) (hx : ev E x = some (ptr b off)) (hy : ev E y = some v) (hv : v.cells.toList = vs)
    (hsz : (P.info? T).map (·.size) = some vs.length) (hf : off + vs.length ≤ cs.length) (h1 : one1 vs = true) (hs : Sat G M I w) (hu : Upd b TT cs (splice cs off vs) M M') :
    EF P n o E w (fun r w' => Sat G M' I w') := by
  intro a ha next Q h
  subst hv
  cases hq : P.info? T with
  | none => simp [hq] at hsz
  | some i =>
    have hi : i.size = v.cells.size := by simpa [hq] using hsz
    have hb := hs.own b cs TT hu.mem
    have h1' : ∀ u ∈ v.cells.toList, u.oneCell' = true := List.all_eq_true.1 h1
    have hst := run_storeCells_at P b off TT v.cells.toList 0 cs.toArray w hb (by simpa using hf) h1'
    simp only [Nat.add_zero] at hst
    simp only [Oper.wp, execOp, ho, ha.ev hx, ha.ev hy, ptr, Instr.storeAt, Instr.sureAddr, storeVar, sizeOf, typeInfo, program, Sem.run, hq, hi, Sem.run_bind, Sem.run_pure, Result.andThen_ok, ne_eq, not_true_eq_false, if_false, hst, Oper.upon]
    refine h _ _ ?_
    have := hs.setRow hu
    simpa [splice] using this
/-- The store of a whole variable. -/
theorem EF_storeW {T : TypeId} {x y : Operand} {b : Nat} {cs vs : List Value} {TT : TypeId} {v : Value} {M' : List Chunk} (ho : o.op = .store T x y) (hx : ev E x = some (ptr b 0)) (hy : ev E y = some v) (hv : v.cells.toList = vs)
    (hsz : (P.info? T).map (·.size) = some vs.length) (hf : vs.length = cs.length) (h1 : one1 vs = true) (hs : Sat G M I w) (hu : Upd b TT cs vs M M') :
    EF P n o E w (fun r w' => Sat G M' I w') :=
  EF_store (off := 0) (vs := vs) (cs := cs) (M' := M') ho hx hy hv hsz (by omega) h1 hs (by rw [splice_whole hf]; exact hu)

/-! ### Slice literals -/
theorem EF_buildSlice {TS e len bytes : Nat} {z : List Value} {parts : Array (Nat × Operand)} {vs : List Value} (ho : o.op = .buildSlice TS len parts) (he : El P TS e z bytes) (hlen : vs.length = len) (hpos : 0 < len) (hsm : len * z.length ≤ 2 ^ 24)
    (hp : ∀ a, Env n a E → (parts.map fun (i, x) => (i, a.eval x)).toList = (vs.zipIdx 0).map fun x => (x.2, x.1)) (hv : ∀ v ∈ vs, v.cells.size = z.length) (hs : Sat G M I w) :
    EF P n o E w (fun r w' => ∃ b, r = .slice (some ⟨b, 0, none⟩) len len ∧ Sat G ((b, vs.flatMap fun v => v.cells.toList, e) :: M) I w') := by
  intro a ha next Q h
  obtain ⟨i, zv, hi, hz, hzl, hsz, hby⟩ := he.parts
  have hzp : zv.cells.size = z.length := by rw [← hzl]; simp
  have hpz := he.pos
  have hmul : 0 < len * z.length := Nat.mul_pos hpos hpz
  have hf := Great.fill_whole hpz vs ((Array.range (len * i.size)).map (zv.cells[· % zv.cells.size]!)) hv (by simp [hlen, hsz])
  refine wp_buildSlice TS e len parts ho _ i zv he.sl hi hz (by rw [hsz]; omega) (by rw [hsz]; omega) (by rw [hp a ha, hsz]; rw [hsz] at hf; exact hf) ?_
  refine h _ _ ⟨w.heap.size, rfl, ?_⟩
  exact hs.alloc _ e
theorem EF_bs1 {TS e bytes : Nat} {z : List Value} {x : Operand} {v : Value} {cs : List Value} (ho : o.op = .buildSlice TS 1 #[(0, x)]) (he : El P TS e z bytes) (hx : ev E x = some v) (hc : v.cells.toList = cs) (hv : cs.length = z.length) (hsm : z.length ≤ 2 ^ 24) (hs : Sat G M I w) :
    EF P n o E w (fun r w' => ∃ b, r = .slice (some ⟨b, 0, none⟩) 1 1 ∧ Sat G ((b, cs, e) :: M) I w') := by
  have := EF_buildSlice (n := n) (E := E) (vs := [v]) ho he rfl (by omega) (by omega) (fun a ha => by simp [ha.ev hx]) (by intro u hu; simp at hu; subst hu; rw [← hv, ← hc]; simp) hs
  simpa [hc] using this
theorem EF_bs2 {TS e bytes : Nat} {z : List Value} {x y : Operand} {v u : Value} {cs ds : List Value} (ho : o.op = .buildSlice TS 2 #[(0, x), (1, y)]) (he : El P TS e z bytes) (hx : ev E x = some v) (hy : ev E y = some u) (hc : v.cells.toList = cs) (hd : u.cells.toList = ds)
    (hv : cs.length = z.length) (hu : ds.length = z.length) (hsm : z.length ≤ 2 ^ 22) (hs : Sat G M I w) :
    EF P n o E w (fun r w' => ∃ b, r = .slice (some ⟨b, 0, none⟩) 2 2 ∧ Sat G ((b, cs ++ ds, e) :: M) I w') := by
  have := EF_buildSlice (n := n) (E := E) (vs := [v, u]) ho he rfl (by omega) (by omega) (fun a ha => by simp [ha.ev hx, ha.ev hy]) (by
    intro q hq
    simp at hq
    rcases hq with rfl | rfl
    · rw [← hv, ← hc]; simp
    · rw [← hu, ← hd]; simp) hs
  simpa [hc, hd] using this
theorem EF_bs3 {TS e bytes : Nat} {z : List Value} {x y q : Operand} {v u t : Value} {cs ds es : List Value} (ho : o.op = .buildSlice TS 3 #[(0, x), (1, y), (2, q)]) (he : El P TS e z bytes) (hx : ev E x = some v) (hy : ev E y = some u) (hq : ev E q = some t) (hc : v.cells.toList = cs) (hd : u.cells.toList = ds) (het : t.cells.toList = es)
    (hv : cs.length = z.length) (hu : ds.length = z.length) (ht : es.length = z.length) (hsm : z.length ≤ 2 ^ 22) (hs : Sat G M I w) :
    EF P n o E w (fun r w' => ∃ b, r = .slice (some ⟨b, 0, none⟩) 3 3 ∧ Sat G ((b, cs ++ (ds ++ es), e) :: M) I w') := by
  have := EF_buildSlice (n := n) (E := E) (vs := [v, u, t]) ho he rfl (by omega) (by omega) (fun a ha => by simp [ha.ev hx, ha.ev hy, ha.ev hq]) (by
    intro s hs
    simp at hs
    rcases hs with rfl | rfl | rfl
    · rw [← hv, ← hc]; simp
    · rw [← hu, ← hd]; simp
    · rw [← ht, ← het]; simp) hs
  simpa [hc, hd, het] using this

/-! ### append -/
theorem run_firstCells {sz m : Nat} {x : Value} {news : List Value} (h : RdW w sz x m news) : (Builtin.firstCells sz m x).run P w = .ok news.toArray w := by
  obtain ⟨hl, A, c, rfl, hc, hb⟩ := h
  rcases hb with rfl | ⟨b, off, cs, T, fr, rfl, hh, hf, hp⟩
  · have : news = [] := List.eq_nil_of_length_eq_zero (by simpa using hl)
    subst this
    cases A with
    | none => simp [Builtin.firstCells]
    | some a => simp [Builtin.firstCells, loadCells, loadCellsFrom]
  · exact run_firstCells_some w sz m _ _ _ news hl (cells_of_heap hh hf hp)
theorem RdW.drew {sz m : Nat} {x : Value} {news : List Value} (h : RdW w sz x m news) : RdW w.drew sz x m news := h

/-- What is appended does not fit: a new array. -/
theorem EF_append_new {TS e bytes : Nat} {z : List Value} {x y : Operand} {s t : Value} {l m : Nat} {olds news : List Value} {A : Option Addr} {c : Nat} (ho : o.op = .call { callee := .builtin .append, args := #[x, y], argTypes := #[TS, TS] }) (he : El P TS e z bytes)
    (hx : ev E x = some s) (hy : ev E y = some t) (hse : s = .slice A l c) (hold : RdW w z.length s l olds) (hnew : RdW w z.length t m news) (hg : c < l + m) (hb : (l + m) * bytes ≤ 140737488355328) (hby : 0 < bytes) (hs : Sat G M I w) :
    EF P n o E w (fun r w' => ∃ b zs cap, r = .slice (some ⟨b, 0, none⟩) (l + m) cap ∧ l + m ≤ cap ∧ (olds ++ news ++ zs).length = cap * z.length ∧ Sat G ((b, olds ++ news ++ zs, e) :: M) I w') := by
  intro a ha next Q h
  obtain ⟨i, zv, hi, hz, hzl, hsz, hbys⟩ := he.parts
  obtain ⟨hnl, A', c', rfl, hc', hnb⟩ := hnew
  subst hse
  have h63 : l + m ≤ 140737488355328 := Nat.le_trans (Nat.le_mul_of_pos_right _ hby) hb
  have hcap : Builtin.nextslicecap (l + m) c * i.bytes ≤ 281474976710656 := by
    have := nextslicecap_le hg
    rw [hbys]
    calc _ ≤ (2 * (l + m)) * bytes := Nat.mul_le_mul_right _ this
      _ ≤ _ := by rw [Nat.mul_assoc]; omega
  have hn : ¬ (l + m ≤ c) := by omega
  have h63' : ¬ (9223372036854775807 < ((l : Int) + (m : Int))) := by omega
  have h48' : ¬ (281474976710656 < Builtin.nextslicecap (l + m) c * i.bytes) := by omega
  have hfn : (Builtin.firstCells i.size m (.slice A' m c')).run P w.drew = .ok news.toArray w.drew := by rw [hsz]; exact run_firstCells (w := w.drew) ⟨hnl, A', c', rfl, hc', hnb⟩
  have hfo : (Builtin.firstCells i.size l (.slice A l c)).run P w.drew = .ok olds.toArray w.drew := by rw [hsz]; exact run_firstCells (w := w.drew) hold
  have hrun : (Builtin.append_ #[TS, TS] o.type #[.slice A l c, .slice A' m c']).run P w = .ok (.slice (some ⟨w.heap.size, 0, none⟩) (l + m) (grownCap w (l + m) c e))
      (w.drew.alloc (cellsO (olds ++ news ++ (Builtin.zeroCells zv.cells (grownCap w (l + m) c e - (l + m))).toList) e)) := by
    simp [Builtin.append_, run_underlying he.sl, sizeOf, typeInfo, zeroValue, hi, hz, Builtin.lenOf, hn, h63', h48', Question.forced, hfn, hfo, newRow, grownCap, cellsO]
    congr 2
    apply Array.ext'
    simp [List.append_assoc]
  have hge : l + m ≤ grownCap w (l + m) c e := by unfold grownCap; simp only [Question.cut]; omega
  simp only [Oper.wp, execOp, ho, resolve, invoke, builtin, List.map_toArray, List.map_cons, List.map_nil, ha.ev hx, ha.ev hy, Sem.run_bind, Sem.run_pure, Result.andThen_ok, hrun, Oper.upon]
  refine h _ _ ⟨w.heap.size, (Builtin.zeroCells zv.cells (grownCap w (l + m) c e - (l + m))).toList, grownCap w (l + m) c e, rfl, hge, ?_, ?_⟩
  · have hzc : zv.cells.size = z.length := by rw [← hzl]; simp
    have h1 := hold.1
    simp only [List.length_append, Array.length_toList, Builtin.zeroCells, Array.size_map, Array.size_range, hzc, h1, hnl]
    rw [← Nat.add_mul, ← Nat.add_mul]
    congr 1
    omega
  · have := hs.drew.alloc (olds ++ news ++ (Builtin.zeroCells zv.cells (grownCap w (l + m) c e - (l + m))).toList) e
    simpa using this

/-- A slice that the call owns: nil, or the head of a block of its own. -/
def OwnS (e sz : Nat) (v : Value) (cs : List Value) (L : List Chunk) : Prop :=
  (v = .slice none 0 0 ∧ cs = [] ∧ L = []) ∨ ∃ b len cap zs, v = .slice (some ⟨b, 0, none⟩) len cap ∧ cs.length = len * sz ∧ L = [(b, cs ++ zs, e)] ∧ (cs ++ zs).length = cap * sz ∧ len ≤ cap

theorem EF_append {TS e bytes : Nat} {z : List Value} {x y : Operand} {s t : Value} {l m : Nat} {olds news : List Value} {L : List Chunk} (ho : o.op = .call { callee := .builtin .append, args := #[x, y], argTypes := #[TS, TS] }) (he : El P TS e z bytes)
    (hx : ev E x = some s) (hy : ev E y = some t) (hown : OwnS e z.length s olds L) (hl : olds.length = l * z.length) (hnew : RdW w z.length t m news) (h1 : one1 news = true) (hb : (l + m) * bytes ≤ 140737488355328) (hby : 0 < bytes) (hs : Sat G (L ++ M) I w) :
    EF P n o E w (fun r w' => ∃ L', OwnS e z.length r (olds ++ news) L' ∧ Sat G (L' ++ M) I w') := by
  have hpz := he.pos
  rcases hown with ⟨rfl, rfl, rfl⟩ | ⟨b, len, cap, zs, rfl, hlen, rfl, hcap, hle⟩
  · have hl0 : l = 0 := by
      rcases Nat.eq_zero_or_pos l with h | h
      · exact h
      · have := Nat.mul_pos h hpz; simp at hl; omega
    subst hl0
    rcases Nat.eq_zero_or_pos m with h0 | h0
    · subst h0
      intro a ha next Q h
      obtain ⟨i, zv, hi, hz, hzl, hsz, hbys⟩ := he.parts
      obtain ⟨hnl, A', c', rfl, hc', hnb⟩ := hnew
      have hnn : news = [] := List.eq_nil_of_length_eq_zero (by simpa using hnl)
      subst hnn
      have hfn : (Builtin.firstCells i.size 0 (.slice A' 0 c')).run P w = .ok #[] w := by
        have := run_firstCells (P := P) (w := w) (sz := i.size) (m := 0) (x := .slice A' 0 c') (news := []) ⟨by simp, A', c', rfl, hc', .inl rfl⟩
        simpa using this
      have hrun : (Builtin.append_ #[TS, TS] o.type #[.slice none 0 0, .slice A' 0 c']).run P w = .ok (.slice none 0 0) w := by
        simp [Builtin.append_, run_underlying he.sl, sizeOf, typeInfo, hi, Builtin.lenOf, hfn]
      simp only [Oper.wp, execOp, ho, resolve, invoke, builtin, List.map_toArray, List.map_cons, List.map_nil, ha.ev hx, ha.ev hy, Sem.run_bind, Sem.run_pure, Result.andThen_ok, hrun, Oper.upon]
      exact h _ _ ⟨[], .inl ⟨rfl, by simp, rfl⟩, hs⟩
    · have hh := EF_append_new (n := n) (E := E) (A := none) (c := 0) ho he hx hy rfl (l := 0) (olds := []) ⟨by simp, none, 0, rfl, by omega, .inl rfl⟩ hnew (by omega) hb hby hs
      intro a ha next Q h
      refine hh a ha next Q fun v w' ⟨b, zs, cap, hv, hc, hlen, hs'⟩ => h v w' ⟨[(b, [] ++ news ++ zs, e)], .inr ⟨b, m, cap, zs, ?_, ?_, rfl, ?_, by omega⟩, hs'⟩
      · simpa using hv
      · simpa using hnew.1
      · simpa using hlen
  · have hll : len = l := by
      have := hlen.symm.trans hl
      exact Nat.eq_of_mul_eq_mul_right hpz this
    subst hll
    have hblk := hs.own b (olds ++ zs) e (by simp)
    by_cases hroom : len + m ≤ cap
    · intro a ha next Q h
      obtain ⟨i, zv, hi, hz, hzl, hsz, hbys⟩ := he.parts
      have hfn : (Builtin.firstCells i.size m t).run P w = .ok news.toArray w := by rw [hsz]; exact run_firstCells hnew
      obtain ⟨hnl, A', c', rfl, hc', hnb⟩ := hnew
      have hfit : len * z.length + news.length ≤ (olds ++ zs).length := by
        rw [hcap, hnl, ← Nat.add_mul]
        exact Nat.mul_le_mul_right _ hroom
      have hst := run_storeCells_at P b (len * i.size) e news 0 (olds ++ zs).toArray w hblk (by simpa [hsz] using hfit) (List.all_eq_true.1 h1)
      simp only [Nat.add_zero] at hst
      have hrun : (Builtin.append_ #[TS, TS] o.type #[.slice (some ⟨b, 0, none⟩) len cap, .slice A' m c']).run P w = .ok (.slice (some ⟨b, 0, none⟩) (len + m) cap) (w.setRow b (olds ++ news ++ zs.drop news.length).toArray) := by
        simp [Builtin.append_, run_underlying he.sl, sizeOf, typeInfo, hi, Builtin.lenOf, hroom, hfn, Addr.add_lit, hst]
        rw [hsz, ← hlen]
        congr 2
        simp [List.drop_append, List.append_assoc, List.drop_eq_nil_of_le]
      simp only [Oper.wp, execOp, ho, resolve, invoke, builtin, List.map_toArray, List.map_cons, List.map_nil, ha.ev hx, ha.ev hy, Sem.run_bind, Sem.run_pure, Result.andThen_ok, hrun, Oper.upon]
      refine h _ _ ⟨[(b, (olds ++ news) ++ zs.drop news.length, e)], .inr ⟨b, len + m, cap, zs.drop news.length, rfl, ?_, rfl, ?_, hroom⟩, ?_⟩
      · simp [hlen, hnl, Nat.add_mul]
      · rw [← hcap]
        simp only [List.length_append, List.length_drop] at hfit ⊢
        omega
      · exact hs.setRow Upd.here
    · have hold : RdW w z.length (.slice (some ⟨b, 0, none⟩) len cap) len olds := ⟨hlen, _, _, rfl, hle, .inr ⟨b, 0, _, e, (0, 0), rfl, hblk, by
        simp only [List.size_toArray, Nat.zero_add]; rw [hcap]; exact Nat.mul_le_mul_right _ hle, by simp [part, ← hlen]⟩⟩
      have hh := EF_append_new (n := n) (E := E) (A := some ⟨b, 0, none⟩) (c := cap) ho he hx hy rfl hold hnew (by omega) hb hby hs.tail
      intro a ha next Q h
      refine hh a ha next Q fun v w' ⟨b', zs', cap', hv, hc, hlen', hs'⟩ => h v w' ⟨[(b', (olds ++ news) ++ zs', e)], .inr ⟨b', len + m, cap', zs', hv, ?_, rfl, hlen', hc⟩, hs'⟩
      simp [hlen, hnew.1, Nat.add_mul]
end
end Go.Proofs.YtecbpmgfikgoaaaGreatDoor
end
section
set_option linter.unusedVariables false
set_option linter.unusedSimpArgs false
namespace Go.Proofs.YtecbpmgfikgoaaaGreatDoor
open Go Go.RowKit

section
variable {P : Program} {n : Nat} {E : List (Nat × Value)} {S : World → Prop} {o : Oper} {G w : World} {M : List Chunk} {I : Imm} {k : Kont} {fn : Func} {R : Ending → World → Prop}

/-! ### Calls -/
theorem EF_callv {cl : Callee} {f : Operand} {args : Array Operand} {ts : Array TypeId} {g : FuncId} {first captured vs full : Array Value} {post : Value → World → Prop}
    (ho : o.op = .call { callee := .value f, args := args, argTypes := ts }) (hf : ev E f = some (.func (.func g) first captured)) (hg : Fn1 P g) (hargs : ∀ a, Env n a E → args.map a.eval = vs) (hfull : first ++ vs ++ captured = full)
    (hc : Calls P g full w R) (hR : ∀ e w', R e w' → ∃ r, e = .returned r ∧ post r w') : EF P n o E w post := by
  intro a ha next Q h
  have hgo := hg full w
  simp only [Oper.wp, execOp, ho, resolve, ha.ev hf, hargs a ha, Deferred.ofValue, invoke, hfull, Sem.run_bind, Sem.run_pure, Result.andThen_ok, hgo, Oper.upon]
  refine Calls.mono hc fun e w' he => ?_
  obtain ⟨r, rfl, hp⟩ := hR e w' he
  exact h _ _ hp
theorem EF_call0 {g : FuncId} {ts : Array TypeId} {post : Value → World → Prop} (ho : o.op = .call { callee := .value (.func g), args := #[], argTypes := ts }) (hg : Fn1 P g)
    (hc : Calls P g #[] w R) (hR : ∀ e w', R e w' → ∃ r, e = .returned r ∧ post r w') : EF P n o E w post :=
  EF_callv (vs := #[]) (cl := .value (.func g)) ho rfl hg (fun a ha => by simp) (by simp) hc hR
theorem EF_call1 {g : FuncId} {ts : Array TypeId} {x : Operand} {u : Value} {post : Value → World → Prop} (ho : o.op = .call { callee := .value (.func g), args := #[x], argTypes := ts }) (hg : Fn1 P g) (hx : ev E x = some u)
    (hc : Calls P g #[u] w R) (hR : ∀ e w', R e w' → ∃ r, e = .returned r ∧ post r w') : EF P n o E w post :=
  EF_callv (vs := #[u]) (cl := .value (.func g)) ho rfl hg (fun a ha => by simp [ha.ev hx]) (by simp) hc hR
theorem EF_call2 {g : FuncId} {ts : Array TypeId} {x y : Operand} {u v : Value} {post : Value → World → Prop} (ho : o.op = .call { callee := .value (.func g), args := #[x, y], argTypes := ts }) (hg : Fn1 P g) (hx : ev E x = some u) (hy : ev E y = some v)
    (hc : Calls P g #[u, v] w R) (hR : ∀ e w', R e w' → ∃ r, e = .returned r ∧ post r w') : EF P n o E w post :=
  EF_callv (vs := #[u, v]) (cl := .value (.func g)) ho rfl hg (fun a ha => by simp [ha.ev hx, ha.ev hy]) (by simp) hc hR
theorem EF_call3 {g : FuncId} {ts : Array TypeId} {x y q : Operand} {u v t : Value} {post : Value → World → Prop} (ho : o.op = .call { callee := .value (.func g), args := #[x, y, q], argTypes := ts }) (hg : Fn1 P g) (hx : ev E x = some u) (hy : ev E y = some v) (hq : ev E q = some t)
    (hc : Calls P g #[u, v, t] w R) (hR : ∀ e w', R e w' → ∃ r, e = .returned r ∧ post r w') : EF P n o E w post :=
  EF_callv (vs := #[u, v, t]) (cl := .value (.func g)) ho rfl hg (fun a ha => by simp [ha.ev hx, ha.ev hy, ha.ev hq]) (by simp) hc hR
theorem EF_call4 {g : FuncId} {ts : Array TypeId} {x y q p : Operand} {u v t s : Value} {post : Value → World → Prop} (ho : o.op = .call { callee := .value (.func g), args := #[x, y, q, p], argTypes := ts }) (hg : Fn1 P g) (hx : ev E x = some u) (hy : ev E y = some v) (hq : ev E q = some t) (hp : ev E p = some s)
    (hc : Calls P g #[u, v, t, s] w R) (hR : ∀ e w', R e w' → ∃ r, e = .returned r ∧ post r w') : EF P n o E w post :=
  EF_callv (vs := #[u, v, t, s]) (cl := .value (.func g)) ho rfl hg (fun a ha => by simp [ha.ev hx, ha.ev hy, ha.ev hq, ha.ev hp]) (by simp) hc hR
theorem EF_call5 {g : FuncId} {ts : Array TypeId} {x y q p z : Operand} {u v t s r0 : Value} {post : Value → World → Prop} (ho : o.op = .call { callee := .value (.func g), args := #[x, y, q, p, z], argTypes := ts }) (hg : Fn1 P g) (hx : ev E x = some u) (hy : ev E y = some v) (hq : ev E q = some t) (hp : ev E p = some s) (hz : ev E z = some r0)
    (hc : Calls P g #[u, v, t, s, r0] w R) (hR : ∀ e w', R e w' → ∃ r, e = .returned r ∧ post r w') : EF P n o E w post :=
  EF_callv (vs := #[u, v, t, s, r0]) (cl := .value (.func g)) ho rfl hg (fun a ha => by simp [ha.ev hx, ha.ev hy, ha.ev hq, ha.ev hp, ha.ev hz]) (by simp) hc hR
/-- A function value that bears its receiver. -/
theorem EF_callf1 {f x : Operand} {g : FuncId} {ts : Array TypeId} {u v : Value} {post : Value → World → Prop} (ho : o.op = .call { callee := .value f, args := #[x], argTypes := ts }) (hf : ev E f = some (.func (.func g) #[u] #[])) (hg : Fn1 P g) (hx : ev E x = some v)
    (hc : Calls P g #[u, v] w R) (hR : ∀ e w', R e w' → ∃ r, e = .returned r ∧ post r w') : EF P n o E w post :=
  EF_callv (vs := #[v]) (cl := .value f) ho hf hg (fun a ha => by simp [ha.ev hx]) (by simp) hc hR
/-- A closure over one variable. -/
theorem EF_callc1 {f x : Operand} {g : FuncId} {ts : Array TypeId} {u v : Value} {post : Value → World → Prop} (ho : o.op = .call { callee := .value f, args := #[x], argTypes := ts }) (hf : ev E f = some (.func (.func g) #[] #[u])) (hg : Fn1 P g) (hx : ev E x = some v)
    (hc : Calls P g #[v, u] w R) (hR : ∀ e w', R e w' → ∃ r, e = .returned r ∧ post r w') : EF P n o E w post :=
  EF_callv (vs := #[v]) (cl := .value f) ho hf hg (fun a ha => by simp [ha.ev hx]) (by simp) hc hR
/-- A plain function value of two arguments. -/
theorem EF_callp2 {f x y : Operand} {g : FuncId} {ts : Array TypeId} {u v : Value} {post : Value → World → Prop} (ho : o.op = .call { callee := .value f, args := #[x, y], argTypes := ts }) (hf : ev E f = some (.func (.func g) #[] #[])) (hg : Fn1 P g) (hx : ev E x = some u) (hy : ev E y = some v)
    (hc : Calls P g #[u, v] w R) (hR : ∀ e w', R e w' → ∃ r, e = .returned r ∧ post r w') : EF P n o E w post :=
  EF_callv (vs := #[u, v]) (cl := .value f) ho hf hg (fun a ha => by simp [ha.ev hx, ha.ev hy]) (by simp) hc hR

/-! ### Begin and end -/
theorem enterE {f : FuncId} {c : Code} {args : Array Value} (hf : P.funcs[f]? = some fn) (hb : fn.body = some c) (hn : fn.ntmps = n) (hl : args.size ≤ n)
    (hE : ∀ t v, look E t = some v → (args ++ Array.replicate (n - args.size) undef).getD t undef = v) (h : W P n c (Kont.body P fn R) E w) : Calls P f args w R := by
  refine calls_of_wp hf hb ?_
  rw [hn]
  refine wp_mono (h _ ⟨?_, rfl, hE⟩) ?_
  · simp; omega
  · intro e a w h
    cases e <;> first | exact h | exact h.elim
theorem enter0 {f : FuncId} {c : Code} (hf : P.funcs[f]? = some fn) (hb : fn.body = some c) (hn : fn.ntmps = n) (h : W P n c (Kont.body P fn R) [] w) : Calls P f #[] w R :=
  enterE hf hb hn (by simp) (fun t v ht => by cases ht) h
theorem look_cons {d t : Nat} {u v : Value} : look ((d, u) :: E) t = some v → (t = d ∧ u = v) ∨ look E t = some v := by
  intro h
  simp only [look] at h
  cases hb : Nat.beq d t with
  | true => rw [hb] at h; exact .inl ⟨(Nat.eq_of_beq_eq_true hb).symm, by simpa using h⟩
  | false => rw [hb] at h; exact .inr h
theorem look_nil {t : Nat} {v : Value} (h : look [] t = some v) : False := by cases h
theorem enter1 {f : FuncId} {c : Code} {v0 : Value} (hf : P.funcs[f]? = some fn) (hb : fn.body = some c) (hn : fn.ntmps = n) (hl : Nat.ble 1 n = true) (h : W P n c (Kont.body P fn R) [(0, v0)] w) : Calls P f #[v0] w R :=
  enterE hf hb hn (by simpa using Nat.le_of_ble_eq_true hl) (fun t v ht => by
    rcases look_cons ht with ⟨rfl, rfl⟩ | ht
    · simp [Array.getD_eq_getD_getElem?, Array.getElem?_append]
    · exact (look_nil ht).elim) h
theorem enter2 {f : FuncId} {c : Code} {v0 v1 : Value} (hf : P.funcs[f]? = some fn) (hb : fn.body = some c) (hn : fn.ntmps = n) (hl : Nat.ble 2 n = true) (h : W P n c (Kont.body P fn R) [(0, v0), (1, v1)] w) : Calls P f #[v0, v1] w R :=
  enterE hf hb hn (by simpa using Nat.le_of_ble_eq_true hl) (fun t v ht => by
    rcases look_cons ht with ⟨rfl, rfl⟩ | ht
    · simp [Array.getD_eq_getD_getElem?, Array.getElem?_append]
    rcases look_cons ht with ⟨rfl, rfl⟩ | ht
    · simp [Array.getD_eq_getD_getElem?, Array.getElem?_append]
    · exact (look_nil ht).elim) h
theorem enter3 {f : FuncId} {c : Code} {v0 v1 v2 : Value} (hf : P.funcs[f]? = some fn) (hb : fn.body = some c) (hn : fn.ntmps = n) (hl : Nat.ble 3 n = true) (h : W P n c (Kont.body P fn R) [(0, v0), (1, v1), (2, v2)] w) : Calls P f #[v0, v1, v2] w R :=
  enterE hf hb hn (by simpa using Nat.le_of_ble_eq_true hl) (fun t v ht => by
    rcases look_cons ht with ⟨rfl, rfl⟩ | ht
    · simp [Array.getD_eq_getD_getElem?, Array.getElem?_append]
    rcases look_cons ht with ⟨rfl, rfl⟩ | ht
    · simp [Array.getD_eq_getD_getElem?, Array.getElem?_append]
    rcases look_cons ht with ⟨rfl, rfl⟩ | ht
    · simp [Array.getD_eq_getD_getElem?, Array.getElem?_append]
    · exact (look_nil ht).elim) h
theorem enter4 {f : FuncId} {c : Code} {v0 v1 v2 v3 : Value} (hf : P.funcs[f]? = some fn) (hb : fn.body = some c) (hn : fn.ntmps = n) (hl : Nat.ble 4 n = true) (h : W P n c (Kont.body P fn R) [(0, v0), (1, v1), (2, v2), (3, v3)] w) : Calls P f #[v0, v1, v2, v3] w R :=
  enterE hf hb hn (by simpa using Nat.le_of_ble_eq_true hl) (fun t v ht => by
    rcases look_cons ht with ⟨rfl, rfl⟩ | ht
    · simp [Array.getD_eq_getD_getElem?, Array.getElem?_append]
    rcases look_cons ht with ⟨rfl, rfl⟩ | ht
    · simp [Array.getD_eq_getD_getElem?, Array.getElem?_append]
    rcases look_cons ht with ⟨rfl, rfl⟩ | ht
    · simp [Array.getD_eq_getD_getElem?, Array.getElem?_append]
    rcases look_cons ht with ⟨rfl, rfl⟩ | ht
    · simp [Array.getD_eq_getD_getElem?, Array.getElem?_append]
    · exact (look_nil ht).elim) h
theorem enter5 {f : FuncId} {c : Code} {v0 v1 v2 v3 v4 : Value} (hf : P.funcs[f]? = some fn) (hb : fn.body = some c) (hn : fn.ntmps = n) (hl : Nat.ble 5 n = true) (h : W P n c (Kont.body P fn R) [(0, v0), (1, v1), (2, v2), (3, v3), (4, v4)] w) : Calls P f #[v0, v1, v2, v3, v4] w R :=
  enterE hf hb hn (by simpa using Nat.le_of_ble_eq_true hl) (fun t v ht => by
    rcases look_cons ht with ⟨rfl, rfl⟩ | ht
    · simp [Array.getD_eq_getD_getElem?, Array.getElem?_append]
    rcases look_cons ht with ⟨rfl, rfl⟩ | ht
    · simp [Array.getD_eq_getD_getElem?, Array.getElem?_append]
    rcases look_cons ht with ⟨rfl, rfl⟩ | ht
    · simp [Array.getD_eq_getD_getElem?, Array.getElem?_append]
    rcases look_cons ht with ⟨rfl, rfl⟩ | ht
    · simp [Array.getD_eq_getD_getElem?, Array.getElem?_append]
    rcases look_cons ht with ⟨rfl, rfl⟩ | ht
    · simp [Array.getD_eq_getD_getElem?, Array.getElem?_append]
    · exact (look_nil ht).elim) h

theorem ret_none (hr : fn.results = #[]) (hR : R (.returned (.tuple #[])) w) : ∀ a, Env n a E → (Kont.body P fn R).ret a w := fun a ha => ⟨ha.defers, _, by simp [results, hr], hR⟩
theorem end_none (hr : fn.results = #[]) (hR : R (.returned (.tuple #[])) w) : ∀ a, Env n a E → (Kont.body P fn R).nrm a w := fun a ha => ⟨ha.defers, _, by simp [results, hr], hR⟩
theorem Env.get {a : Act} (ha : Env n a E) {t : Nat} {v : Value} (hv : look E t = some v) : a.tmps[t]?.getD undef = v := by
  rw [← Array.getD_eq_getD_getElem?]
  exact ha.at_ t v hv
theorem ret_tmp {t : Nat} {v : Value} (hr : fn.results = #[.tmp t]) (hv : look E t = some v) (hR : R (.returned v) w) : ∀ a, Env n a E → (Kont.body P fn R).ret a w := fun a ha =>
  ⟨ha.defers, v, by simp [results, hr, ha.get hv], hR⟩
theorem ret_tmp2 {t s : Nat} {v u : Value} (hr : fn.results = #[.tmp t, .tmp s]) (hv : look E t = some v) (hu : look E s = some u) (hR : R (.returned (.tuple #[v, u])) w) : ∀ a, Env n a E → (Kont.body P fn R).ret a w := fun a ha =>
  ⟨ha.defers, .tuple #[v, u], by simp [results, hr, ha.get hv, ha.get hu], hR⟩
theorem ret_cell {t T b off : Nat} {v : Value} (hr : fn.results = #[.cell t T]) (hv : look E t = some (ptr b off)) (hl : (loadVar T ⟨b, off, none⟩).run P w = .ok v w) (hR : R (.returned v) w) : ∀ a, Env n a E → (Kont.body P fn R).ret a w := fun a ha =>
  ⟨ha.defers, v, by simp [results, hr, ha.get hv, ptr, asAddr, hl], hR⟩
theorem ret_cell2 {t T b off s : Nat} {v u : Value} (hr : fn.results = #[.cell t T, .tmp s]) (hv : look E t = some (ptr b off)) (hu : look E s = some u) (hl : (loadVar T ⟨b, off, none⟩).run P w = .ok v w) (hR : R (.returned (.tuple #[v, u])) w) : ∀ a, Env n a E → (Kont.body P fn R).ret a w := fun a ha =>
  ⟨ha.defers, .tuple #[v, u], by simp [results, hr, ha.get hv, ha.get hu, ptr, asAddr, hl], hR⟩

/-! ### copy -/
theorem RdW.take {sz m : Nat} {x : Value} {news : List Value} (h : RdW w sz x m news) {j : Nat} (hj : j ≤ m) : (Builtin.firstCells sz j x).run P w = .ok (news.take (j * sz)).toArray w := by
  obtain ⟨hl, A, c, rfl, hc, hb⟩ := h
  have hjm : j * sz ≤ m * sz := Nat.mul_le_mul_right _ hj
  rcases hb with rfl | ⟨b, off, cs, T, fr, rfl, hh, hf, hp⟩
  · have : j = 0 := by omega
    subst this
    cases A with
    | none => simp [Builtin.firstCells]
    | some a => simp [Builtin.firstCells, loadCells, loadCellsFrom]
  · refine run_firstCells_some w sz j _ _ _ (news.take (j * sz)) (by rw [List.length_take, hl]; exact Nat.min_eq_left hjm) (cells_of_heap hh (m := j * sz) (by omega) ?_)
    rw [← hp]
    simp [part, List.take_take, Nat.min_eq_left hjm]
theorem EF_copy {TS TX e bytes : Nat} {z : List Value} {x y : Operand} {t : Value} {b off dl dc m : Nat} {cs news : List Value} {TT : TypeId} {M' : List Chunk} (ho : o.op = .call { callee := .builtin .copy, args := #[x, y], argTypes := #[TS, TX] }) (he : El P TS e z bytes)
    (hx : ev E x = some (.slice (some ⟨b, off, none⟩) dl dc)) (hy : ev E y = some t) (hnew : RdW w z.length t m news) (hf : off + dl * z.length ≤ cs.length) (h1 : one1 news = true) (hs : Sat G M I w)
    (hu : Upd b TT cs (splice cs off (news.take (min m dl * z.length))) M M') : EF P n o E w (fun r w' => r = .int .i64 ((min m dl : Nat) : Int) ∧ Sat G M' I w') := by
  intro a ha next Q h
  obtain ⟨i, zv, hi, hz, hzl, hsz, hbys⟩ := he.parts
  have hfn : (Builtin.firstCells i.size (min m dl) t).run P w = .ok (news.take (min m dl * z.length)).toArray w := by rw [hsz]; exact hnew.take (Nat.min_le_left _ _)
  have hblk := hs.own b cs TT hu.mem
  have hln : (news.take (min m dl * z.length)).length ≤ dl * z.length := by
    rw [List.length_take]
    exact Nat.le_trans (Nat.min_le_left _ _) (Nat.mul_le_mul_right _ (Nat.min_le_right _ _))
  have hst := run_storeCells_at P b off TT (news.take (min m dl * z.length)) 0 cs.toArray w hblk (by simp only [Nat.add_zero, List.size_toArray]; omega) (fun v hv => List.all_eq_true.1 h1 v (List.mem_of_mem_take hv))
  simp only [Nat.add_zero] at hst
  obtain ⟨hnl, A', c', rfl, hc', hnb⟩ := hnew
  have hrun : (Builtin.copy_ #[TS, TX] o.type #[.slice (some ⟨b, off, none⟩) dl dc, .slice A' m c']).run P w = .ok (.int .i64 ((min m dl : Nat) : Int)) (w.setRow b (splice cs off (news.take (min m dl * z.length))).toArray) := by
    have hmin : Nat.min m dl = min m dl := rfl
    simp [Builtin.copy_, run_underlying he.sl, sizeOf, typeInfo, hi, Builtin.lenOf, hmin, hfn, hst, goInt, splice]
  simp only [Oper.wp, execOp, ho, resolve, invoke, builtin, List.map_toArray, List.map_cons, List.map_nil, ha.ev hx, ha.ev hy, Sem.run_bind, Sem.run_pure, Result.andThen_ok, hrun, Oper.upon]
  exact h _ _ ⟨rfl, hs.setRow hu⟩
end
end Go.Proofs.YtecbpmgfikgoaaaGreatDoor
end
section
namespace Go.Proofs.YtecbpmgfikgoaaaGreatDoor
open Go
theorem mixed : Tryz.prog.follows .mixedOrders = true := by kernel_rfl
theorem sz3 : (Tryz.prog.info? 3).map (·.size) = some 1 := by kernel_rfl
theorem ag3 : ∀ w, (isAgg 3).run Tryz.prog w = .ok false w := fun _ => by kernel_rfl
def zl3 : List Value := [.int .i64 0]
theorem zr3 : (Tryz.prog.info? 3).map (fun i => (i.zero, i.size)) = some (some (.int .i64 0), 1) := by kernel_rfl
theorem sz4 : (Tryz.prog.info? 4).map (·.size) = some 1 := by kernel_rfl
theorem ag4 : ∀ w, (isAgg 4).run Tryz.prog w = .ok false w := fun _ => by kernel_rfl
def zl4 : List Value := [.bool false]
theorem zr4 : (Tryz.prog.info? 4).map (fun i => (i.zero, i.size)) = some (some (.bool false), 1) := by kernel_rfl
theorem sz5 : (Tryz.prog.info? 5).map (·.size) = some 1 := by kernel_rfl
theorem ag5 : ∀ w, (isAgg 5).run Tryz.prog w = .ok false w := fun _ => by kernel_rfl
def zl5 : List Value := [.int .u8 0]
theorem zr5 : (Tryz.prog.info? 5).map (fun i => (i.zero, i.size)) = some (some (.int .u8 0), 1) := by kernel_rfl
theorem sz9 : (Tryz.prog.info? 9).map (·.size) = some 1 := by kernel_rfl
theorem ag9 : ∀ w, (isAgg 9).run Tryz.prog w = .ok false w := fun _ => by kernel_rfl
def zl9 : List Value := [.string ByteArray.empty]
theorem zr9 : (Tryz.prog.info? 9).map (fun i => (i.zero, i.size)) = some (some (.string ByteArray.empty), 1) := by kernel_rfl
theorem sz22 : (Tryz.prog.info? 22).map (·.size) = some 1 := by kernel_rfl
theorem ag22 : ∀ w, (isAgg 22).run Tryz.prog w = .ok false w := fun _ => by kernel_rfl
def zl22 : List Value := [.slice none 0 0]
theorem zr22 : (Tryz.prog.info? 22).map (fun i => (i.zero, i.size)) = some (some (.slice none 0 0), 1) := by kernel_rfl
theorem sz24 : (Tryz.prog.info? 24).map (·.size) = some 32 := by kernel_rfl
theorem ag24 : ∀ w, (isAgg 24).run Tryz.prog w = .ok true w := fun _ => by kernel_rfl
def zl24 : List Value := List.replicate 32 (.int .u8 0)
theorem zr24 : (Tryz.prog.info? 24).map (fun i => (i.zero, i.size)) = some (some (aggL zl24), 32) := by kernel_rfl
theorem sz26 : (Tryz.prog.info? 26).map (·.size) = some 37 := by kernel_rfl
theorem ag26 : ∀ w, (isAgg 26).run Tryz.prog w = .ok true w := fun _ => by kernel_rfl
def zl26 : List Value := [.string ByteArray.empty, .int .i64 0] ++ (List.replicate 32 (.int .u8 0)) ++ [.string ByteArray.empty, .int .i64 0, .string ByteArray.empty]
theorem zr26 : (Tryz.prog.info? 26).map (fun i => (i.zero, i.size)) = some (some (aggL zl26), 37) := by kernel_rfl
theorem sz37 : (Tryz.prog.info? 37).map (·.size) = some 1 := by kernel_rfl
theorem ag37 : ∀ w, (isAgg 37).run Tryz.prog w = .ok false w := fun _ => by kernel_rfl
def zl37 : List Value := [.slice none 0 0]
theorem zr37 : (Tryz.prog.info? 37).map (fun i => (i.zero, i.size)) = some (some (.slice none 0 0), 1) := by kernel_rfl
theorem sz39 : (Tryz.prog.info? 39).map (·.size) = some 2 := by kernel_rfl
theorem ag39 : ∀ w, (isAgg 39).run Tryz.prog w = .ok true w := fun _ => by kernel_rfl
def zl39 : List Value := [.slice none 0 0, .int .i64 0]
theorem zr39 : (Tryz.prog.info? 39).map (fun i => (i.zero, i.size)) = some (some (aggL zl39), 2) := by kernel_rfl
theorem sz40 : (Tryz.prog.info? 40).map (·.size) = some 8 := by kernel_rfl
theorem ag40 : ∀ w, (isAgg 40).run Tryz.prog w = .ok true w := fun _ => by kernel_rfl
def zl40 : List Value := [.slice none 0 0, .int .i64 0, .slice none 0 0, .int .i64 0, .slice none 0 0, .int .i64 0, .slice none 0 0, .int .i64 0]
theorem zr40 : (Tryz.prog.info? 40).map (fun i => (i.zero, i.size)) = some (some (aggL zl40), 8) := by kernel_rfl
theorem sz42 : (Tryz.prog.info? 42).map (·.size) = some 10 := by kernel_rfl
theorem ag42 : ∀ w, (isAgg 42).run Tryz.prog w = .ok true w := fun _ => by kernel_rfl
def zl42 : List Value := [.int .i64 0, .int .i64 0, .slice none 0 0, .int .i64 0, .slice none 0 0, .int .i64 0, .slice none 0 0, .int .i64 0, .slice none 0 0, .int .i64 0]
theorem zr42 : (Tryz.prog.info? 42).map (fun i => (i.zero, i.size)) = some (some (aggL zl42), 10) := by kernel_rfl
theorem sz45 : (Tryz.prog.info? 45).map (·.size) = some 35 := by kernel_rfl
theorem ag45 : ∀ w, (isAgg 45).run Tryz.prog w = .ok true w := fun _ => by kernel_rfl
def zl45 : List Value := [.int .i64 0, .int .i64 0, .int .i64 0] ++ (List.replicate 32 (.int .u8 0))
theorem zr45 : (Tryz.prog.info? 45).map (fun i => (i.zero, i.size)) = some (some (aggL zl45), 35) := by kernel_rfl
theorem sz46 : (Tryz.prog.info? 46).map (·.size) = some 1 := by kernel_rfl
theorem ag46 : ∀ w, (isAgg 46).run Tryz.prog w = .ok false w := fun _ => by kernel_rfl
def zl46 : List Value := [.slice none 0 0]
theorem zr46 : (Tryz.prog.info? 46).map (fun i => (i.zero, i.size)) = some (some (.slice none 0 0), 1) := by kernel_rfl
theorem sz48 : (Tryz.prog.info? 48).map (·.size) = some 3 := by kernel_rfl
theorem ag48 : ∀ w, (isAgg 48).run Tryz.prog w = .ok true w := fun _ => by kernel_rfl
def zl48 : List Value := [.int .i64 0, .int .i64 0, .slice none 0 0]
theorem zr48 : (Tryz.prog.info? 48).map (fun i => (i.zero, i.size)) = some (some (aggL zl48), 3) := by kernel_rfl
theorem sz49 : (Tryz.prog.info? 49).map (·.size) = some 1 := by kernel_rfl
theorem ag49 : ∀ w, (isAgg 49).run Tryz.prog w = .ok false w := fun _ => by kernel_rfl
def zl49 : List Value := [.slice none 0 0]
theorem zr49 : (Tryz.prog.info? 49).map (fun i => (i.zero, i.size)) = some (some (.slice none 0 0), 1) := by kernel_rfl
theorem sz51 : (Tryz.prog.info? 51).map (·.size) = some 50 := by kernel_rfl
theorem ag51 : ∀ w, (isAgg 51).run Tryz.prog w = .ok true w := fun _ => by kernel_rfl
def zl51 : List Value := [.int .i64 0, .int .i64 0, .slice none 0 0, .int .i64 0, .slice none 0 0, .int .i64 0, .slice none 0 0, .int .i64 0, .slice none 0 0, .int .i64 0, .bool false, .int .i64 0, .int .i64 0, .int .i64 0] ++ (List.replicate 32 (.int .u8 0)) ++ [.int .i64 0, .int .i64 0, .slice none 0 0, .slice none 0 0]
theorem zr51 : (Tryz.prog.info? 51).map (fun i => (i.zero, i.size)) = some (some (aggL zl51), 50) := by kernel_rfl
theorem sz53 : (Tryz.prog.info? 53).map (·.size) = some 40 := by kernel_rfl
theorem ag53 : ∀ w, (isAgg 53).run Tryz.prog w = .ok true w := fun _ => by kernel_rfl
def zl53 : List Value := [.int .i64 0, .string ByteArray.empty, .int .i64 0] ++ (List.replicate 32 (.int .u8 0)) ++ [.string ByteArray.empty, .int .i64 0, .string ByteArray.empty, .int .i64 0, .int .i64 0]
theorem zr53 : (Tryz.prog.info? 53).map (fun i => (i.zero, i.size)) = some (some (aggL zl53), 40) := by kernel_rfl
theorem sz59 : (Tryz.prog.info? 59).map (·.size) = some 1 := by kernel_rfl
theorem ag59 : ∀ w, (isAgg 59).run Tryz.prog w = .ok false w := fun _ => by kernel_rfl
def zl59 : List Value := [.slice none 0 0]
theorem zr59 : (Tryz.prog.info? 59).map (fun i => (i.zero, i.size)) = some (some (.slice none 0 0), 1) := by kernel_rfl
theorem sz60 : (Tryz.prog.info? 60).map (·.size) = some 1 := by kernel_rfl
theorem ag60 : ∀ w, (isAgg 60).run Tryz.prog w = .ok false w := fun _ => by kernel_rfl
def zl60 : List Value := [.slice none 0 0]
theorem zr60 : (Tryz.prog.info? 60).map (fun i => (i.zero, i.size)) = some (some (.slice none 0 0), 1) := by kernel_rfl
theorem sz61 : (Tryz.prog.info? 61).map (·.size) = some 1 := by kernel_rfl
theorem ag61 : ∀ w, (isAgg 61).run Tryz.prog w = .ok false w := fun _ => by kernel_rfl
def zl61 : List Value := [.slice none 0 0]
theorem zr61 : (Tryz.prog.info? 61).map (fun i => (i.zero, i.size)) = some (some (.slice none 0 0), 1) := by kernel_rfl
theorem sz63 : (Tryz.prog.info? 63).map (·.size) = some 2 := by kernel_rfl
theorem ag63 : ∀ w, (isAgg 63).run Tryz.prog w = .ok true w := fun _ => by kernel_rfl
def zl63 : List Value := [.slice none 0 0, .slice none 0 0]
theorem zr63 : (Tryz.prog.info? 63).map (fun i => (i.zero, i.size)) = some (some (aggL zl63), 2) := by kernel_rfl
theorem sz65 : (Tryz.prog.info? 65).map (·.size) = some 6 := by kernel_rfl
theorem ag65 : ∀ w, (isAgg 65).run Tryz.prog w = .ok true w := fun _ => by kernel_rfl
def zl65 : List Value := [.slice none 0 0, .slice none 0 0, .slice none 0 0, .slice none 0 0, .slice none 0 0, .slice none 0 0]
theorem zr65 : (Tryz.prog.info? 65).map (fun i => (i.zero, i.size)) = some (some (aggL zl65), 6) := by kernel_rfl
theorem sz68 : (Tryz.prog.info? 68).map (·.size) = some 1 := by kernel_rfl
theorem ag68 : ∀ w, (isAgg 68).run Tryz.prog w = .ok false w := fun _ => by kernel_rfl
def zl68 : List Value := [.slice none 0 0]
theorem zr68 : (Tryz.prog.info? 68).map (fun i => (i.zero, i.size)) = some (some (.slice none 0 0), 1) := by kernel_rfl
theorem sz70 : (Tryz.prog.info? 70).map (·.size) = some 5 := by kernel_rfl
theorem ag70 : ∀ w, (isAgg 70).run Tryz.prog w = .ok true w := fun _ => by kernel_rfl
def zl70 : List Value := [.string ByteArray.empty, .int .i64 0, .int .i64 0, .slice none 0 0, .slice none 0 0]
theorem zr70 : (Tryz.prog.info? 70).map (fun i => (i.zero, i.size)) = some (some (aggL zl70), 5) := by kernel_rfl
theorem sz75 : (Tryz.prog.info? 75).map (·.size) = some 1 := by kernel_rfl
theorem ag75 : ∀ w, (isAgg 75).run Tryz.prog w = .ok false w := fun _ => by kernel_rfl
def zl75 : List Value := [.pointer none]
theorem zr75 : (Tryz.prog.info? 75).map (fun i => (i.zero, i.size)) = some (some (.pointer none), 1) := by kernel_rfl
theorem sz76 : (Tryz.prog.info? 76).map (·.size) = some 2 := by kernel_rfl
theorem ag76 : ∀ w, (isAgg 76).run Tryz.prog w = .ok true w := fun _ => by kernel_rfl
def zl76 : List Value := [.pointer none, .pointer none]
theorem zr76 : (Tryz.prog.info? 76).map (fun i => (i.zero, i.size)) = some (some (aggL zl76), 2) := by kernel_rfl
theorem sz78 : (Tryz.prog.info? 78).map (·.size) = some 64 := by kernel_rfl
theorem ag78 : ∀ w, (isAgg 78).run Tryz.prog w = .ok true w := fun _ => by kernel_rfl
def zl78 : List Value := (List.replicate 32 (.int .u8 0)) ++ [.pointer none, .pointer none, .int .i64 0, .int .i64 0, .int .i64 0, .slice none 0 0, .int .i64 0, .slice none 0 0, .int .i64 0, .slice none 0 0, .int .i64 0, .slice none 0 0, .int .i64 0, .int .i64 0, .int .i64 0, .slice none 0 0, .int .i64 0, .slice none 0 0, .int .i64 0, .slice none 0 0, .int .i64 0, .slice none 0 0, .int .i64 0, .slice none 0 0, .int .i64 0, .slice none 0 0, .slice none 0 0, .slice none 0 0, .slice none 0 0, .slice none 0 0, .slice none 0 0, .slice none 0 0]
theorem zr78 : (Tryz.prog.info? 78).map (fun i => (i.zero, i.size)) = some (some (aggL zl78), 64) := by kernel_rfl
theorem sz98 : (Tryz.prog.info? 98).map (·.size) = some 2 := by kernel_rfl
theorem ag98 : ∀ w, (isAgg 98).run Tryz.prog w = .ok true w := fun _ => by kernel_rfl
def zl98 : List Value := [.string ByteArray.empty, .int .i64 0]
theorem zr98 : (Tryz.prog.info? 98).map (fun i => (i.zero, i.size)) = some (some (aggL zl98), 2) := by kernel_rfl
theorem sz112 : (Tryz.prog.info? 112).map (·.size) = some 34 := by kernel_rfl
theorem ag112 : ∀ w, (isAgg 112).run Tryz.prog w = .ok true w := fun _ => by kernel_rfl
def zl112 : List Value := (List.replicate 32 (.int .u8 0)) ++ [.slice none 0 0, .int .i64 0]
theorem zr112 : (Tryz.prog.info? 112).map (fun i => (i.zero, i.size)) = some (some (aggL zl112), 34) := by kernel_rfl
theorem sz125 : (Tryz.prog.info? 125).map (·.size) = some 1 := by kernel_rfl
theorem ag125 : ∀ w, (isAgg 125).run Tryz.prog w = .ok true w := fun _ => by kernel_rfl
def zl125 : List Value := [.slice none 0 0]
theorem zr125 : (Tryz.prog.info? 125).map (fun i => (i.zero, i.size)) = some (some (aggL zl125), 1) := by kernel_rfl
theorem sz129 : (Tryz.prog.info? 129).map (·.size) = some 3 := by kernel_rfl
theorem ag129 : ∀ w, (isAgg 129).run Tryz.prog w = .ok true w := fun _ => by kernel_rfl
def zl129 : List Value := [.int .i64 0, .slice none 0 0, .slice none 0 0]
theorem zr129 : (Tryz.prog.info? 129).map (fun i => (i.zero, i.size)) = some (some (aggL zl129), 3) := by kernel_rfl
theorem sz132 : (Tryz.prog.info? 132).map (·.size) = some 35 := by kernel_rfl
theorem ag132 : ∀ w, (isAgg 132).run Tryz.prog w = .ok true w := fun _ => by kernel_rfl
def zl132 : List Value := (List.replicate 32 (.int .u8 0)) ++ [.int .i64 0, .slice none 0 0, .slice none 0 0]
theorem zr132 : (Tryz.prog.info? 132).map (fun i => (i.zero, i.size)) = some (some (aggL zl132), 35) := by kernel_rfl
theorem sz144 : (Tryz.prog.info? 144).map (·.size) = some 5 := by kernel_rfl
theorem ag144 : ∀ w, (isAgg 144).run Tryz.prog w = .ok true w := fun _ => by kernel_rfl
def zl144 : List Value := [.string ByteArray.empty, .slice none 0 0, .int .i64 0, .string ByteArray.empty, .bool false]
theorem zr144 : (Tryz.prog.info? 144).map (fun i => (i.zero, i.size)) = some (some (aggL zl144), 5) := by kernel_rfl
theorem sz153 : (Tryz.prog.info? 153).map (·.size) = some 1 := by kernel_rfl
theorem ag153 : ∀ w, (isAgg 153).run Tryz.prog w = .ok false w := fun _ => by kernel_rfl
def zl153 : List Value := [.int .u32 0]
theorem zr153 : (Tryz.prog.info? 153).map (fun i => (i.zero, i.size)) = some (some (.int .u32 0), 1) := by kernel_rfl
theorem sz154 : (Tryz.prog.info? 154).map (·.size) = some 8 := by kernel_rfl
theorem ag154 : ∀ w, (isAgg 154).run Tryz.prog w = .ok true w := fun _ => by kernel_rfl
def zl154 : List Value := List.replicate 8 (.int .u32 0)
theorem zr154 : (Tryz.prog.info? 154).map (fun i => (i.zero, i.size)) = some (some (aggL zl154), 8) := by kernel_rfl
theorem sz155 : (Tryz.prog.info? 155).map (·.size) = some 8 := by kernel_rfl
theorem ag155 : ∀ w, (isAgg 155).run Tryz.prog w = .ok true w := fun _ => by kernel_rfl
def zl155 : List Value := List.replicate 8 (.int .u32 0)
theorem zr155 : (Tryz.prog.info? 155).map (fun i => (i.zero, i.size)) = some (some (aggL zl155), 8) := by kernel_rfl
theorem sz156 : (Tryz.prog.info? 156).map (·.size) = some 64 := by kernel_rfl
theorem ag156 : ∀ w, (isAgg 156).run Tryz.prog w = .ok true w := fun _ => by kernel_rfl
def zl156 : List Value := List.replicate 64 (.int .u32 0)
theorem zr156 : (Tryz.prog.info? 156).map (fun i => (i.zero, i.size)) = some (some (aggL zl156), 64) := by kernel_rfl
theorem sz160 : (Tryz.prog.info? 160).map (·.size) = some 128 := by kernel_rfl
theorem ag160 : ∀ w, (isAgg 160).run Tryz.prog w = .ok true w := fun _ => by kernel_rfl
def zl160 : List Value := List.replicate 128 (.int .u8 0)
theorem zr160 : (Tryz.prog.info? 160).map (fun i => (i.zero, i.size)) = some (some (aggL zl160), 128) := by kernel_rfl
theorem sz177 : (Tryz.prog.info? 177).map (·.size) = some 33 := by kernel_rfl
theorem ag177 : ∀ w, (isAgg 177).run Tryz.prog w = .ok true w := fun _ => by kernel_rfl
def zl177 : List Value := (List.replicate 32 (.int .u8 0)) ++ [.int .i64 0]
theorem zr177 : (Tryz.prog.info? 177).map (fun i => (i.zero, i.size)) = some (some (aggL zl177), 33) := by kernel_rfl
theorem sz187 : (Tryz.prog.info? 187).map (·.size) = some 36 := by kernel_rfl
theorem ag187 : ∀ w, (isAgg 187).run Tryz.prog w = .ok true w := fun _ => by kernel_rfl
def zl187 : List Value := List.replicate 36 (.int .i64 0)
theorem zr187 : (Tryz.prog.info? 187).map (fun i => (i.zero, i.size)) = some (some (aggL zl187), 36) := by kernel_rfl
theorem sz209 : (Tryz.prog.info? 209).map (·.size) = some 2 := by kernel_rfl
theorem ag209 : ∀ w, (isAgg 209).run Tryz.prog w = .ok true w := fun _ => by kernel_rfl
def zl209 : List Value := [.slice none 0 0, .bool false]
theorem zr209 : (Tryz.prog.info? 209).map (fun i => (i.zero, i.size)) = some (some (aggL zl209), 2) := by kernel_rfl
theorem sz235 : (Tryz.prog.info? 235).map (·.size) = some 256 := by kernel_rfl
theorem ag235 : ∀ w, (isAgg 235).run Tryz.prog w = .ok true w := fun _ => by kernel_rfl
def zl235 : List Value := List.replicate 256 (.bool false)
theorem zr235 : (Tryz.prog.info? 235).map (fun i => (i.zero, i.size)) = some (some (aggL zl235), 256) := by kernel_rfl
theorem sz252 : (Tryz.prog.info? 252).map (·.size) = some 2 := by kernel_rfl
theorem ag252 : ∀ w, (isAgg 252).run Tryz.prog w = .ok true w := fun _ => by kernel_rfl
def zl252 : List Value := [.int .u8 0, .int .u8 0]
theorem zr252 : (Tryz.prog.info? 252).map (fun i => (i.zero, i.size)) = some (some (aggL zl252), 2) := by kernel_rfl
theorem sz253 : (Tryz.prog.info? 253).map (·.size) = some 32 := by kernel_rfl
theorem ag253 : ∀ w, (isAgg 253).run Tryz.prog w = .ok true w := fun _ => by kernel_rfl
def zl253 : List Value := List.replicate 32 (.int .u8 0)
theorem zr253 : (Tryz.prog.info? 253).map (fun i => (i.zero, i.size)) = some (some (aggL zl253), 32) := by kernel_rfl
theorem fa26_0 : FA Tryz.prog 26 0 0 := fun _ _ => by kernel_rfl
theorem fa26_1 : FA Tryz.prog 26 1 1 := fun _ _ => by kernel_rfl
theorem fa26_2 : FA Tryz.prog 26 2 2 := fun _ _ => by kernel_rfl
theorem fa26_3 : FA Tryz.prog 26 3 34 := fun _ _ => by kernel_rfl
theorem fa26_4 : FA Tryz.prog 26 4 35 := fun _ _ => by kernel_rfl
theorem fa26_5 : FA Tryz.prog 26 5 36 := fun _ _ => by kernel_rfl
theorem fa39_0 : FA Tryz.prog 39 0 0 := fun _ _ => by kernel_rfl
theorem fa39_1 : FA Tryz.prog 39 1 1 := fun _ _ => by kernel_rfl
theorem fa42_0 : FA Tryz.prog 42 0 0 := fun _ _ => by kernel_rfl
theorem fa42_1 : FA Tryz.prog 42 1 1 := fun _ _ => by kernel_rfl
theorem fa42_2 : FA Tryz.prog 42 2 2 := fun _ _ => by kernel_rfl
theorem fa45_0 : FA Tryz.prog 45 0 0 := fun _ _ => by kernel_rfl
theorem fa45_1 : FA Tryz.prog 45 1 1 := fun _ _ => by kernel_rfl
theorem fa45_2 : FA Tryz.prog 45 2 2 := fun _ _ => by kernel_rfl
theorem fa45_3 : FA Tryz.prog 45 3 3 := fun _ _ => by kernel_rfl
theorem fa48_0 : FA Tryz.prog 48 0 0 := fun _ _ => by kernel_rfl
theorem fa48_1 : FA Tryz.prog 48 1 1 := fun _ _ => by kernel_rfl
theorem fa48_2 : FA Tryz.prog 48 2 2 := fun _ _ => by kernel_rfl
theorem fa51_0 : FA Tryz.prog 51 0 0 := fun _ _ => by kernel_rfl
theorem fa51_1 : FA Tryz.prog 51 1 10 := fun _ _ => by kernel_rfl
theorem fa51_2 : FA Tryz.prog 51 2 11 := fun _ _ => by kernel_rfl
theorem fa51_3 : FA Tryz.prog 51 3 46 := fun _ _ => by kernel_rfl
theorem fa51_4 : FA Tryz.prog 51 4 49 := fun _ _ => by kernel_rfl
theorem fa53_0 : FA Tryz.prog 53 0 0 := fun _ _ => by kernel_rfl
theorem fa53_1 : FA Tryz.prog 53 1 1 := fun _ _ => by kernel_rfl
theorem fa63_0 : FA Tryz.prog 63 0 0 := fun _ _ => by kernel_rfl
theorem fa63_1 : FA Tryz.prog 63 1 1 := fun _ _ => by kernel_rfl
theorem fa65_0 : FA Tryz.prog 65 0 0 := fun _ _ => by kernel_rfl
theorem fa65_1 : FA Tryz.prog 65 1 1 := fun _ _ => by kernel_rfl
theorem fa65_2 : FA Tryz.prog 65 2 3 := fun _ _ => by kernel_rfl
theorem fa65_3 : FA Tryz.prog 65 3 5 := fun _ _ => by kernel_rfl
theorem fa70_0 : FA Tryz.prog 70 0 0 := fun _ _ => by kernel_rfl
theorem fa70_1 : FA Tryz.prog 70 1 1 := fun _ _ => by kernel_rfl
theorem fa70_2 : FA Tryz.prog 70 2 2 := fun _ _ => by kernel_rfl
theorem fa70_3 : FA Tryz.prog 70 3 3 := fun _ _ => by kernel_rfl
theorem fa70_4 : FA Tryz.prog 70 4 4 := fun _ _ => by kernel_rfl
theorem fa78_0 : FA Tryz.prog 78 0 0 := fun _ _ => by kernel_rfl
theorem fa78_1 : FA Tryz.prog 78 1 32 := fun _ _ => by kernel_rfl
theorem fa78_2 : FA Tryz.prog 78 2 34 := fun _ _ => by kernel_rfl
theorem fa78_3 : FA Tryz.prog 78 3 35 := fun _ _ => by kernel_rfl
theorem fa78_4 : FA Tryz.prog 78 4 45 := fun _ _ => by kernel_rfl
theorem fa78_5 : FA Tryz.prog 78 5 55 := fun _ _ => by kernel_rfl
theorem fa78_6 : FA Tryz.prog 78 6 56 := fun _ _ => by kernel_rfl
theorem fa78_7 : FA Tryz.prog 78 7 57 := fun _ _ => by kernel_rfl
theorem fa78_8 : FA Tryz.prog 78 8 63 := fun _ _ => by kernel_rfl
theorem fa98_0 : FA Tryz.prog 98 0 0 := fun _ _ => by kernel_rfl
theorem fa98_1 : FA Tryz.prog 98 1 1 := fun _ _ => by kernel_rfl
theorem fa112_0 : FA Tryz.prog 112 0 0 := fun _ _ => by kernel_rfl
theorem fa112_1 : FA Tryz.prog 112 1 32 := fun _ _ => by kernel_rfl
theorem fa112_2 : FA Tryz.prog 112 2 33 := fun _ _ => by kernel_rfl
theorem fa123_0 : FA Tryz.prog 123 0 0 := fun _ _ => by kernel_rfl
theorem fa125_0 : FA Tryz.prog 125 0 0 := fun _ _ => by kernel_rfl
theorem fa129_0 : FA Tryz.prog 129 0 0 := fun _ _ => by kernel_rfl
theorem fa129_1 : FA Tryz.prog 129 1 1 := fun _ _ => by kernel_rfl
theorem fa129_2 : FA Tryz.prog 129 2 2 := fun _ _ => by kernel_rfl
theorem fa132_0 : FA Tryz.prog 132 0 0 := fun _ _ => by kernel_rfl
theorem fa132_1 : FA Tryz.prog 132 1 32 := fun _ _ => by kernel_rfl
theorem fa144_0 : FA Tryz.prog 144 0 0 := fun _ _ => by kernel_rfl
theorem fa144_1 : FA Tryz.prog 144 1 1 := fun _ _ => by kernel_rfl
theorem fa144_2 : FA Tryz.prog 144 2 3 := fun _ _ => by kernel_rfl
theorem fa144_3 : FA Tryz.prog 144 3 4 := fun _ _ => by kernel_rfl
theorem fa177_0 : FA Tryz.prog 177 0 0 := fun _ _ => by kernel_rfl
theorem fa177_1 : FA Tryz.prog 177 1 32 := fun _ _ => by kernel_rfl
theorem fa209_0 : FA Tryz.prog 209 0 0 := fun _ _ => by kernel_rfl
theorem fa209_1 : FA Tryz.prog 209 1 1 := fun _ _ => by kernel_rfl
theorem fa252_0 : FA Tryz.prog 252 0 0 := fun _ _ => by kernel_rfl
theorem fa252_1 : FA Tryz.prog 252 1 1 := fun _ _ => by kernel_rfl
theorem el22 : El Tryz.prog 22 26 zl26 96 := ⟨by kernel_rfl, by kernel_rfl, by decide⟩
theorem el35 : El Tryz.prog 35 53 zl53 120 := ⟨by kernel_rfl, by kernel_rfl, by decide⟩
theorem el37 : El Tryz.prog 37 24 zl24 32 := ⟨by kernel_rfl, by kernel_rfl, by decide⟩
theorem el46 : El Tryz.prog 46 98 zl98 24 := ⟨by kernel_rfl, by kernel_rfl, by decide⟩
theorem el49 : El Tryz.prog 49 70 zl70 80 := ⟨by kernel_rfl, by kernel_rfl, by decide⟩
theorem el59 : El Tryz.prog 59 63 zl63 48 := ⟨by kernel_rfl, by kernel_rfl, by decide⟩
theorem el60 : El Tryz.prog 60 5 zl5 1 := ⟨by kernel_rfl, by kernel_rfl, by decide⟩
theorem el61 : El Tryz.prog 61 132 zl132 88 := ⟨by kernel_rfl, by kernel_rfl, by decide⟩
theorem el68 : El Tryz.prog 68 144 zl144 72 := ⟨by kernel_rfl, by kernel_rfl, by decide⟩
theorem el178 : El Tryz.prog 178 3 zl3 8 := ⟨by kernel_rfl, by kernel_rfl, by decide⟩
theorem el221 : El Tryz.prog 221 60 zl60 24 := ⟨by kernel_rfl, by kernel_rfl, by decide⟩
theorem fn3 : Fn1 Tryz.prog 3 := fun _ _ => by kernel_rfl
theorem fn4 : Fn1 Tryz.prog 4 := fun _ _ => by kernel_rfl
theorem fn5 : Fn1 Tryz.prog 5 := fun _ _ => by kernel_rfl
theorem fn6 : Fn1 Tryz.prog 6 := fun _ _ => by kernel_rfl
theorem fn7 : Fn1 Tryz.prog 7 := fun _ _ => by kernel_rfl
theorem fn8 : Fn1 Tryz.prog 8 := fun _ _ => by kernel_rfl
theorem fn9 : Fn1 Tryz.prog 9 := fun _ _ => by kernel_rfl
theorem fn10 : Fn1 Tryz.prog 10 := fun _ _ => by kernel_rfl
theorem fn11 : Fn1 Tryz.prog 11 := fun _ _ => by kernel_rfl
theorem fn12 : Fn1 Tryz.prog 12 := fun _ _ => by kernel_rfl
theorem fn13 : Fn1 Tryz.prog 13 := fun _ _ => by kernel_rfl
theorem fn14 : Fn1 Tryz.prog 14 := fun _ _ => by kernel_rfl
theorem fn15 : Fn1 Tryz.prog 15 := fun _ _ => by kernel_rfl
theorem fn16 : Fn1 Tryz.prog 16 := fun _ _ => by kernel_rfl
theorem fn17 : Fn1 Tryz.prog 17 := fun _ _ => by kernel_rfl
theorem fn18 : Fn1 Tryz.prog 18 := fun _ _ => by kernel_rfl
theorem fn19 : Fn1 Tryz.prog 19 := fun _ _ => by kernel_rfl
theorem fn20 : Fn1 Tryz.prog 20 := fun _ _ => by kernel_rfl
theorem fn21 : Fn1 Tryz.prog 21 := fun _ _ => by kernel_rfl
theorem fn22 : Fn1 Tryz.prog 22 := fun _ _ => by kernel_rfl
theorem fn23 : Fn1 Tryz.prog 23 := fun _ _ => by kernel_rfl
theorem fn24 : Fn1 Tryz.prog 24 := fun _ _ => by kernel_rfl
theorem fn25 : Fn1 Tryz.prog 25 := fun _ _ => by kernel_rfl
theorem fn26 : Fn1 Tryz.prog 26 := fun _ _ => by kernel_rfl
theorem fn27 : Fn1 Tryz.prog 27 := fun _ _ => by kernel_rfl
theorem fn28 : Fn1 Tryz.prog 28 := fun _ _ => by kernel_rfl
theorem fn29 : Fn1 Tryz.prog 29 := fun _ _ => by kernel_rfl
theorem fn30 : Fn1 Tryz.prog 30 := fun _ _ => by kernel_rfl
theorem fn31 : Fn1 Tryz.prog 31 := fun _ _ => by kernel_rfl
theorem fn32 : Fn1 Tryz.prog 32 := fun _ _ => by kernel_rfl
theorem fn33 : Fn1 Tryz.prog 33 := fun _ _ => by kernel_rfl
theorem fn34 : Fn1 Tryz.prog 34 := fun _ _ => by kernel_rfl
theorem fn35 : Fn1 Tryz.prog 35 := fun _ _ => by kernel_rfl
theorem fn36 : Fn1 Tryz.prog 36 := fun _ _ => by kernel_rfl
theorem fn37 : Fn1 Tryz.prog 37 := fun _ _ => by kernel_rfl
theorem fn38 : Fn1 Tryz.prog 38 := fun _ _ => by kernel_rfl
theorem fn39 : Fn1 Tryz.prog 39 := fun _ _ => by kernel_rfl
theorem fn40 : Fn1 Tryz.prog 40 := fun _ _ => by kernel_rfl
theorem fn41 : Fn1 Tryz.prog 41 := fun _ _ => by kernel_rfl
theorem fn42 : Fn1 Tryz.prog 42 := fun _ _ => by kernel_rfl
theorem fn43 : Fn1 Tryz.prog 43 := fun _ _ => by kernel_rfl
theorem fn44 : Fn1 Tryz.prog 44 := fun _ _ => by kernel_rfl
theorem fn45 : Fn1 Tryz.prog 45 := fun _ _ => by kernel_rfl
theorem fn46 : Fn1 Tryz.prog 46 := fun _ _ => by kernel_rfl
theorem fn47 : Fn1 Tryz.prog 47 := fun _ _ => by kernel_rfl
theorem fn48 : Fn1 Tryz.prog 48 := fun _ _ => by kernel_rfl
theorem fn49 : Fn1 Tryz.prog 49 := fun _ _ => by kernel_rfl
theorem fn51 : Fn1 Tryz.prog 51 := fun _ _ => by kernel_rfl
theorem fn52 : Fn1 Tryz.prog 52 := fun _ _ => by kernel_rfl
theorem fn53 : Fn1 Tryz.prog 53 := fun _ _ => by kernel_rfl
theorem fn54 : Fn1 Tryz.prog 54 := fun _ _ => by kernel_rfl
theorem fn55 : Fn1 Tryz.prog 55 := fun _ _ => by kernel_rfl
theorem fn56 : Fn1 Tryz.prog 56 := fun _ _ => by kernel_rfl
theorem fn57 : Fn1 Tryz.prog 57 := fun _ _ => by kernel_rfl
theorem fn58 : Fn1 Tryz.prog 58 := fun _ _ => by kernel_rfl
theorem fn59 : Fn1 Tryz.prog 59 := fun _ _ => by kernel_rfl
theorem fn60 : Fn1 Tryz.prog 60 := fun _ _ => by kernel_rfl
theorem fn61 : Fn1 Tryz.prog 61 := fun _ _ => by kernel_rfl
theorem fn62 : Fn1 Tryz.prog 62 := fun _ _ => by kernel_rfl
theorem fn63 : Fn1 Tryz.prog 63 := fun _ _ => by kernel_rfl
theorem fn64 : Fn1 Tryz.prog 64 := fun _ _ => by kernel_rfl
theorem fn65 : Fn1 Tryz.prog 65 := fun _ _ => by kernel_rfl
theorem fn66 : Fn1 Tryz.prog 66 := fun _ _ => by kernel_rfl
theorem fn67 : Fn1 Tryz.prog 67 := fun _ _ => by kernel_rfl
theorem fn68 : Fn1 Tryz.prog 68 := fun _ _ => by kernel_rfl
theorem fn69 : Fn1 Tryz.prog 69 := fun _ _ => by kernel_rfl
theorem fn70 : Fn1 Tryz.prog 70 := fun _ _ => by kernel_rfl
theorem fn71 : Fn1 Tryz.prog 71 := fun _ _ => by kernel_rfl
theorem fn72 : Fn1 Tryz.prog 72 := fun _ _ => by kernel_rfl
theorem fn73 : Fn1 Tryz.prog 73 := fun _ _ => by kernel_rfl
theorem fn74 : Fn1 Tryz.prog 74 := fun _ _ => by kernel_rfl
theorem fn75 : Fn1 Tryz.prog 75 := fun _ _ => by kernel_rfl
theorem fn76 : Fn1 Tryz.prog 76 := fun _ _ => by kernel_rfl
theorem fn77 : Fn1 Tryz.prog 77 := fun _ _ => by kernel_rfl
theorem fn78 : Fn1 Tryz.prog 78 := fun _ _ => by kernel_rfl
theorem fn79 : Fn1 Tryz.prog 79 := fun _ _ => by kernel_rfl
theorem fn80 : Fn1 Tryz.prog 80 := fun _ _ => by kernel_rfl
theorem fn81 : Fn1 Tryz.prog 81 := fun _ _ => by kernel_rfl
theorem fn82 : Fn1 Tryz.prog 82 := fun _ _ => by kernel_rfl
theorem fn83 : Fn1 Tryz.prog 83 := fun _ _ => by kernel_rfl
theorem fn84 : Fn1 Tryz.prog 84 := fun _ _ => by kernel_rfl
theorem fn85 : Fn1 Tryz.prog 85 := fun _ _ => by kernel_rfl
theorem fn86 : Fn1 Tryz.prog 86 := fun _ _ => by kernel_rfl
theorem fn87 : Fn1 Tryz.prog 87 := fun _ _ => by kernel_rfl
theorem fn88 : Fn1 Tryz.prog 88 := fun _ _ => by kernel_rfl
theorem fn89 : Fn1 Tryz.prog 89 := fun _ _ => by kernel_rfl
theorem fn90 : Fn1 Tryz.prog 90 := fun _ _ => by kernel_rfl
theorem fn91 : Fn1 Tryz.prog 91 := fun _ _ => by kernel_rfl
theorem fn92 : Fn1 Tryz.prog 92 := fun _ _ => by kernel_rfl
theorem fn93 : Fn1 Tryz.prog 93 := fun _ _ => by kernel_rfl
theorem fn94 : Fn1 Tryz.prog 94 := fun _ _ => by kernel_rfl
theorem fn95 : Fn1 Tryz.prog 95 := fun _ _ => by kernel_rfl
theorem fn96 : Fn1 Tryz.prog 96 := fun _ _ => by kernel_rfl
theorem fn97 : Fn1 Tryz.prog 97 := fun _ _ => by kernel_rfl
theorem fn98 : Fn1 Tryz.prog 98 := fun _ _ => by kernel_rfl
theorem fn99 : Fn1 Tryz.prog 99 := fun _ _ => by kernel_rfl
theorem fn100 : Fn1 Tryz.prog 100 := fun _ _ => by kernel_rfl
theorem fn101 : Fn1 Tryz.prog 101 := fun _ _ => by kernel_rfl
theorem fn102 : Fn1 Tryz.prog 102 := fun _ _ => by kernel_rfl
theorem fn103 : Fn1 Tryz.prog 103 := fun _ _ => by kernel_rfl
theorem fn104 : Fn1 Tryz.prog 104 := fun _ _ => by kernel_rfl
theorem fn105 : Fn1 Tryz.prog 105 := fun _ _ => by kernel_rfl
theorem fn106 : Fn1 Tryz.prog 106 := fun _ _ => by kernel_rfl
theorem fn107 : Fn1 Tryz.prog 107 := fun _ _ => by kernel_rfl
theorem fn108 : Fn1 Tryz.prog 108 := fun _ _ => by kernel_rfl
theorem fn109 : Fn1 Tryz.prog 109 := fun _ _ => by kernel_rfl
theorem fn110 : Fn1 Tryz.prog 110 := fun _ _ => by kernel_rfl
theorem fn111 : Fn1 Tryz.prog 111 := fun _ _ => by kernel_rfl
theorem fn112 : Fn1 Tryz.prog 112 := fun _ _ => by kernel_rfl
theorem fn113 : Fn1 Tryz.prog 113 := fun _ _ => by kernel_rfl
theorem fn114 : Fn1 Tryz.prog 114 := fun _ _ => by kernel_rfl
theorem fn115 : Fn1 Tryz.prog 115 := fun _ _ => by kernel_rfl
theorem fn116 : Fn1 Tryz.prog 116 := fun _ _ => by kernel_rfl
theorem fn117 : Fn1 Tryz.prog 117 := fun _ _ => by kernel_rfl
theorem fn118 : Fn1 Tryz.prog 118 := fun _ _ => by kernel_rfl
theorem fn119 : Fn1 Tryz.prog 119 := fun _ _ => by kernel_rfl
theorem fn120 : Fn1 Tryz.prog 120 := fun _ _ => by kernel_rfl
theorem fn121 : Fn1 Tryz.prog 121 := fun _ _ => by kernel_rfl
theorem fn122 : Fn1 Tryz.prog 122 := fun _ _ => by kernel_rfl
theorem fn123 : Fn1 Tryz.prog 123 := fun _ _ => by kernel_rfl
theorem fn124 : Fn1 Tryz.prog 124 := fun _ _ => by kernel_rfl
theorem fn125 : Fn1 Tryz.prog 125 := fun _ _ => by kernel_rfl
theorem fn126 : Fn1 Tryz.prog 126 := fun _ _ => by kernel_rfl
theorem fn127 : Fn1 Tryz.prog 127 := fun _ _ => by kernel_rfl
theorem fn128 : Fn1 Tryz.prog 128 := fun _ _ => by kernel_rfl
theorem fn129 : Fn1 Tryz.prog 129 := fun _ _ => by kernel_rfl
theorem fn130 : Fn1 Tryz.prog 130 := fun _ _ => by kernel_rfl
theorem fn131 : Fn1 Tryz.prog 131 := fun _ _ => by kernel_rfl
theorem fn132 : Fn1 Tryz.prog 132 := fun _ _ => by kernel_rfl
theorem fn133 : Fn1 Tryz.prog 133 := fun _ _ => by kernel_rfl
theorem fn135 : Fn1 Tryz.prog 135 := fun _ _ => by kernel_rfl
theorem fn136 : Fn1 Tryz.prog 136 := fun _ _ => by kernel_rfl
theorem fn137 : Fn1 Tryz.prog 137 := fun _ _ => by kernel_rfl
theorem fn138 : Fn1 Tryz.prog 138 := fun _ _ => by kernel_rfl
theorem fn139 : Fn1 Tryz.prog 139 := fun _ _ => by kernel_rfl
theorem fn140 : Fn1 Tryz.prog 140 := fun _ _ => by kernel_rfl
theorem fn141 : Fn1 Tryz.prog 141 := fun _ _ => by kernel_rfl
theorem fn142 : Fn1 Tryz.prog 142 := fun _ _ => by kernel_rfl
theorem fn143 : Fn1 Tryz.prog 143 := fun _ _ => by kernel_rfl
theorem fn144 : Fn1 Tryz.prog 144 := fun _ _ => by kernel_rfl
theorem fn145 : Fn1 Tryz.prog 145 := fun _ _ => by kernel_rfl
theorem fn146 : Fn1 Tryz.prog 146 := fun _ _ => by kernel_rfl
theorem fn147 : Fn1 Tryz.prog 147 := fun _ _ => by kernel_rfl
theorem fn148 : Fn1 Tryz.prog 148 := fun _ _ => by kernel_rfl
theorem fn149 : Fn1 Tryz.prog 149 := fun _ _ => by kernel_rfl
theorem fn150 : Fn1 Tryz.prog 150 := fun _ _ => by kernel_rfl
theorem fn151 : Fn1 Tryz.prog 151 := fun _ _ => by kernel_rfl
theorem fn152 : Fn1 Tryz.prog 152 := fun _ _ => by kernel_rfl
theorem fn153 : Fn1 Tryz.prog 153 := fun _ _ => by kernel_rfl
theorem fn154 : Fn1 Tryz.prog 154 := fun _ _ => by kernel_rfl
theorem fn155 : Fn1 Tryz.prog 155 := fun _ _ => by kernel_rfl
theorem fn156 : Fn1 Tryz.prog 156 := fun _ _ => by kernel_rfl
theorem fn157 : Fn1 Tryz.prog 157 := fun _ _ => by kernel_rfl
theorem fn158 : Fn1 Tryz.prog 158 := fun _ _ => by kernel_rfl
theorem fn159 : Fn1 Tryz.prog 159 := fun _ _ => by kernel_rfl
theorem fn160 : Fn1 Tryz.prog 160 := fun _ _ => by kernel_rfl
theorem fn161 : Fn1 Tryz.prog 161 := fun _ _ => by kernel_rfl
theorem fn162 : Fn1 Tryz.prog 162 := fun _ _ => by kernel_rfl
theorem fn163 : Fn1 Tryz.prog 163 := fun _ _ => by kernel_rfl
theorem fn164 : Fn1 Tryz.prog 164 := fun _ _ => by kernel_rfl
theorem fn165 : Fn1 Tryz.prog 165 := fun _ _ => by kernel_rfl
theorem fn166 : Fn1 Tryz.prog 166 := fun _ _ => by kernel_rfl
theorem fn167 : Fn1 Tryz.prog 167 := fun _ _ => by kernel_rfl
theorem fn168 : Fn1 Tryz.prog 168 := fun _ _ => by kernel_rfl
theorem fn169 : Fn1 Tryz.prog 169 := fun _ _ => by kernel_rfl
theorem fn170 : Fn1 Tryz.prog 170 := fun _ _ => by kernel_rfl
theorem fn171 : Fn1 Tryz.prog 171 := fun _ _ => by kernel_rfl
theorem fn172 : Fn1 Tryz.prog 172 := fun _ _ => by kernel_rfl
theorem fn173 : Fn1 Tryz.prog 173 := fun _ _ => by kernel_rfl
theorem fn174 : Fn1 Tryz.prog 174 := fun _ _ => by kernel_rfl
theorem fn175 : Fn1 Tryz.prog 175 := fun _ _ => by kernel_rfl
theorem fn176 : Fn1 Tryz.prog 176 := fun _ _ => by kernel_rfl
theorem fn177 : Fn1 Tryz.prog 177 := fun _ _ => by kernel_rfl
theorem fn178 : Fn1 Tryz.prog 178 := fun _ _ => by kernel_rfl
theorem fn179 : Fn1 Tryz.prog 179 := fun _ _ => by kernel_rfl
theorem fn180 : Fn1 Tryz.prog 180 := fun _ _ => by kernel_rfl
theorem fn181 : Fn1 Tryz.prog 181 := fun _ _ => by kernel_rfl
theorem fn182 : Fn1 Tryz.prog 182 := fun _ _ => by kernel_rfl
theorem fn183 : Fn1 Tryz.prog 183 := fun _ _ => by kernel_rfl
theorem fn184 : Fn1 Tryz.prog 184 := fun _ _ => by kernel_rfl
theorem fn185 : Fn1 Tryz.prog 185 := fun _ _ => by kernel_rfl
theorem fn186 : Fn1 Tryz.prog 186 := fun _ _ => by kernel_rfl
theorem fn187 : Fn1 Tryz.prog 187 := fun _ _ => by kernel_rfl
theorem fn188 : Fn1 Tryz.prog 188 := fun _ _ => by kernel_rfl
theorem fn189 : Fn1 Tryz.prog 189 := fun _ _ => by kernel_rfl
theorem fn191 : Fn1 Tryz.prog 191 := fun _ _ => by kernel_rfl
end Go.Proofs.YtecbpmgfikgoaaaGreatDoor
end
section
set_option linter.unusedVariables false
set_option linter.unusedSimpArgs false
namespace Go.Proofs.YtecbpmgfikgoaaaGreatDoor
open Go Go.RowKit

section
variable {P : Program} {n : Nat} {k : Kont} {E : List (Nat × Value)} {w : World}

theorem nxt {y : Code} (h : W P n y k E w) : ∀ a, Env n a E → y.wp P k.post a w := h

theorem RL.p {ops : Array Oper} {o : Oper} {rest : List Oper} {v : Value} {d : Nat} (hg : o.guard = none) (hd : o.dst = some d) (hl : Nat.blt d n = true) (hv : PV P n o E (fun _ => True) v)
    (h : RL P n ops k rest ((d, v) :: E) w) : RL P n ops k (o :: rest) E w :=
  RL.pure (S := fun _ => True) (.none hg) (by rw [hd]; exact hl) hv trivial (by rw [hd]; exact h)
theorem RL.s {ops : Array Oper} {o : Oper} {rest : List Oper} {v : Value} {d : Nat} {S : World → Prop} (hg : o.guard = none) (hd : o.dst = some d) (hl : Nat.blt d n = true) (hv : PV P n o E S v) (hS : S w)
    (h : RL P n ops k rest ((d, v) :: E) w) : RL P n ops k (o :: rest) E w :=
  RL.pure (.none hg) (by rw [hd]; exact hl) hv hS (by rw [hd]; exact h)
theorem RL.e {ops : Array Oper} {o : Oper} {rest : List Oper} {d : Nat} {post : Value → World → Prop} (hg : o.guard = none) (hd : o.dst = some d) (hl : Nat.blt d n = true) (he : EF P n o E w post)
    (h : ∀ v w', post v w' → RL P n ops k rest ((d, v) :: E) w') : RL P n ops k (o :: rest) E w :=
  RL.eff (.none hg) (by rw [hd]; exact hl) he (by rw [hd]; exact h)
theorem RL.e0 {ops : Array Oper} {o : Oper} {rest : List Oper} {post : Value → World → Prop} (hg : o.guard = none) (hd : o.dst = none) (he : EF P n o E w post)
    (h : ∀ v w', post v w' → RL P n ops k rest E w') : RL P n ops k (o :: rest) E w :=
  RL.eff (.none hg) (by rw [hd]; rfl) he (by rw [hd]; exact h)

theorem TW.p {ops : Array Oper} {S : World → Prop} {need : Nat → Bool} {i : Nat} {o : Oper} {rest : List (Nat × Bool)} {v : Value} {d : Nat} (hi : ops[i]? = some o) (hg : o.guard = none) (hd : o.dst = some d) (hl : Nat.blt d n = true)
    (hv : PV P n o E (fun _ => True) v) (hS : S w) (h : TW P n ops k S need rest ((d, v) :: E) w) : TW P n ops k S need ((i, true) :: rest) E w :=
  TW.pure hi (.none hg) (by rw [hd]; exact hl) (fun a ha w _ => hv a ha w trivial) hS (by rw [hd]; exact h)
theorem TW.s {ops : Array Oper} {S : World → Prop} {need : Nat → Bool} {i : Nat} {o : Oper} {rest : List (Nat × Bool)} {v : Value} {d : Nat} (hi : ops[i]? = some o) (hg : o.guard = none) (hd : o.dst = some d) (hl : Nat.blt d n = true)
    (hv : PV P n o E S v) (hS : S w) (h : TW P n ops k S need rest ((d, v) :: E) w) : TW P n ops k S need ((i, true) :: rest) E w :=
  TW.pure hi (.none hg) (by rw [hd]; exact hl) hv hS (by rw [hd]; exact h)
/-- An operation that does something; others may be pending beside it. -/
theorem TW.e {ops : Array Oper} {S : World → Prop} {need : Nat → Bool} {i : Nat} {o : Oper} {rest : List (Nat × Bool)} {d : Nat} {post : Value → World → Prop} (hi : ops[i]? = some o) (hg : o.guard = none) (hd : o.dst = some d) (hl : Nat.blt d n = true)
    (he : EF P n o E w post) (h : ∀ v w', post v w' → S w' ∧ TW P n ops k S need rest ((d, v) :: E) w') : TW P n ops k S need ((i, false) :: rest) E w :=
  TW.eff hi (.none hg) (by rw [hd]; exact hl) he (fun v w' hp => ⟨fun _ => (h v w' hp).1, by rw [hd]; exact (h v w' hp).2⟩)
theorem TW.e0 {ops : Array Oper} {S : World → Prop} {need : Nat → Bool} {i : Nat} {o : Oper} {rest : List (Nat × Bool)} {post : Value → World → Prop} (hi : ops[i]? = some o) (hg : o.guard = none) (hd : o.dst = none)
    (he : EF P n o E w post) (h : ∀ v w', post v w' → S w' ∧ TW P n ops k S need rest E w') : TW P n ops k S need ((i, false) :: rest) E w :=
  TW.eff hi (.none hg) (by rw [hd]; rfl) he (fun v w' hp => ⟨fun _ => (h v w' hp).1, by rw [hd]; exact (h v w' hp).2⟩)
/-- The same where it waits for all that may be taken first. -/
theorem TW.en {ops : Array Oper} {S : World → Prop} {need : Nat → Bool} {i : Nat} {o : Oper} {rest : List (Nat × Bool)} {d : Nat} {post : Value → World → Prop} (hi : ops[i]? = some o) (hg : o.guard = none) (hd : o.dst = some d) (hl : Nat.blt d n = true) (hn : need i = false)
    (he : EF P n o E w post) (h : ∀ v w', post v w' → TW P n ops k S need rest ((d, v) :: E) w') : TW P n ops k S need ((i, false) :: rest) E w :=
  TW.eff hi (.none hg) (by rw [hd]; exact hl) he (fun v w' hp => ⟨fun h => absurd h (by rw [hn]; simp), by rw [hd]; exact h v w' hp⟩)
theorem TW.en0 {ops : Array Oper} {S : World → Prop} {need : Nat → Bool} {i : Nat} {o : Oper} {rest : List (Nat × Bool)} {post : Value → World → Prop} (hi : ops[i]? = some o) (hg : o.guard = none) (hd : o.dst = none) (hn : need i = false)
    (he : EF P n o E w post) (h : ∀ v w', post v w' → TW P n ops k S need rest E w') : TW P n ops k S need ((i, false) :: rest) E w :=
  TW.eff hi (.none hg) (by rw [hd]; rfl) he (fun v w' hp => ⟨fun h => absurd h (by rw [hn]; simp), by rw [hd]; exact h v w' hp⟩)
/-- One that yields a value and comes up alone. -/
theorem TW.q {ops : Array Oper} {S : World → Prop} {need : Nat → Bool} {i : Nat} {o : Oper} {rest : List (Nat × Bool)} {v : Value} {d : Nat} {T : World → Prop} (hi : ops[i]? = some o) (hg : o.guard = none) (hd : o.dst = some d) (hl : Nat.blt d n = true)
    (hv : PV P n o E T v) (hT : T w) (hS : need i = true → S w) (h : TW P n ops k S need rest ((d, v) :: E) w) : TW P n ops k S need ((i, false) :: rest) E w :=
  TW.eff (post := fun r w' => r = v ∧ w' = w) hi (.none hg) (by rw [hd]; exact hl) (by
    intro a ha next Q h
    simp only [Oper.wp, hv a ha w hT, Oper.upon]
    exact h _ _ ⟨rfl, rfl⟩) (by rintro _ _ ⟨rfl, rfl⟩; exact ⟨hS, by rw [hd]; exact h⟩)
theorem TW.qn {ops : Array Oper} {S : World → Prop} {need : Nat → Bool} {i : Nat} {o : Oper} {rest : List (Nat × Bool)} {v : Value} {d : Nat} {T : World → Prop} (hi : ops[i]? = some o) (hg : o.guard = none) (hd : o.dst = some d) (hl : Nat.blt d n = true)
    (hv : PV P n o E T v) (hT : T w) (hn : need i = false) (h : TW P n ops k S need rest ((d, v) :: E) w) : TW P n ops k S need ((i, false) :: rest) E w :=
  TW.q hi hg hd hl hv hT (fun h => absurd h (by rw [hn]; simp)) h
/-- An operation that yields its value in the world at hand alone: none other may come up beside it. -/
theorem EF_of_PV {o : Oper} {S : World → Prop} {v : Value} (hv : PV P n o E S v) (hS : S w) : EF P n o E w (fun r w' => r = v ∧ w' = w) := by
  intro a ha next Q h
  simp only [Oper.wp, hv a ha w hS, Oper.upon]
  exact h _ _ ⟨rfl, rfl⟩
end

/-! ### Bytes and digests as cells -/
def u8v (b : UInt8) : Value := .int .u8 (b.toNat : Int)
def u32v (b : UInt32) : Value := .int .u32 (b.toNat : Int)
def bcells (l : List UInt8) : List Value := l.map u8v
theorem length_bcells (l : List UInt8) : (bcells l).length = l.length := by simp [bcells]
theorem bcells_append (l r : List UInt8) : bcells (l ++ r) = bcells l ++ bcells r := by simp [bcells]
theorem one1_bcells (l : List UInt8) : one1 (bcells l) = true := by simp [one1, bcells, u8v, Value.oneCell']
theorem one1_append (l r : List Value) : one1 (l ++ r) = (one1 l && one1 r) := by simp [one1]
theorem one1_nil : one1 [] = true := rfl
theorem one1_cons (v : Value) (l : List Value) : one1 (v :: l) = (v.oneCell' && one1 l) := by simp [one1]
theorem cells_aggL (cs : List Value) : (aggL cs).cells.toList = cs := by simp [aggL, Value.cells]
theorem m0 {c : Chunk} {M : List Chunk} : c ∈ c :: M := List.mem_cons_self
theorem m1 {c d : Chunk} {M : List Chunk} : c ∈ d :: c :: M := List.mem_cons_of_mem _ m0
theorem m2 {c d d1 : Chunk} {M : List Chunk} : c ∈ d :: d1 :: c :: M := List.mem_cons_of_mem _ m1
theorem m3 {c d d1 d2 : Chunk} {M : List Chunk} : c ∈ d :: d1 :: d2 :: c :: M := List.mem_cons_of_mem _ m2
theorem m4 {c d d1 d2 d3 : Chunk} {M : List Chunk} : c ∈ d :: d1 :: d2 :: d3 :: c :: M := List.mem_cons_of_mem _ m3
theorem m5 {c d d1 d2 d3 d4 : Chunk} {M : List Chunk} : c ∈ d :: d1 :: d2 :: d3 :: d4 :: c :: M := List.mem_cons_of_mem _ m4
theorem m6 {c d d1 d2 d3 d4 d5 : Chunk} {M : List Chunk} : c ∈ d :: d1 :: d2 :: d3 :: d4 :: d5 :: c :: M := List.mem_cons_of_mem _ m5
theorem m7 {c d d1 d2 d3 d4 d5 d6 : Chunk} {M : List Chunk} : c ∈ d :: d1 :: d2 :: d3 :: d4 :: d5 :: d6 :: c :: M := List.mem_cons_of_mem _ m6
section
variable {b : Nat} {T : TypeId} {cs cs' : List Value} {M : List Chunk} {d d1 d2 d3 d4 d5 d6 : Chunk}
theorem u0 : Upd b T cs cs' ((b, cs, T) :: M) ((b, cs', T) :: M) := Upd.here
theorem u1 : Upd b T cs cs' (d :: (b, cs, T) :: M) (d :: (b, cs', T) :: M) := u0.there
theorem u2 : Upd b T cs cs' (d :: d1 :: (b, cs, T) :: M) (d :: d1 :: (b, cs', T) :: M) := u1.there
theorem u3 : Upd b T cs cs' (d :: d1 :: d2 :: (b, cs, T) :: M) (d :: d1 :: d2 :: (b, cs', T) :: M) := u2.there
theorem u4 : Upd b T cs cs' (d :: d1 :: d2 :: d3 :: (b, cs, T) :: M) (d :: d1 :: d2 :: d3 :: (b, cs', T) :: M) := u3.there
theorem u5 : Upd b T cs cs' (d :: d1 :: d2 :: d3 :: d4 :: (b, cs, T) :: M) (d :: d1 :: d2 :: d3 :: d4 :: (b, cs', T) :: M) := u4.there
theorem u6 : Upd b T cs cs' (d :: d1 :: d2 :: d3 :: d4 :: d5 :: (b, cs, T) :: M) (d :: d1 :: d2 :: d3 :: d4 :: d5 :: (b, cs', T) :: M) := u5.there
theorem u7 : Upd b T cs cs' (d :: d1 :: d2 :: d3 :: d4 :: d5 :: d6 :: (b, cs, T) :: M) (d :: d1 :: d2 :: d3 :: d4 :: d5 :: d6 :: (b, cs', T) :: M) := u6.there
theorem x0 {c : Chunk} : Del c (c :: M) M := Del.here
theorem x1 {c : Chunk} : Del c (d :: c :: M) (d :: M) := x0.there
theorem x2 {c : Chunk} : Del c (d :: d1 :: c :: M) (d :: d1 :: M) := x1.there
theorem x3 {c : Chunk} : Del c (d :: d1 :: d2 :: c :: M) (d :: d1 :: d2 :: M) := x2.there
theorem x4 {c : Chunk} : Del c (d :: d1 :: d2 :: d3 :: c :: M) (d :: d1 :: d2 :: d3 :: M) := x3.there
end
/-- What a call gives back, and what is known then. -/
def Ret (post : Value → World → Prop) : Ending → World → Prop := fun e w => ∃ r, e = .returned r ∧ post r w
theorem wrap_u8_nat (m : Nat) : IntKind.u8.wrap (m : Int) = ((UInt8.ofNat m).toNat : Int) := by
  rw [IntKind.wrap_u8]
  simp
theorem u8v_wrap (m : Nat) : Value.int .u8 (IntKind.u8.wrap (m : Int)) = u8v (UInt8.ofNat m) := by rw [wrap_u8_nat]; rfl
end Go.Proofs.YtecbpmgfikgoaaaGreatDoor
end
section
set_option linter.unusedVariables false
set_option linter.unusedSimpArgs false
namespace Go.Proofs.YtecbpmgfikgoaaaGreatDoor
open Go Go.RowKit

/-! ### The plain function -/
def rotr (x : UInt32) (n : Nat) : UInt32 := (x >>> UInt32.ofNat n) ||| (x <<< UInt32.ofNat (32 - n))
def sg0 (x : UInt32) : UInt32 := rotr x 7 ^^^ rotr x 18 ^^^ (x >>> 3)
def sg1 (x : UInt32) : UInt32 := rotr x 17 ^^^ rotr x 19 ^^^ (x >>> 10)
def bg0 (x : UInt32) : UInt32 := rotr x 2 ^^^ rotr x 13 ^^^ rotr x 22
def bg1 (x : UInt32) : UInt32 := rotr x 6 ^^^ rotr x 11 ^^^ rotr x 25
def chs (x y z : UInt32) : UInt32 := (x &&& y) ^^^ (~~~x &&& z)
def mst (x y z : UInt32) : UInt32 := (x &&& y) ^^^ (x &&& z) ^^^ (y &&& z)
def gw (l : List UInt32) (i : Nat) : UInt32 := l.getD i 0
def gb (l : List UInt8) (i : Nat) : UInt8 := l.getD i 0
def be (b : List UInt8) (i : Nat) : UInt32 := ((gb b (4 * i)).toUInt32 <<< 24) ||| ((gb b (4 * i + 1)).toUInt32 <<< 16) ||| ((gb b (4 * i + 2)).toUInt32 <<< 8) ||| (gb b (4 * i + 3)).toUInt32
def nextW (b : List UInt8) (l : List UInt32) (i : Nat) : UInt32 :=
  if i < 16 then be b i else gw l (i - 16) + sg0 (gw l (i - 15)) + gw l (i - 7) + sg1 (gw l (i - 2))
def ws (b : List UInt8) : Nat → List UInt32
  | 0 => []
  | i + 1 => ws b i ++ [nextW b (ws b i) i]
def k256 : List UInt32 := [
  0x428a2f98, 0x71374491, 0xb5c0fbcf, 0xe9b5dba5, 0x3956c25b, 0x59f111f1, 0x923f82a4, 0xab1c5ed5,
  0xd807aa98, 0x12835b01, 0x243185be, 0x550c7dc3, 0x72be5d74, 0x80deb1fe, 0x9bdc06a7, 0xc19bf174,
  0xe49b69c1, 0xefbe4786, 0x0fc19dc6, 0x240ca1cc, 0x2de92c6f, 0x4a7484aa, 0x5cb0a9dc, 0x76f988da,
  0x983e5152, 0xa831c66d, 0xb00327c8, 0xbf597fc7, 0xc6e00bf3, 0xd5a79147, 0x06ca6351, 0x14292967,
  0x27b70a85, 0x2e1b2138, 0x4d2c6dfc, 0x53380d13, 0x650a7354, 0x766a0abb, 0x81c2c92e, 0x92722c85,
  0xa2bfe8a1, 0xa81a664b, 0xc24b8b70, 0xc76c51a3, 0xd192e819, 0xd6990624, 0xf40e3585, 0x106aa070,
  0x19a4c116, 0x1e376c08, 0x2748774c, 0x34b0bcb5, 0x391c0cb3, 0x4ed8aa4a, 0x5b9cca4f, 0x682e6ff3,
  0x748f82ee, 0x78a5636f, 0x84c87814, 0x8cc70208, 0x90befffa, 0xa4506ceb, 0xbef9a3f7, 0xc67178f2]
def iv256 : List UInt32 := [0x6a09e667, 0xbb67ae85, 0x3c6ef372, 0xa54ff53a, 0x510e527f, 0x9b05688c, 0x1f83d9ab, 0x5be0cd19]
def t1 (b : List UInt8) (v : List UInt32) (i : Nat) : UInt32 := gw v 7 + bg1 (gw v 4) + chs (gw v 4) (gw v 5) (gw v 6) + gw k256 i + gw (ws b 64) i
def t2 (v : List UInt32) : UInt32 := bg0 (gw v 0) + mst (gw v 0) (gw v 1) (gw v 2)
def rnd (b : List UInt8) (v : List UInt32) (i : Nat) : List UInt32 := [t1 b v i + t2 v, gw v 0, gw v 1, gw v 2, gw v 3 + t1 b v i, gw v 4, gw v 5, gw v 6]
def rnds (b : List UInt8) (s : List UInt32) : Nat → List UInt32
  | 0 => s
  | i + 1 => rnd b (rnds b s i) i
def addW (s v : List UInt32) : Nat → List UInt32
  | 0 => s
  | i + 1 => (addW s v i).set i (gw s i + gw v i)
/-- One block of 64 bytes (what stands behind them is not looked at). -/
def blk (s : List UInt32) (b : List UInt8) : List UInt32 := addW s (rnds b s 64) 8
/-- So many blocks. -/
def blks (s : List UInt32) (b : List UInt8) : Nat → List UInt32
  | 0 => s
  | i + 1 => blk (blks s b i) (b.drop (64 * i))
def len8 (n : Nat) : List UInt8 := (List.range 8).map fun i => UInt8.ofNat (n * 8 / 2 ^ (8 * (7 - i)))
def padZ (n : Nat) : Nat := if n % 64 < 56 then 55 - n % 64 else 119 - n % 64
def padded (l : List UInt8) : List UInt8 := l ++ [0x80] ++ List.replicate (padZ l.length) 0 ++ len8 l.length
def out4 (x : UInt32) : List UInt8 := [(x >>> 24).toUInt8, (x >>> 16).toUInt8, (x >>> 8).toUInt8, x.toUInt8]
def sha (l : List UInt8) : List UInt8 := (blks iv256 (padded l) ((padded l).length / 64)).flatMap out4

theorem length_ws (b : List UInt8) (i : Nat) : (ws b i).length = i := by
  induction i with
  | zero => rfl
  | succ i ih => simp [ws, ih]
theorem length_rnds (b : List UInt8) (s : List UInt32) (hs : s.length = 8) (i : Nat) : (rnds b s i).length = 8 := by
  cases i with
  | zero => exact hs
  | succ i => rfl
theorem length_addW (s v : List UInt32) (i : Nat) : (addW s v i).length = s.length := by
  induction i with
  | zero => rfl
  | succ i ih => simp [addW, ih]
theorem length_blk (s : List UInt32) (b : List UInt8) : (blk s b).length = s.length := length_addW ..
theorem length_blks (s : List UInt32) (b : List UInt8) (i : Nat) : (blks s b i).length = s.length := by
  induction i with
  | zero => rfl
  | succ i ih => simp [blks, length_blk, ih]
theorem length_sha (l : List UInt8) : (sha l).length = 32 := by
  have h : ∀ (q : List UInt32), (q.flatMap out4).length = 4 * q.length := by
    intro q
    induction q with
    | nil => rfl
    | cons x q ih => simp [List.flatMap_cons, ih, out4]; omega
  rw [sha, h, length_blks]
  rfl

theorem ws_zero (b : List UInt8) : ws b 0 = [] := rfl
theorem ws_succ (b : List UInt8) (i : Nat) : ws b (i + 1) = ws b i ++ [nextW b (ws b i) i] := rfl
theorem rnds_zero (b : List UInt8) (s : List UInt32) : rnds b s 0 = s := rfl
theorem rnds_succ (b : List UInt8) (s : List UInt32) (i : Nat) : rnds b s (i + 1) = rnd b (rnds b s i) i := rfl
theorem addW_zero (s v : List UInt32) : addW s v 0 = s := rfl
theorem addW_succ (s v : List UInt32) (i : Nat) : addW s v (i + 1) = (addW s v i).set i (gw s i + gw v i) := rfl
theorem blk_def (s : List UInt32) (b : List UInt8) : blk s b = addW s (rnds b s 64) 8 := rfl
theorem blks_zero (s : List UInt32) (b : List UInt8) : blks s b 0 = s := rfl
theorem blks_succ (s : List UInt32) (b : List UInt8) (i : Nat) : blks s b (i + 1) = blk (blks s b i) (b.drop (64 * i)) := rfl
theorem sha_def (l : List UInt8) : sha l = (blks iv256 (padded l) ((padded l).length / 64)).flatMap out4 := rfl
attribute [irreducible] ws rnds addW blk blks sha

/-! ### Words of 32 bits in the model -/
theorem u32_ofInt (a : UInt32) : BitVec.ofInt 32 (a.toNat : Int) = a.toBitVec := by
  rw [BitVec.ofInt_natCast]
  apply BitVec.eq_of_toNat_eq
  simp
theorem wrap_u32_toNat (a : UInt32) : IntKind.u32.wrap ((a.toNat : Nat) : Int) = (a.toNat : Int) := by
  have := a.toNat_lt
  rw [IntKind.wrap_u32]
  omega

section
variable {P : Program} {n : Nat} {E : List (Nat × Value)} {S : World → Prop} {o : Oper}
theorem PV_u32_add {T T' : TypeId} {x y : Operand} {p q : UInt32} (ho : o.op = .binOp .add T x y T') (hx : ev E x = some (u32v p)) (hy : ev E y = some (u32v q)) : PV P n o E S (u32v (p + q)) := by
  have := PV_arith (P := P) (n := n) (S := S) ho hx hy (.inl ⟨rfl, rfl⟩)
  rw [show IntKind.u32.wrap ((p.toNat : Int) + (q.toNat : Int)) = ((p + q).toNat : Int) by rw [IntKind.wrap_u32, UInt32.toNat_add]; omega] at this
  exact this
theorem run_bits {op : BinOp} {p q r : UInt32} (h : (op = .and ∧ r = p &&& q) ∨ (op = .or ∧ r = p ||| q) ∨ (op = .xor ∧ r = p ^^^ q)) (w : World) :
    (Op.intBits op .u32 (p.toNat : Int) (q.toNat : Int)).run P w = .ok (u32v r) w := by
  have h1 := u32_ofInt p
  have h2 := u32_ofInt q
  have hb : IntKind.u32.bits = 32 := rfl
  rcases h with ⟨rfl, rfl⟩ | ⟨rfl, rfl⟩ | ⟨rfl, rfl⟩
  · have h3 := wrap_u32_toNat (p &&& q)
    have h4 : ((BitVec.ofInt IntKind.u32.bits (p.toNat : Int)) &&& (BitVec.ofInt IntKind.u32.bits (q.toNat : Int))).toNat = (p &&& q).toNat := by
      show ((BitVec.ofInt 32 (p.toNat : Int)) &&& (BitVec.ofInt 32 (q.toNat : Int))).toNat = _
      rw [h1, h2]
      rfl
    simp only [Op.intBits, Sem.run_pure, u32v, h4, h3]
  · have h3 := wrap_u32_toNat (p ||| q)
    have h4 : ((BitVec.ofInt IntKind.u32.bits (p.toNat : Int)) ||| (BitVec.ofInt IntKind.u32.bits (q.toNat : Int))).toNat = (p ||| q).toNat := by
      show ((BitVec.ofInt 32 (p.toNat : Int)) ||| (BitVec.ofInt 32 (q.toNat : Int))).toNat = _
      rw [h1, h2]
      rfl
    simp only [Op.intBits, Sem.run_pure, u32v, h4, h3]
  · have h3 := wrap_u32_toNat (p ^^^ q)
    have h4 : ((BitVec.ofInt IntKind.u32.bits (p.toNat : Int)) ^^^ (BitVec.ofInt IntKind.u32.bits (q.toNat : Int))).toNat = (p ^^^ q).toNat := by
      show ((BitVec.ofInt 32 (p.toNat : Int)) ^^^ (BitVec.ofInt 32 (q.toNat : Int))).toNat = _
      rw [h1, h2]
      rfl
    simp only [Op.intBits, Sem.run_pure, u32v, h4, h3]
theorem PV_u32_and {T T' : TypeId} {x y : Operand} {p q : UInt32} (ho : o.op = .binOp .and T x y T') (hx : ev E x = some (u32v p)) (hy : ev E y = some (u32v q)) : PV P n o E S (u32v (p &&& q)) := .of fun a ha w => by
  have h := run_bits (P := P) (op := .and) (p := p) (q := q) (.inl ⟨rfl, rfl⟩) w
  have h1 := ha.ev hx
  have h2 := ha.ev hy
  simp only [u32v] at h1 h2
  simp [execOp, ho, h1, h2, eqGuard, binOp, h]
theorem PV_u32_or {T T' : TypeId} {x y : Operand} {p q : UInt32} (ho : o.op = .binOp .or T x y T') (hx : ev E x = some (u32v p)) (hy : ev E y = some (u32v q)) : PV P n o E S (u32v (p ||| q)) := .of fun a ha w => by
  have h := run_bits (P := P) (op := .or) (p := p) (q := q) (.inr (.inl ⟨rfl, rfl⟩)) w
  have h1 := ha.ev hx
  have h2 := ha.ev hy
  simp only [u32v] at h1 h2
  simp [execOp, ho, h1, h2, eqGuard, binOp, h]
theorem PV_u32_xor {T T' : TypeId} {x y : Operand} {p q : UInt32} (ho : o.op = .binOp .xor T x y T') (hx : ev E x = some (u32v p)) (hy : ev E y = some (u32v q)) : PV P n o E S (u32v (p ^^^ q)) := .of fun a ha w => by
  have h := run_bits (P := P) (op := .xor) (p := p) (q := q) (.inr (.inr ⟨rfl, rfl⟩)) w
  have h1 := ha.ev hx
  have h2 := ha.ev hy
  simp only [u32v] at h1 h2
  simp [execOp, ho, h1, h2, eqGuard, binOp, h]
theorem PV_u32_not {T : TypeId} {x : Operand} {p : UInt32} (ho : o.op = .unOp .xor T x) (hx : ev E x = some (u32v p)) : PV P n o E S (u32v (~~~p)) := .of fun a ha w => by
  have h := run_bits (P := P) (op := .xor) (p := 0xffffffff) (q := p) (.inr (.inr ⟨rfl, rfl⟩)) w
  have h1 := ha.ev hx
  simp only [u32v] at h1
  have hm : (if IntKind.u32.signed = true then (-1 : Int) else IntKind.u32.max) = (((0xffffffff : UInt32).toNat : Nat) : Int) := by decide
  have hx : (0xffffffff : UInt32) ^^^ p = ~~~p := by
    apply UInt32.eq_of_toBitVec_eq
    simp
    exact BitVec.allOnes_xor
  rw [hx] at h
  simp only [execOp, ho, h1, Op.unary, hm, h, Sem.run_bind, Sem.run_pure, Result.andThen_ok]
theorem PV_u32_shr {T T' : TypeId} {x y : Operand} {p : UInt32} {k : IntKind} {q : Int} {m : Nat} (ho : o.op = .binOp .shr T x y T') (hx : ev E x = some (u32v p)) (hy : ev E y = some (.int k q)) (hq : q = (m : Int)) (hm : m < 32) : PV P n o E S (u32v (p >>> UInt32.ofNat m)) := .of fun a ha w => by
  subst hq
  have h1 := ha.ev hx
  have h2 := ha.ev hy
  simp only [u32v] at h1
  have hb : IntKind.u32.bits = 32 := rfl
  have h0 : ¬ ((m : Int) < 0) := by omega
  have hmin : min ((m : Int).toNat) 32 = m := by simp; omega
  have hr : ((p.toNat : Int)).fdiv (2 ^ m) = ((p >>> UInt32.ofNat m).toNat : Int) := by
    rw [UInt32.toNat_shiftRight]
    have : (UInt32.ofNat m).toNat % 32 = m := by simp; omega
    rw [this, Nat.shiftRight_eq_div_pow, Int.natCast_ediv, Int.natCast_pow]
    exact Int.fdiv_eq_ediv_of_nonneg _ (Int.le_of_lt (Int.pow_pos (by decide)))
  simp only [execOp, ho, h1, h2, eqGuard, binOp, Op.shift, hb, h0, hmin, hr, if_false, Sem.run_bind, Sem.run_pure, Result.andThen_ok]
  simp [u32v]
theorem PV_u32_shl {T T' : TypeId} {x y : Operand} {p : UInt32} {k : IntKind} {q : Int} {m : Nat} (ho : o.op = .binOp .shl T x y T') (hx : ev E x = some (u32v p)) (hy : ev E y = some (.int k q)) (hq : q = (m : Int)) (hm : m < 32) : PV P n o E S (u32v (p <<< UInt32.ofNat m)) := .of fun a ha w => by
  subst hq
  have h1 := ha.ev hx
  have h2 := ha.ev hy
  simp only [u32v] at h1
  have hb : IntKind.u32.bits = 32 := rfl
  have h0 : ¬ ((m : Int) < 0) := by omega
  have hmin : min ((m : Int).toNat) 32 = m := by simp; omega
  have hr : IntKind.u32.wrap ((p.toNat : Int) * 2 ^ m) = ((p <<< UInt32.ofNat m).toNat : Int) := by
    rw [UInt32.toNat_shiftLeft, IntKind.wrap_u32]
    have : (UInt32.ofNat m).toNat % 32 = m := by simp; omega
    rw [this, Nat.shiftLeft_eq]
    simp
  simp only [execOp, ho, h1, h2, eqGuard, binOp, Op.shift, hb, h0, hmin, hr, if_false, Sem.run_bind, Sem.run_pure, Result.andThen_ok]
  simp [u32v]
/-- A byte as a word; a word's lowest byte. -/
theorem PV_conv_u8_u32 {T T' : TypeId} {x : Operand} {p : UInt8} (ho : o.op = .convert T T' x) (hs : P.underlying T = some (.int .u8)) (hd : P.underlying T' = some (.int .u32)) (hx : ev E x = some (u8v p)) : PV P n o E S (u32v p.toUInt32) := by
  have := PV_conv (P := P) (n := n) (S := S) ho hs hd hx
  rw [show IntKind.u32.wrap (p.toNat : Int) = (p.toUInt32.toNat : Int) by have := p.toNat_lt; rw [IntKind.wrap_u32]; simp; omega] at this
  exact this
theorem PV_conv_u32_u8 {T T' : TypeId} {x : Operand} {p : UInt32} (ho : o.op = .convert T T' x) (hs : P.underlying T = some (.int .u32)) (hd : P.underlying T' = some (.int .u8)) (hx : ev E x = some (u32v p)) : PV P n o E S (u8v p.toUInt8) := by
  have := PV_conv (P := P) (n := n) (S := S) ho hs hd hx
  rw [show IntKind.u8.wrap (p.toNat : Int) = (p.toUInt8.toNat : Int) by rw [IntKind.wrap_u8]; simp] at this
  exact this
/-- A number's lowest byte. -/
theorem PV_conv_i64_u8 {T T' : TypeId} {x : Operand} {p : Int} {m : Nat} (ho : o.op = .convert T T' x) (hs : P.underlying T = some (.int .i64)) (hd : P.underlying T' = some (.int .u8)) (hx : ev E x = some (.int .i64 p)) (hp : p = (m : Int)) : PV P n o E S (u8v (UInt8.ofNat m)) := by
  subst hp
  have := PV_conv (P := P) (n := n) (S := S) ho hs hd hx
  rw [u8v_wrap] at this
  exact this
theorem PV_conv_u64_u8 {T T' : TypeId} {x : Operand} {p : Int} {m : Nat} (ho : o.op = .convert T T' x) (hs : P.underlying T = some (.int .u64)) (hd : P.underlying T' = some (.int .u8)) (hx : ev E x = some (.int .u64 p)) (hp : p = (m : Int)) : PV P n o E S (u8v (UInt8.ofNat m)) := by
  subst hp
  have := PV_conv (P := P) (n := n) (S := S) ho hs hd hx
  rw [u8v_wrap] at this
  exact this
theorem PV_conv_i64_u64 {T T' : TypeId} {x : Operand} {p : Int} {m : Nat} (ho : o.op = .convert T T' x) (hs : P.underlying T = some (.int .i64)) (hd : P.underlying T' = some (.int .u64)) (hx : ev E x = some (.int .i64 p)) (hp : p = (m : Int)) (hm : m < 9223372036854775808) : PV P n o E S (.int .u64 (m : Int)) := by
  subst hp
  have := PV_conv (P := P) (n := n) (S := S) ho hs hd hx
  rw [show IntKind.u64.wrap (m : Int) = (m : Int) by simp [IntKind.wrap, IntKind.bits, IntKind.signed]; omega] at this
  exact this
theorem PV_u64_sub {T T' : TypeId} {x y : Operand} {p q : Int} {a b : Nat} (ho : o.op = .binOp .sub T x y T') (hx : ev E x = some (.int .u64 p)) (hy : ev E y = some (.int .u64 q)) (ha : p = (a : Int)) (hb : q = (b : Int)) (hle : b ≤ a) (hm : a < 18446744073709551616) : PV P n o E S (.int .u64 ((a - b : Nat) : Int)) := by
  subst ha hb
  have := PV_arith (P := P) (n := n) (S := S) ho hx hy (.inr (.inl ⟨rfl, rfl⟩))
  rw [show IntKind.u64.wrap ((a : Int) - (b : Int)) = ((a - b : Nat) : Int) by simp [IntKind.wrap, IntKind.bits, IntKind.signed]; omega] at this
  exact this
/-- An element of an array that is held as a value. -/
theorem PV_index {T e : TypeId} {x y : Operand} {cs : List Value} {l i : Nat} {k : IntKind} {p : Int} {v : Value} (ho : o.op = .index T x y) (ht : P.underlying T = some (.array l e)) (hs : (P.info? e).map (·.size) = some 1) (ha' : ∀ w, (isAgg e).run P w = .ok false w)
    (hx : ev E x = some (aggL cs)) (hy : ev E y = some (.int k p)) (hp : p = (i : Int)) (hl : i < l) (hv : cs[i]? = some v) : PV P n o E S v := .of fun ac ha w => by
  subst hp
  cases hi : P.info? e with
  | none => simp [hi] at hs
  | some j =>
    have hj : j.size = 1 := by simpa [hi] using hs
    have h1 : (0 : Int) ≤ (i : Int) ∧ (i : Int) < (l : Int) := by omega
    have hv' : cs.toArray[i]? = some v := by simpa using hv
    simp only [execOp, ho, ha.ev hx, ha.ev hy, aggL, Instr.index, asIntOf, run_underlying ht, h1, and_self, if_true, sizeOf, typeInfo, program, Sem.run, hi, hj, part, ha', Sem.run_bind, Sem.run_pure, Result.andThen_ok, Int.toNat_natCast, Nat.mul_one]
    simp [Go.part, ha', hv]
end
end Go.Proofs.YtecbpmgfikgoaaaGreatDoor
end
section
set_option linter.unusedVariables false
set_option linter.unusedSimpArgs false
namespace Go.Proofs.YtecbpmgfikgoaaaGreatDoor
open Go Go.RowKit

theorem cells_one {v : Value} (h : v.oneCell' = true) : v.cells.toList = [v] := by cases v <;> first | rfl | cases h

section
variable {P : Program} {n : Nat} {E : List (Nat × Value)} {S : World → Prop} {o : Oper} {G w : World} {M M' : List Chunk} {I J : Imm}

theorem PV_nilCheckP {x : Operand} {b q : Nat} (ho : o.op = .nilCheck x) (hx : ev E x = some (ptr b q)) : PV P n o E S (ptr b q) := PV_nilCheck ho hx
theorem EF_boxA {T : TypeId} {x : Operand} {cs : List Value} (ho : o.op = .box T x) (hx : ev E x = some (aggL cs)) (hs : Sat G M I w) : EF P n o E w (fun r w' => ∃ b, r = ptr b 0 ∧ Sat G ((b, cs, T) :: M) I w') := EF_box ho hx (cells_aggL cs) hs
theorem EF_box1 {T : TypeId} {x : Operand} {v : Value} (ho : o.op = .box T x) (hx : ev E x = some v) (h1 : v.oneCell' = true) (hs : Sat G M I w) : EF P n o E w (fun r w' => ∃ b, r = ptr b 0 ∧ Sat G ((b, [v], T) :: M) I w') := EF_box ho hx (cells_one h1) hs
theorem EF_allocA {T : TypeId} {cs : List Value} {m : Nat} (ho : o.op = .alloc T) (hT : (P.info? T).map (fun i => (i.zero, i.size)) = some (some (aggL cs), m)) (hs : Sat G M I w) : EF P n o E w (fun r w' => ∃ b, r = ptr b 0 ∧ Sat G ((b, cs, T) :: M) I w') := EF_alloc ho hT (cells_aggL cs) hs
theorem EF_alloc1 {T : TypeId} {v : Value} {m : Nat} (ho : o.op = .alloc T) (hT : (P.info? T).map (fun i => (i.zero, i.size)) = some (some v, m)) (h1 : v.oneCell' = true) (hs : Sat G M I w) : EF P n o E w (fun r w' => ∃ b, r = ptr b 0 ∧ Sat G ((b, [v], T) :: M) I w') := EF_alloc ho hT (cells_one h1) hs
theorem EF_bs1c {TS e bytes : Nat} {z : Value} {x : Operand} {v : Value} (ho : o.op = .buildSlice TS 1 #[(0, x)]) (he : El P TS e [z] bytes) (hx : ev E x = some v) (h1 : v.oneCell' = true) (hs : Sat G M I w) :
    EF P n o E w (fun r w' => ∃ b, r = .slice (some ⟨b, 0, none⟩) 1 1 ∧ Sat G ((b, [v], e) :: M) I w') := EF_bs1 ho he hx (cells_one h1) rfl (by simp) hs
theorem EF_bs2c {TS e bytes : Nat} {z : Value} {x y : Operand} {v u : Value} (ho : o.op = .buildSlice TS 2 #[(0, x), (1, y)]) (he : El P TS e [z] bytes) (hx : ev E x = some v) (hy : ev E y = some u) (h1 : v.oneCell' = true) (h2 : u.oneCell' = true) (hs : Sat G M I w) :
    EF P n o E w (fun r w' => ∃ b, r = .slice (some ⟨b, 0, none⟩) 2 2 ∧ Sat G ((b, [v, u], e) :: M) I w') := EF_bs2 ho he hx hy (cells_one h1) (cells_one h2) rfl rfl (by simp) hs
theorem EF_bs3c {TS e bytes : Nat} {z : Value} {x y q : Operand} {v u t : Value} (ho : o.op = .buildSlice TS 3 #[(0, x), (1, y), (2, q)]) (he : El P TS e [z] bytes) (hx : ev E x = some v) (hy : ev E y = some u) (hq : ev E q = some t) (h1 : v.oneCell' = true) (h2 : u.oneCell' = true) (h3 : t.oneCell' = true) (hs : Sat G M I w) :
    EF P n o E w (fun r w' => ∃ b, r = .slice (some ⟨b, 0, none⟩) 3 3 ∧ Sat G ((b, [v, u, t], e) :: M) I w') := EF_bs3 ho he hx hy hq (cells_one h1) (cells_one h2) (cells_one h3) rfl rfl rfl (by simp) hs
theorem EF_bs1a {TS e bytes : Nat} {z cs : List Value} {x : Operand} (ho : o.op = .buildSlice TS 1 #[(0, x)]) (he : El P TS e z bytes) (hx : ev E x = some (aggL cs)) (hl : cs.length = z.length) (hsm : z.length ≤ 2 ^ 24) (hs : Sat G M I w) :
    EF P n o E w (fun r w' => ∃ b, r = .slice (some ⟨b, 0, none⟩) 1 1 ∧ Sat G ((b, cs, e) :: M) I w') := EF_bs1 ho he hx (cells_aggL cs) hl hsm hs
theorem EF_storeA {T : TypeId} {x y : Operand} {b : Nat} {cs vs : List Value} {TT : TypeId} (ho : o.op = .store T x y) (hx : ev E x = some (ptr b 0)) (hy : ev E y = some (aggL vs)) (hsz : (P.info? T).map (·.size) = some cs.length) (hf : vs.length = cs.length) (h1 : one1 vs = true) (hs : Sat G M I w) (hu : Upd b TT cs vs M M') :
    EF P n o E w (fun r w' => Sat G M' I w') := EF_storeW ho hx hy (cells_aggL vs) (by rw [hf]; exact hsz) hf h1 hs hu
theorem EF_store1 {T : TypeId} {x y : Operand} {b : Nat} {v u : Value} {TT : TypeId} (ho : o.op = .store T x y) (hx : ev E x = some (ptr b 0)) (hy : ev E y = some v) (hsz : (P.info? T).map (·.size) = some 1) (h1 : v.oneCell' = true) (hs : Sat G M I w) (hu : Upd b TT [u] [v] M M') :
    EF P n o E w (fun r w' => Sat G M' I w') := EF_storeW (cs := [u]) (vs := [v]) ho hx hy (cells_one h1) hsz rfl (by simp [one1, h1]) hs hu
/-- A store of one cell in the midst of a variable. -/
theorem EF_storeC {T : TypeId} {x y : Operand} {b off : Nat} {cs cs' : List Value} {v : Value} {TT : TypeId} (ho : o.op = .store T x y) (hx : ev E x = some (ptr b off)) (hy : ev E y = some v) (hsz : (P.info? T).map (·.size) = some 1) (h1 : v.oneCell' = true) (hf : off < cs.length) (hc : cs.set off v = cs') (hs : Sat G M I w) (hu : Upd b TT cs cs' M M') :
    EF P n o E w (fun r w' => Sat G M' I w') := EF_store (cs := cs) (vs := [v]) ho hx hy (cells_one h1) hsz (by simp; omega) (by simp [one1, h1]) hs (by
      have : splice cs off [v] = cs' := by rw [← hc]; simp [splice, List.set_eq_take_append_cons_drop, hf]
      rw [this]; exact hu)
/-- A store of several cells in the midst of a variable. -/
theorem EF_storeP {T : TypeId} {x y : Operand} {b off : Nat} {cs cs' vs : List Value} {TT : TypeId} (ho : o.op = .store T x y) (hx : ev E x = some (ptr b off)) (hy : ev E y = some (aggL vs)) (hsz : (P.info? T).map (·.size) = some vs.length) (h1 : one1 vs = true) (hf : off + vs.length ≤ cs.length) (hc : splice cs off vs = cs') (hs : Sat G M I w) (hu : Upd b TT cs cs' M M') :
    EF P n o E w (fun r w' => Sat G M' I w') := EF_store ho hx hy (cells_aggL vs) hsz hf h1 hs (by rw [hc]; exact hu)

theorem ldA {T b m : Nat} {cs : List Value} {TT : TypeId} (hT : ∀ w, (isAgg T).run P w = .ok true w) (hsz : (P.info? T).map (·.size) = some m) (hs : Sat G M I w) (hm : (b, cs, TT) ∈ M) (hl : cs.length = m) : (loadVar T ⟨b, 0, none⟩).run P w = .ok (aggL cs) w :=
  run_loadA hT hsz (hs.own b cs TT hm) (by simp [hl]) (by simpa using part_whole hl)
theorem ld1 {T b : Nat} {v : Value} {TT : TypeId} (hT : ∀ w, (isAgg T).run P w = .ok false w) (hs : Sat G M I w) (hm : (b, [v], TT) ∈ M) : (loadVar T ⟨b, 0, none⟩).run P w = .ok v w :=
  run_load1 hT (hs.own b [v] TT hm) rfl

/-- From 'bb', 'off' on memory reads 'cs', in every world that is known so. -/
def Mem (G : World) (M : List Chunk) (I : Imm) (bb off : Nat) (cs : List Value) : Prop := ∀ w, Sat G M I w → ∃ d T fr, w.heap[bb]? = some (.cells d T fr) ∧ off + cs.length ≤ d.size ∧ part d.toList off cs.length = cs
theorem Mem.of_own {b off : Nat} {cs d : List Value} {T : TypeId} (hm : (b, d, T) ∈ M) (hf : off + cs.length ≤ d.length) (hp : part d off cs.length = cs) : Mem G M I b off cs := fun w hs => ⟨d.toArray, T, (0, 0), hs.own b d T hm, by simpa using hf, by simpa using hp⟩
theorem Mem.of_imm {b off : Nat} {cs : List Value} {d : Array Value} {T : TypeId} {fr : Nat × Nat} (hm : I b = some (.cells d T fr)) (hf : off + cs.length ≤ d.size) (hp : part d.toList off cs.length = cs) : Mem G M I b off cs := fun w hs => ⟨d, T, fr, hs.imm b _ hm, hf, hp⟩
theorem PV_loadMem1 {T : TypeId} {x : Operand} {bb off j : Nat} {cs : List Value} {v : Value} {M0 : List Chunk} (ho : o.op = .load T x) (hT : ∀ w, (isAgg T).run P w = .ok false w) (hx : ev E x = some (ptr bb (off + j))) (hsub : ∀ w, S w → Sat G M0 I w) (hm : Mem G M0 I bb off cs) (hc : cs[j]? = some v) : PV P n o E S v := by
  intro a ha w hs
  obtain ⟨d, TT, fr, hb, hf, hp⟩ := hm w (hsub w hs)
  have hj : d[off + j]? = some v := by
    rw [← hp] at hc
    simp only [part, List.getElem?_take, List.getElem?_drop] at hc
    split at hc
    · simpa using hc
    · cases hc
  have := run_load1 (P := P) hT hb hj
  simp [execOp, ho, ha.ev hx, ptr, Instr.loadAt, Instr.sureAddr, this]
theorem PV_indexAddr1 {T e : TypeId} {x y : Operand} {b q l c : Nat} {k : IntKind} {p : Int} (i : Nat) (ho : o.op = .indexAddr T x y) (ht : P.underlying T = some (.slice e)) (hs : (P.info? e).map (·.size) = some 1)
    (hx : ev E x = some (.slice (some ⟨b, q, none⟩) l c)) (hy : ev E y = some (.int k p)) (hp : p = (i : Int)) (hl : i < l) : PV P n o E S (ptr b (q + i)) := by
  have := PV_indexAddr (n := n) (S := S) ho ht hs hx hy hp hl
  rwa [Nat.mul_one] at this
theorem PV_indexArr1 {T e : TypeId} {x y : Operand} {b l : Nat} {k : IntKind} {p : Int} (i : Nat) (ho : o.op = .indexAddr T x y) (ht : P.underlying T = some (.array l e)) (hs : (P.info? e).map (·.size) = some 1)
    (hx : ev E x = some (ptr b 0)) (hy : ev E y = some (.int k p)) (hp : p = (i : Int)) (hl : i < l) : PV P n o E S (ptr b i) := by
  have := PV_indexArr (n := n) (S := S) ho ht hs hx hy hp hl
  rwa [Nat.mul_one, Nat.zero_add] at this
/-- An array literal of one-cell elements, every place written. -/
theorem PV_buildArr {T e : TypeId} {parts : Array (Nat × Operand)} {vs : List Value} {z : List Value} {m : Nat} (ho : o.op = .build T parts) (ht : P.underlying T = some (.array m e)) (hs : (P.info? e).map (·.size) = some 1) (hz : (P.info? T).map (fun i => (i.zero, i.size)) = some (some (aggL z), m)) (hzl : z.length = vs.length)
    (hp : ∀ a, Env n a E → (parts.map fun (i, x) => (i, a.eval x)).toList = (vs.zipIdx 0).map fun x => (x.2, x.1)) (h1 : one1 vs = true) : PV P n o E S (aggL vs) := by
  refine PV_build ho fun a ha => ?_
  cases hie : P.info? e with
  | none => simp [hie] at hs
  | some ie =>
    cases hit : P.info? T with
    | none => simp [hit] at hz
    | some it =>
      have hsz : ie.size = 1 := by simpa [hie] using hs
      simp only [hit, Option.map_some, Option.some.injEq, Prod.mk.injEq] at hz
      unfold Program.built
      simp only [hit, ht, hz.1, hie, hsz, hp a ha]
      exact Great.fill_flat vs _ (fun v hv => by
        have := List.all_eq_true.1 h1 v hv
        cases v <;> first | rfl | cases this) (by simp [aggL, Value.cells, hzl])

/-! ### Calls by contracts that say what comes back -/
section
variable {post : Value → World → Prop} {g : FuncId} {ts : Array TypeId}
theorem K0 (ho : o.op = .call { callee := .value (.func g), args := #[], argTypes := ts }) (hg : Fn1 P g) (hc : Calls P g #[] w (Ret post)) : EF P n o E w post := EF_call0 ho hg hc fun _ _ h => h
theorem K1 {x : Operand} {u : Value} (ho : o.op = .call { callee := .value (.func g), args := #[x], argTypes := ts }) (hg : Fn1 P g) (hx : ev E x = some u) (hc : Calls P g #[u] w (Ret post)) : EF P n o E w post := EF_call1 ho hg hx hc fun _ _ h => h
theorem K2 {x y : Operand} {u v : Value} (ho : o.op = .call { callee := .value (.func g), args := #[x, y], argTypes := ts }) (hg : Fn1 P g) (hx : ev E x = some u) (hy : ev E y = some v) (hc : Calls P g #[u, v] w (Ret post)) : EF P n o E w post := EF_call2 ho hg hx hy hc fun _ _ h => h
theorem K3 {x y q : Operand} {u v t : Value} (ho : o.op = .call { callee := .value (.func g), args := #[x, y, q], argTypes := ts }) (hg : Fn1 P g) (hx : ev E x = some u) (hy : ev E y = some v) (hq : ev E q = some t) (hc : Calls P g #[u, v, t] w (Ret post)) : EF P n o E w post := EF_call3 ho hg hx hy hq hc fun _ _ h => h
theorem K4 {x y q p : Operand} {u v t s : Value} (ho : o.op = .call { callee := .value (.func g), args := #[x, y, q, p], argTypes := ts }) (hg : Fn1 P g) (hx : ev E x = some u) (hy : ev E y = some v) (hq : ev E q = some t) (hp : ev E p = some s) (hc : Calls P g #[u, v, t, s] w (Ret post)) : EF P n o E w post := EF_call4 ho hg hx hy hq hp hc fun _ _ h => h
theorem K5 {x y q p z : Operand} {u v t s r : Value} (ho : o.op = .call { callee := .value (.func g), args := #[x, y, q, p, z], argTypes := ts }) (hg : Fn1 P g) (hx : ev E x = some u) (hy : ev E y = some v) (hq : ev E q = some t) (hp : ev E p = some s) (hz : ev E z = some r) (hc : Calls P g #[u, v, t, s, r] w (Ret post)) : EF P n o E w post := EF_call5 ho hg hx hy hq hp hz hc fun _ _ h => h
theorem Kf1 {f x : Operand} {u v : Value} (ho : o.op = .call { callee := .value f, args := #[x], argTypes := ts }) (hf : ev E f = some (.func (.func g) #[u] #[])) (hg : Fn1 P g) (hx : ev E x = some v) (hc : Calls P g #[u, v] w (Ret post)) : EF P n o E w post := EF_callf1 ho hf hg hx hc fun _ _ h => h
theorem Kc1 {f x : Operand} {u v : Value} (ho : o.op = .call { callee := .value f, args := #[x], argTypes := ts }) (hf : ev E f = some (.func (.func g) #[] #[u])) (hg : Fn1 P g) (hx : ev E x = some v) (hc : Calls P g #[v, u] w (Ret post)) : EF P n o E w post := EF_callc1 ho hf hg hx hc fun _ _ h => h
theorem Kp2 {f x y : Operand} {u v : Value} (ho : o.op = .call { callee := .value f, args := #[x, y], argTypes := ts }) (hf : ev E f = some (.func (.func g) #[] #[])) (hg : Fn1 P g) (hx : ev E x = some u) (hy : ev E y = some v) (hc : Calls P g #[u, v] w (Ret post)) : EF P n o E w post := EF_callp2 ho hf hg hx hy hc fun _ _ h => h
end

/-! ### Slices -/
/-- A slice value of m elements of sz cells, whose cells are 'cs' in memory that nobody writes. -/
def SlI (I : Imm) (sz : Nat) (v : Value) (m : Nat) (cs : List Value) : Prop :=
  cs.length = m * sz ∧ ∃ A c, v = .slice A m c ∧ m ≤ c ∧ (m = 0 ∨ ∃ b off d T fr, A = some ⟨b, off, none⟩ ∧ I b = some (.cells d T fr) ∧ off + m * sz ≤ d.size ∧ part d.toList off (m * sz) = cs)
def SlB (I : Imm) (v : Value) (l : List UInt8) : Prop := SlI I 1 v l.length (bcells l)
theorem SlI.le {sz m : Nat} {v : Value} {cs : List Value} (h : SlI I sz v m cs) (hl : Le I J) : SlI J sz v m cs := by
  obtain ⟨h1, A, c, rfl, hc, h2⟩ := h
  refine ⟨h1, A, c, rfl, hc, ?_⟩
  rcases h2 with h2 | ⟨b, off, d, T, fr, rfl, hb, hf, hp⟩
  · exact .inl h2
  · exact .inr ⟨b, off, d, T, fr, rfl, hl _ _ hb, hf, hp⟩
theorem SlB.le {v : Value} {l : List UInt8} (h : SlB I v l) (hl : Le I J) : SlB J v l := SlI.le h hl
theorem SlI.rd {sz m : Nat} {v : Value} {cs : List Value} (h : SlI I sz v m cs) (hs : Sat G M I w) : RdW w sz v m cs := by
  obtain ⟨h1, A, c, rfl, hc, h2⟩ := h
  refine ⟨h1, A, c, rfl, hc, ?_⟩
  rcases h2 with h2 | ⟨b, off, d, T, fr, rfl, hb, hf, hp⟩
  · exact .inl h2
  · exact .inr ⟨b, off, d, T, fr, rfl, hs.imm _ _ hb, hf, hp⟩
theorem SlI.nil (sz : Nat) : SlI I sz (.slice none 0 0) 0 [] := ⟨by simp, none, 0, rfl, Nat.le_refl _, .inl rfl⟩
theorem SlB.nil : SlB I (.slice none 0 0) [] := SlI.nil 1
/-- A block of the call's own, read as a slice. -/
theorem rdM {b off m c sz : Nat} {cs news : List Value} {T : TypeId} (hs : Sat G M I w) (hm : (b, cs, T) ∈ M) (hc : m ≤ c) (hf : off + m * sz ≤ cs.length) (hp : part cs off (m * sz) = news) : RdW w sz (.slice (some ⟨b, off, none⟩) m c) m news := by
  refine ⟨?_, _, c, rfl, hc, .inr ⟨b, off, cs.toArray, T, (0, 0), rfl, hs.own b cs T hm, by simpa using hf, by simpa using hp⟩⟩
  subst hp
  simp [part]
  omega
theorem rdW {b m c sz : Nat} {cs : List Value} {T : TypeId} (hs : Sat G M I w) (hm : (b, cs, T) ∈ M) (hl : cs.length = m * sz) (hc : m ≤ c) : RdW w sz (.slice (some ⟨b, 0, none⟩) m c) m cs :=
  rdM hs hm hc (by omega) (part_whole hl)
/-- What the call has appended to is given over. -/
theorem OwnS.freeze {e sz : Nat} {v : Value} {cs : List Value} {L : List Chunk} {m : Nat} (h : OwnS e sz v cs L) (hl : cs.length = m * sz) (hz : 0 < sz) (hs : Sat G (L ++ M) I w) : ∃ J, Le I J ∧ SlI J sz v m cs ∧ Sat G M J w := by
  rcases h with ⟨rfl, rfl, rfl⟩ | ⟨b, len, cap, zs, rfl, hlen, rfl, hcap, hle⟩
  · have : m = 0 := by
      rcases Nat.eq_zero_or_pos m with h | h
      · exact h
      · have := Nat.mul_pos h hz
        simp at hl
        omega
    subst this
    exact ⟨I, Le.refl I, SlI.nil sz, hs⟩
  · have hm : len = m := Nat.eq_of_mul_eq_mul_right hz (hlen.symm.trans hl)
    subst hm
    obtain ⟨J, hle', hJ, hs'⟩ := hs.freeze (Del.here (c := (b, cs ++ zs, e)) (M := M))
    refine ⟨J, hle', ⟨hl, _, cap, rfl, hle, .inr ⟨b, 0, _, e, (0, 0), rfl, hJ, ?_, ?_⟩⟩, hs'⟩
    · simp only [List.size_toArray, Nat.zero_add]
      rw [hcap]
      exact Nat.mul_le_mul_right _ hle
    · simp [part, ← hl]
theorem OwnS.nil {e sz : Nat} : OwnS e sz (.slice none 0 0) [] [] := .inl ⟨rfl, rfl, rfl⟩
/-- A slice literal is a slice of the call's own. -/
theorem OwnS.lit {e sz b m : Nat} {cs : List Value} (hl : cs.length = m * sz) : OwnS e sz (.slice (some ⟨b, 0, none⟩) m m) cs [(b, cs, e)] :=
  .inr ⟨b, m, m, [], rfl, hl, by simp, by simpa using hl, Nat.le_refl _⟩
theorem OwnS.rd {e sz m : Nat} {v : Value} {cs : List Value} {L : List Chunk} (h : OwnS e sz v cs L) (hl : cs.length = m * sz) (hz : 0 < sz) (hs : Sat G (L ++ M) I w) : RdW w sz v m cs := by
  rcases h with ⟨rfl, rfl, rfl⟩ | ⟨b, len, cap, zs, rfl, hlen, rfl, hcap, hle⟩
  · have : m = 0 := by
      rcases Nat.eq_zero_or_pos m with h | h
      · exact h
      · have := Nat.mul_pos h hz
        simp at hl
        omega
    subst this
    exact ⟨by simp, none, 0, rfl, Nat.le_refl _, .inl rfl⟩
  · have hm : len = m := Nat.eq_of_mul_eq_mul_right hz (hlen.symm.trans hl)
    subst hm
    refine rdM (cs := cs ++ zs) (T := e) hs (by simp) hle ?_ ?_
    · rw [Nat.zero_add, hcap]; exact Nat.mul_le_mul_right _ hle
    · simp [part, ← hl]
theorem SlI.mem {sz m : Nat} {v : Value} {cs : List Value} (h : SlI I sz v m cs) (hm : 0 < m) : ∃ b off c, v = .slice (some ⟨b, off, none⟩) m c ∧ m ≤ c ∧ ∀ G M, Mem G M I b off cs := by
  obtain ⟨h1, A, c, rfl, hc, h2⟩ := h
  rcases h2 with h2 | ⟨b, off, d, T, fr, rfl, hb, hf, hp⟩
  · omega
  · exact ⟨b, off, c, rfl, hc, fun G M => Mem.of_imm hb (by rw [h1]; exact hf) (by rw [h1]; exact hp)⟩
/-- A part of a slice. -/
theorem SlI.slice {sz m b off c p r : Nat} {cs : List Value} (h : SlI I sz (.slice (some ⟨b, off, none⟩) m c) m cs) (hp : p ≤ r) (hr : r ≤ m) :
    SlI I sz (.slice (some ⟨b, if c = p then off else off + p * sz, none⟩) (r - p) (c - p)) (r - p) ((cs.drop (p * sz)).take ((r - p) * sz)) := by
  obtain ⟨h1, A, c', hv, hc, h2⟩ := h
  obtain ⟨rfl, _, rfl⟩ : some ⟨b, off, none⟩ = A ∧ m = m ∧ c = c' := by simpa using hv
  have hps : p * sz + (r - p) * sz ≤ m * sz := by rw [← Nat.add_mul]; exact Nat.mul_le_mul_right _ (by omega)
  refine ⟨by rw [List.length_take, List.length_drop, h1]; omega, _, _, rfl, by omega, ?_⟩
  by_cases h0 : r - p = 0
  · exact .inl h0
  · rcases h2 with h2 | ⟨b', off', d, T, fr, he, hb, hf, hp'⟩
    · omega
    · obtain ⟨rfl, rfl⟩ : b = b' ∧ off = off' := by simpa using he
      have hcp : ¬ c = p := by omega
      refine .inr ⟨b, off + p * sz, d, T, fr, by rw [if_neg hcp], hb, by omega, ?_⟩
      rw [← hp']
      simp only [part, List.drop_take, List.take_take, List.drop_drop]
      congr 1
      omega
/-- An array from a place on, as a slice. -/
theorem PV_sliceArrLo {T e : TypeId} {x y : Operand} {b len sz : Nat} {k : IntKind} {p : Int} (i : Nat) (ho : o.op = .slice T x (some y) none none) (ht : P.underlying T = some (.array len e)) (hs : (P.info? e).map (·.size) = some sz) (hx : ev E x = some (ptr b 0)) (hy : ev E y = some (.int k p)) (hp : p = (i : Int)) (hi : i < len) :
    PV P n o E S (.slice (some ⟨b, i * sz, none⟩) (len - i) (len - i)) := .of fun ac ha w => by
  subst hp
  cases hq : P.info? e with
  | none => simp [hq] at hs
  | some j =>
    have hj : j.size = sz := by simpa [hq] using hs
    have g : (0 : Int) ≤ (i : Int) ∧ (i : Int) ≤ (len : Int) := by omega
    have hne : ¬ len = i := by omega
    simp [execOp, ho, ha.ev hx, ha.ev hy, ptr, Instr.sliceAt, run_underlying ht, Instr.sureAddr, Instr.sliceBounds, Instr.sliceBound, asIntOf, g, sizeOf, typeInfo, hq, hj, hne, add_lit']
    omega
theorem PV_u64_shl {T T' : TypeId} {x y : Operand} {p q : Int} {m j : Nat} {k : IntKind} (ho : o.op = .binOp .shl T x y T') (hx : ev E x = some (.int .u64 p)) (hy : ev E y = some (.int k q)) (hp : p = (m : Int)) (hq : q = (j : Int)) (hj : j < 64) (hm : m * 2 ^ j < 18446744073709551616) : PV P n o E S (.int .u64 ((m * 2 ^ j : Nat) : Int)) := .of fun a ha w => by
  subst hp hq
  have hb : IntKind.u64.bits = 64 := rfl
  have h0 : ¬ ((j : Int) < 0) := by omega
  have hmin : min ((j : Int).toNat) 64 = j := by simp; omega
  have hr : IntKind.u64.wrap ((m : Int) * 2 ^ j) = ((m * 2 ^ j : Nat) : Int) := by
    have : ((m : Int) * 2 ^ j) = ((m * 2 ^ j : Nat) : Int) := by simp
    rw [this]
    generalize m * 2 ^ j = t at *
    simp [IntKind.wrap, IntKind.bits, IntKind.signed]
    omega
  simp only [execOp, ho, ha.ev hx, ha.ev hy, eqGuard, binOp, Op.shift, hb, h0, hmin, hr, if_false, Sem.run_bind, Sem.run_pure, Result.andThen_ok]
  simp
theorem PV_u64_shr {T T' : TypeId} {x y : Operand} {p q : Int} {m j : Nat} {k : IntKind} (ho : o.op = .binOp .shr T x y T') (hx : ev E x = some (.int .u64 p)) (hy : ev E y = some (.int k q)) (hp : p = (m : Int)) (hq : q = (j : Int)) (hj : j < 64) : PV P n o E S (.int .u64 ((m / 2 ^ j : Nat) : Int)) := .of fun a ha w => by
  subst hp hq
  have hb : IntKind.u64.bits = 64 := rfl
  have h0 : ¬ ((j : Int) < 0) := by omega
  have hmin : min ((j : Int).toNat) 64 = j := by simp; omega
  have hr : ((m : Int)).fdiv (2 ^ j) = ((m / 2 ^ j : Nat) : Int) := by
    rw [Int.natCast_ediv, Int.natCast_pow]
    exact Int.fdiv_eq_ediv_of_nonneg _ (Int.le_of_lt (Int.pow_pos (by decide)))
  simp only [execOp, ho, ha.ev hx, ha.ev hy, eqGuard, binOp, Op.shift, hb, h0, hmin, hr, if_false, Sem.run_bind, Sem.run_pure, Result.andThen_ok]
  simp
theorem Sat.sw {a b : Chunk} (h : Sat G (a :: b :: M) I w) : Sat G (b :: a :: M) I w := h.perm (List.Perm.swap a b M)
end
end Go.Proofs.YtecbpmgfikgoaaaGreatDoor
end
