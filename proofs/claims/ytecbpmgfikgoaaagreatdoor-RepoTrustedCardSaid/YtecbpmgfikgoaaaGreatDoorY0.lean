/- Regions that draw, where two effects may come in either order. Conditions: as each theorem says. -/
import Derived.Test.YtecbpmgfikgoaaaGreatDoorK1
set_option linter.unusedVariables false
set_option linter.unusedSimpArgs false
namespace Go.Proofs.YtecbpmgfikgoaaaGreatDoor
open Go Go.RowKit

theorem upon_kont {P : Program} {o : Oper} {a : Act} {k k' : Kont} {K : Act → World → Prop} {r : Result Next} (h : o.upon P a K k.post r) : o.upon P a K k'.post r := by
  cases r with
  | ok n w' =>
    cases n <;> simp only [Oper.upon] at h ⊢ <;> first
      | exact h
      | exact Calls.mono h (fun e w'' he => by
          cases e with
          | returned v => exact he
          | panicked c => exact absurd he (by simp [Kont.post])
          | outgrown => exact absurd he (by rintro ⟨a, w, h⟩; exact h))
  | halt x w' => cases x <;> simp only [Oper.upon] at h ⊢ <;> exact absurd h (by simp [Kont.post])
theorem wpOp_kont {P : Program} {ops : Array Oper} {i : Nat} {a : Act} {w : World} {k k' : Kont} {K : Act → World → Prop} (h : wpOp P ops k.post i K a w) : wpOp P ops k'.post i K a w := by
  unfold wpOp at *
  split
  · next he => rw [he] at h; exact h
  · next o he =>
    rw [he] at h
    dsimp only at h
    split
    · next hw =>
      rw [if_pos hw] at h
      rcases h with h | ⟨_, a, w, h⟩
      · exact .inl (upon_kont h)
      · exact h.elim
    · next hw =>
      rw [if_neg hw] at h
      exact h

/-- An order in which now and then two effects are ready. -/
inductive OT where
  | fin (l : List (Nat × Bool))
  | fork (l : List (Nat × Bool)) (i j : Nat) (x y : OT)
@[reducible] def OT.l : OT → List (Nat × Bool)
  | .fin l => l
  | .fork l _ _ _ _ => l
def OT.k (P : Program) (ops : Array Oper) (S : World → Prop) (need : Nat → Bool) (k : Kont) : OT → Kont
  | .fin _ => k
  | .fork _ i j x y => { k with nrm := (fun a w => And (wpOp P ops k.post i (fun a' w' => (need i = true → S w') ∧ TWo P ops (OT.k P ops S need k x).post S need x.l a' w') a w) (wpOp P ops k.post j (fun a' w' => (need j = true → S w') ∧ TWo P ops (OT.k P ops S need k y).post S need y.l a' w') a w)) }
def segOk (ops : Array Oper) (all : List (Nat × Bool)) (K : Nat → Array Bool → Bool) : List (Nat × Bool) → Nat → Array Bool → Bool
  | [], fuel, listed => K fuel listed
  | _ :: _, 0, _ => false
  | (i, p) :: rest, fuel + 1, listed =>
    (bif p then Region.free .any ops listed i && (Region.ready .any ops listed).contains i && all.contains (i, true) else Region.ready .any ops listed == [i]) && segOk ops all K rest fuel (listed.setIfInBounds i true)
def otOk (ops : Array Oper) (all : List (Nat × Bool)) : OT → Nat → Array Bool → Bool
  | .fin l, fuel, listed => orderOk ops all fuel l listed
  | .fork l i j x y, fuel, listed => segOk ops all (fun f ls => match f with
      | 0 => false
      | f + 1 => Region.ready .any ops ls == [i, j] && (otOk ops all x f (ls.setIfInBounds i true) && otOk ops all y f (ls.setIfInBounds j true))) l fuel listed

section
variable {P : Program} {n : Nat} {k : Kont} {E : List (Nat × Value)} {w : World}

theorem wpAnyG_of_seg {ops : Array Oper} {S : World → Prop} {all : List (Nat × Bool)} (hs : Region.noSelect ops = true) {H : Act → World → Prop} {K : Nat → Array Bool → Bool}
    (hK : ∀ f ls a w, K f ls = true → H a w → wpAnyG P ops k.post S (needOf ops all) f ls a w) : ∀ (l : List (Nat × Bool)) (fuel : Nat) (listed : Array Bool) (a : Act) (w : World),
    segOk ops all K l fuel listed = true → TWo P ops ({ k with nrm := H } : Kont).post S (needOf ops all) l a w → wpAnyG P ops k.post S (needOf ops all) fuel listed a w
  | [], fuel, listed, a, w, ho, h => hK fuel listed a w ho h
  | _ :: _, 0, listed, a, w, ho, h => by simp [segOk] at ho
  | (i, true) :: rest, fuel + 1, listed, a, w, ho, h => by
    simp only [segOk, cond_true, Bool.and_eq_true] at ho
    obtain ⟨hS, o, v, hi, hy, ht⟩ := h
    exact wpAnyG_first hi (Region.noSelect_spec hs) (fun _ _ _ h => h) (fun j oj hj hji hno => need_of ho.1.2 j oj hj hji hno) fuel listed a w (Region.free_spec hi ho.1.1.1) (by simpa using ho.1.1.2) hy hS
      (wpAnyG_of_seg hs hK rest fuel _ _ _ ho.2 ht)
  | (i, false) :: rest, fuel + 1, listed, a, w, ho, h => by
    simp only [segOk, cond_false, Bool.and_eq_true] at ho
    have hr : Region.ready .any ops listed = [i] := by simpa using ho.1
    refine ⟨fun h0 => (by rw [h0] at hr; cases hr), fun j hj => ?_⟩
    rw [hr] at hj
    obtain rfl : j = i := by simpa using hj
    exact wpOp_kont (wpOp_mono (fun a' w' ⟨h1, h2⟩ => ⟨h1, wpAnyG_of_seg hs hK rest fuel _ a' w' ho.2 h2⟩) h)

theorem wpAnyG_of_ot {ops : Array Oper} {S : World → Prop} {all : List (Nat × Bool)} (hs : Region.noSelect ops = true) : ∀ (t : OT) (fuel : Nat) (listed : Array Bool) (a : Act) (w : World),
    otOk ops all t fuel listed = true → TWo P ops (t.k P ops S (needOf ops all) k).post S (needOf ops all) t.l a w → wpAnyG P ops k.post S (needOf ops all) fuel listed a w
  | .fin l, fuel, listed, a, w, ho, h => wpAnyG_of_order hs l fuel listed a w ho h
  | .fork l i j x y, fuel, listed, a, w, ho, h => by
    refine wpAnyG_of_seg hs (fun f ls a w hk hh => ?_) l fuel listed a w ho h
    cases f with
    | zero => cases hk
    | succ f =>
      simp only [Bool.and_eq_true] at hk
      have hr : Region.ready .any ops ls = [i, j] := by simpa using hk.1
      refine ⟨fun h0 => (by rw [h0] at hr; cases hr), fun q hq => ?_⟩
      rw [hr] at hq
      rcases (by simpa using hq : q = i ∨ q = j) with rfl | rfl
      · exact wpOp_mono (fun a' w' ⟨h1, h2⟩ => ⟨h1, wpAnyG_of_ot hs x f _ a' w' hk.2.1 h2⟩) hh.1
      · exact wpOp_mono (fun a' w' ⟨h1, h2⟩ => ⟨h1, wpAnyG_of_ot hs y f _ a' w' hk.2.2 h2⟩) hh.2

theorem W.drawsF {id : Nat} {ops : Array Oper} {S : World → Prop} (hS : S w) (t : OT) (all : List (Nat × Bool)) (hm : P.follows .mixedOrders = true) (hs : Region.noSelect ops = true)
    (ho : otOk ops all t ops.size (Array.replicate ops.size false) = true) (h : TW P n ops (t.k P ops S (needOf ops all) k) S (needOf ops all) t.l E w.drew) : W P n (.region id ops true) k E w := fun a ha =>
  wp_region_any hm (wpAny_of_G _ _ _ _ (wpAnyG_of_ot hs t _ _ a w.drew ho (h a ha)))
theorem TW.fork {ops : Array Oper} {S : World → Prop} {need : Nat → Bool} {l : List (Nat × Bool)} {i j : Nat} {x y : OT}
    (h1 : TW P n ops (x.k P ops S need k) S need ((i, false) :: x.l) E w) (h2 : TW P n ops (y.k P ops S need k) S need ((j, false) :: y.l) E w) : TW P n ops (OT.k P ops S need k (.fork l i j x y)) S need [] E w :=
  fun a ha => ⟨wpOp_kont (h1 a ha), wpOp_kont (h2 a ha)⟩
end
end Go.Proofs.YtecbpmgfikgoaaaGreatDoor
