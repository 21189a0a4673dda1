/- Walks of functions 103 58 23 102 100 91 90 47: what each call gives back, and that it writes nothing of anybody else's. Conditions: as each theorem says. Walks of functions 159 137 99: what each call gives back, and that it writes nothing of anybody else's. Conditions: as each theorem says. Walks of functions 59: what each call gives back, and that it writes nothing of anybody else's. Conditions: as each theorem says. Walks of functions 32 35 22: what each call gives back, and that it writes nothing of anybody else's. Conditions: as each theorem says. Walks of functions 101: what each call gives back, and that it writes nothing of anybody else's. Conditions: as each theorem says. Walks of functions 60: what each call gives back, and that it writes nothing of anybody else's. Conditions: as each theorem says. Walks of functions 61: what each call gives back, and that it writes nothing of anybody else's. Conditions: as each theorem says. Walks of functions 36: what each call gives back, and that it writes nothing of anybody else's. Conditions: as each theorem says. Walks of functions 24: what each call gives back, and that it writes nothing of anybody else's. Conditions: as each theorem says. Walks of functions 52 29 89: what each call gives back, and that it writes nothing of anybody else's. Conditions: as each theorem says. Walks of functions 30 13: what each call gives back, and that it writes nothing of anybody else's. Conditions: as each theorem says. Walks of functions 7: what each call gives back, and that it writes nothing of anybody else's. Conditions: as each theorem says. -/
import Derived.Test.YtecbpmgfikgoaaaGreatDoorK3
section
set_option linter.unusedVariables false
set_option linter.unusedSimpArgs false
set_option maxRecDepth 8000
set_option maxHeartbeats 4000000
namespace Go.Proofs.YtecbpmgfikgoaaaGreatDoor
open Go Go.RowKit
variable {G w : World} {M : List Chunk} {I : Imm}

section
variable {P : Program} {n : Nat} {E : List (Nat × Value)} {S : World → Prop} {o : Oper}
theorem PV_minE {T T' : TypeId} {x y : Operand} {p q r : Int} {k : IntKind} (ho : o.op = .call { callee := .builtin .min, args := #[x, y], argTypes := #[T, T'] }) (hx : ev E x = some (.int k p)) (hy : ev E y = some (.int k q)) (hr : (if q < p then q else p) = r) : PV P n o E S (.int k r) := by subst hr; exact PV_min ho hx hy
theorem PV_maxE {T T' : TypeId} {x y : Operand} {p q r : Int} {k : IntKind} (ho : o.op = .call { callee := .builtin .max, args := #[x, y], argTypes := #[T, T'] }) (hx : ev E x = some (.int k p)) (hy : ev E y = some (.int k q)) (hr : (if p < q then q else p) = r) : PV P n o E S (.int k r) := by subst hr; exact PV_max ho hx hy
end
/-- digest.Sum of a slice of the call's own, which it hands over. -/
theorem C40o {v : Value} {l : List UInt8} {cs : List Value} {L : List Chunk} (hc : cs = bcells l) (ho : OwnS 5 1 v cs L) (hl : l.length ≤ 2 ^ 40) (hs : Sat G (L ++ M) I w) : Calls Tryz.prog 40 #[v] w (Ret fun r w' => r = aggL (bcells (sha l)) ∧ Sat G M I w') := by
  subst hc
  obtain ⟨J, hj, hv, hs'⟩ := ho.freeze (m := l.length) (by simp [length_bcells]) (by decide) hs
  refine (C40 hv hl hs').mono ?_
  rintro e w' ⟨r, he, hr, hs2⟩
  exact ⟨r, he, hr, hs2.le hj⟩
def secretH (seed : List UInt8) (leaf chain : Nat) : List UInt8 := sha ([0] ++ seed ++ [UInt8.ofNat leaf, UInt8.ofNat chain])
def stepH (h : List UInt8) (chain n : Nat) : List UInt8 := sha ([1, UInt8.ofNat chain, UInt8.ofNat n] ++ h)
def walkH (h : List UInt8) (chain f : Nat) : Nat → List UInt8
  | 0 => h
  | k + 1 => stepH (walkH h chain f k) chain (f + k)
theorem walkH_zero (h : List UInt8) (c f : Nat) : walkH h c f 0 = h := rfl
theorem walkH_succ (h : List UInt8) (c f k : Nat) : walkH h c f (k + 1) = stepH (walkH h c f k) c (f + k) := rfl
theorem length_walkH {h : List UInt8} (h32 : h.length = 32) (c f k : Nat) : (walkH h c f k).length = 32 := by
  cases k with
  | zero => exact h32
  | succ k => exact length_sha _
def endH (seed : List UInt8) (leaf chain : Nat) : List UInt8 := walkH (secretH seed leaf chain) chain 0 3
def endsL (f : Nat → List UInt8) (i : Nat) : List UInt8 := (List.range i).flatMap f
theorem endsL_zero (f : Nat → List UInt8) : endsL f 0 = [] := rfl
theorem endsL_succ (f : Nat → List UInt8) (i : Nat) : endsL f (i + 1) = endsL f i ++ f i := by simp [endsL, List.range_succ]
theorem length_endsL {f : Nat → List UInt8} (h : ∀ i, (f i).length = 32) (i : Nat) : (endsL f i).length = 32 * i := by
  induction i with
  | zero => rfl
  | succ i ih => rw [endsL_succ, List.length_append, ih, h]; omega
def pubH (seed : List UInt8) (leaf : Nat) : List UInt8 := sha ([2] ++ endsL (endH seed leaf) 36)
def nodeH (a b : List UInt8) : List UInt8 := sha ([3] ++ a ++ b)
def namedH (a : List UInt8) : List UInt8 := sha ([4] ++ a)
def seedH (s : List UInt8) (g : Nat) : List UInt8 := sha (s ++ [UInt8.ofNat g])
attribute [irreducible] walkH endsL

theorem splice_front {a b c : List Value} {n : Nat} (h : a.length = n) (h' : b.length = n) : splice (a ++ c) 0 b = b ++ c := by
  subst h
  simp [splice, h']
theorem fill177 {h : List UInt8} {n : Int} (h32 : h.length = 32) : fillL [(0, 32), (32, 1)] zl177 ([(0, aggL (bcells h)), (1, Value.int .i64 n)].map fun x => (x.1, x.2.cells.toList)) = some (bcells h ++ [.int .i64 n]) := by
  have h1 : (aggL (bcells h)).cells.toList = bcells h := cells_aggL _
  have h2 : (Value.int .i64 n).cells.toList = [.int .i64 n] := rfl
  have h3 : (bcells h).length = 32 := by rw [length_bcells, h32]
  have h4 : splice zl177 0 (bcells h) = bcells h ++ [.int .i64 0] := splice_front (a := List.replicate 32 (.int .u8 0)) (n := 32) rfl h3
  simp only [List.map_cons, List.map_nil, fillL, h1, h2, List.getElem?_cons_zero, List.getElem?_cons_succ, h3, h4]
  rw [if_pos ⟨trivial, by decide⟩, if_pos ⟨rfl, by simp [h3]⟩]
  simp [splice, h3, List.take_append_of_le_length, List.take_of_length_le]

theorem C103 {seed : List UInt8} {lf ch : Nat} (h32 : seed.length = 32) (hs : Sat G M I w) : Calls Tryz.prog 103 #[aggL (bcells seed), .int .i64 (lf : Int), .int .i64 (ch : Int)] w (Ret fun r w' => r = aggL (bcells (secretH seed lf ch)) ∧ Sat G M I w') := by
  refine enter3 Tryz.func103 rfl Tryz.ntmps103 rfl ?_
  repeat (first | refine W.seq ?_ | refine W.region ?_)
  refine RL.e rfl rfl rfl (EF_boxA rfl rfl hs) ?_
  rintro r1 w1 ⟨b3, rfl, hs1⟩
  refine RL.e rfl rfl rfl (EF_allocA rfl zr24 hs1) ?_
  rintro r2 w2 ⟨b6, rfl, hs2⟩
  refine RL.done (nxt ?_)
  repeat (first | refine W.seq ?_ | refine W.region ?_)
  refine RL.e rfl rfl rfl (EF_bs1c rfl el60 rfl rfl hs2) ?_
  rintro r3 w3 ⟨b7, rfl, hs3⟩
  refine RL.p rfl rfl rfl (PV_sliceArr rfl Tryz.underlying24 rfl sz5) ?_
  refine RL.e rfl rfl rfl (EF_append (l := 1) (olds := bcells [0]) rfl el60 rfl rfl (OwnS.lit (m := 1) rfl) rfl (rdW (m := 32) hs3 m2 (by rw [length_bcells, h32]; rfl) (Nat.le_refl _)) (one1_bcells _) (by omega) (by decide) hs3) ?_
  rintro r4 w4 ⟨L4, ho4, hs4⟩
  refine RL.p rfl rfl rfl (PV_move rfl rfl) ?_
  refine RL.p rfl rfl rfl (PV_conv_i64_u8 rfl Tryz.underlying3 Tryz.underlying5 rfl rfl) ?_
  refine RL.p rfl rfl rfl (PV_move rfl rfl) ?_
  refine RL.p rfl rfl rfl (PV_conv_i64_u8 rfl Tryz.underlying3 Tryz.underlying5 rfl rfl) ?_
  refine RL.e rfl rfl rfl (EF_bs2c rfl el60 rfl rfl rfl rfl hs4) ?_
  rintro r5 w5 ⟨b14, rfl, hs5⟩
  refine RL.e rfl rfl rfl (EF_append (l := 33) (olds := _) rfl el60 rfl rfl ho4 (by rw [List.length_append, length_bcells, length_bcells, h32]; rfl) (rdW (m := 2) (cs := bcells [UInt8.ofNat lf, UInt8.ofNat ch]) hs5 m0 rfl (Nat.le_refl _)) (one1_bcells _) (by omega) (by decide) hs5.mid) ?_
  rintro r6 w6 ⟨L6, ho6, hs6⟩
  refine RL.e rfl rfl rfl (K1 rfl fn40 rfl (C40o (l := [0] ++ seed ++ [UInt8.ofNat lf, UInt8.ofNat ch]) (by simp [bcells]) ho6 (by simp [h32]) hs6)) ?_
  rintro r7 w7 ⟨rfl, hs7⟩
  refine RL.e0 rfl rfl (EF_storeA (cs := zl24) rfl rfl rfl sz24 (by rw [length_bcells]; exact length_sha _) (one1_bcells _) hs7 (by first | exact u0 | exact u1 | exact u2 | exact u3 | exact u4 | exact u5 | exact u0.app | exact u1.app | exact u2.app | exact u3.app)) ?_
  rintro r8 w8 hs8
  refine RL.done (nxt ?_)
  repeat (first | refine W.seq ?_ | refine W.region ?_)
  exact W.ret (ret_cell rfl rfl (ldA ag24 sz24 hs8 (by first | exact m0 | exact m1 | exact m2 | exact m3 | exact m4 | exact m5) (by rw [length_bcells]; exact length_sha _)) ⟨_, rfl, rfl, hs8.tail.tail.tail⟩)

theorem C58 {h : List UInt8} (h32 : h.length = 32) (hs : Sat G M I w) : Calls Tryz.prog 58 #[aggL (bcells h)] w (Ret fun r w' => r = aggL (bcells (namedH h)) ∧ Sat G M I w') := by
  refine enter1 Tryz.func58 rfl Tryz.ntmps58 rfl ?_
  repeat (first | refine W.seq ?_ | refine W.region ?_)
  refine RL.e rfl rfl rfl (EF_boxA rfl rfl hs) ?_
  rintro r1 w1 ⟨b1, rfl, hs1⟩
  refine RL.e rfl rfl rfl (EF_allocA rfl zr24 hs1) ?_
  rintro r2 w2 ⟨b2, rfl, hs2⟩
  refine RL.done (nxt ?_)
  repeat (first | refine W.seq ?_ | refine W.region ?_)
  refine RL.e rfl rfl rfl (EF_bs1c rfl el60 rfl rfl hs2) ?_
  rintro r3 w3 ⟨b3, rfl, hs3⟩
  refine RL.p rfl rfl rfl (PV_sliceArr rfl Tryz.underlying24 rfl sz5) ?_
  refine RL.e rfl rfl rfl (EF_append (l := 1) (olds := bcells [4]) rfl el60 rfl rfl (OwnS.lit (m := 1) rfl) rfl (rdW (m := 32) hs3 m2 (by rw [length_bcells, h32]; rfl) (Nat.le_refl _)) (one1_bcells _) (by omega) (by decide) hs3) ?_
  rintro r4 w4 ⟨L4, ho4, hs4⟩
  refine RL.e rfl rfl rfl (K1 rfl fn40 rfl (C40o (l := [4] ++ h) (by simp [bcells]) ho4 (by simp [h32]) hs4)) ?_
  rintro r5 w5 ⟨rfl, hs5⟩
  refine RL.e0 rfl rfl (EF_storeA (cs := zl24) rfl rfl rfl sz24 (by rw [length_bcells]; exact length_sha _) (one1_bcells _) hs5 (by first | exact u0 | exact u1 | exact u2 | exact u3 | exact u4 | exact u5 | exact u0.app | exact u1.app | exact u2.app | exact u3.app)) ?_
  rintro r6 w6 hs6
  refine RL.done (nxt ?_)
  repeat (first | refine W.seq ?_ | refine W.region ?_)
  exact W.ret (ret_cell rfl rfl (ldA ag24 sz24 hs6 (by first | exact m0 | exact m1 | exact m2 | exact m3 | exact m4 | exact m5) (by rw [length_bcells]; exact length_sha _)) ⟨_, rfl, rfl, hs6.tail.tail⟩)

theorem C23 {s : List UInt8} {g : Nat} (h32 : s.length = 32) (hs : Sat G M I w) : Calls Tryz.prog 23 #[aggL (bcells s), .int .i64 (g : Int)] w (Ret fun r w' => r = aggL (bcells (seedH s g)) ∧ Sat G M I w') := by
  refine enter2 Tryz.func23 rfl Tryz.ntmps23 rfl ?_
  repeat (first | refine W.seq ?_ | refine W.region ?_)
  refine RL.e rfl rfl rfl (EF_boxA rfl rfl hs) ?_
  rintro r1 w1 ⟨b2, rfl, hs1⟩
  refine RL.e rfl rfl rfl (EF_allocA rfl zr24 hs1) ?_
  rintro r2 w2 ⟨b4, rfl, hs2⟩
  refine RL.done (nxt ?_)
  repeat (first | refine W.seq ?_ | refine W.region ?_)
  refine RL.p rfl rfl rfl (PV_sliceArr rfl Tryz.underlying24 rfl sz5) ?_
  refine RL.p rfl rfl rfl (PV_move rfl rfl) ?_
  refine RL.p rfl rfl rfl (PV_conv_i64_u8 rfl Tryz.underlying3 Tryz.underlying5 rfl rfl) ?_
  refine RL.e rfl rfl rfl (EF_bs1c rfl el60 rfl rfl hs2) ?_
  rintro r3 w3 ⟨b8, rfl, hs3⟩
  refine RL.e rfl rfl rfl (EF_append_new (l := 32) (m := 1) (olds := bcells s) (news := bcells [UInt8.ofNat g]) rfl el60 rfl rfl rfl (rdW (m := 32) hs3 m2 (by rw [length_bcells, h32]; rfl) (Nat.le_refl _)) (rdW (m := 1) hs3 m0 rfl (Nat.le_refl _)) (by omega) (by omega) (by decide) hs3) ?_
  rintro r4 w4 ⟨b9, zs, cap, rfl, hcap, hlz, hs4⟩
  refine RL.e rfl rfl rfl (K1 rfl fn40 rfl (C40o (l := s ++ [UInt8.ofNat g]) (cs := bcells s ++ bcells [UInt8.ofNat g]) (L := [(b9, bcells s ++ bcells [UInt8.ofNat g] ++ zs, 5)]) (by simp [bcells]) (.inr ⟨b9, 33, cap, zs, rfl, by rw [List.length_append, length_bcells, length_bcells, h32]; rfl, rfl, hlz, hcap⟩) (by simp [h32]) hs4)) ?_
  rintro r5 w5 ⟨rfl, hs5⟩
  refine RL.e0 rfl rfl (EF_storeA (cs := zl24) rfl rfl rfl sz24 (by rw [length_bcells]; exact length_sha _) (one1_bcells _) hs5 (by first | exact u0 | exact u1 | exact u2 | exact u3 | exact u4 | exact u5 | exact u0.app | exact u1.app | exact u2.app | exact u3.app)) ?_
  rintro r6 w6 hs6
  refine RL.done (nxt ?_)
  repeat (first | refine W.seq ?_ | refine W.region ?_)
  exact W.ret (ret_cell rfl rfl (ldA ag24 sz24 hs6 (by first | exact m0 | exact m1 | exact m2 | exact m3 | exact m4 | exact m5) (by rw [length_bcells]; exact length_sha _)) ⟨_, rfl, rfl, hs6.tail.tail.tail⟩)

theorem C102 {h : List UInt8} {ch f t : Nat} (h32 : h.length = 32) (ht : t ≤ 3) (hf : f ≤ 3) (hs : Sat G M I w) : Calls Tryz.prog 102 #[aggL (bcells h), .int .i64 (ch : Int), .int .i64 (f : Int), .int .i64 (t : Int)] w (Ret fun r w' => r = aggL (bcells (walkH h ch f (t - f))) ∧ Sat G M I w') := by
  refine enter4 Tryz.func102 rfl Tryz.ntmps102 rfl ?_
  repeat (first | refine W.seq ?_ | refine W.region ?_)
  refine RL.e rfl rfl rfl (EF_boxA rfl rfl hs) ?_
  rintro r1 w1 ⟨b4, rfl, hs1⟩
  refine RL.e rfl rfl rfl (EF_allocA rfl zr24 hs1) ?_
  rintro r2 w2 ⟨b8, rfl, hs2⟩
  refine RL.done (nxt ?_)
  repeat (first | refine W.seq ?_ | refine W.region ?_)
  refine RL.p rfl rfl rfl (PV_move rfl rfl) ?_
  refine RL.p rfl rfl rfl (PV_maxE (r := ((f + 0 : Nat) : Int)) rfl rfl rfl (by split <;> omega)) ?_
  refine RL.p rfl rfl rfl (PV_assign rfl rfl) ?_
  refine RL.done (nxt ?_)
  repeat (first | refine W.seq ?_ | refine W.region ?_)
  refine W.block ?_
  repeat (first | refine W.seq ?_ | refine W.region ?_)
  refine W.loop (F := fun k : Nat => [(9, .int .i64 ((f + k : Nat) : Int)), (4, ptr b4 0), (8, ptr b8 0), (1, .int .i64 (ch : Int)), (3, .int .i64 (t : Int))]) (J := fun k w => (f + k ≤ t ∨ k = 0) ∧ Sat G ((b8, zl24, 24) :: (b4, bcells (walkH h ch f k), 24) :: M) I w) (m := fun k => t - f - k) 0 (by repeat first | exact Sub.nil | refine Sub.cons rfl ?_) ⟨.inr rfl, by rw [walkH_zero]; exact hs2⟩ ?_
  rintro k w3 ⟨hk, hs3⟩
  repeat (first | refine W.seq ?_ | refine W.region ?_)
  refine RL.p rfl rfl rfl (PV_move rfl rfl) ?_
  refine RL.p rfl rfl rfl (PV_move rfl rfl) ?_
  refine RL.p rfl rfl rfl (PV_minE (r := (t : Int)) rfl rfl rfl (by split <;> omega)) ?_
  refine RL.p rfl rfl rfl (PV_lss rfl rfl rfl) ?_
  refine RL.done (nxt ?_)
  repeat (first | refine W.seq ?_ | refine W.region ?_)
  refine W.cond rfl (fun h1 => ?_) (fun h1 => ?_)
  ·
    have hk1 : f + k < t := by have := of_decide_eq_true h1; omega
    have hw32 : (walkH h ch f k).length = 32 := length_walkH h32 ..
    refine  W.skip (nxt ?_)
    repeat (first | refine W.seq ?_ | refine W.region ?_)
    refine W.block ?_
    repeat (first | refine W.seq ?_ | refine W.region ?_)
    refine RL.p rfl rfl rfl (PV_move rfl rfl) ?_
    refine RL.p rfl rfl rfl (PV_conv_i64_u8 rfl Tryz.underlying3 Tryz.underlying5 rfl rfl) ?_
    refine RL.p rfl rfl rfl (PV_move rfl rfl) ?_
    refine RL.p rfl rfl rfl (PV_conv_i64_u8 rfl Tryz.underlying3 Tryz.underlying5 rfl rfl) ?_
    refine RL.e rfl rfl rfl (EF_bs3c rfl el60 rfl rfl rfl rfl rfl rfl hs3) ?_
    rintro r4 w4 ⟨b22, rfl, hs4⟩
    refine RL.p rfl rfl rfl (PV_sliceArr rfl Tryz.underlying24 rfl sz5) ?_
    refine RL.e rfl rfl rfl (EF_append (l := 3) (olds := bcells [1, UInt8.ofNat ch, UInt8.ofNat (f + k)]) rfl el60 rfl rfl (OwnS.lit (m := 3) rfl) rfl (rdW (m := 32) hs4 m2 (by rw [length_bcells, hw32]; rfl) (Nat.le_refl _)) (one1_bcells _) (by omega) (by decide) hs4) ?_
    rintro r5 w5 ⟨L5, ho5, hs5⟩
    refine RL.e rfl rfl rfl (K1 rfl fn40 rfl (C40o (l := [1, UInt8.ofNat ch, UInt8.ofNat (f + k)] ++ walkH h ch f k) (by simp [bcells]) ho5 (by simp [hw32]) hs5)) ?_
    rintro r6 w6 ⟨rfl, hs6⟩
    refine RL.e0 rfl rfl (EF_storeA (cs := bcells (walkH h ch f k)) rfl rfl rfl (by rw [length_bcells, hw32]; exact sz24) (by rw [length_bcells, length_bcells, length_sha, hw32]) (one1_bcells _) hs6 (by first | exact u0 | exact u1 | exact u2 | exact u3 | exact u4 | exact u5 | exact u0.app | exact u1.app | exact u2.app | exact u3.app)) ?_
    rintro r7 w7 hs7
    refine RL.done (nxt ?_)
    repeat (first | refine W.seq ?_ | refine W.region ?_)
    refine RL.p rfl rfl rfl (PV_move rfl rfl) ?_
    refine RL.p rfl rfl rfl (PV_add rfl rfl rfl (by omega)) ?_
    refine RL.p rfl rfl rfl (PV_assign rfl rfl) ?_
    refine RL.done (round_end (k + 1) ?_ ?_ ?_)
    · repeat first | exact Sub.nil | refine Sub.cons rfl ?_
    · exact ⟨.inl (by omega), by rw [walkH_succ]; exact hs7⟩
    · first | omega | (dsimp only; omega)
  repeat (first | refine W.seq ?_ | refine W.region ?_)
  refine  W.exit (nxt ?_)
  obtain rfl : k = t - f := by have := of_decide_eq_false h1; omega
  have hw32 : (walkH h ch f (t - f)).length = 32 := length_walkH h32 ..
  repeat (first | refine W.seq ?_ | refine W.region ?_)
  refine RL.s rfl rfl rfl (PV_loadMA rfl ag24 sz24 rfl (by first | exact m0 | exact m1 | exact m2 | exact m3 | exact m4 | exact m5 | exact mapp m0 | exact mapp m1 | exact mapp m2 | exact mapp m3 | exact hm | exact .tail _ hm | exact .tail _ (.tail _ hm)) (by rw [length_bcells, hw32]; decide) (part_whole (by rw [length_bcells, hw32]))) hs3 ?_
  refine RL.e0 rfl rfl (EF_storeA (cs := zl24) rfl rfl rfl sz24 (by rw [length_bcells, hw32]; rfl) (one1_bcells _) hs3 (by first | exact u0 | exact u1 | exact u2 | exact u3 | exact u4 | exact u5 | exact u0.app | exact u1.app | exact u2.app | exact u3.app)) ?_
  rintro r4 w4 hs4
  refine RL.done (nxt ?_)
  repeat (first | refine W.seq ?_ | refine W.region ?_)
  exact W.ret (ret_cell rfl rfl (ldA ag24 sz24 hs4 (by first | exact m0 | exact m1 | exact m2 | exact m3 | exact m4 | exact m5) (by rw [length_bcells]; exact hw32)) ⟨_, rfl, rfl, hs4.tail.tail⟩)

theorem C100 {a b : List UInt8} (h32 : a.length = 32) (hb : b.length = 32) (hs : Sat G M I w) : Calls Tryz.prog 100 #[aggL (bcells a), aggL (bcells b)] w (Ret fun r w' => r = aggL (bcells (nodeH a b)) ∧ Sat G M I w') := by
  refine enter2 Tryz.func100 rfl Tryz.ntmps100 rfl ?_
  repeat (first | refine W.seq ?_ | refine W.region ?_)
  refine RL.e rfl rfl rfl (EF_boxA rfl rfl hs) ?_
  rintro r1 w1 ⟨b2, rfl, hs1⟩
  refine RL.e rfl rfl rfl (EF_boxA rfl rfl hs1) ?_
  rintro r2 w2 ⟨b3, rfl, hs2⟩
  refine RL.e rfl rfl rfl (EF_allocA rfl zr24 hs2) ?_
  rintro r3 w3 ⟨b4, rfl, hs3⟩
  refine RL.done (nxt ?_)
  repeat (first | refine W.seq ?_ | refine W.region ?_)
  refine W.drawsH hs3 [(1, true), (3, true), (0, false), (2, false), (4, false), (5, false), (6, false)] mixed (by kernel_rfl) (by kernel_rfl) ?_
  have hs4 := hs3.drew
  refine TW.p rfl rfl rfl rfl (PV_sliceArr rfl Tryz.underlying24 rfl sz5) (hs4) ?_
  refine TW.p rfl rfl rfl rfl (PV_sliceArr rfl Tryz.underlying24 rfl sz5) (hs4) ?_
  refine TW.e rfl rfl rfl rfl (EF_bs1c rfl el60 rfl rfl hs4) ?_
  rintro r5 w5 ⟨b5, rfl, hs5⟩
  refine ⟨(hs5.tail), ?_⟩
  refine TW.e rfl rfl rfl rfl (EF_append (l := 1) (olds := bcells [3]) rfl el60 rfl rfl (OwnS.lit (m := 1) rfl) rfl (rdW (m := 32) hs5 m3 (by rw [length_bcells, h32]; rfl) (Nat.le_refl _)) (one1_bcells _) (by omega) (by decide) hs5) ?_
  rintro r6 w6 ⟨L6, ho6, hs6⟩
  refine ⟨(hs6.drop), ?_⟩
  refine TW.e rfl rfl rfl rfl (EF_append (l := 33) rfl el60 rfl rfl ho6 (by rw [List.length_append, length_bcells, length_bcells, h32]; rfl) (rdW (m := 32) hs6 (mapp m1) (by rw [length_bcells, hb]; rfl) (Nat.le_refl _)) (one1_bcells _) (by omega) (by decide) hs6) ?_
  rintro r7 w7 ⟨L7, ho7, hs7⟩
  refine ⟨(hs7.drop), ?_⟩
  refine TW.e rfl rfl rfl rfl (K1 rfl fn40 rfl (C40o (l := [3] ++ a ++ b) (by simp [bcells]) ho7 (by simp [h32, hb]) hs7)) ?_
  rintro r8 w8 ⟨rfl, hs8⟩
  refine ⟨(hs8), ?_⟩
  refine TW.en0 rfl rfl rfl (by kernel_rfl) (EF_storeA (cs := zl24) rfl rfl rfl sz24 (by rw [length_bcells]; exact length_sha _) (one1_bcells _) hs8 (by first | exact u0 | exact u1 | exact u2 | exact u3 | exact u4 | exact u5 | exact u0.app | exact u1.app | exact u2.app | exact u3.app)) ?_
  rintro r9 w9 hs9
  refine TW.done (nxt ?_)
  repeat (first | refine W.seq ?_ | refine W.region ?_)
  exact W.ret (ret_cell rfl rfl (ldA ag24 sz24 hs9 (by first | exact m0 | exact m1 | exact m2 | exact m3 | exact m4 | exact m5) (by rw [length_bcells]; exact length_sha _)) ⟨_, rfl, rfl, hs9.tail.tail.tail⟩)

theorem C91 {seed : List UInt8} {lf ch : Nat} (h32 : seed.length = 32) (hs : Sat G M I w) : Calls Tryz.prog 91 #[aggL (bcells seed ++ [.int .i64 (lf : Int)]), .int .i64 (ch : Int)] w (Ret fun r w' => r = aggL (bcells (endH seed lf ch)) ∧ Sat G M I w') := by
  refine enter2 Tryz.func91 rfl Tryz.ntmps91 rfl ?_
  repeat (first | refine W.seq ?_ | refine W.region ?_)
  refine RL.e rfl rfl rfl (EF_boxA rfl rfl hs) ?_
  rintro r1 w1 ⟨b2, rfl, hs1⟩
  refine RL.e rfl rfl rfl (EF_allocA rfl zr24 hs1) ?_
  rintro r2 w2 ⟨b4, rfl, hs2⟩
  refine RL.done (nxt ?_)
  repeat (first | refine W.seq ?_ | refine W.region ?_)
  refine RL.p rfl rfl rfl (by first | exact PV_fieldAddr0 rfl rfl fa177_0 | exact PV_fieldAddr rfl rfl fa177_0) ?_
  refine RL.s rfl rfl rfl (PV_loadMA (r := bcells seed) rfl ag24 sz24 rfl (by first | exact m0 | exact m1 | exact m2 | exact m3 | exact m4 | exact m5 | exact mapp m0 | exact mapp m1 | exact mapp m2 | exact mapp m3 | exact hm | exact .tail _ hm | exact .tail _ (.tail _ hm)) (by simp [length_bcells, h32]) (by simp [part, List.take_append_of_le_length, length_bcells, h32, List.take_of_length_le])) hs2 ?_
  refine RL.p rfl rfl rfl (by first | exact PV_fieldAddr0 rfl rfl fa177_1 | exact PV_fieldAddr rfl rfl fa177_1) ?_
  refine RL.s rfl rfl rfl (PV_loadM1 rfl ag3 rfl m1 (by rw [List.getElem?_append_right (by rw [length_bcells, h32]; exact Nat.le_refl _), length_bcells, h32]; rfl)) hs2 ?_
  refine RL.p rfl rfl rfl (PV_move rfl rfl) ?_
  refine RL.e rfl rfl rfl (K3 rfl fn103 rfl rfl rfl (C103 h32 hs2)) ?_
  rintro r3 w3 ⟨rfl, hs3⟩
  refine RL.p rfl rfl rfl (PV_move rfl rfl) ?_
  refine RL.e rfl rfl rfl (K4 rfl fn102 rfl rfl rfl rfl (C102 (f := 0) (t := 3) (length_sha _) (by omega) (by omega) hs3)) ?_
  rintro r4 w4 ⟨rfl, hs4⟩
  refine RL.e0 rfl rfl (EF_storeA (cs := zl24) rfl rfl rfl sz24 (by rw [length_bcells]; exact length_walkH (length_sha _) ..) (one1_bcells _) hs4 (by first | exact u0 | exact u1 | exact u2 | exact u3 | exact u4 | exact u5 | exact u0.app | exact u1.app | exact u2.app | exact u3.app)) ?_
  rintro r5 w5 hs5
  refine RL.done (nxt ?_)
  repeat (first | refine W.seq ?_ | refine W.region ?_)
  exact W.ret (ret_cell rfl rfl (ldA ag24 sz24 hs5 (by first | exact m0 | exact m1 | exact m2 | exact m3 | exact m4 | exact m5) (by rw [length_bcells]; exact length_walkH (length_sha _) ..)) ⟨_, rfl, rfl, hs5.tail.tail⟩)

theorem C90 {seed : List UInt8} {lf : Nat} (h32 : seed.length = 32) (hs : Sat G M I w) : Calls Tryz.prog 90 #[.func (.func 91) #[aggL (bcells seed ++ [.int .i64 (lf : Int)])] #[]] w (Ret fun r w' => r = aggL (bcells (pubH seed lf)) ∧ Sat G M I w') := by
  refine enter1 Tryz.func90 rfl Tryz.ntmps90 rfl ?_
  repeat (first | refine W.seq ?_ | refine W.region ?_)
  refine RL.e rfl rfl rfl (EF_allocA rfl zr24 hs) ?_
  rintro r1 w1 ⟨b2, rfl, hs1⟩
  refine RL.done (nxt ?_)
  repeat (first | refine W.seq ?_ | refine W.region ?_)
  refine RL.e rfl rfl rfl (EF_bs1c rfl el60 rfl rfl hs1) ?_
  rintro r2 w2 ⟨b6, rfl, hs2⟩
  refine RL.p rfl rfl rfl (PV_assign rfl rfl) ?_
  refine RL.done (nxt ?_)
  repeat (first | refine W.seq ?_ | refine W.region ?_)
  refine RL.p rfl rfl rfl (PV_move rfl rfl) ?_
  refine RL.done (nxt ?_)
  repeat (first | refine W.seq ?_ | refine W.region ?_)
  refine W.block ?_
  repeat (first | refine W.seq ?_ | refine W.region ?_)
  refine W.loop (F := fun z : Nat × Value => [(7, .int .i64 (z.1 : Int)), (3, z.2), (2, ptr b2 0), (0, .func (.func 91) #[aggL (bcells seed ++ [.int .i64 (lf : Int)])] #[])]) (J := fun z w => z.1 ≤ 36 ∧ ∃ L, OwnS 5 1 z.2 (bcells ([2] ++ endsL (endH seed lf) z.1)) L ∧ Sat G (L ++ (b2, zl24, 24) :: M) I w) (m := fun z => 36 - z.1) (0, .slice (some ⟨b6, 0, none⟩) 1 1) (by repeat first | exact Sub.nil | refine Sub.cons rfl ?_) ⟨by omega, [(b6, bcells [2], 5)], by rw [endsL_zero]; exact OwnS.lit (m := 1) rfl, hs2⟩ ?_
  rintro ⟨i, v⟩ w3 ⟨hi, L, ho, hs3⟩
  repeat (first | refine W.seq ?_ | refine W.region ?_)
  refine RL.p rfl rfl rfl (PV_lss rfl rfl rfl) ?_
  refine RL.done (nxt ?_)
  repeat (first | refine W.seq ?_ | refine W.region ?_)
  refine W.cond rfl (fun h1 => ?_) (fun h1 => ?_)
  ·
    dsimp only at hi ho hs3
    have hi1 : i < 36 := by have := of_decide_eq_true h1; omega
    have hle : ∀ c, (endH seed lf c).length = 32 := fun c => length_walkH (length_sha _) ..
    have hll := length_endsL hle i
    refine  W.skip (nxt ?_)
    repeat (first | refine W.seq ?_ | refine W.region ?_)
    refine W.block ?_
    repeat (first | refine W.seq ?_ | refine W.region ?_)
    refine RL.p rfl rfl rfl (PV_move rfl rfl) ?_
    refine RL.p rfl rfl rfl (PV_assign rfl rfl) ?_
    refine RL.done (nxt ?_)
    repeat (first | refine W.seq ?_ | refine W.region ?_)
    refine RL.p rfl rfl rfl (PV_move rfl rfl) ?_
    refine RL.p rfl rfl rfl (PV_move rfl rfl) ?_
    refine RL.e rfl rfl rfl (Kf1 rfl rfl fn91 rfl (C91 h32 hs3)) ?_
    rintro r4 w4 ⟨rfl, hs4⟩
    refine RL.e rfl rfl rfl (EF_allocA rfl zr24 hs4) ?_
    rintro r5 w5 ⟨b5, rfl, hs5⟩
    refine RL.e0 rfl rfl (EF_storeA (cs := zl24) rfl rfl rfl sz24 (by rw [length_bcells, hle]; rfl) (one1_bcells _) hs5 (by first | exact u0 | exact u1 | exact u2 | exact u3 | exact u4 | exact u5 | exact u0.app | exact u1.app | exact u2.app | exact u3.app)) ?_
    rintro r6 w6 hs6
    refine RL.done (nxt ?_)
    repeat (first | refine W.seq ?_ | refine W.region ?_)
    refine RL.p rfl rfl rfl (PV_move rfl rfl) ?_
    refine RL.p rfl rfl rfl (PV_sliceArr rfl Tryz.underlying24 rfl sz5) ?_
    refine RL.e rfl rfl rfl (EF_append (l := 1 + 32 * i) rfl el60 rfl rfl ho (by rw [length_bcells, List.length_append, hll]; exact (Nat.mul_one _).symm) (rdW (m := 32) hs6 m0 (by rw [length_bcells, hle]; rfl) (Nat.le_refl _)) (one1_bcells _) (by omega) (by decide) hs6.mid) ?_
    rintro r7 w7 ⟨L7, ho7, hs7⟩
    refine RL.p rfl rfl rfl (PV_assign rfl rfl) ?_
    refine RL.done (nxt ?_)
    repeat (first | refine W.seq ?_ | refine W.region ?_)
    refine RL.p rfl rfl rfl (PV_add rfl rfl rfl (by omega)) ?_
    refine RL.p rfl rfl rfl (PV_move rfl rfl) ?_
    refine RL.done (round_end (i + 1, r7) ?_ ?_ ?_)
    · repeat first | exact Sub.nil | refine Sub.cons rfl ?_
    · exact ⟨by dsimp only; omega, L7, by rw [endsL_succ, ← List.append_assoc, bcells_append]; exact ho7, hs7.del x0.app⟩
    · first | omega | (dsimp only; omega)
  repeat (first | refine W.seq ?_ | refine W.region ?_)
  refine  W.exit (nxt ?_)
  obtain rfl : i = 36 := by have := of_decide_eq_false h1; dsimp only at hi; omega
  repeat (first | refine W.seq ?_ | refine W.region ?_)
  refine RL.p rfl rfl rfl (PV_move rfl rfl) ?_
  refine RL.e rfl rfl rfl (K1 rfl fn40 rfl (C40o (l := [2] ++ endsL (endH seed lf) 36) rfl ho (by rw [List.length_append, length_endsL (f := endH seed lf) (fun c => length_walkH (length_sha _) ..)]; decide) hs3)) ?_
  rintro r4 w4 ⟨rfl, hs4⟩
  refine RL.e0 rfl rfl (EF_storeA (cs := zl24) rfl rfl rfl sz24 (by rw [length_bcells]; exact length_sha _) (one1_bcells _) hs4 (by first | exact u0 | exact u1 | exact u2 | exact u3 | exact u4 | exact u5 | exact u0.app | exact u1.app | exact u2.app | exact u3.app)) ?_
  rintro r5 w5 hs5
  refine RL.done (nxt ?_)
  repeat (first | refine W.seq ?_ | refine W.region ?_)
  exact W.ret (ret_cell rfl rfl (ldA ag24 sz24 hs5 (by first | exact m0 | exact m1 | exact m2 | exact m3 | exact m4 | exact m5) (by rw [length_bcells]; exact length_sha _)) ⟨_, rfl, rfl, hs5.tail⟩)

theorem C47 {seed : List UInt8} {lf : Nat} (h32 : seed.length = 32) (hs : Sat G M I w) : Calls Tryz.prog 47 #[aggL (bcells seed), .int .i64 (lf : Int)] w (Ret fun r w' => r = aggL (bcells (pubH seed lf)) ∧ Sat G M I w') := by
  refine enter2 Tryz.func47 rfl Tryz.ntmps47 rfl ?_
  repeat (first | refine W.seq ?_ | refine W.region ?_)
  refine RL.e rfl rfl rfl (EF_boxA rfl rfl hs) ?_
  rintro r1 w1 ⟨b2, rfl, hs1⟩
  refine RL.e rfl rfl rfl (EF_allocA rfl zr24 hs1) ?_
  rintro r2 w2 ⟨b4, rfl, hs2⟩
  refine RL.done (nxt ?_)
  repeat (first | refine W.seq ?_ | refine W.region ?_)
  refine RL.s rfl rfl rfl (PV_loadMA rfl ag24 sz24 rfl (by first | exact m0 | exact m1 | exact m2 | exact m3 | exact m4 | exact m5 | exact mapp m0 | exact mapp m1 | exact mapp m2 | exact mapp m3 | exact hm | exact .tail _ hm | exact .tail _ (.tail _ hm)) (by rw [length_bcells, h32]; decide) (part_whole (by rw [length_bcells, h32]))) hs2 ?_
  refine RL.p rfl rfl rfl (PV_move rfl rfl) ?_
  refine RL.p rfl rfl rfl (PV_buildS (cs := bcells seed ++ [.int .i64 (lf : Int)]) rfl pl177 zr177 rfl (fill177 h32)) ?_
  refine RL.p rfl rfl rfl (PV_makeFunc1 rfl rfl) ?_
  refine RL.e rfl rfl rfl (K1 rfl fn90 rfl (C90 h32 hs2)) ?_
  rintro r3 w3 ⟨rfl, hs3⟩
  refine RL.e0 rfl rfl (EF_storeA (cs := zl24) rfl rfl rfl sz24 (by rw [length_bcells]; exact length_sha _) (one1_bcells _) hs3 (by first | exact u0 | exact u1 | exact u2 | exact u3 | exact u4 | exact u5 | exact u0.app | exact u1.app | exact u2.app | exact u3.app)) ?_
  rintro r4 w4 hs4
  refine RL.done (nxt ?_)
  repeat (first | refine W.seq ?_ | refine W.region ?_)
  exact W.ret (ret_cell rfl rfl (ldA ag24 sz24 hs4 (by first | exact m0 | exact m1 | exact m2 | exact m3 | exact m4 | exact m5) (by rw [length_bcells]; exact length_sha _)) ⟨_, rfl, rfl, hs4.tail.tail⟩)

end Go.Proofs.YtecbpmgfikgoaaaGreatDoor
end
section
set_option linter.unusedVariables false
set_option linter.unusedSimpArgs false
set_option maxRecDepth 8000
set_option maxHeartbeats 4000000
namespace Go.Proofs.YtecbpmgfikgoaaaGreatDoor
open Go Go.RowKit
variable {G w : World} {M : List Chunk} {I : Imm}

section
variable {P : Program} {n : Nat} {E : List (Nat × Value)} {S : World → Prop} {o : Oper}
theorem PV_i64_shl {T T' : TypeId} {x y : Operand} {p q r : Int} {j : Nat} {k : IntKind} (ho : o.op = .binOp .shl T x y T') (hx : ev E x = some (.int .i64 p)) (hy : ev E y = some (.int k q)) (hq : q = (j : Int)) (hj : j < 64) (hr : p * 2 ^ j = r) (hb : -9223372036854775808 ≤ r ∧ r ≤ 9223372036854775807) : PV P n o E S (.int .i64 r) := .of fun a ha w => by
  subst hq
  have hb' : IntKind.i64.bits = 64 := rfl
  have h0 : ¬ ((j : Int) < 0) := by omega
  have hmin : min ((j : Int).toNat) 64 = j := by simp; omega
  have hr' : IntKind.i64.wrap (p * 2 ^ j) = r := by rw [hr]; exact IntWalk.i64_in _ hb
  simp only [execOp, ho, ha.ev hx, ha.ev hy, eqGuard, binOp, Op.shift, hb', h0, hmin, hr', if_false, Sem.run_bind, Sem.run_pure, Result.andThen_ok]
  simp
theorem PV_conv_u8_i64 {T T' : TypeId} {x : Operand} {p : UInt8} (ho : o.op = .convert T T' x) (hs : P.underlying T = some (.int .u8)) (hd : P.underlying T' = some (.int .i64)) (hx : ev E x = some (u8v p)) : PV P n o E S (.int .i64 (p.toNat : Int)) := by
  have := PV_conv (P := P) (n := n) (S := S) ho hs hd hx
  have h := p.toNat_lt
  rwa [IntWalk.i64_in _ (by omega)] at this
end
def lenOf (x : Nat) : Nat := if x = 1 then 1 else if x = 3 then 2 else if x = 7 then 3 else 4
def rootH : Nat → List UInt8 → List UInt8
  | 0, l => l
  | k + 1, l => nodeH (rootH k (l.take (32 * 2 ^ k))) (rootH k (l.drop (32 * 2 ^ k)))
theorem length_rootH (k : Nat) (l : List UInt8) (h : l.length = 32 * 2 ^ k) : (rootH k l).length = 32 := by
  cases k with
  | zero => simpa [rootH] using h
  | succ k => exact length_sha _

theorem C159 {x : Nat} (hx : x = 1 ∨ x = 3 ∨ x = 7 ∨ x = 15) (hs : Sat G M I w) : Calls Tryz.prog 159 #[.int .u64 (x : Int)] w (Ret fun r w' => r = .int .i64 (lenOf x : Int) ∧ Sat G M I w') := by
  refine enter1 Tryz.func159 rfl Tryz.ntmps159 rfl ?_
  repeat (first | refine W.seq ?_ | refine W.region ?_)
  refine RL.p rfl rfl rfl (PV_assign rfl rfl) ?_
  refine RL.done (nxt ?_)
  repeat (first | refine W.seq ?_ | refine W.region ?_)
  refine RL.p rfl rfl rfl (PV_move rfl rfl) ?_
  refine RL.p rfl rfl rfl (PV_geq rfl rfl rfl) ?_
  refine RL.done (nxt ?_)
  repeat (first | refine W.seq ?_ | refine W.region ?_)
  refine W.cond rfl (fun h1 => ?_) (fun h1 => ?_)
  · exact absurd (of_decide_eq_true h1) (by omega)
  refine W.skip (nxt ?_)
  repeat (first | refine W.seq ?_ | refine W.region ?_)
  refine RL.p rfl rfl rfl (PV_move rfl rfl) ?_
  refine RL.p rfl rfl rfl (PV_geq rfl rfl rfl) ?_
  refine RL.done (nxt ?_)
  repeat (first | refine W.seq ?_ | refine W.region ?_)
  refine W.cond rfl (fun h2 => ?_) (fun h2 => ?_)
  · exact absurd (of_decide_eq_true h2) (by omega)
  refine W.skip (nxt ?_)
  repeat (first | refine W.seq ?_ | refine W.region ?_)
  refine RL.p rfl rfl rfl (PV_move rfl rfl) ?_
  refine RL.p rfl rfl rfl (PV_geq rfl rfl rfl) ?_
  refine RL.done (nxt ?_)
  repeat (first | refine W.seq ?_ | refine W.region ?_)
  refine W.cond rfl (fun h3 => ?_) (fun h3 => ?_)
  · exact absurd (of_decide_eq_true h3) (by omega)
  refine W.skip (nxt ?_)
  repeat (first | refine W.seq ?_ | refine W.region ?_)
  refine RL.p rfl rfl rfl (PV_move rfl rfl) ?_
  refine RL.p rfl rfl rfl (PV_move rfl rfl) ?_
  refine RL.p rfl rfl rfl (PV_conv_u64_u8 rfl Tryz.underlying161 Tryz.underlying5 rfl rfl) ?_
  refine RL.p rfl rfl rfl (PV_indexs x (b := UInt8.ofNat (lenOf x)) rfl Tryz.underlying9 rfl rfl (by rcases hx with rfl | rfl | rfl | rfl <;> rfl) (by rcases hx with rfl | rfl | rfl | rfl <;> rfl)) ?_
  refine RL.p rfl rfl rfl (PV_conv_u8_i64 rfl Tryz.underlying5 Tryz.underlying3 rfl) ?_
  refine RL.p rfl rfl rfl (PV_add rfl rfl rfl (by rcases hx with rfl | rfl | rfl | rfl <;> decide)) ?_
  refine RL.p rfl rfl rfl (PV_assign rfl rfl) ?_
  refine RL.done (nxt ?_)
  repeat (first | refine W.seq ?_ | refine W.region ?_)
  exact W.ret (ret_tmp rfl rfl ⟨_, rfl, (by rcases hx with rfl | rfl | rfl | rfl <;> rfl), hs⟩)

theorem C137 {x : Nat} (hx : x = 1 ∨ x = 3 ∨ x = 7 ∨ x = 15) (hs : Sat G M I w) : Calls Tryz.prog 137 #[.int .u64 (x : Int)] w (Ret fun r w' => r = .int .i64 (lenOf x : Int) ∧ Sat G M I w') := by
  refine enter1 Tryz.func137 rfl Tryz.ntmps137 rfl ?_
  repeat (first | refine W.seq ?_ | refine W.region ?_)
  refine RL.p rfl rfl rfl (PV_assign rfl rfl) ?_
  refine RL.done (nxt ?_)
  repeat (first | refine W.seq ?_ | refine W.region ?_)
  refine W.cond rfl (fun h1 => ?_) (fun h1 => ?_)
  · cases h1
  refine W.skip (nxt ?_)
  repeat (first | refine W.seq ?_ | refine W.region ?_)
  refine RL.p rfl rfl rfl (PV_move rfl rfl) ?_
  refine RL.e rfl rfl rfl (K1 rfl fn159 rfl (C159 hx hs)) ?_
  rintro r1 w1 ⟨rfl, hs1⟩
  refine RL.p rfl rfl rfl (PV_assign rfl rfl) ?_
  refine RL.done (nxt ?_)
  repeat (first | refine W.seq ?_ | refine W.region ?_)
  exact W.ret (ret_tmp rfl rfl ⟨_, rfl, rfl, hs1⟩)

theorem C99 {k : Nat} (hk : k < 4) (hs : Sat G M I w) : Calls Tryz.prog 99 #[.int .i64 ((2 ^ (k + 1) : Nat) : Int)] w (Ret fun r w' => r = .int .i64 ((2 ^ k : Nat) : Int) ∧ Sat G M I w') := by
  refine enter1 Tryz.func99 rfl Tryz.ntmps99 rfl ?_
  repeat (first | refine W.seq ?_ | refine W.region ?_)
  refine RL.p rfl rfl rfl (PV_assign rfl rfl) ?_
  refine RL.done (nxt ?_)
  repeat (first | refine W.seq ?_ | refine W.region ?_)
  refine RL.p rfl rfl rfl (PV_move rfl rfl) ?_
  refine RL.p rfl rfl rfl (PV_sub rfl rfl rfl (by rcases (show k = 0 ∨ k = 1 ∨ k = 2 ∨ k = 3 by omega) with rfl | rfl | rfl | rfl <;> decide)) ?_
  refine RL.p rfl rfl rfl (PV_conv_i64_u64 (m := 2 ^ (k + 1) - 1) rfl Tryz.underlying3 Tryz.underlying113 rfl (by rcases (show k = 0 ∨ k = 1 ∨ k = 2 ∨ k = 3 by omega) with rfl | rfl | rfl | rfl <;> rfl) (by rcases (show k = 0 ∨ k = 1 ∨ k = 2 ∨ k = 3 by omega) with rfl | rfl | rfl | rfl <;> decide)) ?_
  refine RL.e rfl rfl rfl (K1 rfl fn137 rfl (C137 (by rcases (show k = 0 ∨ k = 1 ∨ k = 2 ∨ k = 3 by omega) with rfl | rfl | rfl | rfl <;> decide) hs)) ?_
  rintro r1 w1 ⟨rfl, hs1⟩
  refine RL.p rfl rfl rfl (PV_sub rfl rfl rfl (by rcases (show k = 0 ∨ k = 1 ∨ k = 2 ∨ k = 3 by omega) with rfl | rfl | rfl | rfl <;> decide)) ?_
  refine RL.p rfl rfl rfl (PV_i64_shl (j := k) (r := ((2 ^ k : Nat) : Int)) rfl rfl rfl (by rcases (show k = 0 ∨ k = 1 ∨ k = 2 ∨ k = 3 by omega) with rfl | rfl | rfl | rfl <;> rfl) (by omega) (by rcases (show k = 0 ∨ k = 1 ∨ k = 2 ∨ k = 3 by omega) with rfl | rfl | rfl | rfl <;> rfl) (by rcases (show k = 0 ∨ k = 1 ∨ k = 2 ∨ k = 3 by omega) with rfl | rfl | rfl | rfl <;> decide)) ?_
  refine RL.p rfl rfl rfl (PV_assign rfl rfl) ?_
  refine RL.done (nxt ?_)
  repeat (first | refine W.seq ?_ | refine W.region ?_)
  exact W.ret (ret_tmp rfl rfl ⟨_, rfl, rfl, hs1⟩)

end Go.Proofs.YtecbpmgfikgoaaaGreatDoor
end
section
set_option linter.unusedVariables false
set_option linter.unusedSimpArgs false
set_option maxRecDepth 8000
set_option maxHeartbeats 4000000
namespace Go.Proofs.YtecbpmgfikgoaaaGreatDoor
open Go Go.RowKit
variable {G w : World} {M : List Chunk} {I : Imm}

theorem SlB2.lo {bb off c N m : Nat} {l : List UInt8} (hv : SlI I 32 (.slice (some ⟨bb, off, none⟩) N c) N (bcells l)) (hm : m ≤ N) : SlI I 32 (.slice (some ⟨bb, if c = 0 then off else off + 0 * 32, none⟩) (m - 0) (c - 0)) m (bcells (l.take (32 * m))) := by
  have := hv.slice (p := 0) (r := m) (Nat.zero_le _) hm
  rw [show ((bcells l).drop (0 * 32)).take ((m - 0) * 32) = bcells (l.take (32 * m)) by simp [bcells, Nat.mul_comm]] at this
  exact this
theorem SlB2.hi {bb off c N m : Nat} {l : List UInt8} (hv : SlI I 32 (.slice (some ⟨bb, off, none⟩) N c) N (bcells l)) (hm : N = m + m) : SlI I 32 (.slice (some ⟨bb, if c = m then off else off + m * 32, none⟩) (N - m) (c - m)) m (bcells (l.drop (32 * m))) := by
  have := hv.slice (p := m) (r := N) (by omega) (Nat.le_refl _)
  have hl : (bcells l).length = N * 32 := hv.1
  rw [length_bcells] at hl
  rw [show ((bcells l).drop (m * 32)).take ((N - m) * 32) = bcells (l.drop (32 * m)) by
    rw [List.take_of_length_le (by rw [List.length_drop, length_bcells, hl]; omega)]
    simp [bcells, Nat.mul_comm]] at this
  have h2 : N - m = m := by omega
  rw [h2] at this ⊢
  exact this

theorem C59s {k N : Nat} {v : Value} {l : List UInt8} (hk : k ≤ 4) (hN : N = 2 ^ k) (ih : ∀ j, k = j + 1 → ∀ (v : Value) (l : List UInt8) (M : List Chunk) (w : World), SlI I 32 v (2 ^ j) (bcells l) → Sat G M I w → Calls Tryz.prog 59 #[v] w (Ret fun r w' => r = aggL (bcells (rootH j l)) ∧ Sat G M I w')) (hv : SlI I 32 v N (bcells l)) (hs : Sat G M I w) : Calls Tryz.prog 59 #[v] w (Ret fun r w' => r = aggL (bcells (rootH k l)) ∧ Sat G M I w') := by
  have hNp : 0 < N := by rw [hN]; exact Nat.pow_pos (by decide)
  have hll : l.length = N * 32 := by have := hv.1; rwa [length_bcells] at this
  obtain ⟨bb, off, c, rfl, hc, hmem⟩ := hv.mem hNp
  refine enter1 Tryz.func59 rfl Tryz.ntmps59 rfl ?_
  repeat (first | refine W.seq ?_ | refine W.region ?_)
  refine RL.e rfl rfl rfl (EF_allocA rfl zr24 hs) ?_
  rintro r1 w1 ⟨b2, rfl, hs1⟩
  refine RL.done (nxt ?_)
  repeat (first | refine W.seq ?_ | refine W.region ?_)
  refine RL.p rfl rfl rfl (PV_move rfl rfl) ?_
  refine RL.p rfl rfl rfl (PV_len rfl Tryz.underlying37 rfl) ?_
  refine RL.done (nxt ?_)
  repeat (first | refine W.seq ?_ | refine W.region ?_)
  refine W.block ?_
  repeat (first | refine W.seq ?_ | refine W.region ?_)
  refine RL.p rfl rfl rfl (PV_eqi rfl rfl rfl) ?_
  refine RL.p rfl rfl rfl (PV_assign rfl rfl) ?_
  refine RL.done (nxt ?_)
  repeat (first | refine W.seq ?_ | refine W.region ?_)
  refine W.cond rfl (fun h1 => ?_) (fun h1 => ?_)
  · exact absurd (of_decide_eq_true h1) (by omega)
  repeat (first | refine W.seq ?_ | refine W.region ?_)
  refine RL.p rfl rfl rfl (PV_eqi rfl rfl rfl) ?_
  refine RL.p rfl rfl rfl (PV_assign rfl rfl) ?_
  refine RL.done (nxt ?_)
  repeat (first | refine W.seq ?_ | refine W.region ?_)
  refine W.cond rfl (fun h2 => ?_) (fun h2 => ?_)
  ·
    repeat (first | refine W.seq ?_ | refine W.region ?_)
    obtain rfl : k = 0 := by
      cases k with
      | zero => rfl
      | succ k => have h1 := of_decide_eq_true h2; have h3 : 1 < 2 ^ (k + 1) := Nat.one_lt_two_pow (by omega); omega
    obtain rfl : N = 1 := by simpa using hN
    refine RL.p rfl rfl rfl (PV_move rfl rfl) ?_
    refine RL.p rfl rfl rfl (PV_indexAddr (i := 0) rfl Tryz.underlying37 sz24 rfl rfl rfl (by omega)) ?_
    refine RL.s rfl rfl rfl (PV_loadMemA (j := 0 * 32) rfl ag24 sz24 rfl (fun _ h => h) (hmem _ _) (by simp [length_bcells, hll]) (part_whole (by simp [length_bcells, hll]))) hs1 ?_
    refine RL.e0 rfl rfl (EF_storeA (cs := zl24) rfl rfl rfl sz24 (by rw [length_bcells, hll]; rfl) (one1_bcells _) hs1 (by first | exact u0 | exact u1 | exact u2 | exact u3 | exact u4 | exact u5 | exact u0.app | exact u1.app | exact u2.app | exact u3.app)) ?_
    rintro r2 w2 hs2
    refine RL.done (nxt ?_)
    repeat (first | refine W.seq ?_ | refine W.region ?_)
    exact W.ret (ret_cell rfl rfl (ldA ag24 sz24 hs2 (by first | exact m0 | exact m1 | exact m2 | exact m3 | exact m4 | exact m5) (by rw [length_bcells]; exact hll)) ⟨_, rfl, rfl, hs2.tail⟩)
  obtain ⟨j, rfl⟩ : ∃ j, k = j + 1 := by
    cases k with
    | zero => exact absurd (of_decide_eq_false h2) (by subst hN; simp)
    | succ j => exact ⟨j, rfl⟩
  subst hN
  have hN2 : 2 ^ (j + 1) = 2 ^ j + 2 ^ j := by rw [Nat.pow_succ]; omega
  refine  W.skip (nxt ?_)
  repeat (first | refine W.seq ?_ | refine W.region ?_)
  refine RL.p rfl rfl rfl (PV_move rfl rfl) ?_
  refine RL.p rfl rfl rfl (PV_len rfl Tryz.underlying37 rfl) ?_
  refine RL.e rfl rfl rfl (K1 rfl fn99 rfl (C99 (k := j) (by omega) hs1)) ?_
  rintro r2 w2 ⟨rfl, hs2⟩
  refine RL.p rfl rfl rfl (PV_assign rfl rfl) ?_
  refine RL.done (nxt ?_)
  repeat (first | refine W.seq ?_ | refine W.region ?_)
  refine W.drawsH hs2 [(0, true), (1, true), (2, true), (4, true), (5, true), (6, true), (3, false), (7, false), (8, false), (9, false)] mixed (by kernel_rfl) (by kernel_rfl) ?_
  have hs3 := hs2.drew
  refine TW.p rfl rfl rfl rfl (PV_move rfl rfl) hs3 ?_
  refine TW.p rfl rfl rfl rfl (PV_move rfl rfl) hs3 ?_
  refine TW.p rfl rfl rfl rfl (PV_sliceSl (p := 0) (r := 2 ^ j) rfl Tryz.underlying37 sz24 rfl (.inl ⟨rfl, rfl⟩) (.inr ⟨_, rfl, _, _, rfl, rfl⟩) (Nat.zero_le _) (by omega)) hs3 ?_
  refine TW.p rfl rfl rfl rfl (PV_move rfl rfl) hs3 ?_
  refine TW.p rfl rfl rfl rfl (PV_move rfl rfl) hs3 ?_
  refine TW.p rfl rfl rfl rfl (PV_sliceSl (p := 2 ^ j) (r := 2 ^ (j + 1)) rfl Tryz.underlying37 sz24 rfl (.inr ⟨_, rfl, _, _, rfl, rfl⟩) (.inl ⟨rfl, rfl⟩) (by omega) hc) hs3 ?_
  refine TW.e rfl rfl rfl rfl (K1 rfl fn59 rfl (ih j rfl _ (l.take (32 * 2 ^ j)) _ _ (SlB2.lo hv (by omega)) hs3)) ?_
  rintro r4 w4 ⟨rfl, hs4⟩
  refine ⟨hs4, ?_⟩
  refine TW.e rfl rfl rfl rfl (K1 rfl fn59 rfl (ih j rfl _ (l.drop (32 * 2 ^ j)) _ _ (SlB2.hi hv hN2) hs4)) ?_
  rintro r5 w5 ⟨rfl, hs5⟩
  refine ⟨hs5, ?_⟩
  refine TW.e rfl rfl rfl rfl (K2 rfl fn100 rfl rfl (C100 (length_rootH _ _ (by rw [List.length_take, hll]; omega)) (length_rootH _ _ (by rw [List.length_drop, hll]; omega)) hs5)) ?_
  rintro r6 w6 ⟨rfl, hs6⟩
  refine ⟨hs6, ?_⟩
  refine TW.en0 rfl rfl rfl (by kernel_rfl) (EF_storeA (cs := zl24) rfl rfl rfl sz24 (by rw [length_bcells]; exact length_sha _) (one1_bcells _) hs6 (by first | exact u0 | exact u1 | exact u2 | exact u3 | exact u4 | exact u5 | exact u0.app | exact u1.app | exact u2.app | exact u3.app)) ?_
  rintro r7 w7 hs7
  refine TW.done (nxt ?_)
  repeat (first | refine W.seq ?_ | refine W.region ?_)
  exact W.ret (ret_cell rfl rfl (ldA ag24 sz24 hs7 (by first | exact m0 | exact m1 | exact m2 | exact m3 | exact m4 | exact m5) (by rw [length_bcells]; exact length_sha _)) ⟨_, rfl, rfl, hs7.tail⟩)

theorem C59 : ∀ (k : Nat), k ≤ 4 → ∀ (v : Value) (l : List UInt8) (M : List Chunk) (w : World), SlI I 32 v (2 ^ k) (bcells l) → Sat G M I w → Calls Tryz.prog 59 #[v] w (Ret fun r w' => r = aggL (bcells (rootH k l)) ∧ Sat G M I w')
  | 0, hk, v, l, M, w, hv, hs => C59s hk rfl (fun j hj => by omega) hv hs
  | k + 1, hk, v, l, M, w, hv, hs => C59s hk rfl (fun j hj => by
      obtain rfl : k = j := by omega
      exact C59 k (by omega)) hv hs

end Go.Proofs.YtecbpmgfikgoaaaGreatDoor
end
section
set_option linter.unusedVariables false
set_option linter.unusedSimpArgs false
set_option maxRecDepth 8000
set_option maxHeartbeats 4000000
namespace Go.Proofs.YtecbpmgfikgoaaaGreatDoor
open Go Go.RowKit
variable {G w : World} {M : List Chunk} {I : Imm}

def kcells (seed : List UInt8) (lv : Value) (u : Nat) : List Value := bcells seed ++ [lv, .int .i64 (u : Int)]
theorem length_kcells {seed : List UInt8} {lv : Value} {u : Nat} (h : seed.length = 32) : (kcells seed lv u).length = 34 := by simp [kcells, length_bcells, h]
theorem kc_seed {seed : List UInt8} {lv : Value} {u : Nat} (h : seed.length = 32) : part (kcells seed lv u) 0 32 = bcells seed := by
  simp only [part, List.drop_zero, kcells]
  rw [List.take_append_of_le_length (by rw [length_bcells, h]; exact Nat.le_refl _), List.take_of_length_le (by rw [length_bcells, h]; exact Nat.le_refl _)]
theorem kc_32 {seed : List UInt8} {lv : Value} {u : Nat} (h : seed.length = 32) : (kcells seed lv u)[32]? = some lv := by
  rw [kcells, List.getElem?_append_right (by rw [length_bcells, h]; exact Nat.le_refl _), length_bcells, h]
  rfl
theorem kc_33 {seed : List UInt8} {lv : Value} {u : Nat} (h : seed.length = 32) : (kcells seed lv u)[33]? = some (.int .i64 (u : Int)) := by
  rw [kcells, List.getElem?_append_right (by rw [length_bcells, h]; omega), length_bcells, h]
  rfl
theorem kc_set32 {seed : List UInt8} {lv lv' : Value} {u : Nat} (h : seed.length = 32) : (kcells seed lv u).set 32 lv' = kcells seed lv' u := by
  rw [kcells, List.set_append_right _ _ (by rw [length_bcells, h]; exact Nat.le_refl _), length_bcells, h]
  rfl
theorem kc_set33 {seed : List UInt8} {lv : Value} {u u' : Nat} (h : seed.length = 32) : (kcells seed lv u).set 33 (.int .i64 (u' : Int)) = kcells seed lv u' := by
  rw [kcells, List.set_append_right _ _ (by rw [length_bcells, h]; omega), length_bcells, h]
  rfl
theorem fill112 {h : List UInt8} {n : Nat} (h32 : h.length = 32) : fillL [(0, 32), (32, 1), (33, 1)] zl112 ([(0, aggL (bcells h)), (2, Value.int .i64 (n : Int))].map fun x => (x.1, x.2.cells.toList)) = some (kcells h (.slice none 0 0) n) := by
  have h1 : (aggL (bcells h)).cells.toList = bcells h := cells_aggL _
  have h2 : (Value.int .i64 (n : Int)).cells.toList = [.int .i64 (n : Int)] := rfl
  have h3 : (bcells h).length = 32 := by rw [length_bcells, h32]
  have h4 : splice zl112 0 (bcells h) = bcells h ++ [.slice none 0 0, .int .i64 0] := splice_front (a := List.replicate 32 (.int .u8 0)) (n := 32) rfl h3
  simp only [List.map_cons, List.map_nil, fillL, h1, h2, List.getElem?_cons_zero, List.getElem?_cons_succ, h3, h4]
  rw [if_pos ⟨trivial, by decide⟩, if_pos ⟨rfl, by simp [h3]⟩]
  simp only [kcells, splice, List.length_cons, List.length_nil]
  congr 1
  rw [List.take_append, List.drop_append, h3]
  simp [List.take_of_length_le, h3]
attribute [irreducible] kcells
/-- A key's leaves. -/
def leavesH (seed : List UInt8) : List UInt8 := endsL (pubH seed) 16
theorem length_leavesH (seed : List UInt8) : (leavesH seed).length = 512 := length_endsL (f := pubH seed) (fun c => length_sha _) 16
def keyH (seed : List UInt8) : List UInt8 := namedH (rootH 4 (leavesH seed))

theorem C32 {kb u : Nat} {seed : List UInt8} {lv : Value} (h32 : seed.length = 32) (hm : (kb, kcells seed lv u, 112) ∈ M) (hs : Sat G M I w) : Calls Tryz.prog 32 #[ptr kb 0] w (Ret fun r w' => r = .int .i64 (u : Int) ∧ Sat G M I w') := by
  refine enter1 Tryz.func32 rfl Tryz.ntmps32 rfl ?_
  repeat (first | refine W.seq ?_ | refine W.region ?_)
  refine RL.p rfl rfl rfl (PV_assign rfl rfl) ?_
  refine RL.done (nxt ?_)
  repeat (first | refine W.seq ?_ | refine W.region ?_)
  refine RL.p rfl rfl rfl (PV_move rfl rfl) ?_
  refine RL.p rfl rfl rfl (PV_eqnil rfl Tryz.underlying75 rfl rfl) ?_
  refine RL.done (nxt ?_)
  repeat (first | refine W.seq ?_ | refine W.region ?_)
  refine W.cond rfl (fun h1 => ?_) (fun h1 => ?_)
  · cases h1
  refine W.skip (nxt ?_)
  repeat (first | refine W.seq ?_ | refine W.region ?_)
  refine RL.p rfl rfl rfl (PV_move rfl rfl) ?_
  refine RL.p rfl rfl rfl (PV_nilCheckP rfl rfl) ?_
  refine RL.p rfl rfl rfl (by first | exact PV_fieldAddr0 rfl rfl fa112_2 | exact PV_fieldAddr rfl rfl fa112_2) ?_
  refine RL.s rfl rfl rfl (PV_loadM1 rfl ag3 rfl hm (kc_33 h32)) hs ?_
  refine RL.p rfl rfl rfl (PV_assign rfl rfl) ?_
  refine RL.done (nxt ?_)
  repeat (first | refine W.seq ?_ | refine W.region ?_)
  exact W.ret (ret_tmp rfl rfl ⟨_, rfl, rfl, hs⟩)

theorem C35 {kb u : Nat} {seed : List UInt8} {lv : Value} (h32 : seed.length = 32) (hm : (kb, kcells seed lv u, 112) ∈ M) (hv : SlI I 32 lv 16 (bcells (leavesH seed))) (hs : Sat G M I w) : Calls Tryz.prog 35 #[ptr kb 0] w (Ret fun r w' => r = aggL (bcells (keyH seed)) ∧ Sat G M I w') := by
  refine enter1 Tryz.func35 rfl Tryz.ntmps35 rfl ?_
  repeat (first | refine W.seq ?_ | refine W.region ?_)
  refine RL.e rfl rfl rfl (EF_allocA rfl zr24 hs) ?_
  rintro r1 w1 ⟨b2, rfl, hs1⟩
  refine RL.done (nxt ?_)
  repeat (first | refine W.seq ?_ | refine W.region ?_)
  refine RL.p rfl rfl rfl (PV_move rfl rfl) ?_
  refine RL.p rfl rfl rfl (PV_eqnil rfl Tryz.underlying75 rfl rfl) ?_
  refine RL.done (nxt ?_)
  repeat (first | refine W.seq ?_ | refine W.region ?_)
  refine W.cond rfl (fun h1 => ?_) (fun h1 => ?_)
  · cases h1
  refine W.skip (nxt ?_)
  repeat (first | refine W.seq ?_ | refine W.region ?_)
  refine RL.p rfl rfl rfl (PV_move rfl rfl) ?_
  refine RL.p rfl rfl rfl (PV_nilCheckP rfl rfl) ?_
  refine RL.p rfl rfl rfl (by first | exact PV_fieldAddr0 rfl rfl fa112_1 | exact PV_fieldAddr rfl rfl fa112_1) ?_
  refine RL.s rfl rfl rfl (PV_loadM1 rfl ag37 rfl (.tail _ hm) (kc_32 h32)) hs1 ?_
  refine RL.e rfl rfl rfl (K1 rfl fn59 rfl (C59 4 (by decide) _ (leavesH seed) _ _ hv hs1)) ?_
  rintro r2 w2 ⟨rfl, hs2⟩
  refine RL.e rfl rfl rfl (K1 rfl fn58 rfl (C58 (length_rootH 4 _ (length_leavesH seed)) hs2)) ?_
  rintro r3 w3 ⟨rfl, hs3⟩
  refine RL.e0 rfl rfl (EF_storeA (cs := zl24) rfl rfl rfl sz24 (by rw [length_bcells]; exact length_sha _) (one1_bcells _) hs3 (by first | exact u0 | exact u1 | exact u2 | exact u3 | exact u4 | exact u5 | exact u0.app | exact u1.app | exact u2.app | exact u3.app)) ?_
  rintro r4 w4 hs4
  refine RL.done (nxt ?_)
  repeat (first | refine W.seq ?_ | refine W.region ?_)
  exact W.ret (ret_cell rfl rfl (ldA ag24 sz24 hs4 (by first | exact m0 | exact m1 | exact m2 | exact m3 | exact m4 | exact m5) (by rw [length_bcells]; exact length_sha _)) ⟨_, rfl, rfl, hs4.tail⟩)

theorem C22 {seed : List UInt8} (h32 : seed.length = 32) (hs : Sat G M I w) : Calls Tryz.prog 22 #[aggL (bcells seed), .int .i64 0] w (Ret fun r w' => ∃ J kb lv, Le I J ∧ r = ptr kb 0 ∧ SlI J 32 lv 16 (bcells (leavesH seed)) ∧ Sat G ((kb, kcells seed lv 0, 112) :: M) J w') := by
  refine enter2 Tryz.func22 rfl Tryz.ntmps22 rfl ?_
  repeat (first | refine W.seq ?_ | refine W.region ?_)
  refine RL.e rfl rfl rfl (EF_boxA rfl rfl hs) ?_
  rintro r1 w1 ⟨b2, rfl, hs1⟩
  refine RL.p rfl rfl rfl (PV_assign rfl rfl) ?_
  refine RL.done (nxt ?_)
  repeat (first | refine W.seq ?_ | refine W.region ?_)
  refine RL.s rfl rfl rfl (PV_loadMA rfl ag24 sz24 rfl (by first | exact m0 | exact m1 | exact m2 | exact m3 | exact m4 | exact m5 | exact mapp m0 | exact mapp m1 | exact mapp m2 | exact mapp m3 | exact hm | exact .tail _ hm | exact .tail _ (.tail _ hm)) (by rw [length_bcells, h32]; decide) (part_whole (by rw [length_bcells, h32]))) hs1 ?_
  refine RL.p rfl rfl rfl (PV_move rfl rfl) ?_
  refine RL.p rfl rfl rfl (PV_maxE (r := ((0 : Nat) : Int)) rfl rfl rfl rfl) ?_
  refine RL.p rfl rfl rfl (PV_minE (r := ((0 : Nat) : Int)) rfl rfl rfl rfl) ?_
  refine RL.p rfl rfl rfl (PV_buildS rfl pl112 zr112 rfl (fill112 (n := 0) h32)) ?_
  refine RL.e rfl rfl rfl (EF_boxA rfl rfl hs1) ?_
  rintro r2 w2 ⟨b12, rfl, hs2⟩
  refine RL.p rfl rfl rfl (PV_assign rfl rfl) ?_
  refine RL.done (nxt ?_)
  repeat (first | refine W.seq ?_ | refine W.region ?_)
  refine RL.p rfl rfl rfl (PV_move rfl rfl) ?_
  refine RL.done (nxt ?_)
  repeat (first | refine W.seq ?_ | refine W.region ?_)
  refine W.block ?_
  repeat (first | refine W.seq ?_ | refine W.region ?_)
  refine W.loop (F := fun z : Nat × Value => [(13, .int .i64 (z.1 : Int)), (5, ptr b12 0), (2, ptr b2 0)]) (J := fun z w => z.1 ≤ 16 ∧ ∃ L, OwnS 24 32 z.2 (bcells (endsL (pubH seed) z.1)) L ∧ Sat G (L ++ (b12, kcells seed z.2 0, 112) :: (b2, bcells seed, 24) :: M) I w) (m := fun z => 16 - z.1) (0, .slice none 0 0) (by repeat first | exact Sub.nil | refine Sub.cons rfl ?_) ⟨by omega, [], by rw [endsL_zero]; exact OwnS.nil, hs2⟩ ?_
  rintro ⟨i, v⟩ w3 ⟨hi, L, ho, hs3⟩
  repeat (first | refine W.seq ?_ | refine W.region ?_)
  refine RL.p rfl rfl rfl (PV_lss rfl rfl rfl) ?_
  refine RL.done (nxt ?_)
  repeat (first | refine W.seq ?_ | refine W.region ?_)
  refine W.cond rfl (fun h1 => ?_) (fun h1 => ?_)
  ·
    dsimp only at hi ho hs3
    have hi1 : i < 16 := by have := of_decide_eq_true h1; omega
    have hll := length_endsL (f := pubH seed) (fun c => length_sha _) i
    refine  W.skip (nxt ?_)
    repeat (first | refine W.seq ?_ | refine W.region ?_)
    refine W.block ?_
    repeat (first | refine W.seq ?_ | refine W.region ?_)
    refine RL.p rfl rfl rfl (PV_move rfl rfl) ?_
    refine RL.p rfl rfl rfl (PV_assign rfl rfl) ?_
    refine RL.done (nxt ?_)
    repeat (first | refine W.seq ?_ | refine W.region ?_)
    refine W.drawsH hs3.drop [(0, true), (1, true), (2, true), (3, true), (4, true), (5, true), (6, false), (7, false), (8, false), (9, false), (10, false), (11, false), (12, false)] mixed (by kernel_rfl) (by kernel_rfl) ?_
    have hs4 := hs3.drew
    refine TW.p rfl rfl rfl rfl (PV_move rfl rfl) (hs4.drop) ?_
    refine TW.p rfl rfl rfl rfl (PV_move rfl rfl) (hs4.drop) ?_
    refine TW.p rfl rfl rfl rfl (PV_nilCheckP rfl rfl) (hs4.drop) ?_
    refine TW.p rfl rfl rfl rfl (by first | exact PV_fieldAddr0 rfl rfl fa112_1 | exact PV_fieldAddr rfl rfl fa112_1) (hs4.drop) ?_
    refine TW.s rfl rfl rfl rfl (PV_loadM1 rfl ag37 rfl m0 (kc_32 h32)) (hs4.drop) ?_
    refine TW.s rfl rfl rfl rfl (PV_loadMA rfl ag24 sz24 rfl (by first | exact m0 | exact m1 | exact m2 | exact m3 | exact m4 | exact m5 | exact mapp m0 | exact mapp m1 | exact mapp m2 | exact mapp m3 | exact hm | exact .tail _ hm | exact .tail _ (.tail _ hm)) (by rw [length_bcells, h32]; decide) (part_whole (by rw [length_bcells, h32]))) (hs4.drop) ?_
    refine TW.q rfl rfl rfl rfl (T := fun _ => True) (PV_move rfl rfl) trivial (fun _ => (hs4.drop)) ?_
    refine TW.e rfl rfl rfl rfl (K2 rfl fn47 rfl rfl (C47 h32 hs4)) ?_
    rintro r5 w5 ⟨rfl, hs5⟩
    refine ⟨(hs5.drop), ?_⟩
    refine TW.e rfl rfl rfl rfl (EF_bs1a rfl el37 rfl (by rw [length_bcells]; exact length_sha _) (by decide) hs5) ?_
    rintro r6 w6 ⟨b24, rfl, hs6⟩
    refine ⟨(hs6.tail.drop), ?_⟩
    refine TW.e rfl rfl rfl rfl (EF_append (l := i) rfl el37 rfl rfl ho (by rw [length_bcells, hll]; exact Nat.mul_comm _ _) (rdW (m := 1) hs6 m0 (by rw [length_bcells]; exact length_sha _) (Nat.le_refl _)) (one1_bcells _) (by omega) (by decide) hs6.mid) ?_
    rintro r7 w7 ⟨L7, ho7, hs7⟩
    refine ⟨(hs7.drop.tail), ?_⟩
    refine TW.qn rfl rfl rfl rfl (T := fun _ => True) (PV_nilCheckP rfl rfl) trivial (by kernel_rfl) ?_
    refine TW.qn rfl rfl rfl rfl (T := fun _ => True) (by first | exact PV_fieldAddr0 rfl rfl fa112_1 | exact PV_fieldAddr rfl rfl fa112_1) trivial (by kernel_rfl) ?_
    refine TW.en0 rfl rfl rfl (by kernel_rfl) (EF_storeC (cs := kcells seed v 0) rfl rfl rfl sz37 ho7.cell (by rw [length_kcells h32]; decide) (kc_set32 h32) hs7 (by first | exact u0 | exact u1 | exact u2 | exact u3 | exact u4 | exact u5 | exact u0.app | exact u1.app | exact u2.app | exact u3.app)) ?_
    rintro r8 w8 hs8
    refine TW.done (nxt ?_)
    repeat (first | refine W.seq ?_ | refine W.region ?_)
    refine RL.p rfl rfl rfl (PV_add rfl rfl rfl (by omega)) ?_
    refine RL.p rfl rfl rfl (PV_move rfl rfl) ?_
    refine RL.done (round_end (i + 1, r7) ?_ ?_ ?_)
    · repeat first | exact Sub.nil | refine Sub.cons rfl ?_
    · exact ⟨by dsimp only; omega, L7, by rw [endsL_succ, bcells_append]; exact ho7, hs8.del x0.app⟩
    · first | omega | (dsimp only; omega)
  repeat (first | refine W.seq ?_ | refine W.region ?_)
  refine  W.exit (nxt ?_)
  obtain rfl : i = 16 := by have := of_decide_eq_false h1; dsimp only at hi; omega
  repeat (first | refine W.seq ?_ | refine W.region ?_)
  refine RL.p rfl rfl rfl (PV_move rfl rfl) ?_
  refine RL.p rfl rfl rfl (PV_assign rfl rfl) ?_
  refine RL.done (nxt ?_)
  repeat (first | refine W.seq ?_ | refine W.region ?_)
  obtain ⟨J, hj, hv, hs4⟩ := OwnS.freeze (m := 16) ho (by rw [length_bcells]; exact length_leavesH seed) (by decide) hs3
  exact W.ret (ret_tmp rfl rfl ⟨_, rfl, J, b12, v, hj, rfl, hv, hs4.del x1⟩)

end Go.Proofs.YtecbpmgfikgoaaaGreatDoor
end
section
set_option linter.unusedVariables false
set_option linter.unusedSimpArgs false
set_option maxRecDepth 8000
set_option maxHeartbeats 4000000
namespace Go.Proofs.YtecbpmgfikgoaaaGreatDoor
open Go Go.RowKit
variable {G w : World} {M : List Chunk} {I : Imm}

section
variable {P : Program} {n : Nat} {E : List (Nat × Value)} {S : World → Prop} {o : Oper}
theorem PV_subE {T T' : TypeId} {x y : Operand} {p q r : Int} (ho : o.op = .binOp .sub T x y T') (hx : ev E x = some (.int .i64 p)) (hy : ev E y = some (.int .i64 q)) (hr : p - q = r) (hb : -9223372036854775808 ≤ r ∧ r ≤ 9223372036854775807) : PV P n o E S (.int .i64 r) := by subst hr; exact PV_sub ho hx hy hb
theorem PV_addE {T T' : TypeId} {x y : Operand} {p q r : Int} (ho : o.op = .binOp .add T x y T') (hx : ev E x = some (.int .i64 p)) (hy : ev E y = some (.int .i64 q)) (hr : p + q = r) (hb : -9223372036854775808 ≤ r ∧ r ≤ 9223372036854775807) : PV P n o E S (.int .i64 r) := by subst hr; exact PV_add ho hx hy hb
theorem PV_mulE {T T' : TypeId} {x y : Operand} {p q r : Int} (ho : o.op = .binOp .mul T x y T') (hx : ev E x = some (.int .i64 p)) (hy : ev E y = some (.int .i64 q)) (hr : p * q = r) (hb : -9223372036854775808 ≤ r ∧ r ≤ 9223372036854775807) : PV P n o E S (.int .i64 r) := by subst hr; exact PV_mul ho hx hy hb
theorem PV_quoN {T T' : TypeId} {x y : Operand} {p q : Int} {m d : Nat} (ho : o.op = .binOp .quo T x y T') (hx : ev E x = some (.int .i64 p)) (hy : ev E y = some (.int .i64 q)) (hp : p = (m : Int)) (hq : q = (d : Int)) (hd : 0 < d) (hm : m < 9223372036854775808) : PV P n o E S (.int .i64 ((m / d : Nat) : Int)) := .of fun a ha w => by
  subst hp hq
  have h0 : ¬ ((d : Int) = 0) := by omega
  have hle := Nat.div_le_self m d
  have hr : IntKind.i64.wrap ((m : Int).tdiv (d : Int)) = ((m / d : Nat) : Int) := by
    rw [Int.tdiv_eq_ediv_of_nonneg (by omega), ← Int.natCast_ediv]
    generalize m / d = z at *
    exact IntWalk.i64_in _ (by omega)
  simp only [execOp, ho, ha.ev hx, ha.ev hy, eqGuard, binOp, Op.intDiv, h0, hr, if_false, Sem.run_bind, Sem.run_pure, Result.andThen_ok]
  rfl
theorem PV_remN {T T' : TypeId} {x y : Operand} {p q : Int} {m d : Nat} (ho : o.op = .binOp .rem T x y T') (hx : ev E x = some (.int .i64 p)) (hy : ev E y = some (.int .i64 q)) (hp : p = (m : Int)) (hq : q = (d : Int)) (hd : 0 < d) : PV P n o E S (.int .i64 ((m % d : Nat) : Int)) := .of fun a ha w => by
  subst hp hq
  have h0 : ¬ ((d : Int) = 0) := by omega
  have hr : (m : Int).tmod (d : Int) = ((m % d : Nat) : Int) := by
    rw [Int.tmod_eq_emod_of_nonneg (by omega), ← Int.natCast_emod]
  simp only [execOp, ho, ha.ev hx, ha.ev hy, eqGuard, binOp, Op.intDiv, h0, hr, if_false, Sem.run_bind, Sem.run_pure, Result.andThen_ok]
  rfl
theorem PV_shrN {T T' : TypeId} {x y : Operand} {p q : Int} {m j : Nat} {k k' : IntKind} (ho : o.op = .binOp .shr T x y T') (hx : ev E x = some (.int k p)) (hy : ev E y = some (.int k' q)) (hp : p = (m : Int)) (hq : q = (j : Int)) (hj : j < k.bits) : PV P n o E S (.int k ((m / 2 ^ j : Nat) : Int)) := .of fun a ha w => by
  subst hp hq
  have h0 : ¬ ((j : Int) < 0) := by omega
  have hmin : min ((j : Int).toNat) k.bits = j := by simp; omega
  have hr : ((m : Int)).fdiv (2 ^ j) = ((m / 2 ^ j : Nat) : Int) := by
    rw [Int.natCast_ediv, Int.natCast_pow]
    exact Int.fdiv_eq_ediv_of_nonneg _ (Int.le_of_lt (Int.pow_pos (by decide)))
  simp only [execOp, ho, ha.ev hx, ha.ev hy, eqGuard, binOp, Op.shift, h0, hmin, hr, if_false, Sem.run_bind, Sem.run_pure, Result.andThen_ok]
  simp
theorem PV_convN {T T' : TypeId} {x : Operand} {p : Int} {m : Nat} {j : IntKind} {d : TypeDesc} (ho : o.op = .convert T T' x) (hs : P.underlying T = some d) (hd : P.underlying T' = some (.int .i64)) (hx : ev E x = some (.int j p)) (hp : p = (m : Int)) (hm : m < 9223372036854775808) : PV P n o E S (.int .i64 (m : Int)) := by
  subst hp
  have := PV_conv (P := P) (n := n) (S := S) ho hs hd hx
  rwa [IntWalk.i64_in _ (by omega)] at this
theorem PV_and3 {T T' : TypeId} {x y : Operand} {p : Int} {m : Nat} (ho : o.op = .binOp .and T x y T') (hx : ev E x = some (.int .i64 p)) (hy : ev E y = some (.int .i64 3)) (hp : p = (m : Int)) (hm : m < 9223372036854775808) : PV P n o E S (.int .i64 ((m % 4 : Nat) : Int)) := .of fun a ha w => by
  subst hp
  have hr : IntKind.i64.wrap ((BitVec.ofInt 64 (m : Int) &&& BitVec.ofInt 64 3).toNat : Int) = ((m % 4 : Nat) : Int) := by
    have h1 : (BitVec.ofInt 64 (m : Int) &&& BitVec.ofInt 64 3).toNat = m % 4 := by
      rw [BitVec.toNat_and]
      have : (BitVec.ofInt 64 (m : Int)).toNat = m := by
        simp [BitVec.toNat_ofInt]
        omega
      rw [this]
      exact Nat.and_two_pow_sub_one_eq_mod m 2
    rw [h1]
    exact IntWalk.i64_in _ (by omega)
  simp only [execOp, ho, ha.ev hx, ha.ev hy, eqGuard, binOp, Op.intBits, Sem.run_bind, Sem.run_pure, Result.andThen_ok]
  exact congrArg (fun v => (Result.ok (Next.value (Value.int .i64 v)) w : Result Next)) hr
end
/-- A digest's digits, and how much they lack. -/
def digH (h : List UInt8) (i : Nat) : Nat := (gb h (i / 4)).toNat / 2 ^ (6 - 2 * (i % 4)) % 4
def lackH (h : List UInt8) : Nat → Nat
  | 0 => 0
  | i + 1 => lackH h i + (3 - digH h i)
theorem lackH_le (h : List UInt8) (i : Nat) : lackH h i ≤ 3 * i := by
  induction i with
  | zero => simp [lackH]
  | succ i ih => simp only [lackH]; omega
def dig (h : List UInt8) (i : Nat) : Nat := if i < 32 then digH h i else lackH h 32 / 4 ^ (i - 32) % 4
theorem dig_le (h : List UInt8) (i : Nat) : dig h i ≤ 3 := by unfold dig digH; split <;> omega
def dcells (h : List UInt8) (i : Nat) : List Value := (List.range 36).map fun k => .int .i64 (if k < i then (dig h k : Int) else 0)
theorem length_dcells (h : List UInt8) (i : Nat) : (dcells h i).length = 36 := by simp [dcells]
theorem one1_dcells (h : List UInt8) (i : Nat) : one1 (dcells h i) = true := by simp [one1, dcells, Value.oneCell']
theorem dcells_zero (h : List UInt8) : dcells h 0 = zl187 := by
  have : zl187 = (List.range 36).map fun _ => Value.int .i64 0 := by
    rw [List.map_const', List.length_range]
    rfl
  rw [this]
  simp [dcells]
theorem dcells_get {h : List UInt8} {i k : Nat} (hk : k < i) (h36 : k < 36) : (dcells h i)[k]? = some (.int .i64 (dig h k : Int)) := by
  simp [dcells, List.getElem?_range h36, hk]
theorem dcells_set {h : List UInt8} {i : Nat} (hi : i < 36) {x : Int} (hx : x = (dig h i : Int)) : (dcells h i).set i (.int .i64 x) = dcells h (i + 1) := by
  subst hx
  apply List.ext_getElem?
  intro k
  rw [List.getElem?_set, length_dcells]
  simp only [dcells, List.getElem?_map]
  by_cases h1 : i = k
  · subst h1
    simp [hi, List.getElem?_range hi]
  · rw [if_neg h1]
    by_cases h2 : k < 36
    · have : k < i ↔ k < i + 1 := by omega
      simp only [List.getElem?_range h2, Option.map_some, this]
    · rw [List.getElem?_eq_none (by simp; omega)]
      rfl
attribute [irreducible] dcells
def lk (h : List UInt8) : Nat → Nat
  | 0 => lackH h 32
  | j + 1 => lk h j / 2 ^ 2
theorem lk_eq (h : List UInt8) (j : Nat) : lk h j = lackH h 32 / 4 ^ j := by
  induction j with
  | zero => simp [lk]
  | succ j ih =>
    rw [lk, ih, Nat.div_div_eq_div_mul]
    rfl
theorem lk_le (h : List UInt8) (j : Nat) : lk h j ≤ 96 := by
  rw [lk_eq]
  exact Nat.le_trans (Nat.div_le_self _ _) (lackH_le h 32)

theorem C101 {p : Value} {l : List UInt8} (hp : SlB I p l) (hl : l.length ≤ 2 ^ 40) (hs : Sat G M I w) : Calls Tryz.prog 101 #[p] w (Ret fun r w' => r = aggL (dcells (sha l) 36) ∧ Sat G M I w') := by
  refine enter1 Tryz.func101 rfl Tryz.ntmps101 rfl ?_
  repeat (first | refine W.seq ?_ | refine W.region ?_)
  refine RL.e rfl rfl rfl (EF_allocA rfl zr187 hs) ?_
  rintro r1 w1 ⟨b2, rfl, hs1⟩
  refine RL.done (nxt ?_)
  repeat (first | refine W.seq ?_ | refine W.region ?_)
  refine RL.e rfl rfl rfl (EF_allocA rfl zr187 hs1) ?_
  rintro r2 w2 ⟨b3, rfl, hs2⟩
  refine RL.done (nxt ?_)
  repeat (first | refine W.seq ?_ | refine W.region ?_)
  refine RL.p rfl rfl rfl (PV_move rfl rfl) ?_
  refine RL.e rfl rfl rfl (K1 rfl fn40 rfl (C40 hp hl hs2)) ?_
  rintro r3 w3 ⟨rfl, hs3⟩
  refine RL.e rfl rfl rfl (EF_allocA rfl zr24 hs3) ?_
  rintro r4 w4 ⟨b4, rfl, hs4⟩
  refine RL.e0 rfl rfl (EF_storeA (cs := zl24) rfl rfl rfl sz24 (by rw [length_bcells]; exact length_sha _) (one1_bcells _) hs4 (by first | exact u0 | exact u1 | exact u2 | exact u3 | exact u4 | exact u5 | exact u0.app | exact u1.app | exact u2.app | exact u3.app)) ?_
  rintro r5 w5 hs5
  refine RL.done (nxt ?_)
  repeat (first | refine W.seq ?_ | refine W.region ?_)
  refine RL.p rfl rfl rfl (PV_assign rfl rfl) ?_
  refine RL.done (nxt ?_)
  repeat (first | refine W.seq ?_ | refine W.region ?_)
  refine RL.p rfl rfl rfl (PV_move rfl rfl) ?_
  refine RL.done (nxt ?_)
  repeat (first | refine W.seq ?_ | refine W.region ?_)
  refine W.block ?_
  repeat (first | refine W.seq ?_ | refine W.region ?_)
  refine W.loop (F := fun i : Nat => [(10, .int .i64 (i : Int)), (5, .int .i64 (lackH (sha l) i : Int)), (4, ptr b4 0), (3, ptr b3 0), (2, ptr b2 0)]) (J := fun i w => i ≤ 32 ∧ Sat G ((b4, bcells (sha l), 24) :: (b3, dcells (sha l) i, 187) :: (b2, zl187, 187) :: M) I w) (m := fun i => 32 - i) 0 (by repeat first | exact Sub.nil | refine Sub.cons rfl ?_) ⟨by omega, by rw [dcells_zero]; exact hs5⟩ ?_
  rintro i w6 ⟨hi, hs6⟩
  repeat (first | refine W.seq ?_ | refine W.region ?_)
  refine RL.p rfl rfl rfl (PV_lss rfl rfl rfl) ?_
  refine RL.done (nxt ?_)
  repeat (first | refine W.seq ?_ | refine W.region ?_)
  refine W.cond rfl (fun h1 => ?_) (fun h1 => ?_)
  ·
    have hi1 : i < 32 := by have := of_decide_eq_true h1; omega
    have hlk := lackH_le (sha l) i
    have hd3 := dig_le (sha l) i
    have hdg : dig (sha l) i = digH (sha l) i := by simp [dig, hi1]
    refine  W.skip (nxt ?_)
    repeat (first | refine W.seq ?_ | refine W.region ?_)
    refine W.block ?_
    repeat (first | refine W.seq ?_ | refine W.region ?_)
    refine RL.p rfl rfl rfl (PV_move rfl rfl) ?_
    refine RL.p rfl rfl rfl (PV_assign rfl rfl) ?_
    refine RL.done (nxt ?_)
    repeat (first | refine W.seq ?_ | refine W.region ?_)
    refine RL.p rfl rfl rfl (PV_move rfl rfl) ?_
    refine RL.p rfl rfl rfl (PV_move rfl rfl) ?_
    refine RL.p rfl rfl rfl (PV_quoN (m := i) (d := 4) rfl rfl rfl rfl rfl (by decide) (by omega)) ?_
    refine RL.p rfl rfl rfl (PV_indexArr1 (i / 4) rfl Tryz.underlying24 sz5 rfl rfl rfl (by omega)) ?_
    refine RL.s rfl rfl rfl (PV_loadM1 rfl ag5 rfl m0 (bc_get (by rw [length_sha]; omega))) hs6 ?_
    refine RL.p rfl rfl rfl (PV_move rfl rfl) ?_
    refine RL.p rfl rfl rfl (PV_remN (m := i) (d := 4) rfl rfl rfl rfl rfl (by decide)) ?_
    refine RL.p rfl rfl rfl (PV_mulE (r := ((2 * (i % 4) : Nat) : Int)) rfl rfl rfl (by omega) (by omega)) ?_
    refine RL.p rfl rfl rfl (PV_subE (r := ((6 - 2 * (i % 4) : Nat) : Int)) rfl rfl rfl (by omega) (by omega)) ?_
    refine RL.p rfl rfl rfl (PV_shrN (m := (gb (sha l) (i / 4)).toNat) (j := 6 - 2 * (i % 4)) rfl rfl rfl rfl rfl (by show _ < 8; omega)) ?_
    refine RL.p rfl rfl rfl (PV_convN (m := (gb (sha l) (i / 4)).toNat / 2 ^ (6 - 2 * (i % 4))) rfl Tryz.underlying5 Tryz.underlying3 rfl rfl (Nat.lt_of_le_of_lt (Nat.div_le_self _ _) (Nat.lt_trans (gb (sha l) (i / 4)).toNat_lt (by decide)))) ?_
    refine RL.p rfl rfl rfl (PV_and3 (m := (gb (sha l) (i / 4)).toNat / 2 ^ (6 - 2 * (i % 4))) rfl rfl rfl rfl (Nat.lt_of_le_of_lt (Nat.div_le_self _ _) (Nat.lt_trans (gb (sha l) (i / 4)).toNat_lt (by decide)))) ?_
    refine RL.p rfl rfl rfl (PV_indexArr1 i rfl Tryz.underlying187 sz3 rfl rfl rfl (by omega)) ?_
    refine RL.e0 rfl rfl (EF_storeC (cs := dcells (sha l) i) rfl rfl rfl sz3 rfl (by rw [length_dcells]; omega) (dcells_set (by omega) (by rw [hdg]; rfl)) hs6 (by first | exact u0 | exact u1 | exact u2 | exact u3 | exact u4 | exact u5 | exact u0.app | exact u1.app | exact u2.app | exact u3.app)) ?_
    rintro r7 w7 hs7
    refine RL.done (nxt ?_)
    repeat (first | refine W.seq ?_ | refine W.region ?_)
    refine RL.p rfl rfl rfl (PV_move rfl rfl) ?_
    refine RL.p rfl rfl rfl (PV_move rfl rfl) ?_
    refine RL.p rfl rfl rfl (PV_indexArr1 i rfl Tryz.underlying187 sz3 rfl rfl rfl (by omega)) ?_
    refine RL.s rfl rfl rfl (PV_loadM1 rfl ag3 rfl m1 (dcells_get (by omega) (by omega))) hs7 ?_
    refine RL.p rfl rfl rfl (PV_subE (r := ((3 - dig (sha l) i : Nat) : Int)) rfl rfl rfl (by omega) (by omega)) ?_
    refine RL.p rfl rfl rfl (PV_addE (r := (lackH (sha l) (i + 1) : Int)) rfl rfl rfl (by simp only [lackH, hdg]; omega) (by simp only [lackH]; omega)) ?_
    refine RL.p rfl rfl rfl (PV_assign rfl rfl) ?_
    refine RL.done (nxt ?_)
    repeat (first | refine W.seq ?_ | refine W.region ?_)
    refine RL.p rfl rfl rfl (PV_add rfl rfl rfl (by omega)) ?_
    refine RL.p rfl rfl rfl (PV_move rfl rfl) ?_
    refine RL.done (round_end (i + 1) ?_ ?_ ?_)
    · repeat first | exact Sub.nil | refine Sub.cons rfl ?_
    · exact ⟨by omega, hs7⟩
    · first | omega | (dsimp only; omega)
  repeat (first | refine W.seq ?_ | refine W.region ?_)
  refine  W.exit (nxt ?_)
  obtain rfl : i = 32 := by have := of_decide_eq_false h1; omega
  repeat (first | refine W.seq ?_ | refine W.region ?_)
  refine RL.p rfl rfl rfl (PV_assign rfl rfl) ?_
  refine RL.done (nxt ?_)
  repeat (first | refine W.seq ?_ | refine W.region ?_)
  refine W.block ?_
  repeat (first | refine W.seq ?_ | refine W.region ?_)
  refine W.loop (F := fun j : Nat => [(7, .int .i64 ((32 + j : Nat) : Int)), (5, .int .i64 (lk (sha l) j : Int)), (3, ptr b3 0), (2, ptr b2 0)]) (J := fun j w => j ≤ 4 ∧ Sat G ((b4, bcells (sha l), 24) :: (b3, dcells (sha l) (32 + j), 187) :: (b2, zl187, 187) :: M) I w) (m := fun j => 4 - j) 0 (by repeat first | exact Sub.nil | refine Sub.cons rfl ?_) ⟨by omega, hs6⟩ ?_
  rintro j w7 ⟨hj, hs7⟩
  repeat (first | refine W.seq ?_ | refine W.region ?_)
  refine RL.p rfl rfl rfl (PV_move rfl rfl) ?_
  refine RL.p rfl rfl rfl (PV_lss rfl rfl rfl) ?_
  refine RL.done (nxt ?_)
  repeat (first | refine W.seq ?_ | refine W.region ?_)
  refine W.cond rfl (fun h2 => ?_) (fun h2 => ?_)
  ·
    have hi1 : 32 + j < 36 := by have := of_decide_eq_true h2; omega
    have hq := lk_le (sha l) j
    have hdg : dig (sha l) (32 + j) = lk (sha l) j % 4 := by rw [lk_eq, dig, if_neg (by omega), Nat.add_sub_cancel_left]
    refine  W.skip (nxt ?_)
    repeat (first | refine W.seq ?_ | refine W.region ?_)
    refine W.block ?_
    repeat (first | refine W.seq ?_ | refine W.region ?_)
    refine RL.p rfl rfl rfl (PV_move rfl rfl) ?_
    refine RL.p rfl rfl rfl (PV_move rfl rfl) ?_
    refine RL.p rfl rfl rfl (PV_and3 (m := lk (sha l) j) rfl rfl rfl rfl (by omega)) ?_
    refine RL.p rfl rfl rfl (PV_indexArr1 (32 + j) rfl Tryz.underlying187 sz3 rfl rfl rfl (by omega)) ?_
    refine RL.e0 rfl rfl (EF_storeC (cs := dcells (sha l) (32 + j)) rfl rfl rfl sz3 rfl (by rw [length_dcells]; omega) (dcells_set (by omega) (by rw [hdg])) hs7 (by first | exact u0 | exact u1 | exact u2 | exact u3 | exact u4 | exact u5 | exact u0.app | exact u1.app | exact u2.app | exact u3.app)) ?_
    rintro r8 w8 hs8
    refine RL.done (nxt ?_)
    repeat (first | refine W.seq ?_ | refine W.region ?_)
    refine RL.p rfl rfl rfl (PV_move rfl rfl) ?_
    refine RL.p rfl rfl rfl (PV_shrN (m := lk (sha l) j) (j := 2) rfl rfl rfl rfl rfl (by decide)) ?_
    refine RL.p rfl rfl rfl (PV_assign rfl rfl) ?_
    refine RL.done (nxt ?_)
    repeat (first | refine W.seq ?_ | refine W.region ?_)
    refine RL.p rfl rfl rfl (PV_move rfl rfl) ?_
    refine RL.p rfl rfl rfl (PV_add rfl rfl rfl (by omega)) ?_
    refine RL.p rfl rfl rfl (PV_assign rfl rfl) ?_
    refine RL.done (round_end (j + 1) ?_ ?_ ?_)
    · repeat first | exact Sub.nil | refine Sub.cons rfl ?_
    · exact ⟨by omega, hs8⟩
    · first | omega | (dsimp only; omega)
  repeat (first | refine W.seq ?_ | refine W.region ?_)
  refine  W.exit (nxt ?_)
  obtain rfl : j = 4 := by have := of_decide_eq_false h2; omega
  repeat (first | refine W.seq ?_ | refine W.region ?_)
  refine RL.s rfl rfl rfl (PV_loadMA rfl ag187 sz187 rfl (by first | exact m0 | exact m1 | exact m2 | exact m3 | exact m4 | exact m5 | exact mapp m0 | exact mapp m1 | exact mapp m2 | exact mapp m3 | exact hm | exact .tail _ hm | exact .tail _ (.tail _ hm)) (by rw [length_dcells]; decide) (part_whole (length_dcells _ _))) hs7 ?_
  refine RL.e0 rfl rfl (EF_storeA (cs := zl187) rfl rfl rfl sz187 (length_dcells _ _) (one1_dcells _ _) hs7 (by first | exact u0 | exact u1 | exact u2 | exact u3 | exact u4 | exact u5 | exact u0.app | exact u1.app | exact u2.app | exact u3.app)) ?_
  rintro r8 w8 hs8
  refine RL.done (nxt ?_)
  repeat (first | refine W.seq ?_ | refine W.region ?_)
  exact W.ret (ret_cell rfl rfl (ldA ag187 sz187 hs8 (by first | exact m0 | exact m1 | exact m2 | exact m3 | exact m4 | exact m5) (length_dcells _ _)) ⟨_, rfl, rfl, hs8.tail.tail.tail⟩)

end Go.Proofs.YtecbpmgfikgoaaaGreatDoor
end
section
set_option linter.unusedVariables false
set_option linter.unusedSimpArgs false
set_option maxRecDepth 8000
set_option maxHeartbeats 4000000
namespace Go.Proofs.YtecbpmgfikgoaaaGreatDoor
open Go Go.RowKit
variable {G w : World} {M : List Chunk} {I : Imm}

/-- A signature's chains. -/
def chainH (seed : List UInt8) (n : Nat) (m : List UInt8) (c : Nat) : List UInt8 := walkH (secretH seed n c) c 0 (dig (sha m) c)
def chainsH (seed : List UInt8) (n : Nat) (m : List UInt8) : List UInt8 := endsL (chainH seed n m) 36
theorem length_chainH (seed : List UInt8) (n : Nat) (m : List UInt8) (c : Nat) : (chainH seed n m c).length = 32 := length_walkH (length_sha _) ..
theorem length_chainsH (seed : List UInt8) (n : Nat) (m : List UInt8) : (chainsH seed n m).length = 36 * 32 := length_endsL (f := chainH seed n m) (length_chainH seed n m) 36

theorem C60 {seed l : List UInt8} {p : Value} {n : Nat} (h32 : seed.length = 32) (hp : SlB I p l) (hl : l.length ≤ 2 ^ 40) (hs : Sat G M I w) : Calls Tryz.prog 60 #[aggL (bcells seed), .int .i64 (n : Int), p] w (Ret fun r w' => ∃ J, Le I J ∧ SlI J 32 r 36 (bcells (chainsH seed n l)) ∧ Sat G M J w') := by
  refine enter3 Tryz.func60 rfl Tryz.ntmps60 rfl ?_
  repeat (first | refine W.seq ?_ | refine W.region ?_)
  refine RL.e rfl rfl rfl (EF_boxA rfl rfl hs) ?_
  rintro r1 w1 ⟨b3, rfl, hs1⟩
  refine RL.p rfl rfl rfl (PV_assign rfl rfl) ?_
  refine RL.done (nxt ?_)
  repeat (first | refine W.seq ?_ | refine W.region ?_)
  refine RL.p rfl rfl rfl (PV_assign rfl rfl) ?_
  refine RL.done (nxt ?_)
  repeat (first | refine W.seq ?_ | refine W.region ?_)
  refine RL.p rfl rfl rfl (PV_move rfl rfl) ?_
  refine RL.e rfl rfl rfl (K1 rfl fn101 rfl (C101 hp hl hs1)) ?_
  rintro r2 w2 ⟨rfl, hs2⟩
  refine RL.p rfl rfl rfl (PV_move rfl rfl) ?_
  refine RL.done (nxt ?_)
  repeat (first | refine W.seq ?_ | refine W.region ?_)
  refine W.block ?_
  repeat (first | refine W.seq ?_ | refine W.region ?_)
  refine W.loop (F := fun z : Nat × Value => [(12, .int .i64 (z.1 : Int)), (7, z.2), (11, aggL (dcells (sha l) 36)), (3, ptr b3 0), (1, .int .i64 (n : Int))]) (J := fun z w => z.1 ≤ 36 ∧ ∃ L, OwnS 24 32 z.2 (bcells (endsL (chainH seed n l) z.1)) L ∧ Sat G (L ++ (b3, bcells seed, 24) :: M) I w) (m := fun z => 36 - z.1) (0, .slice none 0 0) (by repeat first | exact Sub.nil | refine Sub.cons rfl ?_) ⟨by omega, [], by rw [endsL_zero]; exact OwnS.nil, hs2⟩ ?_
  rintro ⟨i, v⟩ w3 ⟨hi, L, ho, hs3⟩
  repeat (first | refine W.seq ?_ | refine W.region ?_)
  refine RL.p rfl rfl rfl (PV_lss rfl rfl rfl) ?_
  refine RL.done (nxt ?_)
  repeat (first | refine W.seq ?_ | refine W.region ?_)
  refine W.cond rfl (fun h1 => ?_) (fun h1 => ?_)
  ·
    dsimp only at hi ho hs3
    have hi1 : i < 36 := by have := of_decide_eq_true h1; omega
    have hll := length_endsL (f := chainH seed n l) (length_chainH seed n l) i
    refine  W.skip (nxt ?_)
    repeat (first | refine W.seq ?_ | refine W.region ?_)
    refine W.block ?_
    repeat (first | refine W.seq ?_ | refine W.region ?_)
    refine RL.p rfl rfl rfl (PV_move rfl rfl) ?_
    refine RL.p rfl rfl rfl (PV_index rfl Tryz.underlying187 sz3 ag3 rfl rfl rfl hi1 (dcells_get hi1 hi1)) ?_
    refine RL.p rfl rfl rfl (PV_assign rfl rfl) ?_
    refine RL.p rfl rfl rfl (PV_assign rfl rfl) ?_
    refine RL.done (nxt ?_)
    repeat (first | refine W.seq ?_ | refine W.region ?_)
    refine RL.p rfl rfl rfl (PV_move rfl rfl) ?_
    refine RL.s rfl rfl rfl (PV_loadMA rfl ag24 sz24 rfl (by first | exact m0 | exact m1 | exact m2 | exact m3 | exact m4 | exact m5 | exact mapp m0 | exact mapp m1 | exact mapp m2 | exact mapp m3 | exact hm | exact .tail _ hm | exact .tail _ (.tail _ hm)) (by rw [length_bcells, h32]; decide) (part_whole (by rw [length_bcells, h32]))) hs3 ?_
    refine RL.p rfl rfl rfl (PV_move rfl rfl) ?_
    refine RL.p rfl rfl rfl (PV_move rfl rfl) ?_
    refine RL.e rfl rfl rfl (K3 rfl fn103 rfl rfl rfl (C103 h32 hs3)) ?_
    rintro r4 w4 ⟨rfl, hs4⟩
    refine RL.p rfl rfl rfl (PV_move rfl rfl) ?_
    refine RL.p rfl rfl rfl (PV_move rfl rfl) ?_
    refine RL.e rfl rfl rfl (K4 rfl fn102 rfl rfl rfl rfl (C102 (f := 0) (t := dig (sha l) i) (length_sha _) (dig_le _ _) (by omega) hs4)) ?_
    rintro r5 w5 ⟨rfl, hs5⟩
    refine RL.e rfl rfl rfl (EF_bs1a rfl el37 rfl (by rw [length_bcells]; exact length_chainH seed n l i) (by decide) hs5) ?_
    rintro r6 w6 ⟨b24, rfl, hs6⟩
    refine RL.e rfl rfl rfl (EF_append (l := i) (news := bcells (chainH seed n l i)) rfl el37 rfl rfl ho (by rw [length_bcells, hll]; exact Nat.mul_comm _ _) (rdW (m := 1) hs6 m0 (by rw [length_bcells]; exact length_chainH seed n l i) (Nat.le_refl _)) (one1_bcells _) (by omega) (by decide) hs6.mid) ?_
    rintro r7 w7 ⟨L7, ho7, hs7⟩
    refine RL.p rfl rfl rfl (PV_assign rfl rfl) ?_
    refine RL.done (nxt ?_)
    repeat (first | refine W.seq ?_ | refine W.region ?_)
    refine RL.p rfl rfl rfl (PV_add rfl rfl rfl (by omega)) ?_
    refine RL.p rfl rfl rfl (PV_move rfl rfl) ?_
    refine RL.done (round_end (i + 1, r7) ?_ ?_ ?_)
    · repeat first | exact Sub.nil | refine Sub.cons rfl ?_
    · exact ⟨by dsimp only; omega, L7, by rw [endsL_succ, bcells_append]; exact ho7, hs7.del x0.app⟩
    · first | omega | (dsimp only; omega)
  repeat (first | refine W.seq ?_ | refine W.region ?_)
  refine  W.exit (nxt ?_)
  obtain rfl : i = 36 := by have := of_decide_eq_false h1; dsimp only at hi; omega
  repeat (first | refine W.seq ?_ | refine W.region ?_)
  refine RL.p rfl rfl rfl (PV_move rfl rfl) ?_
  refine RL.p rfl rfl rfl (PV_assign rfl rfl) ?_
  refine RL.done (nxt ?_)
  repeat (first | refine W.seq ?_ | refine W.region ?_)
  obtain ⟨J, hj, hv, hs4⟩ := OwnS.freeze (m := 36) ho (by rw [length_bcells]; exact length_chainsH seed n l) (by decide) hs3
  exact W.ret (ret_tmp rfl rfl ⟨_, rfl, J, hj, hv, hs4.tail⟩)

end Go.Proofs.YtecbpmgfikgoaaaGreatDoor
end
section
set_option linter.unusedVariables false
set_option linter.unusedSimpArgs false
set_option maxRecDepth 8000
set_option maxHeartbeats 4000000
namespace Go.Proofs.YtecbpmgfikgoaaaGreatDoor
open Go Go.RowKit
variable {G w : World} {M : List Chunk} {I : Imm}

def pathH : Nat → List UInt8 → Nat → List UInt8
  | 0, _, _ => []
  | k + 1, l, i => if i < 2 ^ k then pathH k (l.take (32 * 2 ^ k)) i ++ rootH k (l.drop (32 * 2 ^ k)) else pathH k (l.drop (32 * 2 ^ k)) (i - 2 ^ k) ++ rootH k (l.take (32 * 2 ^ k))
theorem length_pathH : ∀ (k : Nat) (l : List UInt8) (i : Nat), l.length = 32 * 2 ^ k → (pathH k l i).length = 32 * k
  | 0, _, _, _ => rfl
  | k + 1, l, i, h => by
    have h2 : 2 ^ (k + 1) = 2 ^ k + 2 ^ k := by rw [Nat.pow_succ]; omega
    have ht : (l.take (32 * 2 ^ k)).length = 32 * 2 ^ k := by rw [List.length_take]; omega
    have hd : (l.drop (32 * 2 ^ k)).length = 32 * 2 ^ k := by rw [List.length_drop]; omega
    unfold pathH
    split
    · rw [List.length_append, length_pathH k _ _ ht, length_rootH k _ hd]; omega
    · rw [List.length_append, length_pathH k _ _ hd, length_rootH k _ ht]; omega

theorem C61s {k N i : Nat} {v : Value} {l : List UInt8} (hk : k ≤ 4) (hN : N = 2 ^ k) (hi : i < N) (ih : ∀ j, k = j + 1 → ∀ (v : Value) (l : List UInt8) (M : List Chunk) (w : World) (i : Nat), i < 2 ^ j → SlI I 32 v (2 ^ j) (bcells l) → Sat G M I w → Calls Tryz.prog 61 #[v, .int .i64 (i : Int)] w (Ret fun r w' => ∃ L, OwnS 24 32 r (bcells (pathH j l i)) L ∧ Sat G (L ++ M) I w')) (hv : SlI I 32 v N (bcells l)) (hs : Sat G M I w) : Calls Tryz.prog 61 #[v, .int .i64 (i : Int)] w (Ret fun r w' => ∃ L, OwnS 24 32 r (bcells (pathH k l i)) L ∧ Sat G (L ++ M) I w') := by
  have hNp : 0 < N := by rw [hN]; exact Nat.pow_pos (by decide)
  have hll : l.length = N * 32 := by have := hv.1; rwa [length_bcells] at this
  obtain ⟨bb, off, c, rfl, hc, hmem⟩ := hv.mem hNp
  refine enter2 Tryz.func61 rfl Tryz.ntmps61 rfl ?_
  repeat (first | refine W.seq ?_ | refine W.region ?_)
  refine RL.p rfl rfl rfl (PV_assign rfl rfl) ?_
  refine RL.done (nxt ?_)
  repeat (first | refine W.seq ?_ | refine W.region ?_)
  refine RL.p rfl rfl rfl (PV_move rfl rfl) ?_
  refine RL.p rfl rfl rfl (PV_lss rfl rfl rfl) ?_
  refine RL.p rfl rfl rfl (PV_move rfl rfl) ?_
  refine RL.split 8 rfl (fun g1 => by exact absurd (of_decide_eq_true g1) (by omega)) (fun g1 => ?_)
  refine RL.gp rfl rfl rfl rfl g1 rfl rfl rfl (PV_move rfl rfl) ?_
  refine RL.gp rfl rfl rfl rfl g1 rfl rfl rfl (PV_move rfl rfl) ?_
  refine RL.gp rfl rfl rfl rfl g1 rfl rfl rfl (PV_len rfl Tryz.underlying37 rfl) ?_
  refine RL.gp rfl rfl rfl rfl g1 rfl rfl rfl (PV_geq rfl rfl rfl) ?_
  refine RL.p rfl rfl rfl (PV_pickF rfl rfl g1 rfl) ?_
  refine RL.p rfl rfl rfl (PV_move rfl rfl) ?_
  refine RL.split 14 rfl (fun g2 => by exact absurd (of_decide_eq_true g2) (by omega)) (fun g2 => ?_)
  refine RL.gp rfl rfl rfl rfl g2 rfl rfl rfl (PV_move rfl rfl) ?_
  refine RL.gp rfl rfl rfl rfl g2 rfl rfl rfl (PV_len rfl Tryz.underlying37 rfl) ?_
  refine RL.gp rfl rfl rfl rfl g2 rfl rfl rfl (PV_eqi rfl rfl rfl) ?_
  refine RL.p rfl rfl rfl (PV_pickF rfl rfl g2 rfl) ?_
  refine RL.done (nxt ?_)
  repeat (first | refine W.seq ?_ | refine W.region ?_)
  refine W.cond rfl (fun h1 => ?_) (fun h1 => ?_)
  ·
    repeat (first | refine W.seq ?_ | refine W.region ?_)
    refine RL.p rfl rfl rfl (PV_assign rfl rfl) ?_
    refine RL.done (nxt ?_)
    repeat (first | refine W.seq ?_ | refine W.region ?_)
    obtain rfl : k = 0 := by
      cases k with
      | zero => rfl
      | succ k => have h2 := of_decide_eq_true h1; have h3 : 1 < 2 ^ (k + 1) := Nat.one_lt_two_pow (by omega); omega
    exact W.ret (ret_tmp rfl rfl ⟨_, rfl, [], OwnS.nil, hs⟩)
  obtain ⟨j, rfl⟩ : ∃ j, k = j + 1 := by
    cases k with
    | zero => exact absurd (of_decide_eq_false h1) (by subst hN; simp)
    | succ j => exact ⟨j, rfl⟩
  subst hN
  have hN2 : 2 ^ (j + 1) = 2 ^ j + 2 ^ j := by rw [Nat.pow_succ]; omega
  have h16 : 2 ^ (j + 1) ≤ 2 ^ 4 := Nat.pow_le_pow_right (by decide) hk
  have htake : (l.take (32 * 2 ^ j)).length = 32 * 2 ^ j := by rw [List.length_take, hll]; omega
  have hdrop : (l.drop (32 * 2 ^ j)).length = 32 * 2 ^ j := by rw [List.length_drop, hll]; omega
  refine  W.skip (nxt ?_)
  repeat (first | refine W.seq ?_ | refine W.region ?_)
  refine RL.p rfl rfl rfl (PV_move rfl rfl) ?_
  refine RL.p rfl rfl rfl (PV_len rfl Tryz.underlying37 rfl) ?_
  refine RL.e rfl rfl rfl (K1 rfl fn99 rfl (C99 (k := j) (by omega) hs)) ?_
  rintro r1 w1 ⟨rfl, hs1⟩
  refine RL.p rfl rfl rfl (PV_assign rfl rfl) ?_
  refine RL.done (nxt ?_)
  repeat (first | refine W.seq ?_ | refine W.region ?_)
  refine RL.p rfl rfl rfl (PV_move rfl rfl) ?_
  refine RL.p rfl rfl rfl (PV_move rfl rfl) ?_
  refine RL.p rfl rfl rfl (PV_lss rfl rfl rfl) ?_
  refine RL.done (nxt ?_)
  repeat (first | refine W.seq ?_ | refine W.region ?_)
  refine W.cond rfl (fun h2 => ?_) (fun h2 => ?_)
  ·
    repeat (first | refine W.seq ?_ | refine W.region ?_)
    have hi2 : i < 2 ^ j := by have := of_decide_eq_true h2; omega
    refine  W.drawsH hs1 [(0, true), (1, true), (2, true), (3, true), (5, true), (6, true), (7, true), (4, false), (8, false), (9, false), (10, false), (11, false)] mixed (by kernel_rfl) (by kernel_rfl) ?_
    have hs2 := hs1.drew
    refine TW.p rfl rfl rfl rfl (PV_move rfl rfl) (hs2) ?_
    refine TW.p rfl rfl rfl rfl (PV_move rfl rfl) (hs2) ?_
    refine TW.p rfl rfl rfl rfl (PV_sliceSl (p := 0) (r := 2 ^ j) rfl Tryz.underlying37 sz24 rfl (.inl ⟨rfl, rfl⟩) (.inr ⟨_, rfl, _, _, rfl, rfl⟩) (Nat.zero_le _) (by omega)) (hs2) ?_
    refine TW.p rfl rfl rfl rfl (PV_move rfl rfl) (hs2) ?_
    refine TW.p rfl rfl rfl rfl (PV_move rfl rfl) (hs2) ?_
    refine TW.p rfl rfl rfl rfl (PV_move rfl rfl) (hs2) ?_
    refine TW.p rfl rfl rfl rfl (PV_sliceSl (p := 2 ^ j) (r := 2 ^ (j + 1)) rfl Tryz.underlying37 sz24 rfl (.inr ⟨_, rfl, _, _, rfl, rfl⟩) (.inl ⟨rfl, rfl⟩) (by omega) hc) (hs2) ?_
    refine TW.e rfl rfl rfl rfl (K2 rfl fn61 rfl rfl (ih j rfl _ (l.take (32 * 2 ^ j)) _ _ i (by omega) (SlB2.lo hv (by omega)) hs2)) ?_
    rintro r3 w3 ⟨Lp, hop, hs3⟩
    refine ⟨(hs3.drop), ?_⟩
    refine TW.e rfl rfl rfl rfl (K1 rfl fn59 rfl (C59 j (by omega) _ (l.drop (32 * 2 ^ j)) _ _ (SlB2.hi hv hN2) hs3)) ?_
    rintro r4 w4 ⟨rfl, hs4⟩
    refine ⟨(hs4.drop), ?_⟩
    refine TW.e rfl rfl rfl rfl (EF_bs1a rfl el37 rfl (by rw [length_bcells]; exact length_rootH _ _ hdrop) (by decide) hs4) ?_
    rintro r5 w5 ⟨b34, rfl, hs5⟩
    refine ⟨(hs5.tail.drop), ?_⟩
    refine TW.e rfl rfl rfl rfl (EF_append (l := j) (news := bcells (rootH j (l.drop (32 * 2 ^ j)))) rfl el37 rfl rfl hop (by rw [length_bcells, length_pathH j _ _ htake]; exact Nat.mul_comm _ _) (rdW (m := 1) hs5 m0 (by rw [length_bcells]; exact length_rootH _ _ hdrop) (Nat.le_refl _)) (one1_bcells _) (by omega) (by decide) hs5.mid) ?_
    rintro r6 w6 ⟨L6, ho6, hs6⟩
    refine ⟨(hs6.drop.tail), ?_⟩
    refine TW.qn rfl rfl rfl rfl (T := fun _ => True) (PV_assign rfl rfl) trivial (by kernel_rfl) ?_
    refine TW.done (nxt ?_)
    repeat (first | refine W.seq ?_ | refine W.region ?_)
    exact W.ret (ret_tmp rfl rfl ⟨_, rfl, L6, by rw [pathH, if_pos hi2, bcells_append]; exact ho6, hs6.del x0.app⟩)
  refine W.skip (nxt ?_)
  repeat (first | refine W.seq ?_ | refine W.region ?_)
  have hi2 : ¬ i < 2 ^ j := by have := of_decide_eq_false h2; omega
  refine  W.drawsH hs1 [(0, true), (1, true), (2, true), (3, true), (4, true), (5, true), (7, true), (8, true), (9, true), (6, false), (10, false), (11, false), (12, false), (13, false)] mixed (by kernel_rfl) (by kernel_rfl) ?_
  have hs2 := hs1.drew
  refine TW.p rfl rfl rfl rfl (PV_move rfl rfl) (hs2) ?_
  refine TW.p rfl rfl rfl rfl (PV_move rfl rfl) (hs2) ?_
  refine TW.p rfl rfl rfl rfl (PV_sliceSl (p := 2 ^ j) (r := 2 ^ (j + 1)) rfl Tryz.underlying37 sz24 rfl (.inr ⟨_, rfl, _, _, rfl, rfl⟩) (.inl ⟨rfl, rfl⟩) (by omega) hc) (hs2) ?_
  refine TW.p rfl rfl rfl rfl (PV_move rfl rfl) (hs2) ?_
  refine TW.p rfl rfl rfl rfl (PV_move rfl rfl) (hs2) ?_
  refine TW.p rfl rfl rfl rfl (PV_subE (r := ((i - 2 ^ j : Nat) : Int)) rfl rfl rfl (by omega) (by omega)) (hs2) ?_
  refine TW.p rfl rfl rfl rfl (PV_move rfl rfl) (hs2) ?_
  refine TW.p rfl rfl rfl rfl (PV_move rfl rfl) (hs2) ?_
  refine TW.p rfl rfl rfl rfl (PV_sliceSl (p := 0) (r := 2 ^ j) rfl Tryz.underlying37 sz24 rfl (.inl ⟨rfl, rfl⟩) (.inr ⟨_, rfl, _, _, rfl, rfl⟩) (Nat.zero_le _) (by omega)) (hs2) ?_
  refine TW.e rfl rfl rfl rfl (K2 rfl fn61 rfl rfl (ih j rfl _ (l.drop (32 * 2 ^ j)) _ _ (i - 2 ^ j) (by omega) (SlB2.hi hv hN2) hs2)) ?_
  rintro r3 w3 ⟨Lp, hop, hs3⟩
  refine ⟨(hs3.drop), ?_⟩
  refine TW.e rfl rfl rfl rfl (K1 rfl fn59 rfl (C59 j (by omega) _ (l.take (32 * 2 ^ j)) _ _ (SlB2.lo hv (by omega)) hs3)) ?_
  rintro r4 w4 ⟨rfl, hs4⟩
  refine ⟨(hs4.drop), ?_⟩
  refine TW.e rfl rfl rfl rfl (EF_bs1a rfl el37 rfl (by rw [length_bcells]; exact length_rootH _ _ htake) (by decide) hs4) ?_
  rintro r5 w5 ⟨b47, rfl, hs5⟩
  refine ⟨(hs5.tail.drop), ?_⟩
  refine TW.e rfl rfl rfl rfl (EF_append (l := j) (news := bcells (rootH j (l.take (32 * 2 ^ j)))) rfl el37 rfl rfl hop (by rw [length_bcells, length_pathH j _ _ hdrop]; exact Nat.mul_comm _ _) (rdW (m := 1) hs5 m0 (by rw [length_bcells]; exact length_rootH _ _ htake) (Nat.le_refl _)) (one1_bcells _) (by omega) (by decide) hs5.mid) ?_
  rintro r6 w6 ⟨L6, ho6, hs6⟩
  refine ⟨(hs6.drop.tail), ?_⟩
  refine TW.qn rfl rfl rfl rfl (T := fun _ => True) (PV_assign rfl rfl) trivial (by kernel_rfl) ?_
  refine TW.done (nxt ?_)
  repeat (first | refine W.seq ?_ | refine W.region ?_)
  exact W.ret (ret_tmp rfl rfl ⟨_, rfl, L6, by rw [pathH, if_neg hi2, bcells_append]; exact ho6, hs6.del x0.app⟩)

theorem C61 : ∀ (k : Nat), k ≤ 4 → ∀ (v : Value) (l : List UInt8) (M : List Chunk) (w : World) (i : Nat), i < 2 ^ k → SlI I 32 v (2 ^ k) (bcells l) → Sat G M I w → Calls Tryz.prog 61 #[v, .int .i64 (i : Int)] w (Ret fun r w' => ∃ L, OwnS 24 32 r (bcells (pathH k l i)) L ∧ Sat G (L ++ M) I w')
  | 0, hk, v, l, M, w, i, hi, hv, hs => C61s hk rfl hi (fun j hj => by omega) hv hs
  | k + 1, hk, v, l, M, w, i, hi, hv, hs => C61s hk rfl hi (fun j hj => by
      obtain rfl : k = j := by omega
      exact C61 k (by omega)) hv hs

end Go.Proofs.YtecbpmgfikgoaaaGreatDoor
end
section
set_option linter.unusedVariables false
set_option linter.unusedSimpArgs false
set_option maxRecDepth 8000
set_option maxHeartbeats 4000000
namespace Go.Proofs.YtecbpmgfikgoaaaGreatDoor
open Go Go.RowKit
variable {G w : World} {M : List Chunk} {I : Imm}

theorem Upd.mem2 {b : Nat} {T : TypeId} {cs cs' : List Value} {M M' : List Chunk} (h : Upd b T cs cs' M M') : (b, cs', T) ∈ M' := by
  obtain ⟨l, r, rfl, rfl⟩ := h
  simp

theorem C36 {kb u : Nat} {seed m : List UInt8} {lv p : Value} {M' : List Chunk} (h32 : seed.length = 32) (hu : u < 16) (hup : Upd kb 112 (kcells seed lv u) (kcells seed lv (u + 1)) M M') (hv : SlI I 32 lv 16 (bcells (leavesH seed))) (hp : SlB I p m) (hl : m.length ≤ 2 ^ 40) (hs : Sat G M I w) :
    Calls Tryz.prog 36 #[ptr kb 0, p] w (Ret fun r w' => ∃ J cv pv, Le I J ∧ r = .tuple #[aggL [.int .i64 (u : Int), cv, pv], .int .i64 0] ∧ SlI J 32 cv 36 (bcells (chainsH seed u m)) ∧ SlI J 32 pv 4 (bcells (pathH 4 (leavesH seed) u)) ∧ Sat G M' J w') := by
  have hm := hup.mem
  have hm2 := hup.mem2
  refine enter2 Tryz.func36 rfl Tryz.ntmps36 rfl ?_
  repeat (first | refine W.seq ?_ | refine W.region ?_)
  refine RL.e rfl rfl rfl (EF_allocA rfl zr129 hs) ?_
  rintro r1 w1 ⟨b4, rfl, hs1⟩
  refine RL.p rfl rfl rfl (PV_assign rfl rfl) ?_
  refine RL.done (nxt ?_)
  repeat (first | refine W.seq ?_ | refine W.region ?_)
  refine W.block ?_
  repeat (first | refine W.seq ?_ | refine W.region ?_)
  refine RL.p rfl rfl rfl (PV_move rfl rfl) ?_
  refine RL.p rfl rfl rfl (PV_eqnil rfl Tryz.underlying75 rfl rfl) ?_
  refine RL.p rfl rfl rfl (PV_assign rfl rfl) ?_
  refine RL.done (nxt ?_)
  repeat (first | refine W.seq ?_ | refine W.region ?_)
  refine W.cond rfl (fun h1 => ?_) (fun h1 => ?_)
  · cases h1
  repeat (first | refine W.seq ?_ | refine W.region ?_)
  refine RL.p rfl rfl rfl (PV_move rfl rfl) ?_
  refine RL.p rfl rfl rfl (PV_nilCheckP rfl rfl) ?_
  refine RL.p rfl rfl rfl (by first | exact PV_fieldAddr0 rfl rfl fa112_2 | exact PV_fieldAddr rfl rfl fa112_2) ?_
  refine RL.s rfl rfl rfl (PV_loadM1 rfl ag3 rfl (.tail _ hm) (kc_33 h32)) hs1 ?_
  refine RL.p rfl rfl rfl (PV_geq rfl rfl rfl) ?_
  refine RL.p rfl rfl rfl (PV_assign rfl rfl) ?_
  refine RL.done (nxt ?_)
  repeat (first | refine W.seq ?_ | refine W.region ?_)
  refine W.cond rfl (fun h2 => ?_) (fun h2 => ?_)
  · exact absurd (of_decide_eq_true h2) (by omega)
  refine W.skip (nxt ?_)
  repeat (first | refine W.seq ?_ | refine W.region ?_)
  refine RL.p rfl rfl rfl (PV_move rfl rfl) ?_
  refine RL.p rfl rfl rfl (PV_nilCheckP rfl rfl) ?_
  refine RL.p rfl rfl rfl (by first | exact PV_fieldAddr0 rfl rfl fa112_2 | exact PV_fieldAddr rfl rfl fa112_2) ?_
  refine RL.s rfl rfl rfl (PV_loadM1 rfl ag3 rfl (.tail _ hm) (kc_33 h32)) hs1 ?_
  refine RL.p rfl rfl rfl (PV_assign rfl rfl) ?_
  refine RL.done (nxt ?_)
  repeat (first | refine W.seq ?_ | refine W.region ?_)
  refine RL.p rfl rfl rfl (PV_move rfl rfl) ?_
  refine RL.p rfl rfl rfl (PV_nilCheckP rfl rfl) ?_
  refine RL.p rfl rfl rfl (by first | exact PV_fieldAddr0 rfl rfl fa112_2 | exact PV_fieldAddr rfl rfl fa112_2) ?_
  refine RL.s rfl rfl rfl (PV_loadM1 rfl ag3 rfl (.tail _ hm) (kc_33 h32)) hs1 ?_
  refine RL.p rfl rfl rfl (PV_add rfl rfl rfl (by omega)) ?_
  refine RL.p rfl rfl rfl (PV_nilCheckP rfl rfl) ?_
  refine RL.p rfl rfl rfl (by first | exact PV_fieldAddr0 rfl rfl fa112_2 | exact PV_fieldAddr rfl rfl fa112_2) ?_
  refine RL.e0 rfl rfl (EF_storeC (cs := kcells seed lv u) rfl rfl rfl sz3 rfl (by rw [length_kcells h32]; decide) (kc_set33 h32) hs1 hup.there) ?_
  rintro r2 w2 hs2
  refine RL.done (nxt ?_)
  repeat (first | refine W.seq ?_ | refine W.region ?_)
  refine W.drawsH hs2 [(0, true), (1, true), (2, true), (3, true), (4, true), (5, true), (6, true), (8, true), (9, true), (10, true), (11, true), (12, true), (7, false), (13, false), (14, false), (15, false), (16, false)] mixed (by kernel_rfl) (by kernel_rfl) ?_
  have hs3 := hs2.drew
  refine TW.p rfl rfl rfl rfl (PV_move rfl rfl) (hs3) ?_
  refine TW.p rfl rfl rfl rfl (PV_move rfl rfl) (hs3) ?_
  refine TW.p rfl rfl rfl rfl (PV_nilCheckP rfl rfl) (hs3) ?_
  refine TW.p rfl rfl rfl rfl (by first | exact PV_fieldAddr0 rfl rfl fa112_0 | exact PV_fieldAddr rfl rfl fa112_0) (hs3) ?_
  refine TW.s rfl rfl rfl rfl (PV_loadMA rfl ag24 sz24 rfl (.tail _ hm2) (by rw [length_kcells h32]; decide) (kc_seed h32)) (hs3) ?_
  refine TW.p rfl rfl rfl rfl (PV_move rfl rfl) (hs3) ?_
  refine TW.p rfl rfl rfl rfl (PV_move rfl rfl) (hs3) ?_
  refine TW.p rfl rfl rfl rfl (PV_move rfl rfl) (hs3) ?_
  refine TW.p rfl rfl rfl rfl (PV_nilCheckP rfl rfl) (hs3) ?_
  refine TW.p rfl rfl rfl rfl (by first | exact PV_fieldAddr0 rfl rfl fa112_1 | exact PV_fieldAddr rfl rfl fa112_1) (hs3) ?_
  refine TW.s rfl rfl rfl rfl (PV_loadM1 rfl ag37 rfl (.tail _ hm2) (kc_32 h32)) (hs3) ?_
  refine TW.p rfl rfl rfl rfl (PV_move rfl rfl) (hs3) ?_
  refine TW.e rfl rfl rfl rfl (K3 rfl fn60 rfl rfl rfl (C60 h32 hp hl hs3)) ?_
  rintro r4 w4 ⟨J1, hj1, hcv, hs4⟩
  obtain ⟨A1, c1, rfl, _⟩ := hcv.shape
  refine ⟨(hs4.le hj1), ?_⟩
  refine TW.e rfl rfl rfl rfl (K2 rfl fn61 rfl rfl (C61 4 (by decide) _ (leavesH seed) _ _ u hu (hv.le hj1) hs4)) ?_
  rintro r5 w5 ⟨Lp, hop, hs5⟩
  obtain ⟨A2, c2, rfl, _⟩ := hop.shape (m := 4) (by rw [length_bcells]; exact length_pathH 4 _ _ (length_leavesH seed)) (by decide)
  refine ⟨((hs5.drop).le hj1), ?_⟩
  refine TW.q rfl rfl rfl rfl (T := fun _ => True) (PV_buildS rfl pl129 zr129 rfl rfl) trivial (fun _ => ((hs5.drop).le hj1)) ?_
  refine TW.en0 rfl rfl rfl (by kernel_rfl) (EF_storeA (cs := zl129) rfl rfl rfl sz129 rfl rfl hs5 (by first | exact u0 | exact u1 | exact u2 | exact u3 | exact u4 | exact u5 | exact u0.app | exact u1.app | exact u2.app | exact u3.app)) ?_
  rintro r6 w6 hs6
  refine TW.qn rfl rfl rfl rfl (T := fun _ => True) (PV_assign rfl rfl) trivial (by kernel_rfl) ?_
  refine TW.done (nxt ?_)
  repeat (first | refine W.seq ?_ | refine W.region ?_)
  obtain ⟨J2, hj2, hpv, hs7⟩ := OwnS.freeze (m := 4) hop (by rw [length_bcells]; exact length_pathH 4 _ _ (length_leavesH seed)) (by decide) hs6
  exact W.ret (ret_cell2 rfl rfl rfl (ldA ag129 sz129 hs7 (by first | exact m0 | exact m1 | exact m2 | exact m3 | exact m4 | exact m5 | exact mapp m0 | exact mapp m1 | exact hm) rfl) ⟨_, rfl, J2, _, _, hj1.trans hj2, rfl, hcv.le hj2, hpv, hs7.tail⟩)

end Go.Proofs.YtecbpmgfikgoaaaGreatDoor
end
section
set_option linter.unusedVariables false
set_option linter.unusedSimpArgs false
set_option maxRecDepth 8000
set_option maxHeartbeats 4000000
namespace Go.Proofs.YtecbpmgfikgoaaaGreatDoor
open Go Go.RowKit
variable {G w : World} {M : List Chunk} {I : Imm}

def rprog (v e : Int) (ks : Nat → Value) (i : Nat) : List Value :=
  [.int .i64 v, .int .i64 e, if 0 < i then ks 0 else .slice none 0 0, .int .i64 (if 0 < i then 1 else 0), if 1 < i then ks 1 else .slice none 0 0, .int .i64 (if 1 < i then 1 else 0),
    if 2 < i then ks 2 else .slice none 0 0, .int .i64 (if 2 < i then 1 else 0), if 3 < i then ks 3 else .slice none 0 0, .int .i64 (if 3 < i then 1 else 0)]
def updK (ks : Nat → Value) (i : Nat) (x : Value) : Nat → Value := fun j => if j = i then x else ks j
theorem rprog_step {v e : Int} {ks : Nat → Value} {i : Nat} {x : Value} (h : i < 4) : splice (rprog v e ks i) (2 + i * 2) [x, .int .i64 1] = rprog v e (updK ks i x) (i + 1) := by
  match i, h with
  | 0, _ => rfl
  | 1, _ => rfl
  | 2, _ => rfl
  | 3, _ => rfl
theorem rprog_four {v e : Int} {ks : Nat → Value} : rprog v e ks 4 = rcells v e ks := rfl
/-- Whose key a role's is. -/
def roleH (s0 s1 : List UInt8) (j : Nat) : List UInt8 := if j = 0 then keyH s0 else keyH s1
theorem length_keyH (s : List UInt8) : (keyH s).length = 32 := length_sha _
theorem length_roleH (s0 s1 : List UInt8) (j : Nat) : (roleH s0 s1 j).length = 32 := by unfold roleH; split <;> exact length_keyH _
/-- A key in memory. -/
def KeyAt (M : List Chunk) (I : Imm) (k : Nat) (s : List UInt8) (u : Nat) : Prop := ∃ lv, s.length = 32 ∧ (k, kcells s lv u, 112) ∈ M ∧ SlI I 32 lv 16 (bcells (leavesH s))
theorem KeyAt.mono {M M' : List Chunk} {I J : Imm} {k : Nat} {s : List UInt8} {u : Nat} (h : KeyAt M I k s u) (hm : ∀ c, c ∈ M → c ∈ M') (hj : Le I J) : KeyAt M' J k s u := by
  obtain ⟨lv, h1, h2, h3⟩ := h
  exact ⟨lv, h1, hm _ h2, h3.le hj⟩

theorem one1_rprog {v e : Int} {ks : Nat → Value} (h : ∀ j, j < 4 → (ks j).oneCell' = true) : one1 (rprog v e ks 4) = true := by
  rw [rprog_four, rcells, rroles]
  simp only [one1_cons, one1_nil, h 0 (by omega), h 1 (by omega), h 2 (by omega), h 3 (by omega)]
  rfl

theorem C24 {rb k0 k1 n0 n1 : Nat} {rc : List Value} {s0 s1 : List UInt8} {v : Int} (hr : (rb, rc, 78) ∈ M) (hr0 : rc[32]? = some (ptr k0 0)) (hr1 : rc[33]? = some (ptr k1 0)) (hk0 : KeyAt M I k0 s0 n0) (hk1 : KeyAt M I k1 s1 n1) (hs : Sat G M I w) :
    Calls Tryz.prog 24 #[ptr rb 0, .int .i64 v] w (Ret fun r w' => ∃ J ks, Le I J ∧ r = aggL (rcells v 1073741824 ks) ∧ (∀ j, j < 4 → SlI J 32 (ks j) 1 (bcells (roleH s0 s1 j))) ∧ Sat G M J w') := by
  refine enter2 Tryz.func24 rfl Tryz.ntmps24 rfl ?_
  repeat (first | refine W.seq ?_ | refine W.region ?_)
  refine RL.e rfl rfl rfl (EF_allocA rfl zr42 hs) ?_
  rintro r1 w1 ⟨b4, rfl, hs1⟩
  refine RL.done (nxt ?_)
  repeat (first | refine W.seq ?_ | refine W.region ?_)
  refine RL.p rfl rfl rfl (PV_move rfl rfl) ?_
  refine RL.p rfl rfl rfl (PV_buildS rfl pl42 zr42 rfl (cs := rprog v 1073741824 (fun _ => .slice none 0 0) 0) rfl) ?_
  refine RL.e rfl rfl rfl (EF_allocA rfl zr42 hs1) ?_
  rintro r2 w2 ⟨b5, rfl, hs2⟩
  refine RL.e0 rfl rfl (EF_storeA (cs := zl42) rfl rfl rfl sz42 rfl rfl hs2 (by first | exact u0 | exact u1 | exact u2 | exact u3 | exact u4 | exact u5 | exact u0.app | exact u1.app | exact u2.app | exact u3.app)) ?_
  rintro r3 w3 hs3
  refine RL.done (nxt ?_)
  repeat (first | refine W.seq ?_ | refine W.region ?_)
  refine RL.p rfl rfl rfl (PV_move rfl rfl) ?_
  refine RL.done (nxt ?_)
  repeat (first | refine W.seq ?_ | refine W.region ?_)
  refine W.block ?_
  repeat (first | refine W.seq ?_ | refine W.region ?_)
  refine W.loop (F := fun z : Nat × (Nat → Value) × Imm => [(10, .int .i64 (z.1 : Int)), (5, ptr b5 0), (4, ptr b4 0), (0, ptr rb 0)]) (J := fun z w => z.1 ≤ 4 ∧ Le I z.2.2 ∧ (∀ j, j < z.1 → SlI z.2.2 32 (z.2.1 j) 1 (bcells (roleH s0 s1 j))) ∧ Sat G ((b5, rprog v 1073741824 z.2.1 z.1, 42) :: (b4, zl42, 42) :: M) z.2.2 w) (m := fun z => 4 - z.1) (0, fun _ => .slice none 0 0, I) (by repeat first | exact Sub.nil | refine Sub.cons rfl ?_) ⟨by omega, Le.refl I, fun j hj => absurd hj (by omega), hs3⟩ ?_
  rintro ⟨i, ks, J⟩ w4 ⟨hi, hj, hks, hs4⟩
  repeat (first | refine W.seq ?_ | refine W.region ?_)
  refine RL.p rfl rfl rfl (PV_lss rfl rfl rfl) ?_
  refine RL.done (nxt ?_)
  repeat (first | refine W.seq ?_ | refine W.region ?_)
  refine W.cond rfl (fun h1 => ?_) (fun h1 => ?_)
  ·
    dsimp only at hi hj hks hs4
    have hi1 : i < 4 := by have := of_decide_eq_true h1; omega
    refine  W.skip (nxt ?_)
    repeat (first | refine W.seq ?_ | refine W.region ?_)
    refine W.block ?_
    repeat (first | refine W.seq ?_ | refine W.region ?_)
    refine RL.p rfl rfl rfl (PV_move rfl rfl) ?_
    refine RL.p rfl rfl rfl (PV_assign rfl rfl) ?_
    refine RL.done (nxt ?_)
    repeat (first | refine W.seq ?_ | refine W.region ?_)
    refine RL.p rfl rfl rfl (PV_move rfl rfl) ?_
    refine RL.p rfl rfl rfl (PV_nilCheckP rfl rfl) ?_
    refine RL.p rfl rfl rfl (by first | exact PV_fieldAddr0 rfl rfl fa78_1 | exact PV_fieldAddr rfl rfl fa78_1) ?_
    refine RL.p rfl rfl rfl (PV_indexArr (i := 1) rfl Tryz.underlying76 sz75 rfl rfl rfl (by decide)) ?_
    refine RL.s rfl rfl rfl (PV_loadM1 rfl ag75 rfl (.tail _ (.tail _ hr)) hr1) hs4 ?_
    refine RL.p rfl rfl rfl (PV_assign rfl rfl) ?_
    refine RL.done (nxt ?_)
    repeat (first | refine W.seq ?_ | refine W.region ?_)
    refine RL.p rfl rfl rfl (PV_move rfl rfl) ?_
    refine RL.p rfl rfl rfl (PV_eqi rfl rfl rfl) ?_
    refine RL.done (nxt ?_)
    repeat (first | refine W.seq ?_ | refine W.region ?_)
    refine W.cut (fun x : Nat => [(7, ptr x 0), (6, .int .i64 (i : Int)), (10, .int .i64 (i : Int)), (5, ptr b5 0), (4, ptr b4 0), (0, ptr rb 0)]) (fun x w => x = (if i = 0 then k0 else k1) ∧ Sat G ((b5, rprog v 1073741824 ks i, 42) :: (b4, zl42, 42) :: M) J w) ?_ ?_
    ·
      refine W.cond rfl (fun h2 => ?_) (fun h2 => ?_)
      ·
        repeat (first | refine W.seq ?_ | refine W.region ?_)
        refine RL.p rfl rfl rfl (PV_move rfl rfl) ?_
        refine RL.p rfl rfl rfl (PV_nilCheckP rfl rfl) ?_
        refine RL.p rfl rfl rfl (by first | exact PV_fieldAddr0 rfl rfl fa78_1 | exact PV_fieldAddr rfl rfl fa78_1) ?_
        refine RL.p rfl rfl rfl (PV_indexArr (i := 0) rfl Tryz.underlying76 sz75 rfl rfl rfl (by decide)) ?_
        refine RL.s rfl rfl rfl (PV_loadM1 rfl ag75 rfl (.tail _ (.tail _ hr)) hr0) hs4 ?_
        refine RL.p rfl rfl rfl (PV_assign rfl rfl) ?_
        refine RL.done (cut_end (F := (fun x : Nat => [(7, ptr x 0), (6, .int .i64 (i : Int)), (10, .int .i64 (i : Int)), (5, ptr b5 0), (4, ptr b4 0), (0, ptr rb 0)])) (J := (fun x w => x = (if i = 0 then k0 else k1) ∧ Sat G ((b5, rprog v 1073741824 ks i, 42) :: (b4, zl42, 42) :: M) J w)) k0 ?_ ?_)
        · repeat first | exact Sub.nil | refine Sub.cons rfl ?_
        · exact ⟨by rw [if_pos (by have := of_decide_eq_true h2; omega)], hs4⟩
      ·
        refine W.skip (cut_end (F := (fun x : Nat => [(7, ptr x 0), (6, .int .i64 (i : Int)), (10, .int .i64 (i : Int)), (5, ptr b5 0), (4, ptr b4 0), (0, ptr rb 0)])) (J := (fun x w => x = (if i = 0 then k0 else k1) ∧ Sat G ((b5, rprog v 1073741824 ks i, 42) :: (b4, zl42, 42) :: M) J w)) k1 ?_ ?_)
        · repeat first | exact Sub.nil | refine Sub.cons rfl ?_
        · exact ⟨by rw [if_neg (by have := of_decide_eq_false h2; omega)], hs4⟩
    rintro x w104 ⟨hx, hs104⟩
    obtain ⟨lv, s, u, h32, hmk, hlk, hkey⟩ : ∃ lv s u, s.length = 32 ∧ (x, kcells s lv u, 112) ∈ M ∧ SlI I 32 lv 16 (bcells (leavesH s)) ∧ keyH s = roleH s0 s1 i := by
      by_cases h0 : i = 0
      · obtain ⟨lv, a, b, c⟩ := hk0
        rw [if_pos h0] at hx
        subst hx
        exact ⟨lv, _, _, a, b, c, by simp [roleH, h0]⟩
      · obtain ⟨lv, a, b, c⟩ := hk1
        rw [if_neg h0] at hx
        subst hx
        exact ⟨lv, _, _, a, b, c, by simp [roleH, h0]⟩
    have hk32 : (bcells (keyH s)).length = 1 * 32 := by rw [length_bcells]; exact length_keyH s
    refine nxt ?_
    repeat (first | refine W.seq ?_ | refine W.region ?_)
    refine RL.p rfl rfl rfl (PV_move rfl rfl) ?_
    refine RL.p rfl rfl rfl (PV_move rfl rfl) ?_
    refine RL.e rfl rfl rfl (K1 rfl fn35 rfl (C35 h32 (.tail _ (.tail _ hmk)) (hlk.le hj) hs104)) ?_
    rintro r105 w105 ⟨rfl, hs105⟩
    refine RL.e rfl rfl rfl (EF_bs1a rfl el37 rfl (by rw [length_bcells]; exact length_keyH s) (by decide) hs105) ?_
    rintro r106 w106 ⟨b28, rfl, hs106⟩
    refine RL.p rfl rfl rfl (PV_buildS rfl pl39 zr39 rfl rfl) ?_
    refine RL.p rfl rfl rfl (by first | exact PV_fieldAddr0 rfl rfl fa42_2 | exact PV_fieldAddr rfl rfl fa42_2) ?_
    refine RL.p rfl rfl rfl (PV_indexArr (i := i) rfl Tryz.underlying40 sz39 rfl rfl rfl (by omega)) ?_
    refine RL.e0 rfl rfl (EF_storeP (cs := rprog v 1073741824 ks i) rfl rfl rfl sz39 rfl (by show 0 + 2 + i * 2 + 2 ≤ 10; omega) (rprog_step hi1) hs106 (by first | exact u0 | exact u1 | exact u2 | exact u3 | exact u4 | exact u5 | exact u0.app | exact u1.app | exact u2.app | exact u3.app)) ?_
    rintro r107 w107 hs107
    refine RL.done (nxt ?_)
    repeat (first | refine W.seq ?_ | refine W.region ?_)
    refine RL.p rfl rfl rfl (PV_add rfl rfl rfl (by omega)) ?_
    refine RL.p rfl rfl rfl (PV_move rfl rfl) ?_
    obtain ⟨J2, hj2, hv2, hs108⟩ := OwnS.freeze (m := 1) (OwnS.lit (e := 24) (m := 1) hk32) hk32 (by decide) hs107
    refine RL.done (round_end (i + 1, updK ks i (.slice (some ⟨b28, 0, none⟩) 1 1), J2) ?_ ?_ ?_)
    · repeat first | exact Sub.nil | refine Sub.cons rfl ?_
    · exact ⟨by dsimp only; omega, hj.trans hj2, fun j hjl => by
        by_cases hji : j = i
        · subst hji
          rw [← hkey]
          simpa [updK] using hv2
        · simp only [updK, hji, if_false]
          exact (hks j (by dsimp only at hjl; omega)).le hj2, hs108⟩
    · first | omega | (dsimp only; omega)
  repeat (first | refine W.seq ?_ | refine W.region ?_)
  refine  W.exit (nxt ?_)
  obtain rfl : i = 4 := by have := of_decide_eq_false h1; dsimp only at hi; omega
  repeat (first | refine W.seq ?_ | refine W.region ?_)
  refine RL.s rfl rfl rfl (PV_loadMA rfl ag42 sz42 rfl (by first | exact m0 | exact m1 | exact m2 | exact m3 | exact m4 | exact m5 | exact mapp m0 | exact mapp m1 | exact mapp m2 | exact mapp m3 | exact hm | exact .tail _ hm | exact .tail _ (.tail _ hm)) (by show 0 + 10 ≤ 10; decide) (part_whole rfl)) hs4 ?_
  refine RL.e0 rfl rfl (EF_storeA (cs := zl42) rfl rfl rfl sz42 rfl (one1_rprog (fun j hj => (hks j hj).cell)) hs4 (by first | exact u0 | exact u1 | exact u2 | exact u3 | exact u4 | exact u5 | exact u0.app | exact u1.app | exact u2.app | exact u3.app)) ?_
  rintro r5 w5 hs5
  refine RL.done (nxt ?_)
  repeat (first | refine W.seq ?_ | refine W.region ?_)
  exact W.ret (ret_cell rfl rfl (ldA ag42 sz42 hs5 (by first | exact m0 | exact m1 | exact m2 | exact m3 | exact m4 | exact m5 | exact mapp m0 | exact mapp m1 | exact hm) rfl) ⟨_, rfl, J, ks, hj, rfl, hks, hs5.tail.tail⟩)

end Go.Proofs.YtecbpmgfikgoaaaGreatDoor
end
section
set_option linter.unusedVariables false
set_option linter.unusedSimpArgs false
set_option maxRecDepth 8000
set_option maxHeartbeats 4000000
namespace Go.Proofs.YtecbpmgfikgoaaaGreatDoor
open Go Go.RowKit
variable {G w : World} {M : List Chunk} {I : Imm}

theorem rc_set {v e : Int} {ks : Nat → Value} {i : Nat} {x : Value} (h : i < 4) : (rcells v e ks).set (2 + i * 2) x = rcells v e (updK ks i x) := by
  match i, h with
  | 0, _ => rfl
  | 1, _ => rfl
  | 2, _ => rfl
  | 3, _ => rfl
theorem one1_rcells {v e : Int} {ks : Nat → Value} (h : ∀ j, j < 4 → (ks j).oneCell' = true) : one1 (rcells v e ks) = true := by
  rw [rcells, rroles]
  simp only [one1_cons, one1_nil, h 0 (by omega), h 1 (by omega), h 2 (by omega), h 3 (by omega)]
  rfl

theorem C52 {v : Value} {m : Nat} {cs : List Value} (hv : SlM G M I 32 v m cs) (h1 : one1 cs = true) (hl : m ≤ 2 ^ 30) (hs : Sat G M I w) : Calls Tryz.prog 52 #[v] w (Ret fun r w' => ∃ J, Le I J ∧ SlI J 32 r m cs ∧ Sat G M J w') := by
  obtain ⟨A, c, rfl, hc⟩ := hv.shape
  have hcl : cs.length = m * 32 := hv.1
  refine enter1 Tryz.func52 rfl Tryz.ntmps52 rfl ?_
  repeat (first | refine W.seq ?_ | refine W.region ?_)
  refine RL.p rfl rfl rfl (PV_assign rfl rfl) ?_
  refine RL.done (nxt ?_)
  repeat (first | refine W.seq ?_ | refine W.region ?_)
  refine RL.p rfl rfl rfl (PV_move rfl rfl) ?_
  refine RL.p rfl rfl rfl (PV_eqnils rfl Tryz.underlying37 rfl rfl) ?_
  refine RL.done (nxt ?_)
  repeat (first | refine W.seq ?_ | refine W.region ?_)
  refine W.cond rfl (fun hn => ?_) (fun hn => ?_)
  ·
    repeat (first | refine W.seq ?_ | refine W.region ?_)
    refine RL.p rfl rfl rfl (PV_assign rfl rfl) ?_
    refine RL.done (nxt ?_)
    repeat (first | refine W.seq ?_ | refine W.region ?_)
    have hA : A = none := by cases A with
      | none => rfl
      | some a => cases hn
    subst hA
    have h00 : m = 0 := by
      obtain ⟨_, A, c, he, _, h⟩ := hv
      rcases h with h | ⟨b, off, h, _⟩
      · exact h
      · subst h; cases he
    subst h00
    obtain rfl : cs = [] := List.eq_nil_of_length_eq_zero (by omega)
    exact W.ret (ret_tmp rfl rfl ⟨_, rfl, I, Le.refl I, SlI.nil 32, hs⟩)
  refine W.skip (nxt ?_)
  repeat (first | refine W.seq ?_ | refine W.region ?_)
  refine RL.e rfl rfl rfl (EF_bs0 rfl el37 hs) ?_
  rintro r1 w1 ⟨b5, rfl, hs1⟩
  refine RL.p rfl rfl rfl (PV_move rfl rfl) ?_
  refine RL.e rfl rfl rfl (EF_append (l := 0) (m := m) (olds := []) rfl el37 rfl rfl (OwnS.lit (m := 0) rfl) rfl (hv.rd hs1.tail) h1 (by omega) (by decide) hs1) ?_
  rintro r2 w2 ⟨L2, ho2, hs2⟩
  refine RL.p rfl rfl rfl (PV_assign rfl rfl) ?_
  refine RL.done (nxt ?_)
  repeat (first | refine W.seq ?_ | refine W.region ?_)
  obtain ⟨J, hj, hv2, hs3⟩ := OwnS.freeze (m := m) (sz := 32) ho2 (by simpa using hcl) (by decide) hs2
  exact W.ret (ret_tmp rfl rfl ⟨_, rfl, J, hj, hv2, hs3⟩)

theorem C29 {v : Value} {m : Nat} {cs : List Value} (hv : SlM G M I 37 v m cs) (h1 : one1 cs = true) (hl : m ≤ 2 ^ 30) (hs : Sat G M I w) : Calls Tryz.prog 29 #[v] w (Ret fun r w' => ∃ J, Le I J ∧ SlI J 37 r m cs ∧ Sat G M J w') := by
  obtain ⟨A, c, rfl, hc⟩ := hv.shape
  have hcl : cs.length = m * 37 := hv.1
  refine enter1 Tryz.func29 rfl Tryz.ntmps29 rfl ?_
  repeat (first | refine W.seq ?_ | refine W.region ?_)
  refine RL.p rfl rfl rfl (PV_assign rfl rfl) ?_
  refine RL.done (nxt ?_)
  repeat (first | refine W.seq ?_ | refine W.region ?_)
  refine RL.p rfl rfl rfl (PV_move rfl rfl) ?_
  refine RL.p rfl rfl rfl (PV_eqnils rfl Tryz.underlying22 rfl rfl) ?_
  refine RL.done (nxt ?_)
  repeat (first | refine W.seq ?_ | refine W.region ?_)
  refine W.cond rfl (fun hn => ?_) (fun hn => ?_)
  ·
    repeat (first | refine W.seq ?_ | refine W.region ?_)
    refine RL.p rfl rfl rfl (PV_assign rfl rfl) ?_
    refine RL.done (nxt ?_)
    repeat (first | refine W.seq ?_ | refine W.region ?_)
    have hA : A = none := by cases A with
      | none => rfl
      | some a => cases hn
    subst hA
    have h00 : m = 0 := by
      obtain ⟨_, A, c, he, _, h⟩ := hv
      rcases h with h | ⟨b, off, h, _⟩
      · exact h
      · subst h; cases he
    subst h00
    obtain rfl : cs = [] := List.eq_nil_of_length_eq_zero (by omega)
    exact W.ret (ret_tmp rfl rfl ⟨_, rfl, I, Le.refl I, SlI.nil 37, hs⟩)
  refine W.skip (nxt ?_)
  repeat (first | refine W.seq ?_ | refine W.region ?_)
  refine RL.e rfl rfl rfl (EF_bs0 rfl el22 hs) ?_
  rintro r1 w1 ⟨b5, rfl, hs1⟩
  refine RL.p rfl rfl rfl (PV_move rfl rfl) ?_
  refine RL.e rfl rfl rfl (EF_append (l := 0) (m := m) (olds := []) rfl el22 rfl rfl (OwnS.lit (m := 0) rfl) rfl (hv.rd hs1.tail) h1 (by omega) (by decide) hs1) ?_
  rintro r2 w2 ⟨L2, ho2, hs2⟩
  refine RL.p rfl rfl rfl (PV_assign rfl rfl) ?_
  refine RL.done (nxt ?_)
  repeat (first | refine W.seq ?_ | refine W.region ?_)
  obtain ⟨J, hj, hv2, hs3⟩ := OwnS.freeze (m := m) (sz := 37) ho2 (by simpa using hcl) (by decide) hs2
  exact W.ret (ret_tmp rfl rfl ⟨_, rfl, J, hj, hv2, hs3⟩)

theorem C89 {v : Value} {m : Nat} {cs : List Value} (hv : SlM G M I 35 v m cs) (h1 : one1 cs = true) (hl : m ≤ 2 ^ 30) (hs : Sat G M I w) : Calls Tryz.prog 89 #[v] w (Ret fun r w' => ∃ J, Le I J ∧ SlI J 35 r m cs ∧ Sat G M J w') := by
  obtain ⟨A, c, rfl, hc⟩ := hv.shape
  have hcl : cs.length = m * 35 := hv.1
  refine enter1 Tryz.func89 rfl Tryz.ntmps89 rfl ?_
  repeat (first | refine W.seq ?_ | refine W.region ?_)
  refine RL.p rfl rfl rfl (PV_assign rfl rfl) ?_
  refine RL.done (nxt ?_)
  repeat (first | refine W.seq ?_ | refine W.region ?_)
  refine RL.p rfl rfl rfl (PV_move rfl rfl) ?_
  refine RL.p rfl rfl rfl (PV_eqnils rfl Tryz.underlying61 rfl rfl) ?_
  refine RL.done (nxt ?_)
  repeat (first | refine W.seq ?_ | refine W.region ?_)
  refine W.cond rfl (fun hn => ?_) (fun hn => ?_)
  ·
    repeat (first | refine W.seq ?_ | refine W.region ?_)
    refine RL.p rfl rfl rfl (PV_assign rfl rfl) ?_
    refine RL.done (nxt ?_)
    repeat (first | refine W.seq ?_ | refine W.region ?_)
    have hA : A = none := by cases A with
      | none => rfl
      | some a => cases hn
    subst hA
    have h00 : m = 0 := by
      obtain ⟨_, A, c, he, _, h⟩ := hv
      rcases h with h | ⟨b, off, h, _⟩
      · exact h
      · subst h; cases he
    subst h00
    obtain rfl : cs = [] := List.eq_nil_of_length_eq_zero (by omega)
    exact W.ret (ret_tmp rfl rfl ⟨_, rfl, I, Le.refl I, SlI.nil 35, hs⟩)
  refine W.skip (nxt ?_)
  repeat (first | refine W.seq ?_ | refine W.region ?_)
  refine RL.e rfl rfl rfl (EF_bs0 rfl el61 hs) ?_
  rintro r1 w1 ⟨b5, rfl, hs1⟩
  refine RL.p rfl rfl rfl (PV_move rfl rfl) ?_
  refine RL.e rfl rfl rfl (EF_append (l := 0) (m := m) (olds := []) rfl el61 rfl rfl (OwnS.lit (m := 0) rfl) rfl (hv.rd hs1.tail) h1 (by omega) (by decide) hs1) ?_
  rintro r2 w2 ⟨L2, ho2, hs2⟩
  refine RL.p rfl rfl rfl (PV_assign rfl rfl) ?_
  refine RL.done (nxt ?_)
  repeat (first | refine W.seq ?_ | refine W.region ?_)
  obtain ⟨J, hj, hv2, hs3⟩ := OwnS.freeze (m := m) (sz := 35) ho2 (by simpa using hcl) (by decide) hs2
  exact W.ret (ret_tmp rfl rfl ⟨_, rfl, J, hj, hv2, hs3⟩)

end Go.Proofs.YtecbpmgfikgoaaaGreatDoor
end
section
set_option linter.unusedVariables false
set_option linter.unusedSimpArgs false
set_option maxRecDepth 8000
set_option maxHeartbeats 4000000
namespace Go.Proofs.YtecbpmgfikgoaaaGreatDoor
open Go Go.RowKit
variable {G w : World} {M : List Chunk} {I : Imm}

theorem C30 {v e : Int} {ks : Nat → Value} {hh : Nat → List UInt8} (h32 : ∀ j, j < 4 → (hh j).length = 32) (hk : ∀ j, j < 4 → SlI I 32 (ks j) 1 (bcells (hh j))) (hs : Sat G M I w) : Calls Tryz.prog 30 #[aggL (rcells v e ks)] w (Ret fun r w' => ∃ J kk, Le I J ∧ r = aggL (rcells v e kk) ∧ (∀ j, j < 4 → SlI J 32 (kk j) 1 (bcells (hh j))) ∧ Sat G M J w') := by
  refine enter1 Tryz.func30 rfl Tryz.ntmps30 rfl ?_
  repeat (first | refine W.seq ?_ | refine W.region ?_)
  refine RL.e rfl rfl rfl (EF_boxA rfl rfl hs) ?_
  rintro r1 w1 ⟨b1, rfl, hs1⟩
  refine RL.e rfl rfl rfl (EF_allocA rfl zr42 hs1) ?_
  rintro r2 w2 ⟨b2, rfl, hs2⟩
  refine RL.done (nxt ?_)
  repeat (first | refine W.seq ?_ | refine W.region ?_)
  refine RL.p rfl rfl rfl (by first | exact PV_fieldAddr0 rfl rfl fa42_2 | exact PV_fieldAddr rfl rfl fa42_2) ?_
  refine RL.s rfl rfl rfl (PV_loadMA rfl ag40 sz40 rfl (by first | exact m0 | exact m1 | exact m2 | exact m3 | exact m4 | exact m5 | exact mapp m0 | exact mapp m1 | exact mapp m2 | exact mapp m3 | exact hm | exact .tail _ hm | exact .tail _ (.tail _ hm)) (by simp [rcells, rroles]) (show part (rcells v e ks) 2 8 = rroles ks from rfl)) hs2 ?_
  refine RL.p rfl rfl rfl (PV_move rfl rfl) ?_
  refine RL.done (nxt ?_)
  repeat (first | refine W.seq ?_ | refine W.region ?_)
  refine W.block ?_
  repeat (first | refine W.seq ?_ | refine W.region ?_)
  refine W.loop (F := fun z : Nat × (Nat → Value) × Imm => [(7, .int .i64 (z.1 : Int)), (6, aggL (rroles ks)), (1, ptr b1 0), (2, ptr b2 0)]) (J := fun z w => z.1 ≤ 4 ∧ Le I z.2.2 ∧ (∀ j, j < z.1 → SlI z.2.2 32 (z.2.1 j) 1 (bcells (hh j))) ∧ Sat G ((b2, zl42, 42) :: (b1, rcells v e z.2.1, 42) :: M) z.2.2 w) (m := fun z => 4 - z.1) (0, ks, I) (by repeat first | exact Sub.nil | refine Sub.cons rfl ?_) ⟨by omega, Le.refl I, fun j hj => absurd hj (by omega), hs2⟩ ?_
  rintro ⟨i, kk, J⟩ w3 ⟨hi, hj, hks, hs3⟩
  repeat (first | refine W.seq ?_ | refine W.region ?_)
  refine RL.p rfl rfl rfl (PV_lss rfl rfl rfl) ?_
  refine RL.done (nxt ?_)
  repeat (first | refine W.seq ?_ | refine W.region ?_)
  refine W.cond rfl (fun h1 => ?_) (fun h1 => ?_)
  ·
    dsimp only at hi hj hks hs3
    have hi1 : i < 4 := by have := of_decide_eq_true h1; omega
    refine  W.skip (nxt ?_)
    repeat (first | refine W.seq ?_ | refine W.region ?_)
    refine W.block ?_
    repeat (first | refine W.seq ?_ | refine W.region ?_)
    refine RL.p rfl rfl rfl (PV_move rfl rfl) ?_
    refine RL.p rfl rfl rfl (PV_indexA (i := i) rfl Tryz.underlying40 sz39 ag39 rfl rfl rfl hi1 (rr_part hi1)) ?_
    refine RL.e rfl rfl rfl (EF_allocA rfl zr39 hs3) ?_
    rintro r4 w4 ⟨b4, rfl, hs4⟩
    refine RL.p rfl rfl rfl (PV_assign rfl rfl) ?_
    refine RL.e0 rfl rfl (EF_storeA (cs := zl39) rfl rfl rfl sz39 rfl (by simp only [one1_cons, one1_nil, (hk i hi1).cell]; rfl) hs4 (by first | exact u0 | exact u1 | exact u2 | exact u3 | exact u4 | exact u5 | exact u0.app | exact u1.app | exact u2.app | exact u3.app)) ?_
    rintro r5 w5 hs5
    refine RL.done (nxt ?_)
    repeat (first | refine W.seq ?_ | refine W.region ?_)
    refine RL.p rfl rfl rfl (PV_move rfl rfl) ?_
    refine RL.p rfl rfl rfl (by first | exact PV_fieldAddr0 rfl rfl fa39_0 | exact PV_fieldAddr rfl rfl fa39_0) ?_
    refine RL.s rfl rfl rfl (PV_loadM1 rfl ag37 rfl (by first | exact m0 | exact m1 | exact m2 | exact m3 | exact m4 | exact m5 | exact mapp m0 | exact mapp m1 | exact mapp m2 | exact mapp m3 | exact hm | exact .tail _ hm | exact .tail _ (.tail _ hm)) (by first | exact w32_get (by omega) | exact wcells_get (by omega) | exact bc_get (by omega) | exact tc_34 | exact tc_35 | exact tc_36 | exact tc_0 | exact tc_1 | rfl)) hs5 ?_
    refine RL.e rfl rfl rfl (K1 rfl fn52 rfl (C52 (m := 1) ((hk i hi1).le hj).toM (one1_bcells _) (by decide) hs5)) ?_
    rintro r6 w6 ⟨J2, hj2, hc2, hs6⟩
    refine RL.p rfl rfl rfl (by first | exact PV_fieldAddr0 rfl rfl fa42_2 | exact PV_fieldAddr rfl rfl fa42_2) ?_
    refine RL.p rfl rfl rfl (PV_indexArr (i := i) rfl Tryz.underlying40 sz39 rfl rfl rfl (by omega)) ?_
    refine RL.p rfl rfl rfl (by first | exact PV_fieldAddr0 rfl rfl fa39_0 | exact PV_fieldAddr rfl rfl fa39_0) ?_
    refine RL.e0 rfl rfl (EF_storeC (cs := rcells v e kk) rfl rfl rfl sz37 hc2.cell (by show _ < 10; omega) (rc_set hi1) hs6 (by first | exact u0 | exact u1 | exact u2 | exact u3 | exact u4 | exact u5 | exact u0.app | exact u1.app | exact u2.app | exact u3.app)) ?_
    rintro r7 w7 hs7
    refine RL.done (nxt ?_)
    repeat (first | refine W.seq ?_ | refine W.region ?_)
    refine RL.p rfl rfl rfl (PV_add rfl rfl rfl (by omega)) ?_
    refine RL.p rfl rfl rfl (PV_move rfl rfl) ?_
    refine RL.done (round_end (i + 1, updK kk i r6, J2) ?_ ?_ ?_)
    · repeat first | exact Sub.nil | refine Sub.cons rfl ?_
    · exact ⟨by dsimp only; omega, hj.trans hj2, fun j hjl => by
        by_cases hji : j = i
        · subst hji
          simpa [updK] using hc2
        · simp only [updK, hji, if_false]
          exact (hks j (by dsimp only at hjl; omega)).le hj2, hs7.tail⟩
    · first | omega | (dsimp only; omega)
  repeat (first | refine W.seq ?_ | refine W.region ?_)
  refine  W.exit (nxt ?_)
  obtain rfl : i = 4 := by have := of_decide_eq_false h1; dsimp only at hi; omega
  repeat (first | refine W.seq ?_ | refine W.region ?_)
  refine RL.s rfl rfl rfl (PV_loadMA rfl ag42 sz42 rfl (by first | exact m0 | exact m1 | exact m2 | exact m3 | exact m4 | exact m5 | exact mapp m0 | exact mapp m1 | exact mapp m2 | exact mapp m3 | exact hm | exact .tail _ hm | exact .tail _ (.tail _ hm)) (by show 0 + 10 ≤ 10; decide) (part_whole rfl)) hs3 ?_
  refine RL.e0 rfl rfl (EF_storeA (cs := zl42) rfl rfl rfl sz42 rfl (one1_rcells (fun j hj => (hks j hj).cell)) hs3 (by first | exact u0 | exact u1 | exact u2 | exact u3 | exact u4 | exact u5 | exact u0.app | exact u1.app | exact u2.app | exact u3.app)) ?_
  rintro r4 w4 hs4
  refine RL.done (nxt ?_)
  repeat (first | refine W.seq ?_ | refine W.region ?_)
  exact W.ret (ret_cell rfl rfl (ldA ag42 sz42 hs4 (by first | exact m0 | exact m1 | exact m2 | exact m3 | exact m4 | exact m5 | exact mapp m0 | exact mapp m1 | exact hm) rfl) ⟨_, rfl, J, kk, hj, rfl, hks, hs4.tail.tail⟩)

theorem C13 {rb : Nat} {rc : List Value} {v e : Int} {ks : Nat → Value} {hh : Nat → List UInt8} (hr : (rb, rc, 78) ∈ M) (hrc : rc.length = 64) (hp : part rc 35 10 = rcells v e ks) (h32 : ∀ j, j < 4 → (hh j).length = 32) (hk : ∀ j, j < 4 → SlI I 32 (ks j) 1 (bcells (hh j))) (hs : Sat G M I w) : Calls Tryz.prog 13 #[ptr rb 0] w (Ret fun r w' => ∃ J kk, Le I J ∧ r = aggL (rcells v e kk) ∧ (∀ j, j < 4 → SlI J 32 (kk j) 1 (bcells (hh j))) ∧ Sat G M J w') := by
  refine enter1 Tryz.func13 rfl Tryz.ntmps13 rfl ?_
  repeat (first | refine W.seq ?_ | refine W.region ?_)
  refine RL.e rfl rfl rfl (EF_allocA rfl zr42 hs) ?_
  rintro r1 w1 ⟨b2, rfl, hs1⟩
  refine RL.done (nxt ?_)
  repeat (first | refine W.seq ?_ | refine W.region ?_)
  refine RL.p rfl rfl rfl (PV_move rfl rfl) ?_
  refine RL.p rfl rfl rfl (PV_eqnil rfl Tryz.underlying27 rfl rfl) ?_
  refine RL.done (nxt ?_)
  repeat (first | refine W.seq ?_ | refine W.region ?_)
  refine W.cond rfl (fun h1 => ?_) (fun h1 => ?_)
  · cases h1
  refine W.skip (nxt ?_)
  repeat (first | refine W.seq ?_ | refine W.region ?_)
  refine RL.p rfl rfl rfl (PV_move rfl rfl) ?_
  refine RL.p rfl rfl rfl (PV_nilCheckP rfl rfl) ?_
  refine RL.p rfl rfl rfl (by first | exact PV_fieldAddr0 rfl rfl fa78_3 | exact PV_fieldAddr rfl rfl fa78_3) ?_
  refine RL.s rfl rfl rfl (PV_loadMA rfl ag42 sz42 rfl (.tail _ hr) (by rw [hrc]; decide) hp) hs1 ?_
  refine RL.e rfl rfl rfl (K1 rfl fn30 rfl (C30 h32 hk hs1)) ?_
  rintro r2 w2 ⟨J2, kk, hj2, rfl, hkk, hs2⟩
  refine RL.e0 rfl rfl (EF_storeA (cs := zl42) rfl rfl rfl sz42 rfl (one1_rcells (fun j hj => (hkk j hj).cell)) hs2 (by first | exact u0 | exact u1 | exact u2 | exact u3 | exact u4 | exact u5 | exact u0.app | exact u1.app | exact u2.app | exact u3.app)) ?_
  rintro r3 w3 hs3
  refine RL.done (nxt ?_)
  repeat (first | refine W.seq ?_ | refine W.region ?_)
  exact W.ret (ret_cell rfl rfl (ldA ag42 sz42 hs3 (by first | exact m0 | exact m1 | exact m2 | exact m3 | exact m4 | exact m5 | exact mapp m0 | exact mapp m1 | exact hm) rfl) ⟨_, rfl, J2, kk, hj2, rfl, hkk, hs3.tail⟩)

end Go.Proofs.YtecbpmgfikgoaaaGreatDoor
end
section
set_option linter.unusedVariables false
set_option linter.unusedSimpArgs false
set_option maxRecDepth 8000
set_option maxHeartbeats 4000000
namespace Go.Proofs.YtecbpmgfikgoaaaGreatDoor
open Go Go.RowKit
variable {G w : World} {M : List Chunk} {I : Imm}

section
variable {s : List UInt8} {t : List Value}
theorem ap_len (h : s.length = 32) (ht : t.length = 32) : (bcells s ++ t).length = 64 := by simp [length_bcells, h, ht]
theorem ap_get (h : s.length = 32) {i : Nat} {v : Value} (hv : t[i]? = some v) : (bcells s ++ t)[32 + i]? = some v := by
  rw [List.getElem?_append_right (by rw [length_bcells, h]; omega), length_bcells, h, Nat.add_sub_cancel_left]
  exact hv
theorem ap_set (h : s.length = 32) {i : Nat} {x : Value} {t' : List Value} (ht : t.set i x = t') : (bcells s ++ t).set (32 + i) x = bcells s ++ t' := by
  rw [List.set_append_right _ _ (by rw [length_bcells, h]; omega), length_bcells, h, Nat.add_sub_cancel_left, ht]
theorem ap_part (h : s.length = 32) {i n : Nat} {r : List Value} (hp : part t i n = r) : part (bcells s ++ t) (32 + i) n = r := by
  rw [← hp, part, List.drop_append, length_bcells, h, Nat.add_sub_cancel_left, List.drop_of_length_le (by rw [length_bcells, h]; omega)]
  rfl
theorem ap_splice (h : s.length = 32) {i : Nat} {vs t' : List Value} (hp : splice t i vs = t') : splice (bcells s ++ t) (32 + i) vs = bcells s ++ t' := by
  rw [← hp]
  simp only [splice]
  rw [List.take_append, List.drop_append, length_bcells, h, Nat.add_sub_cancel_left, List.take_of_length_le (by rw [length_bcells, h]; omega), List.drop_of_length_le (by rw [length_bcells, h]; omega), show 32 + i + vs.length - 32 = i + vs.length by omega]
  simp
end
/-- A Repo's cells behind its seed. -/
def rtail (p0 p1 : Value) (gen : Int) (v0 : Int) (f : Nat → Value) (v1 : Int) (la : Nat → Value) (l : Value) (sg : Int) (b : Nat → Value) (led : Value) : List Value :=
  p0 :: p1 :: .int .i64 gen :: (rcells v0 1073741824 f ++ (rcells v1 1073741824 la ++ [l, .int .i64 sg, b 0, b 1, b 2, b 3, b 4, b 5, led]))
def rtail0 (p0 p1 : Value) (f la : List Value) : List Value := p0 :: p1 :: .int .i64 1 :: (f ++ (la ++ [.slice none 0 0, .int .i64 0, .slice none 0 0, .slice none 0 0, .slice none 0 0, .slice none 0 0, .slice none 0 0, .slice none 0 0, .slice none 0 0]))
theorem fill78 {s : List UInt8} (h : s.length = 32) : fillL [(0, 32), (32, 2), (34, 1), (35, 10), (45, 10), (55, 1), (56, 1), (57, 6), (63, 1)] zl78 ([(0, aggL (bcells s)), (2, Value.int .i64 1)].map fun x => (x.1, x.2.cells.toList)) = some (bcells s ++ rtail0 (.pointer none) (.pointer none) zl42 zl42) := by
  have h1 : (aggL (bcells s)).cells.toList = bcells s := cells_aggL _
  have h2 : (Value.int .i64 1).cells.toList = [.int .i64 1] := rfl
  have h3 : (bcells s).length = 32 := by rw [length_bcells, h]
  have h4 : splice zl78 0 (bcells s) = bcells s ++ zl78.drop 32 := by
    have : zl78 = List.replicate 32 (.int .u8 0) ++ zl78.drop 32 := rfl
    conv => lhs; rw [this]
    exact splice_front (n := 32) rfl h3
  simp only [List.map_cons, List.map_nil, fillL, h1, h2, List.getElem?_cons_zero, List.getElem?_cons_succ, h3, h4]
  rw [if_pos ⟨trivial, by decide⟩, if_pos ⟨rfl, by rw [List.length_append, h3]; decide⟩]
  exact congrArg some (ap_splice (i := 2) h rfl)

theorem C7 {s : List UInt8} (h32 : s.length = 32) (hs : Sat G M I w) : Calls Tryz.prog 7 #[aggL (bcells s)] w (Ret fun r w' => ∃ J rb k0 k1 lv0 lv1 ks, Le I J ∧ r = ptr rb 0 ∧ SlI J 32 lv0 16 (bcells (leavesH (seedH s 0))) ∧ SlI J 32 lv1 16 (bcells (leavesH (seedH s 1))) ∧ (∀ j, j < 4 → SlI J 32 (ks j) 1 (bcells (roleH (seedH s 0) (seedH s 1) j))) ∧
    Sat G ((k1, kcells (seedH s 1) lv1 0, 112) :: (k0, kcells (seedH s 0) lv0 0, 112) :: (rb, bcells s ++ rtail (ptr k0 0) (ptr k1 0) 1 1 ks 1 ks (.slice none 0 0) 0 (fun _ => .slice none 0 0) (.slice none 0 0), 78) :: M) J w') := by
  refine enter1 Tryz.func7 rfl Tryz.ntmps7 rfl ?_
  repeat (first | refine W.seq ?_ | refine W.region ?_)
  refine RL.e rfl rfl rfl (EF_boxA rfl rfl hs) ?_
  rintro r1 w1 ⟨b1, rfl, hs1⟩
  refine RL.p rfl rfl rfl (PV_assign rfl rfl) ?_
  refine RL.done (nxt ?_)
  repeat (first | refine W.seq ?_ | refine W.region ?_)
  refine RL.s rfl rfl rfl (PV_loadMA rfl ag24 sz24 rfl (by first | exact m0 | exact m1 | exact m2 | exact m3 | exact m4 | exact m5 | exact mapp m0 | exact mapp m1 | exact mapp m2 | exact mapp m3 | exact hm | exact .tail _ hm | exact .tail _ (.tail _ hm)) (by rw [length_bcells, h32]; decide) (part_whole (by rw [length_bcells, h32]))) hs1 ?_
  refine RL.p rfl rfl rfl (PV_buildS rfl pl78 zr78 rfl (fill78 h32)) ?_
  refine RL.e rfl rfl rfl (EF_boxA rfl rfl hs1) ?_
  rintro r2 w2 ⟨b6, rfl, hs2⟩
  refine RL.p rfl rfl rfl (PV_assign rfl rfl) ?_
  refine RL.done (nxt ?_)
  repeat (first | refine W.seq ?_ | refine W.region ?_)
  refine W.drawsH hs2 [(0, true), (1, true), (4, true), (2, false), (3, false), (5, false), (6, false), (7, false), (8, false), (9, false), (10, false)] mixed (by kernel_rfl) (by kernel_rfl) ?_
  have hs3 := hs2.drew
  refine TW.p rfl rfl rfl rfl (PV_move rfl rfl) (hs3) ?_
  refine TW.s rfl rfl rfl rfl (PV_loadMA rfl ag24 sz24 rfl (by first | exact m0 | exact m1 | exact m2 | exact m3 | exact m4 | exact m5 | exact mapp m0 | exact mapp m1 | exact mapp m2 | exact mapp m3 | exact hm | exact .tail _ hm | exact .tail _ (.tail _ hm)) (by rw [length_bcells, h32]; decide) (part_whole (by rw [length_bcells, h32]))) (hs3) ?_
  refine TW.s rfl rfl rfl rfl (PV_loadMA rfl ag24 sz24 rfl (by first | exact m0 | exact m1 | exact m2 | exact m3 | exact m4 | exact m5 | exact mapp m0 | exact mapp m1 | exact mapp m2 | exact mapp m3 | exact hm | exact .tail _ hm | exact .tail _ (.tail _ hm)) (by rw [length_bcells, h32]; decide) (part_whole (by rw [length_bcells, h32]))) (hs3) ?_
  refine TW.e rfl rfl rfl rfl (K2 rfl fn23 rfl rfl (C23 (g := 0) h32 hs3)) ?_
  rintro r4 w4 ⟨rfl, hs4⟩
  refine ⟨(hs4), ?_⟩
  refine TW.e rfl rfl rfl rfl (K2 rfl fn22 rfl rfl (C22 (length_sha _) hs4)) ?_
  rintro r5 w5 ⟨J5, kb5, lv5, hj5, rfl, hlv5, hs5⟩
  refine ⟨((hs5.tail).le hj5), ?_⟩
  refine TW.e rfl rfl rfl rfl (K2 rfl fn23 rfl rfl (C23 (g := 1) h32 hs5)) ?_
  rintro r6 w6 ⟨rfl, hs6⟩
  refine ⟨((hs6.tail).le hj5), ?_⟩
  refine TW.e rfl rfl rfl rfl (K2 rfl fn22 rfl rfl (C22 (length_sha _) hs6)) ?_
  rintro r7 w7 ⟨J7, kb7, lv7, hj7, rfl, hlv7, hs7⟩
  refine ⟨((hs7.tail.tail).le (hj5.trans hj7)), ?_⟩
  refine TW.q rfl rfl rfl rfl (T := fun _ => True) (PV_arr (ops := [.tmp 10, .tmp 13]) (vs := [ptr kb5 0, ptr kb7 0]) rfl rfl Tryz.underlying76 sz75 zr76 rfl rfl rfl) trivial (fun _ => ((hs7.tail.tail).le (hj5.trans hj7))) ?_
  refine TW.qn rfl rfl rfl rfl (T := fun _ => True) (PV_nilCheckP rfl rfl) trivial (by kernel_rfl) ?_
  refine TW.qn rfl rfl rfl rfl (T := fun _ => True) (by first | exact PV_fieldAddr0 rfl rfl fa78_1 | exact PV_fieldAddr rfl rfl fa78_1) trivial (by kernel_rfl) ?_
  refine TW.en0 rfl rfl rfl (by kernel_rfl) (EF_storeP (cs := bcells s ++ rtail0 (.pointer none) (.pointer none) zl42 zl42) rfl rfl rfl sz76 rfl (by rw [ap_len h32 rfl]; exact (by decide : 32 + 2 ≤ 64)) (ap_splice (i := 0) (t' := rtail0 (ptr kb5 0) (ptr kb7 0) zl42 zl42) h32 rfl) hs7 (by first | exact u0 | exact u1 | exact u2 | exact u3 | exact u4 | exact u5 | exact u0.app | exact u1.app | exact u2.app | exact u3.app)) ?_
  rintro r8 w8 hs8
  refine TW.done (nxt ?_)
  repeat (first | refine W.seq ?_ | refine W.region ?_)
  refine RL.p rfl rfl rfl (PV_move rfl rfl) ?_
  refine RL.p rfl rfl rfl (PV_move rfl rfl) ?_
  refine RL.e rfl rfl rfl (K2 rfl fn24 rfl rfl (C24 (s0 := seedH s 0) (s1 := seedH s 1) (n0 := 0) (n1 := 0) m2 (ap_get (i := 0) h32 rfl) (ap_get (i := 1) h32 rfl) ⟨lv5, length_sha _, m1, hlv5.le hj7⟩ ⟨lv7, length_sha _, m0, hlv7⟩ hs8)) ?_
  rintro r9 w9 ⟨J9, ks, hj9, rfl, hks, hs9⟩
  refine RL.p rfl rfl rfl (PV_nilCheckP rfl rfl) ?_
  refine RL.p rfl rfl rfl (by first | exact PV_fieldAddr0 rfl rfl fa78_3 | exact PV_fieldAddr rfl rfl fa78_3) ?_
  refine RL.e0 rfl rfl (EF_storeP (cs := bcells s ++ rtail0 (ptr kb5 0) (ptr kb7 0) zl42 zl42) rfl rfl rfl sz42 (one1_rcells (fun j hj => (hks j hj).cell)) (by rw [ap_len h32 rfl]; exact (by decide : 35 + 10 ≤ 64)) (ap_splice (i := 3) (t' := rtail0 (ptr kb5 0) (ptr kb7 0) (rcells 1 1073741824 ks) zl42) h32 rfl) hs9 (by first | exact u0 | exact u1 | exact u2 | exact u3 | exact u4 | exact u5 | exact u0.app | exact u1.app | exact u2.app | exact u3.app)) ?_
  rintro r10 w10 hs10
  refine RL.done (nxt ?_)
  repeat (first | refine W.seq ?_ | refine W.region ?_)
  refine RL.p rfl rfl rfl (PV_move rfl rfl) ?_
  refine RL.p rfl rfl rfl (PV_move rfl rfl) ?_
  refine RL.p rfl rfl rfl (PV_nilCheckP rfl rfl) ?_
  refine RL.p rfl rfl rfl (by first | exact PV_fieldAddr0 rfl rfl fa78_3 | exact PV_fieldAddr rfl rfl fa78_3) ?_
  refine RL.s rfl rfl rfl (PV_loadMA rfl ag42 sz42 rfl m2 (by rw [ap_len h32 rfl]; decide) (ap_part (i := 3) (r := rcells 1 1073741824 ks) h32 rfl)) hs10 ?_
  refine RL.p rfl rfl rfl (PV_nilCheckP rfl rfl) ?_
  refine RL.p rfl rfl rfl (by first | exact PV_fieldAddr0 rfl rfl fa78_4 | exact PV_fieldAddr rfl rfl fa78_4) ?_
  refine RL.e0 rfl rfl (EF_storeP (cs := bcells s ++ rtail0 (ptr kb5 0) (ptr kb7 0) (rcells 1 1073741824 ks) zl42) rfl rfl rfl sz42 (one1_rcells (fun j hj => (hks j hj).cell)) (by rw [ap_len h32 rfl]; exact (by decide : 45 + 10 ≤ 64)) (ap_splice (i := 13) (t' := rtail (ptr kb5 0) (ptr kb7 0) 1 1 ks 1 ks (.slice none 0 0) 0 (fun _ => .slice none 0 0) (.slice none 0 0)) h32 rfl) hs10 (by first | exact u0 | exact u1 | exact u2 | exact u3 | exact u4 | exact u5 | exact u0.app | exact u1.app | exact u2.app | exact u3.app)) ?_
  rintro r11 w11 hs11
  refine RL.done (nxt ?_)
  repeat (first | refine W.seq ?_ | refine W.region ?_)
  refine RL.p rfl rfl rfl (PV_move rfl rfl) ?_
  refine RL.p rfl rfl rfl (PV_assign rfl rfl) ?_
  refine RL.done (nxt ?_)
  repeat (first | refine W.seq ?_ | refine W.region ?_)
  exact W.ret (ret_tmp rfl rfl ⟨_, rfl, J9, b6, kb5, kb7, lv5, lv7, ks, hj5.trans (hj7.trans hj9), rfl, hlv5.le (hj7.trans hj9), hlv7.le hj9, hks, hs11.del x3⟩)

end Go.Proofs.YtecbpmgfikgoaaaGreatDoor
end
