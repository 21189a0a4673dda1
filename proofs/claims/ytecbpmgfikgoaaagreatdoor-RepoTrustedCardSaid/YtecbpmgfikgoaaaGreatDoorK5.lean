/- Walks of functions 92 49 48 27 25: what each call gives back, and that it writes nothing of anybody else's. Conditions: as each theorem says. Walks of functions 26: what each call gives back, and that it writes nothing of anybody else's. Conditions: as each theorem says. Walks of functions 9 20 21: what each call gives back, and that it writes nothing of anybody else's. Conditions: as each theorem says. Walks of functions 21 8 14 16 15 9 20 18 13: what each call gives back, and that it writes nothing of anybody else's. Conditions: as each theorem says. Walks of functions 34: what each call gives back, and that it writes nothing of anybody else's. Conditions: as each theorem says. Walks of functions 16: what each call gives back, and that it writes nothing of anybody else's. Conditions: as each theorem says. Walks of functions 89: what each call gives back, and that it writes nothing of anybody else's. Conditions: as each theorem says. Walks of functions 46: what each call gives back, and that it writes nothing of anybody else's. Conditions: as each theorem says. Walks of functions 45: what each call gives back, and that it writes nothing of anybody else's. Conditions: as each theorem says. Walks of functions 18: what each call gives back, and that it writes nothing of anybody else's. Conditions: as each theorem says. Walks of functions 11: what each call gives back, and that it writes nothing of anybody else's. Conditions: as each theorem says. -/
import Derived.Test.YtecbpmgfikgoaaaGreatDoorK4
import Derived.Lib.Bytealg
import Derived.Laws.Externs
section
set_option linter.unusedVariables false
set_option linter.unusedSimpArgs false
set_option maxRecDepth 8000
set_option maxHeartbeats 4000000
namespace Go.Proofs.YtecbpmgfikgoaaaGreatDoor
open Go Go.RowKit
variable {G w : World} {M : List Chunk} {I : Imm}

def cmpB (a b : ByteArray) : Int := Lib.compareBytes (sbytes a) (sbytes b)
theorem call134 (a b : ByteArray) (w : World) : (callFunc 134 #[.string a, .string b]).run Tryz.prog w = .ok (.value (.int .i64 (cmpB a b))) w := by
  rw [run_callFunc_extern Tryz.func134 (by kernel_rfl) (by kernel_rfl) (by kernel_rfl) (e := Extern.BytealgCompare.compare) (by kernel_rfl), Lib.run_compareString]
  rfl
section
variable {P : Program} {n : Nat} {E : List (Nat × Value)} {S : World → Prop} {o : Oper}
theorem PV_call2 {x y : Operand} {u v r : Value} {g : FuncId} {ts : Array TypeId} (ho : o.op = .call { callee := .value (.func g), args := #[x, y], argTypes := ts }) (hg : ∀ w, (callFunc g #[u, v]).run P w = .ok (.value r) w) (hx : ev E x = some u) (hy : ev E y = some v) : PV P n o E S r := .of fun a ha w => by
  have hf := ha.ev (x := .func g) rfl
  have hgo : (callFunc g (#[] ++ #[u, v] ++ #[])).run P w = .ok (.value r) w := by simpa using hg w
  have hargs : (#[x, y] : Array Operand).map a.eval = #[u, v] := by simp [ha.ev hx, ha.ev hy]
  simp only [execOp, ho, resolve, hf, hargs, Deferred.ofValue, invoke, Sem.run_bind, Sem.run_pure, Result.andThen_ok, hgo]
end

def orI (x y : Int) : Int := if x ≠ 0 then x else y
def orderI (a b : Tgt) : Int := orI (cmpB a.name b.name) (cmpB a.ecu b.ecu)
def topS : ByteArray := ⟨#[116, 111, 112]⟩
/-- May a target be by itself? -/
def soloB (t : Tgt) : Bool := targetsB topS 1 0 [t]

theorem C92 {a b : ByteArray} (hs : Sat G M I w) : Calls Tryz.prog 92 #[.string a, .string b] w (Ret fun r w' => r = .int .i64 (cmpB a b) ∧ Sat G M I w') := by
  refine enter2 Tryz.func92 rfl Tryz.ntmps92 rfl ?_
  repeat (first | refine W.seq ?_ | refine W.region ?_)
  refine RL.p rfl rfl rfl (PV_assign rfl rfl) ?_
  refine RL.done (nxt ?_)
  repeat (first | refine W.seq ?_ | refine W.region ?_)
  refine RL.p rfl rfl rfl (PV_move rfl rfl) ?_
  refine RL.p rfl rfl rfl (PV_move rfl rfl) ?_
  refine RL.p rfl rfl rfl (PV_call2 rfl (call134 a b) rfl rfl) ?_
  refine RL.p rfl rfl rfl (PV_assign rfl rfl) ?_
  refine RL.done (nxt ?_)
  repeat (first | refine W.seq ?_ | refine W.region ?_)
  exact W.ret (ret_tmp rfl rfl ⟨_, rfl, rfl, hs⟩)

theorem C49 {a b : ByteArray} (hs : Sat G M I w) : Calls Tryz.prog 49 #[.string a, .string b] w (Ret fun r w' => r = .int .i64 (cmpB a b) ∧ Sat G M I w') := by
  refine enter2 Tryz.func49 rfl Tryz.ntmps49 rfl ?_
  repeat (first | refine W.seq ?_ | refine W.region ?_)
  refine RL.p rfl rfl rfl (PV_assign rfl rfl) ?_
  refine RL.done (nxt ?_)
  repeat (first | refine W.seq ?_ | refine W.region ?_)
  refine RL.p rfl rfl rfl (PV_move rfl rfl) ?_
  refine RL.p rfl rfl rfl (PV_move rfl rfl) ?_
  refine RL.e rfl rfl rfl (K2 rfl fn92 rfl rfl (C92 hs)) ?_
  rintro r1 w1 ⟨rfl, hs1⟩
  refine RL.p rfl rfl rfl (PV_assign rfl rfl) ?_
  refine RL.done (nxt ?_)
  repeat (first | refine W.seq ?_ | refine W.region ?_)
  exact W.ret (ret_tmp rfl rfl ⟨_, rfl, rfl, hs1⟩)

theorem C48 {ab : Nat} {x y : Int} {T : TypeId} (hm : (ab, [.int .i64 x, .int .i64 y], T) ∈ M) (hs : Sat G M I w) : Calls Tryz.prog 48 #[.slice (some ⟨ab, 0, none⟩) 2 2] w (Ret fun r w' => r = .int .i64 (orI x y) ∧ Sat G M I w') := by
  refine enter1 Tryz.func48 rfl Tryz.ntmps48 rfl ?_
  repeat (first | refine W.seq ?_ | refine W.region ?_)
  refine RL.p rfl rfl rfl (PV_assign rfl rfl) ?_
  refine RL.done (nxt ?_)
  repeat (first | refine W.seq ?_ | refine W.region ?_)
  refine RL.p rfl rfl rfl (PV_assign rfl rfl) ?_
  refine RL.done (nxt ?_)
  repeat (first | refine W.seq ?_ | refine W.region ?_)
  refine RL.p rfl rfl rfl (PV_move rfl rfl) ?_
  refine RL.p rfl rfl rfl (PV_len rfl Tryz.underlying178 rfl) ?_
  refine RL.p rfl rfl rfl (PV_move rfl rfl) ?_
  refine RL.done (nxt ?_)
  repeat (first | refine W.seq ?_ | refine W.region ?_)
  refine W.block ?_
  repeat (first | refine W.seq ?_ | refine W.region ?_)
  refine W.loop (F := fun i : Nat => [(8, .int .i64 (i : Int)), (7, .int .i64 ((2 : Nat) : Int)), (6, .slice (some ⟨ab, 0, none⟩) 2 2), (3, .int .i64 0)]) (J := fun i w => i ≤ 2 ∧ (1 ≤ i → x = 0) ∧ (i = 2 → y = 0) ∧ Sat G M I w) (m := fun i => 2 - i) 0 (by repeat first | exact Sub.nil | refine Sub.cons rfl ?_) ⟨by omega, by omega, by omega, hs⟩ ?_
  rintro i w1 ⟨hi, hx0, hy0, hs1⟩
  repeat (first | refine W.seq ?_ | refine W.region ?_)
  refine RL.p rfl rfl rfl (PV_lss rfl rfl rfl) ?_
  refine RL.done (nxt ?_)
  repeat (first | refine W.seq ?_ | refine W.region ?_)
  refine W.cond rfl (fun h1 => ?_) (fun h1 => ?_)
  ·
    have hi1 : i < 2 := by have := of_decide_eq_true h1; omega
    obtain ⟨z, hz, hzz⟩ : ∃ z, ([.int .i64 x, .int .i64 y] : List Value)[i]? = some (.int .i64 z) ∧ z = (if i = 0 then x else y) := by
      rcases (show i = 0 ∨ i = 1 by omega) with rfl | rfl
      · exact ⟨x, rfl, rfl⟩
      · exact ⟨y, rfl, rfl⟩
    refine  W.skip (nxt ?_)
    repeat (first | refine W.seq ?_ | refine W.region ?_)
    refine W.block ?_
    repeat (first | refine W.seq ?_ | refine W.region ?_)
    refine RL.p rfl rfl rfl (PV_indexAddr1 i rfl Tryz.underlying178 sz3 rfl rfl rfl (by omega)) ?_
    refine RL.s rfl rfl rfl (PV_loadM1 rfl ag3 rfl hm (by rw [Nat.zero_add]; exact hz)) hs1 ?_
    refine RL.p rfl rfl rfl (PV_assign rfl rfl) ?_
    refine RL.done (nxt ?_)
    repeat (first | refine W.seq ?_ | refine W.region ?_)
    refine RL.p rfl rfl rfl (PV_move rfl rfl) ?_
    refine RL.p rfl rfl rfl (PV_move rfl rfl) ?_
    refine RL.p rfl rfl rfl (PV_nei rfl rfl rfl) ?_
    refine RL.done (nxt ?_)
    repeat (first | refine W.seq ?_ | refine W.region ?_)
    refine W.cond rfl (fun h2 => ?_) (fun h2 => ?_)
    ·
      repeat (first | refine W.seq ?_ | refine W.region ?_)
      refine RL.p rfl rfl rfl (PV_move rfl rfl) ?_
      refine RL.p rfl rfl rfl (PV_assign rfl rfl) ?_
      refine RL.done (nxt ?_)
      repeat (first | refine W.seq ?_ | refine W.region ?_)
      exact W.ret (ret_tmp rfl rfl ⟨_, rfl, (by have hz0 := of_decide_eq_true h2; rw [orI]; rcases (show i = 0 ∨ i = 1 by omega) with rfl | rfl <;> simp_all), hs1⟩)
    refine W.skip (nxt ?_)
    repeat (first | refine W.seq ?_ | refine W.region ?_)
    refine RL.p rfl rfl rfl (PV_add rfl rfl rfl (by omega)) ?_
    refine RL.p rfl rfl rfl (PV_move rfl rfl) ?_
    refine RL.done (round_end (i + 1) ?_ ?_ ?_)
    · repeat first | exact Sub.nil | refine Sub.cons rfl ?_
    · exact ⟨by omega, (fun _ => if hi0 : i = 0 then (by have hz0 := of_decide_eq_false h2; rw [hzz, if_pos hi0] at hz0; exact Decidable.not_not.1 hz0) else hx0 (by omega)), (fun h => by have hz0 := of_decide_eq_false h2; rw [hzz, if_neg (by omega)] at hz0; exact Decidable.not_not.1 hz0), hs1⟩
    · first | omega | (dsimp only; omega)
  repeat (first | refine W.seq ?_ | refine W.region ?_)
  refine W.exit (nxt ?_)
  repeat (first | refine W.seq ?_ | refine W.region ?_)
  refine RL.p rfl rfl rfl (PV_move rfl rfl) ?_
  refine RL.p rfl rfl rfl (PV_assign rfl rfl) ?_
  refine RL.done (nxt ?_)
  repeat (first | refine W.seq ?_ | refine W.region ?_)
  exact W.ret (ret_tmp rfl rfl ⟨_, rfl, (by obtain rfl : i = 2 := (by have := of_decide_eq_false h1; omega); rw [hx0 (by omega), hy0 rfl]; rfl), hs1⟩)

theorem C27 {a b : Tgt} (hs : Sat G M I w) : Calls Tryz.prog 27 #[aggL (tcells a), aggL (tcells b)] w (Ret fun r w' => r = .int .i64 (orderI a b) ∧ Sat G M I w') := by
  refine enter2 Tryz.func27 rfl Tryz.ntmps27 rfl ?_
  repeat (first | refine W.seq ?_ | refine W.region ?_)
  refine RL.e rfl rfl rfl (EF_boxA rfl rfl hs) ?_
  rintro r1 w1 ⟨b2, rfl, hs1⟩
  refine RL.e rfl rfl rfl (EF_boxA rfl rfl hs1) ?_
  rintro r2 w2 ⟨b3, rfl, hs2⟩
  refine RL.p rfl rfl rfl (PV_assign rfl rfl) ?_
  refine RL.done (nxt ?_)
  repeat (first | refine W.seq ?_ | refine W.region ?_)
  refine W.drawsH hs2 [(0, true), (1, true), (2, true), (3, true), (5, true), (6, true), (7, true), (8, true), (4, false), (9, false), (10, false), (11, false), (12, false)] mixed (by kernel_rfl) (by kernel_rfl) ?_
  have hs3 := hs2.drew
  refine TW.p rfl rfl rfl rfl (by first | exact PV_fieldAddr0 rfl rfl fa26_0 | exact PV_fieldAddr rfl rfl fa26_0) (hs3) ?_
  refine TW.s rfl rfl rfl rfl (PV_loadM1 rfl ag9 rfl (by first | exact m0 | exact m1 | exact m2 | exact m3 | exact m4 | exact m5 | exact mapp m0 | exact mapp m1 | exact mapp m2 | exact mapp m3 | exact hm | exact .tail _ hm | exact .tail _ (.tail _ hm)) (by first | exact w32_get (by omega) | exact wcells_get (by omega) | exact bc_get (by omega) | exact tc_34 | exact tc_35 | exact tc_36 | exact tc_0 | exact tc_1 | rfl)) (hs3) ?_
  refine TW.p rfl rfl rfl rfl (by first | exact PV_fieldAddr0 rfl rfl fa26_0 | exact PV_fieldAddr rfl rfl fa26_0) (hs3) ?_
  refine TW.s rfl rfl rfl rfl (PV_loadM1 rfl ag9 rfl (by first | exact m0 | exact m1 | exact m2 | exact m3 | exact m4 | exact m5 | exact mapp m0 | exact mapp m1 | exact mapp m2 | exact mapp m3 | exact hm | exact .tail _ hm | exact .tail _ (.tail _ hm)) (by first | exact w32_get (by omega) | exact wcells_get (by omega) | exact bc_get (by omega) | exact tc_34 | exact tc_35 | exact tc_36 | exact tc_0 | exact tc_1 | rfl)) (hs3) ?_
  refine TW.p rfl rfl rfl rfl (by first | exact PV_fieldAddr0 rfl rfl fa26_5 | exact PV_fieldAddr rfl rfl fa26_5) (hs3) ?_
  refine TW.s rfl rfl rfl rfl (PV_loadM1 rfl ag9 rfl (by first | exact m0 | exact m1 | exact m2 | exact m3 | exact m4 | exact m5 | exact mapp m0 | exact mapp m1 | exact mapp m2 | exact mapp m3 | exact hm | exact .tail _ hm | exact .tail _ (.tail _ hm)) (by first | exact w32_get (by omega) | exact wcells_get (by omega) | exact bc_get (by omega) | exact tc_34 | exact tc_35 | exact tc_36 | exact tc_0 | exact tc_1 | rfl)) (hs3) ?_
  refine TW.p rfl rfl rfl rfl (by first | exact PV_fieldAddr0 rfl rfl fa26_5 | exact PV_fieldAddr rfl rfl fa26_5) (hs3) ?_
  refine TW.s rfl rfl rfl rfl (PV_loadM1 rfl ag9 rfl (by first | exact m0 | exact m1 | exact m2 | exact m3 | exact m4 | exact m5 | exact mapp m0 | exact mapp m1 | exact mapp m2 | exact mapp m3 | exact hm | exact .tail _ hm | exact .tail _ (.tail _ hm)) (by first | exact w32_get (by omega) | exact wcells_get (by omega) | exact bc_get (by omega) | exact tc_34 | exact tc_35 | exact tc_36 | exact tc_0 | exact tc_1 | rfl)) (hs3) ?_
  refine TW.e rfl rfl rfl rfl (K2 rfl fn49 rfl rfl (C49 hs3)) ?_
  rintro r4 w4 ⟨rfl, hs4⟩
  refine ⟨(hs4), ?_⟩
  refine TW.e rfl rfl rfl rfl (K2 rfl fn49 rfl rfl (C49 hs4)) ?_
  rintro r5 w5 ⟨rfl, hs5⟩
  refine ⟨(hs5), ?_⟩
  refine TW.e rfl rfl rfl rfl (EF_bs2c rfl el178 rfl rfl rfl rfl hs5) ?_
  rintro r6 w6 ⟨b15, rfl, hs6⟩
  refine ⟨(hs6.tail), ?_⟩
  refine TW.e rfl rfl rfl rfl (K1 rfl fn48 rfl (C48 m0 hs6)) ?_
  rintro r7 w7 ⟨rfl, hs7⟩
  refine ⟨(hs7.tail), ?_⟩
  refine TW.qn rfl rfl rfl rfl (T := fun _ => True) (PV_assign rfl rfl) trivial (by kernel_rfl) ?_
  refine TW.done (nxt ?_)
  repeat (first | refine W.seq ?_ | refine W.region ?_)
  exact W.ret (ret_tmp rfl rfl ⟨_, rfl, rfl, hs7.tail.tail.tail⟩)

theorem C25 {t : Tgt} (hok : t.ok) (hs : Sat G M I w) : Calls Tryz.prog 25 #[aggL (tcells t)] w (Ret fun r w' => r = .bool (soloB t) ∧ Sat G M I w') := by
  refine enter1 Tryz.func25 rfl Tryz.ntmps25 rfl ?_
  repeat (first | refine W.seq ?_ | refine W.region ?_)
  refine RL.e rfl rfl rfl (EF_boxA rfl rfl hs) ?_
  rintro r1 w1 ⟨b1, rfl, hs1⟩
  refine RL.p rfl rfl rfl (PV_assign rfl rfl) ?_
  refine RL.done (nxt ?_)
  repeat (first | refine W.seq ?_ | refine W.region ?_)
  refine RL.s rfl rfl rfl (PV_loadMA rfl ag26 sz26 rfl (by first | exact m0 | exact m1 | exact m2 | exact m3 | exact m4 | exact m5 | exact mapp m0 | exact mapp m1 | exact mapp m2 | exact mapp m3 | exact hm | exact .tail _ hm | exact .tail _ (.tail _ hm)) (by rw [length_tcells]; decide) (part_whole (length_tcells t))) hs1 ?_
  refine RL.e rfl rfl rfl (EF_bs1a rfl el22 rfl (length_tcells t) (by decide) hs1) ?_
  rintro r2 w2 ⟨b7, rfl, hs2⟩
  refine RL.p rfl rfl rfl (PV_buildS rfl pl70 zr70 rfl rfl) ?_
  refine RL.e rfl rfl rfl (K1 rfl fn37 rfl (C37 (s := topS) (v := 1) (e := 0) (K := [t]) (by decide) (by simp) (by simpa using hok) (lcells_one t ▸ SlM.own m0 (length_lcells [t]) (Nat.le_refl _)) hs2)) ?_
  rintro r3 w3 ⟨J3, e3, hj3, rfl, hy3, hn3, hs3⟩
  refine RL.p rfl rfl rfl (PV_move rfl rfl) ?_
  refine RL.p rfl rfl rfl (PV_extract rfl rfl rfl) ?_
  refine RL.p rfl rfl rfl (PV_extract rfl rfl rfl) ?_
  refine RL.p rfl rfl rfl (PV_assign rfl rfl) ?_
  refine RL.p rfl rfl rfl (PV_assign rfl rfl) ?_
  refine RL.done (nxt ?_)
  repeat (first | refine W.seq ?_ | refine W.region ?_)
  refine RL.p rfl rfl rfl (PV_move rfl rfl) ?_
  refine RL.p rfl rfl rfl (PV_eqi rfl rfl rfl) ?_
  refine RL.p rfl rfl rfl (PV_assign rfl rfl) ?_
  refine RL.done (nxt ?_)
  repeat (first | refine W.seq ?_ | refine W.region ?_)
  exact W.ret (ret_tmp rfl rfl ⟨_, rfl, (by unfold soloB; cases targetsB topS 1 0 [t] <;> rfl), (hs3.tail.tail).le hj3⟩)

end Go.Proofs.YtecbpmgfikgoaaaGreatDoor
end
section
set_option linter.unusedVariables false
set_option linter.unusedSimpArgs false
set_option maxRecDepth 8000
set_option maxHeartbeats 4000000
namespace Go.Proofs.YtecbpmgfikgoaaaGreatDoor
open Go Go.RowKit
variable {G w : World} {M : List Chunk} {I : Imm}

def foundB (K : List Tgt) (t : Tgt) (i : Nat) : Bool := match K[i]? with
  | some b => decide (orderI b t = 0)
  | none => false

theorem C26 {v : Value} {K : List Tgt} {t : Tgt} (hK : K.length ≤ 2 ^ 20) (hv : SlM G M I 37 v K.length (lcells K)) (hs : Sat G M I w) :
    Calls Tryz.prog 26 #[v, aggL (tcells t), .func (.func 27) #[] #[]] w (Ret fun r w' => (∃ i, i ≤ K.length ∧ r = .tuple #[.int .i64 (i : Int), .bool (foundB K t i)] ∧ (∀ a, 0 < i → K[i - 1]? = some a → orderI a t < 0) ∧ (∀ b, K[i]? = some b → 0 ≤ orderI b t)) ∧ Sat G M I w') := by
  obtain ⟨A, c, rfl, hc⟩ := hv.shape
  refine enter3 Tryz.func26 rfl Tryz.ntmps26 rfl ?_
  repeat (first | refine W.seq ?_ | refine W.region ?_)
  refine RL.e rfl rfl rfl (EF_boxA rfl rfl hs) ?_
  rintro r1 w1 ⟨b4, rfl, hs1⟩
  refine RL.p rfl rfl rfl (PV_assign rfl rfl) ?_
  refine RL.p rfl rfl rfl (PV_assign rfl rfl) ?_
  refine RL.done (nxt ?_)
  repeat (first | refine W.seq ?_ | refine W.region ?_)
  refine RL.p rfl rfl rfl (PV_move rfl rfl) ?_
  refine RL.p rfl rfl rfl (PV_len rfl Tryz.underlying22 rfl) ?_
  refine RL.p rfl rfl rfl (PV_assign rfl rfl) ?_
  refine RL.done (nxt ?_)
  repeat (first | refine W.seq ?_ | refine W.region ?_)
  refine RL.p rfl rfl rfl (PV_move rfl rfl) ?_
  refine RL.p rfl rfl rfl (PV_assign rfl rfl) ?_
  refine RL.p rfl rfl rfl (PV_assign rfl rfl) ?_
  refine RL.done (nxt ?_)
  repeat (first | refine W.seq ?_ | refine W.region ?_)
  refine W.block ?_
  repeat (first | refine W.seq ?_ | refine W.region ?_)
  refine W.loop (F := fun z : Nat × Nat => [(9, .int .i64 (z.1 : Int)), (10, .int .i64 (z.2 : Int)), (8, .int .i64 (K.length : Int)), (4, ptr b4 0), (0, .slice A K.length c), (2, .func (.func 27) #[] #[])]) (J := fun z w => z.1 ≤ z.2 ∧ z.2 ≤ K.length ∧ (∀ a, 0 < z.1 → K[z.1 - 1]? = some a → orderI a t < 0) ∧ (∀ b, K[z.2]? = some b → 0 ≤ orderI b t) ∧ Sat G ((b4, tcells t, 26) :: M) I w) (m := fun z => z.2 - z.1) (0, K.length) (by repeat first | exact Sub.nil | refine Sub.cons rfl ?_) ⟨by omega, Nat.le_refl _, fun a h => absurd h (by omega), fun b h => absurd h (by simp), hs1⟩ ?_
  rintro ⟨i, j⟩ w2 ⟨hij, hj, hlo, hhi, hs2⟩
  repeat (first | refine W.seq ?_ | refine W.region ?_)
  refine RL.p rfl rfl rfl (PV_move rfl rfl) ?_
  refine RL.p rfl rfl rfl (PV_move rfl rfl) ?_
  refine RL.p rfl rfl rfl (PV_lss rfl rfl rfl) ?_
  refine RL.done (nxt ?_)
  repeat (first | refine W.seq ?_ | refine W.region ?_)
  refine W.cond rfl (fun h1 => ?_) (fun h1 => ?_)
  ·
    dsimp only at hij hj hlo hhi hs2
    have hij1 : i < j := by have := of_decide_eq_true h1; dsimp only at this; omega
    have hh1 : i ≤ (i + j) / 2 ^ 1 := by omega
    have hh2 : (i + j) / 2 ^ 1 < j := by omega
    obtain ⟨bb, off, c', he', _, hmem⟩ := hv.elem (by omega)
    obtain ⟨rfl, rfl⟩ : A = some ⟨bb, off, none⟩ ∧ c = c' := by simpa using he'
    obtain ⟨a, ha⟩ : ∃ a, K[(i + j) / 2 ^ 1]? = some a := ⟨_, List.getElem?_eq_getElem (by omega)⟩
    refine  W.skip (nxt ?_)
    repeat (first | refine W.seq ?_ | refine W.region ?_)
    refine W.block ?_
    repeat (first | refine W.seq ?_ | refine W.region ?_)
    refine RL.p rfl rfl rfl (PV_move rfl rfl) ?_
    refine RL.p rfl rfl rfl (PV_move rfl rfl) ?_
    refine RL.p rfl rfl rfl (PV_add rfl rfl rfl (by omega)) ?_
    refine RL.p rfl rfl rfl (PV_conv_i64_u64 (m := i + j) rfl Tryz.underlying3 Tryz.underlying113 rfl rfl (by omega)) ?_
    refine RL.p rfl rfl rfl (PV_u64_shr (m := i + j) (j := 1) rfl rfl rfl rfl rfl (by decide)) ?_
    refine RL.p rfl rfl rfl (PV_convN (m := (i + j) / 2 ^ 1) rfl Tryz.underlying113 Tryz.underlying3 rfl rfl (by omega)) ?_
    refine RL.p rfl rfl rfl (PV_assign rfl rfl) ?_
    refine RL.done (nxt ?_)
    repeat (first | refine W.seq ?_ | refine W.region ?_)
    refine W.drawsH hs2 [(0, true), (1, true), (2, true), (3, true), (4, true), (5, false), (6, false), (7, false)] mixed (by kernel_rfl) (by kernel_rfl) ?_
    have hs3 := hs2.drew
    refine TW.p rfl rfl rfl rfl (PV_move rfl rfl) hs3 ?_
    refine TW.p rfl rfl rfl rfl (PV_move rfl rfl) hs3 ?_
    refine TW.p rfl rfl rfl rfl (PV_move rfl rfl) hs3 ?_
    refine TW.p rfl rfl rfl rfl (PV_indexAddr (i := (i + j) / 2 ^ 1) rfl Tryz.underlying22 sz26 rfl rfl rfl (by omega)) hs3 ?_
    refine TW.s rfl rfl rfl rfl (PV_loadMemA (j := (i + j) / 2 ^ 1 * 37) rfl ag26 sz26 rfl (fun _ h => h.tail) hmem (by rw [length_lcells]; omega) (part_lcells ha)) hs3 ?_
    refine TW.q rfl rfl rfl rfl (PV_loadMA rfl ag26 sz26 rfl (by first | exact m0 | exact m1 | exact m2 | exact m3 | exact m4 | exact m5 | exact mapp m0 | exact mapp m1 | exact mapp m2 | exact mapp m3 | exact hm | exact .tail _ hm | exact .tail _ (.tail _ hm)) (by rw [length_tcells]; decide) (part_whole (length_tcells t))) hs3 (fun _ => hs3) ?_
    refine TW.e rfl rfl rfl rfl (Kp2 rfl rfl fn27 rfl rfl (C27 hs3)) ?_
    rintro r4 w4 ⟨rfl, hs4⟩
    refine ⟨hs4, ?_⟩
    refine TW.q rfl rfl rfl rfl (T := fun _ => True) (PV_lss rfl rfl rfl) trivial (fun _ => hs4) ?_
    refine TW.done (nxt ?_)
    repeat (first | refine W.seq ?_ | refine W.region ?_)
    refine W.cond rfl (fun h2 => ?_) (fun h2 => ?_)
    ·
      repeat (first | refine W.seq ?_ | refine W.region ?_)
      refine RL.p rfl rfl rfl (PV_move rfl rfl) ?_
      refine RL.p rfl rfl rfl (PV_add rfl rfl rfl (by omega)) ?_
      refine RL.p rfl rfl rfl (PV_assign rfl rfl) ?_
      refine RL.done (round_end ((i + j) / 2 ^ 1 + 1, j) ?_ ?_ ?_)
      · repeat first | exact Sub.nil | refine Sub.cons rfl ?_
      · exact ⟨by dsimp only; omega, hj, fun a2 _ h3 => by rw [Nat.add_sub_cancel, ha] at h3; cases h3; exact of_decide_eq_true h2, hhi, hs4⟩
      · first | omega | (dsimp only; omega)
    ·
      repeat (first | refine W.seq ?_ | refine W.region ?_)
      refine RL.p rfl rfl rfl (PV_move rfl rfl) ?_
      refine RL.p rfl rfl rfl (PV_assign rfl rfl) ?_
      refine RL.done (round_end (i, (i + j) / 2 ^ 1) ?_ ?_ ?_)
      · repeat first | exact Sub.nil | refine Sub.cons rfl ?_
      · exact ⟨by dsimp only; omega, by dsimp only; omega, hlo, fun b h3 => by rw [ha] at h3; cases h3; have := of_decide_eq_false h2; omega, hs4⟩
      · first | omega | (dsimp only; omega)
  repeat (first | refine W.seq ?_ | refine W.region ?_)
  refine  W.exit (nxt ?_)
  dsimp only at hij hj hlo hhi hs2
  obtain rfl : i = j := by have := of_decide_eq_false h1; dsimp only at this; omega
  repeat (first | refine W.seq ?_ | refine W.region ?_)
  refine W.drawsH hs2 [(0, true), (1, true), (2, false), (3, false), (4, false), (5, true), (6, true), (7, true), (8, true), (9, true), (10, false), (11, false), (12, true), (13, true), (14, false), (15, false)] mixed (by kernel_rfl) (by kernel_rfl) ?_
  have hs3 := hs2.drew
  refine TW.p rfl rfl rfl rfl (PV_move rfl rfl) hs3 ?_
  refine TW.p rfl rfl rfl rfl (PV_move rfl rfl) hs3 ?_
  refine TW.q rfl rfl rfl rfl (T := fun _ => True) (PV_move rfl rfl) trivial (fun _ => hs3) ?_
  refine TW.q rfl rfl rfl rfl (T := fun _ => True) (PV_lss rfl rfl rfl) trivial (fun _ => hs3) ?_
  refine TW.q rfl rfl rfl rfl (T := fun _ => True) (PV_move rfl rfl) trivial (fun _ => hs3) ?_
  refine TW.split 39 rfl (fun g1 => ?_) (fun g1 => ?_)
  ·
    have hi1 : i < K.length := by have := of_decide_eq_true g1; omega
    obtain ⟨bb, off, c', he', _, hmem⟩ := hv.elem (by omega)
    obtain ⟨rfl, rfl⟩ : A = some ⟨bb, off, none⟩ ∧ c = c' := by simpa using he'
    obtain ⟨b, hb⟩ : ∃ b, K[i]? = some b := ⟨_, List.getElem?_eq_getElem hi1⟩
    refine  TW.gp rfl rfl rfl rfl rfl g1 rfl rfl rfl (PV_move rfl rfl) hs3 ?_
    refine TW.gp rfl rfl rfl rfl rfl g1 rfl rfl rfl (PV_move rfl rfl) hs3 ?_
    refine TW.gp rfl rfl rfl rfl rfl g1 rfl rfl rfl (PV_move rfl rfl) hs3 ?_
    refine TW.gp rfl rfl rfl rfl rfl g1 rfl rfl rfl (PV_indexAddr (i := i) rfl Tryz.underlying22 sz26 rfl rfl rfl (by omega)) hs3 ?_
    refine TW.gs rfl rfl rfl rfl rfl g1 rfl rfl rfl (PV_loadMemA (j := i * 37) rfl ag26 sz26 rfl (fun _ h => h.tail) hmem (by rw [length_lcells]; omega) (part_lcells hb)) hs3 ?_
    refine TW.gq rfl rfl rfl rfl rfl g1 rfl rfl rfl (PV_loadMA rfl ag26 sz26 rfl (by first | exact m0 | exact m1 | exact m2 | exact m3 | exact m4 | exact m5 | exact mapp m0 | exact mapp m1 | exact mapp m2 | exact mapp m3 | exact hm | exact .tail _ hm | exact .tail _ (.tail _ hm)) (by rw [length_tcells]; decide) (part_whole (length_tcells t))) hs3 (fun _ => hs3) ?_
    refine TW.ge rfl rfl rfl rfl rfl g1 rfl rfl rfl (Kp2 rfl rfl fn27 rfl rfl (C27 hs3)) ?_
    rintro r4 w4 ⟨rfl, hs4⟩
    refine ⟨hs4, ?_⟩
    refine TW.gp rfl rfl rfl rfl rfl g1 rfl rfl rfl (PV_eqi rfl rfl rfl) hs4 ?_
    refine TW.p rfl rfl rfl rfl (PV_pickT rfl rfl g1 rfl) hs4 ?_
    refine TW.q rfl rfl rfl rfl (T := fun _ => True) (PV_assign rfl rfl) trivial (fun _ => hs4) ?_
    refine TW.qn rfl rfl rfl rfl (T := fun _ => True) (PV_assign rfl rfl) trivial (by kernel_rfl) ?_
    refine TW.done (nxt ?_)
    repeat (first | refine W.seq ?_ | refine W.region ?_)
    exact W.ret (ret_tmp2 rfl rfl rfl ⟨_, rfl, ⟨i, hj, by rw [foundB, hb], hlo, hhi⟩, hs4.tail⟩)
  ·
    refine TW.gk rfl rfl rfl rfl rfl g1 rfl rfl rfl hs3 ?_
    refine TW.gk rfl rfl rfl rfl rfl g1 rfl rfl rfl hs3 ?_
    refine TW.gk rfl rfl rfl rfl rfl g1 rfl rfl rfl hs3 ?_
    refine TW.gk rfl rfl rfl rfl rfl g1 rfl rfl rfl hs3 ?_
    refine TW.gk rfl rfl rfl rfl rfl g1 rfl rfl rfl hs3 ?_
    refine TW.gkf rfl rfl rfl rfl rfl g1 rfl rfl rfl hs3 ?_
    refine TW.gkf rfl rfl rfl rfl rfl g1 rfl rfl rfl hs3 ?_
    refine TW.gk rfl rfl rfl rfl rfl g1 rfl rfl rfl hs3 ?_
    refine TW.p rfl rfl rfl rfl (PV_pickF rfl rfl g1 rfl) hs3 ?_
    refine TW.q rfl rfl rfl rfl (T := fun _ => True) (PV_assign rfl rfl) trivial (fun _ => hs3) ?_
    refine TW.qn rfl rfl rfl rfl (T := fun _ => True) (PV_assign rfl rfl) trivial (by kernel_rfl) ?_
    refine TW.done (nxt ?_)
    repeat (first | refine W.seq ?_ | refine W.region ?_)
    exact W.ret (ret_tmp2 rfl rfl rfl ⟨_, rfl, ⟨i, hj, by rw [foundB, List.getElem?_eq_none (by have := of_decide_eq_false g1; omega)], hlo, hhi⟩, hs3.tail⟩)

end Go.Proofs.YtecbpmgfikgoaaaGreatDoor
end
section
set_option linter.unusedVariables false
set_option linter.unusedSimpArgs false
set_option maxRecDepth 8000
set_option maxHeartbeats 4000000
namespace Go.Proofs.YtecbpmgfikgoaaaGreatDoor
open Go Go.RowKit
variable {G w : World} {M : List Chunk} {I : Imm}

theorem C9 {rb m : Nat} {rc cs : List Value} {lv : Value} (hr : (rb, rc, 78) ∈ M) (hrl : rc[55]? = some lv) (hv : SlM G M I 37 lv m cs) (h1 : one1 cs = true) (hl : m ≤ 2 ^ 30) (hs : Sat G M I w) : Calls Tryz.prog 9 #[ptr rb 0] w (Ret fun r w' => ∃ J, Le I J ∧ SlI J 37 r m cs ∧ Sat G M J w') := by
  refine enter1 Tryz.func9 rfl Tryz.ntmps9 rfl ?_
  repeat (first | refine W.seq ?_ | refine W.region ?_)
  refine RL.p rfl rfl rfl (PV_assign rfl rfl) ?_
  refine RL.done (nxt ?_)
  repeat (first | refine W.seq ?_ | refine W.region ?_)
  refine RL.p rfl rfl rfl (PV_move rfl rfl) ?_
  refine RL.p rfl rfl rfl (PV_eqnil rfl Tryz.underlying27 rfl rfl) ?_
  refine RL.done (nxt ?_)
  repeat (first | refine W.seq ?_ | refine W.region ?_)
  refine W.cond rfl (fun hn => ?_) (fun hn => ?_)
  · cases hn
  refine W.skip (nxt ?_)
  repeat (first | refine W.seq ?_ | refine W.region ?_)
  refine RL.p rfl rfl rfl (PV_move rfl rfl) ?_
  refine RL.p rfl rfl rfl (PV_nilCheckP rfl rfl) ?_
  refine RL.p rfl rfl rfl (by first | exact PV_fieldAddr0 rfl rfl fa78_5 | exact PV_fieldAddr rfl rfl fa78_5) ?_
  refine RL.s rfl rfl rfl (PV_loadM1 rfl ag22 rfl hr hrl) hs ?_
  refine RL.e rfl rfl rfl (K1 rfl fn29 rfl (C29 hv h1 hl hs)) ?_
  rintro r1 w1 ⟨J2, hj2, hc2, hs1⟩
  refine RL.p rfl rfl rfl (PV_assign rfl rfl) ?_
  refine RL.done (nxt ?_)
  repeat (first | refine W.seq ?_ | refine W.region ?_)
  exact W.ret (ret_tmp rfl rfl ⟨_, rfl, J2, hj2, hc2, hs1⟩)

theorem C20 {rb m : Nat} {rc cs : List Value} {lv : Value} (hr : (rb, rc, 78) ∈ M) (hrl : rc[63]? = some lv) (hv : SlM G M I 37 lv m cs) (h1 : one1 cs = true) (hl : m ≤ 2 ^ 30) (hs : Sat G M I w) : Calls Tryz.prog 20 #[ptr rb 0] w (Ret fun r w' => ∃ J, Le I J ∧ SlI J 37 r m cs ∧ Sat G M J w') := by
  refine enter1 Tryz.func20 rfl Tryz.ntmps20 rfl ?_
  repeat (first | refine W.seq ?_ | refine W.region ?_)
  refine RL.p rfl rfl rfl (PV_assign rfl rfl) ?_
  refine RL.done (nxt ?_)
  repeat (first | refine W.seq ?_ | refine W.region ?_)
  refine RL.p rfl rfl rfl (PV_move rfl rfl) ?_
  refine RL.p rfl rfl rfl (PV_eqnil rfl Tryz.underlying27 rfl rfl) ?_
  refine RL.done (nxt ?_)
  repeat (first | refine W.seq ?_ | refine W.region ?_)
  refine W.cond rfl (fun hn => ?_) (fun hn => ?_)
  · cases hn
  refine W.skip (nxt ?_)
  repeat (first | refine W.seq ?_ | refine W.region ?_)
  refine RL.p rfl rfl rfl (PV_move rfl rfl) ?_
  refine RL.p rfl rfl rfl (PV_nilCheckP rfl rfl) ?_
  refine RL.p rfl rfl rfl (by first | exact PV_fieldAddr0 rfl rfl fa78_8 | exact PV_fieldAddr rfl rfl fa78_8) ?_
  refine RL.s rfl rfl rfl (PV_loadM1 rfl ag22 rfl hr hrl) hs ?_
  refine RL.e rfl rfl rfl (K1 rfl fn29 rfl (C29 hv h1 hl hs)) ?_
  rintro r1 w1 ⟨J2, hj2, hc2, hs1⟩
  refine RL.p rfl rfl rfl (PV_assign rfl rfl) ?_
  refine RL.done (nxt ?_)
  repeat (first | refine W.seq ?_ | refine W.region ?_)
  exact W.ret (ret_tmp rfl rfl ⟨_, rfl, J2, hj2, hc2, hs1⟩)

theorem C21 {rb k0 k1 n0 n1 : Nat} {rc : List Value} {s0 s1 : List UInt8} (hr : (rb, rc, 78) ∈ M) (hr0 : rc[32]? = some (ptr k0 0)) (hr1 : rc[33]? = some (ptr k1 0)) (hk0 : KeyAt M I k0 s0 n0) (hk1 : KeyAt M I k1 s1 n1) (hs : Sat G M I w) : Calls Tryz.prog 21 #[ptr rb 0] w (Ret fun r w' => r = .tuple #[.int .i64 (n0 : Int), .int .i64 (n1 : Int)] ∧ Sat G M I w') := by
  obtain ⟨lv0, h320, hm0, hv0⟩ := hk0
  obtain ⟨lv1, h321, hm1, hv1⟩ := hk1
  refine enter1 Tryz.func21 rfl Tryz.ntmps21 rfl ?_
  repeat (first | refine W.seq ?_ | refine W.region ?_)
  refine RL.p rfl rfl rfl (PV_assign rfl rfl) ?_
  refine RL.p rfl rfl rfl (PV_assign rfl rfl) ?_
  refine RL.done (nxt ?_)
  repeat (first | refine W.seq ?_ | refine W.region ?_)
  refine RL.p rfl rfl rfl (PV_move rfl rfl) ?_
  refine RL.p rfl rfl rfl (PV_eqnil rfl Tryz.underlying27 rfl rfl) ?_
  refine RL.done (nxt ?_)
  repeat (first | refine W.seq ?_ | refine W.region ?_)
  refine W.cond rfl (fun h1 => ?_) (fun h1 => ?_)
  · cases h1
  refine W.skip (nxt ?_)
  repeat (first | refine W.seq ?_ | refine W.region ?_)
  refine W.drawsH hs [(0, true), (1, true), (2, true), (3, true), (4, true), (6, true), (7, true), (8, true), (9, true), (10, true), (5, false), (11, false), (12, false), (13, false)] mixed (by kernel_rfl) (by kernel_rfl) ?_
  have hs1 := hs.drew
  refine TW.p rfl rfl rfl rfl (PV_move rfl rfl) hs1 ?_
  refine TW.p rfl rfl rfl rfl (PV_nilCheckP rfl rfl) hs1 ?_
  refine TW.p rfl rfl rfl rfl (by first | exact PV_fieldAddr0 rfl rfl fa78_1 | exact PV_fieldAddr rfl rfl fa78_1) hs1 ?_
  refine TW.p rfl rfl rfl rfl (PV_indexArr (i := 0) rfl Tryz.underlying76 sz75 rfl rfl rfl (by decide)) hs1 ?_
  refine TW.s rfl rfl rfl rfl (PV_loadM1 rfl ag75 rfl hr hr0) hs1 ?_
  refine TW.p rfl rfl rfl rfl (PV_move rfl rfl) hs1 ?_
  refine TW.p rfl rfl rfl rfl (PV_nilCheckP rfl rfl) hs1 ?_
  refine TW.p rfl rfl rfl rfl (by first | exact PV_fieldAddr0 rfl rfl fa78_1 | exact PV_fieldAddr rfl rfl fa78_1) hs1 ?_
  refine TW.p rfl rfl rfl rfl (PV_indexArr (i := 1) rfl Tryz.underlying76 sz75 rfl rfl rfl (by decide)) hs1 ?_
  refine TW.s rfl rfl rfl rfl (PV_loadM1 rfl ag75 rfl hr hr1) hs1 ?_
  refine TW.e rfl rfl rfl rfl (K1 rfl fn32 rfl (C32 h320 hm0 hs1)) ?_
  rintro r2 w2 ⟨rfl, hs2⟩
  refine ⟨hs2, ?_⟩
  refine TW.e rfl rfl rfl rfl (K1 rfl fn32 rfl (C32 h321 hm1 hs2)) ?_
  rintro r3 w3 ⟨rfl, hs3⟩
  refine ⟨hs3, ?_⟩
  refine TW.q rfl rfl rfl rfl (T := fun _ => True) (PV_assign rfl rfl) trivial (fun _ => hs3) ?_
  refine TW.qn rfl rfl rfl rfl (T := fun _ => True) (PV_assign rfl rfl) trivial (by kernel_rfl) ?_
  refine TW.done (nxt ?_)
  repeat (first | refine W.seq ?_ | refine W.region ?_)
  exact W.ret (ret_tmp2 rfl rfl rfl ⟨_, rfl, rfl, hs3⟩)

end Go.Proofs.YtecbpmgfikgoaaaGreatDoor
end
section
set_option linter.unusedVariables false
set_option linter.unusedSimpArgs false
set_option maxRecDepth 8000
set_option maxHeartbeats 4000000
namespace Go.Proofs.YtecbpmgfikgoaaaGreatDoor
open Go Go.RowKit
variable {G w : World} {M : List Chunk} {I : Imm}

theorem C21n (hs : Sat G M I w) : Calls Tryz.prog 21 #[.pointer none] w (Ret fun r w' => r = .tuple #[.int .i64 0, .int .i64 0] ∧ Sat G M I w') := by
  refine enter1 Tryz.func21 rfl Tryz.ntmps21 rfl ?_
  repeat (first | refine W.seq ?_ | refine W.region ?_)
  refine RL.p rfl rfl rfl (PV_assign rfl rfl) ?_
  refine RL.p rfl rfl rfl (PV_assign rfl rfl) ?_
  refine RL.done (nxt ?_)
  repeat (first | refine W.seq ?_ | refine W.region ?_)
  refine RL.p rfl rfl rfl (PV_move rfl rfl) ?_
  refine RL.p rfl rfl rfl (PV_eqnil rfl Tryz.underlying27 rfl rfl) ?_
  refine RL.done (nxt ?_)
  repeat (first | refine W.seq ?_ | refine W.region ?_)
  refine W.cond rfl (fun h1 => ?_) (fun h1 => ?_)
  rotate_left
  · cases h1
  repeat (first | refine W.seq ?_ | refine W.region ?_)
  refine RL.p rfl rfl rfl (PV_assign rfl rfl) ?_
  refine RL.p rfl rfl rfl (PV_assign rfl rfl) ?_
  refine RL.done (nxt ?_)
  repeat (first | refine W.seq ?_ | refine W.region ?_)
  exact W.ret (ret_tmp2 rfl rfl rfl ⟨_, rfl, rfl, hs⟩)

theorem C8n {t : Tgt} (hs : Sat G M I w) : Calls Tryz.prog 8 #[.pointer none, aggL (tcells t)] w (Ret fun r w' => r = .int .i64 1 ∧ Sat G M I w') := by
  refine enter2 Tryz.func8 rfl Tryz.ntmps8 rfl ?_
  repeat (first | refine W.seq ?_ | refine W.region ?_)
  refine RL.e rfl rfl rfl (EF_boxA rfl rfl hs) ?_
  rintro r1 w1 ⟨b3, rfl, hs1⟩
  refine RL.p rfl rfl rfl (PV_assign rfl rfl) ?_
  refine RL.done (nxt ?_)
  repeat (first | refine W.seq ?_ | refine W.region ?_)
  refine RL.p rfl rfl rfl (PV_move rfl rfl) ?_
  refine RL.p rfl rfl rfl (PV_eqnil rfl Tryz.underlying27 rfl rfl) ?_
  refine RL.p rfl rfl rfl (PV_move rfl rfl) ?_
  refine RL.split 9 rfl (fun g1 => ?_) (fun g1 => by cases g1)
  refine RL.gk rfl rfl rfl rfl g1 rfl rfl rfl ?_
  refine RL.gk rfl rfl rfl rfl g1 rfl rfl rfl ?_
  refine RL.gk rfl rfl rfl rfl g1 rfl rfl rfl ?_
  refine RL.p rfl rfl rfl (PV_pickT rfl rfl g1 rfl) ?_
  refine RL.done (nxt ?_)
  repeat (first | refine W.seq ?_ | refine W.region ?_)
  refine W.cond rfl (fun h1 => ?_) (fun h1 => ?_)
  rotate_left
  · cases h1
  repeat (first | refine W.seq ?_ | refine W.region ?_)
  refine RL.p rfl rfl rfl (PV_assign rfl rfl) ?_
  refine RL.done (nxt ?_)
  repeat (first | refine W.seq ?_ | refine W.region ?_)
  exact W.ret (ret_tmp rfl rfl ⟨_, rfl, rfl, hs1.tail⟩)

theorem C14n {a b : ByteArray} (hs : Sat G M I w) : Calls Tryz.prog 14 #[.pointer none, .string a, .string b] w (Ret fun r w' => r = .int .i64 1 ∧ Sat G M I w') := by
  refine enter3 Tryz.func14 rfl Tryz.ntmps14 rfl ?_
  repeat (first | refine W.seq ?_ | refine W.region ?_)
  refine RL.p rfl rfl rfl (PV_assign rfl rfl) ?_
  refine RL.done (nxt ?_)
  repeat (first | refine W.seq ?_ | refine W.region ?_)
  refine RL.p rfl rfl rfl (PV_move rfl rfl) ?_
  refine RL.p rfl rfl rfl (PV_eqnil rfl Tryz.underlying27 rfl rfl) ?_
  refine RL.done (nxt ?_)
  repeat (first | refine W.seq ?_ | refine W.region ?_)
  refine W.cond rfl (fun h1 => ?_) (fun h1 => ?_)
  rotate_left
  · cases h1
  repeat (first | refine W.seq ?_ | refine W.region ?_)
  refine RL.p rfl rfl rfl (PV_assign rfl rfl) ?_
  refine RL.done (nxt ?_)
  repeat (first | refine W.seq ?_ | refine W.region ?_)
  exact W.ret (ret_tmp rfl rfl ⟨_, rfl, rfl, hs⟩)

theorem C16n (hs : Sat G M I w) : Calls Tryz.prog 16 #[.pointer none, .int .i64 0, .int .i64 1] w (Ret fun r w' => r = .int .i64 1 ∧ Sat G M I w') := by
  refine enter3 Tryz.func16 rfl Tryz.ntmps16 rfl ?_
  repeat (first | refine W.seq ?_ | refine W.region ?_)
  refine RL.p rfl rfl rfl (PV_assign rfl rfl) ?_
  refine RL.done (nxt ?_)
  repeat (first | refine W.seq ?_ | refine W.region ?_)
  refine W.block ?_
  repeat (first | refine W.seq ?_ | refine W.region ?_)
  refine RL.p rfl rfl rfl (PV_move rfl rfl) ?_
  refine RL.p rfl rfl rfl (PV_eqnil rfl Tryz.underlying27 rfl rfl) ?_
  refine RL.p rfl rfl rfl (PV_move rfl rfl) ?_
  refine RL.split 19 rfl (fun g1 => ?_) (fun g1 => by cases g1)
  refine RL.gk rfl rfl rfl rfl g1 rfl rfl rfl ?_
  refine RL.gk rfl rfl rfl rfl g1 rfl rfl rfl ?_
  refine RL.p rfl rfl rfl (PV_pickT rfl rfl g1 rfl) ?_
  refine RL.p rfl rfl rfl (PV_move rfl rfl) ?_
  refine RL.gk rfl rfl rfl rfl rfl rfl rfl rfl ?_
  refine RL.gk rfl rfl rfl rfl rfl rfl rfl rfl ?_
  refine RL.p rfl rfl rfl (PV_pickT rfl rfl rfl rfl) ?_
  refine RL.p rfl rfl rfl (PV_move rfl rfl) ?_
  refine RL.gk rfl rfl rfl rfl rfl rfl rfl rfl ?_
  refine RL.gk rfl rfl rfl rfl rfl rfl rfl rfl ?_
  refine RL.p rfl rfl rfl (PV_pickT rfl rfl rfl rfl) ?_
  refine RL.p rfl rfl rfl (PV_move rfl rfl) ?_
  refine RL.gk rfl rfl rfl rfl rfl rfl rfl rfl ?_
  refine RL.gk rfl rfl rfl rfl rfl rfl rfl rfl ?_
  refine RL.gk rfl rfl rfl rfl rfl rfl rfl rfl ?_
  refine RL.gk rfl rfl rfl rfl rfl rfl rfl rfl ?_
  refine RL.p rfl rfl rfl (PV_pickT rfl rfl rfl rfl) ?_
  refine RL.p rfl rfl rfl (PV_assign rfl rfl) ?_
  refine RL.done (nxt ?_)
  repeat (first | refine W.seq ?_ | refine W.region ?_)
  refine W.cond rfl (fun h1 => ?_) (fun h1 => ?_)
  rotate_left
  · cases h1
  repeat (first | refine W.seq ?_ | refine W.region ?_)
  refine RL.p rfl rfl rfl (PV_assign rfl rfl) ?_
  refine RL.done (nxt ?_)
  repeat (first | refine W.seq ?_ | refine W.region ?_)
  exact W.ret (ret_tmp rfl rfl ⟨_, rfl, rfl, hs⟩)

theorem C15n (hs : Sat G M I w) : Calls Tryz.prog 15 #[.pointer none] w (Ret fun r w' => r = .int .i64 1 ∧ Sat G M I w') := by
  refine enter1 Tryz.func15 rfl Tryz.ntmps15 rfl ?_
  repeat (first | refine W.seq ?_ | refine W.region ?_)
  refine RL.p rfl rfl rfl (PV_assign rfl rfl) ?_
  refine RL.done (nxt ?_)
  repeat (first | refine W.seq ?_ | refine W.region ?_)
  refine W.block ?_
  repeat (first | refine W.seq ?_ | refine W.region ?_)
  refine RL.p rfl rfl rfl (PV_move rfl rfl) ?_
  refine RL.p rfl rfl rfl (PV_eqnil rfl Tryz.underlying27 rfl rfl) ?_
  refine RL.p rfl rfl rfl (PV_assign rfl rfl) ?_
  refine RL.done (nxt ?_)
  repeat (first | refine W.seq ?_ | refine W.region ?_)
  refine W.cond rfl (fun h1 => ?_) (fun h1 => ?_)
  rotate_left
  · cases h1
  repeat (first | refine W.seq ?_ | refine W.region ?_)
  refine RL.p rfl rfl rfl (PV_assign rfl rfl) ?_
  refine RL.done (nxt ?_)
  repeat (first | refine W.seq ?_ | refine W.region ?_)
  exact W.ret (ret_tmp rfl rfl ⟨_, rfl, rfl, hs⟩)

theorem C9n (hs : Sat G M I w) : Calls Tryz.prog 9 #[.pointer none] w (Ret fun r w' => r = .slice none 0 0 ∧ Sat G M I w') := by
  refine enter1 Tryz.func9 rfl Tryz.ntmps9 rfl ?_
  repeat (first | refine W.seq ?_ | refine W.region ?_)
  refine RL.p rfl rfl rfl (PV_assign rfl rfl) ?_
  refine RL.done (nxt ?_)
  repeat (first | refine W.seq ?_ | refine W.region ?_)
  refine RL.p rfl rfl rfl (PV_move rfl rfl) ?_
  refine RL.p rfl rfl rfl (PV_eqnil rfl Tryz.underlying27 rfl rfl) ?_
  refine RL.done (nxt ?_)
  repeat (first | refine W.seq ?_ | refine W.region ?_)
  refine W.cond rfl (fun h1 => ?_) (fun h1 => ?_)
  rotate_left
  · cases h1
  repeat (first | refine W.seq ?_ | refine W.region ?_)
  refine RL.p rfl rfl rfl (PV_assign rfl rfl) ?_
  refine RL.done (nxt ?_)
  repeat (first | refine W.seq ?_ | refine W.region ?_)
  exact W.ret (ret_tmp rfl rfl ⟨_, rfl, rfl, hs⟩)

theorem C20n (hs : Sat G M I w) : Calls Tryz.prog 20 #[.pointer none] w (Ret fun r w' => r = .slice none 0 0 ∧ Sat G M I w') := by
  refine enter1 Tryz.func20 rfl Tryz.ntmps20 rfl ?_
  repeat (first | refine W.seq ?_ | refine W.region ?_)
  refine RL.p rfl rfl rfl (PV_assign rfl rfl) ?_
  refine RL.done (nxt ?_)
  repeat (first | refine W.seq ?_ | refine W.region ?_)
  refine RL.p rfl rfl rfl (PV_move rfl rfl) ?_
  refine RL.p rfl rfl rfl (PV_eqnil rfl Tryz.underlying27 rfl rfl) ?_
  refine RL.done (nxt ?_)
  repeat (first | refine W.seq ?_ | refine W.region ?_)
  refine W.cond rfl (fun h1 => ?_) (fun h1 => ?_)
  rotate_left
  · cases h1
  repeat (first | refine W.seq ?_ | refine W.region ?_)
  refine RL.p rfl rfl rfl (PV_assign rfl rfl) ?_
  refine RL.done (nxt ?_)
  repeat (first | refine W.seq ?_ | refine W.region ?_)
  exact W.ret (ret_tmp rfl rfl ⟨_, rfl, rfl, hs⟩)

theorem C18n (hs : Sat G M I w) : Calls Tryz.prog 18 #[.pointer none] w (Ret fun r w' => r = aggL zl65 ∧ Sat G M I w') := by
  refine enter1 Tryz.func18 rfl Tryz.ntmps18 rfl ?_
  repeat (first | refine W.seq ?_ | refine W.region ?_)
  refine RL.e rfl rfl rfl (EF_allocA rfl zr65 hs) ?_
  rintro r1 w1 ⟨b2, rfl, hs1⟩
  refine RL.done (nxt ?_)
  repeat (first | refine W.seq ?_ | refine W.region ?_)
  refine RL.p rfl rfl rfl (PV_move rfl rfl) ?_
  refine RL.p rfl rfl rfl (PV_eqnil rfl Tryz.underlying27 rfl rfl) ?_
  refine RL.done (nxt ?_)
  repeat (first | refine W.seq ?_ | refine W.region ?_)
  refine W.cond rfl (fun h1 => ?_) (fun h1 => ?_)
  rotate_left
  · cases h1
  repeat (first | refine W.seq ?_ | refine W.region ?_)
  refine RL.p rfl rfl rfl (PV_buildS rfl pl65 zr65 rfl rfl) ?_
  refine RL.e0 rfl rfl (EF_storeA (cs := zl65) rfl rfl rfl sz65 rfl rfl hs1 (by first | exact u0 | exact u1 | exact u2 | exact u3 | exact u4 | exact u5 | exact u0.app | exact u1.app | exact u2.app | exact u3.app)) ?_
  rintro r2 w2 hs2
  refine RL.done (nxt ?_)
  repeat (first | refine W.seq ?_ | refine W.region ?_)
  exact W.ret (ret_cell rfl rfl (ldA ag65 sz65 hs2 (by first | exact m0 | exact m1 | exact m2 | exact m3 | exact m4 | exact m5 | exact mapp m0 | exact mapp m1 | exact hm) rfl) ⟨_, rfl, rfl, hs2.tail⟩)

theorem C13n (hs : Sat G M I w) : Calls Tryz.prog 13 #[.pointer none] w (Ret fun r w' => r = aggL zl42 ∧ Sat G M I w') := by
  refine enter1 Tryz.func13 rfl Tryz.ntmps13 rfl ?_
  repeat (first | refine W.seq ?_ | refine W.region ?_)
  refine RL.e rfl rfl rfl (EF_allocA rfl zr42 hs) ?_
  rintro r1 w1 ⟨b2, rfl, hs1⟩
  refine RL.done (nxt ?_)
  repeat (first | refine W.seq ?_ | refine W.region ?_)
  refine RL.p rfl rfl rfl (PV_move rfl rfl) ?_
  refine RL.p rfl rfl rfl (PV_eqnil rfl Tryz.underlying27 rfl rfl) ?_
  refine RL.done (nxt ?_)
  repeat (first | refine W.seq ?_ | refine W.region ?_)
  refine W.cond rfl (fun h1 => ?_) (fun h1 => ?_)
  rotate_left
  · cases h1
  repeat (first | refine W.seq ?_ | refine W.region ?_)
  refine RL.p rfl rfl rfl (PV_buildS rfl pl42 zr42 rfl rfl) ?_
  refine RL.e0 rfl rfl (EF_storeA (cs := zl42) rfl rfl rfl sz42 rfl rfl hs1 (by first | exact u0 | exact u1 | exact u2 | exact u3 | exact u4 | exact u5 | exact u0.app | exact u1.app | exact u2.app | exact u3.app)) ?_
  rintro r2 w2 hs2
  refine RL.done (nxt ?_)
  repeat (first | refine W.seq ?_ | refine W.region ?_)
  exact W.ret (ret_cell rfl rfl (ldA ag42 sz42 hs2 (by first | exact m0 | exact m1 | exact m2 | exact m3 | exact m4 | exact m5 | exact mapp m0 | exact mapp m1 | exact hm) rfl) ⟨_, rfl, rfl, hs2.tail⟩)

end Go.Proofs.YtecbpmgfikgoaaaGreatDoor
end
section
set_option linter.unusedVariables false
set_option linter.unusedSimpArgs false
set_option maxRecDepth 8000
set_option maxHeartbeats 4000000
namespace Go.Proofs.YtecbpmgfikgoaaaGreatDoor
open Go Go.RowKit
variable {G w : World} {M : List Chunk} {I : Imm}

theorem pl132 : PlacesOf Tryz.prog 132 [(0, 32), (32, 3)] := ⟨_, Tryz.underlying132, by kernel_rfl⟩
/-- An envelope of one mark in memory that nobody writes. -/
def EnvI (J : Imm) (p mv : Value) (body pub : List UInt8) (u : Nat) (ch pa : List UInt8) : Prop := SlB J p body ∧ ∃ cv pv, SlI J 35 mv 1 (bcells pub ++ [.int .i64 (u : Int), cv, pv]) ∧ SlI J 32 cv 36 (bcells ch) ∧ SlI J 32 pv 4 (bcells pa)
theorem EnvI.le {J J' : Imm} {p mv : Value} {body pub : List UInt8} {u : Nat} {ch pa : List UInt8} (h : EnvI J p mv body pub u ch pa) (hl : Le J J') : EnvI J' p mv body pub u ch pa := by
  obtain ⟨h1, cv, pv, h2, h3, h4⟩ := h
  exact ⟨SlB.le h1 hl, cv, pv, h2.le hl, h3.le hl, h4.le hl⟩
theorem fill132 {h : List UInt8} {n : Int} {cv pv : Value} (h32 : h.length = 32) : fillL [(0, 32), (32, 3)] zl132 ([(0, aggL (bcells h)), (1, aggL [.int .i64 n, cv, pv])].map fun x => (x.1, x.2.cells.toList)) = some (bcells h ++ [.int .i64 n, cv, pv]) := by
  have h1 : (aggL (bcells h)).cells.toList = bcells h := cells_aggL _
  have h2 : (aggL [.int .i64 n, cv, pv]).cells.toList = [.int .i64 n, cv, pv] := cells_aggL _
  have h3 : (bcells h).length = 32 := by rw [length_bcells, h32]
  have h4 : splice zl132 0 (bcells h) = bcells h ++ [.int .i64 0, .slice none 0 0, .slice none 0 0] := splice_front (a := List.replicate 32 (.int .u8 0)) (n := 32) rfl h3
  simp only [List.map_cons, List.map_nil, fillL, h1, h2, List.getElem?_cons_zero, List.getElem?_cons_succ, h3, h4]
  rw [if_pos ⟨trivial, by decide⟩, if_pos ⟨rfl, by rw [List.length_append, h3]; decide⟩]
  exact congrArg some (ap_splice (i := 0) h32 rfl)

theorem C34 {kb u : Nat} {seed body pub : List UInt8} {lv p : Value} {M' : List Chunk} (hpub : pub.length = 32) (h32 : seed.length = 32) (hu : u < 16) (hup : Upd kb 112 (kcells seed lv u) (kcells seed lv (u + 1)) M M') (hv : SlI I 32 lv 16 (bcells (leavesH seed))) (hp : SlB I p body) (hl : body.length ≤ 2 ^ 40) (hs : Sat G M I w) :
    Calls Tryz.prog 34 #[aggL (bcells pub), .func (.func 36) #[ptr kb 0] #[], p] w (Ret fun r w' => ∃ J mv, Le I J ∧ r = aggL [p, mv] ∧ EnvI J p mv body pub u (chainsH seed u body) (pathH 4 (leavesH seed) u) ∧ Sat G M' J w') := by
  obtain ⟨A, c, rfl, hc⟩ := SlI.shape hp
  refine enter3 Tryz.func34 rfl Tryz.ntmps34 rfl ?_
  repeat (first | refine W.seq ?_ | refine W.region ?_)
  refine RL.e rfl rfl rfl (EF_boxA rfl rfl hs) ?_
  rintro r1 w1 ⟨b3, rfl, hs1⟩
  refine RL.e rfl rfl rfl (EF_allocA rfl zr63 hs1) ?_
  rintro r2 w2 ⟨b6, rfl, hs2⟩
  refine RL.done (nxt ?_)
  repeat (first | refine W.seq ?_ | refine W.region ?_)
  refine RL.p rfl rfl rfl (PV_move rfl rfl) ?_
  refine RL.p rfl rfl rfl (PV_move rfl rfl) ?_
  refine RL.e rfl rfl rfl (Kf1 rfl rfl fn36 rfl (C36 h32 hu hup.there.there hv hp hl hs2)) ?_
  rintro r3 w3 ⟨J, cv, pv, hj, rfl, hcv, hpv, hs3⟩
  refine RL.p rfl rfl rfl (PV_move rfl rfl) ?_
  refine RL.p rfl rfl rfl (PV_extract rfl rfl rfl) ?_
  refine RL.p rfl rfl rfl (PV_extract rfl rfl rfl) ?_
  refine RL.e rfl rfl rfl (EF_allocA rfl zr129 hs3) ?_
  rintro r4 w4 ⟨b7, rfl, hs4⟩
  refine RL.e0 rfl rfl (EF_storeA (cs := zl129) rfl rfl rfl sz129 rfl (by simp only [one1_cons, one1_nil, hcv.cell, hpv.cell]; rfl) hs4 (by first | exact u0 | exact u1 | exact u2 | exact u3 | exact u4 | exact u5 | exact u0.app | exact u1.app | exact u2.app | exact u3.app)) ?_
  rintro r5 w5 hs5
  refine RL.p rfl rfl rfl (PV_assign rfl rfl) ?_
  refine RL.done (nxt ?_)
  repeat (first | refine W.seq ?_ | refine W.region ?_)
  refine RL.p rfl rfl rfl (PV_move rfl rfl) ?_
  refine RL.s rfl rfl rfl (PV_loadMA rfl ag24 sz24 rfl (by first | exact m0 | exact m1 | exact m2 | exact m3 | exact m4 | exact m5 | exact mapp m0 | exact mapp m1 | exact mapp m2 | exact mapp m3 | exact hm | exact .tail _ hm | exact .tail _ (.tail _ hm)) (by rw [length_bcells, hpub]; decide) (part_whole (by rw [length_bcells, hpub]))) hs5 ?_
  refine RL.s rfl rfl rfl (PV_loadMA rfl ag129 sz129 rfl (by first | exact m0 | exact m1 | exact m2 | exact m3 | exact m4 | exact m5 | exact mapp m0 | exact mapp m1 | exact mapp m2 | exact mapp m3 | exact hm | exact .tail _ hm | exact .tail _ (.tail _ hm)) (by show 0 + 3 ≤ 3; decide) (part_whole rfl)) hs5 ?_
  refine RL.p rfl rfl rfl (PV_buildS rfl pl132 zr132 rfl (fill132 hpub)) ?_
  refine RL.e rfl rfl rfl (EF_bs1a rfl el61 rfl (by rw [List.length_append, length_bcells, hpub]; rfl) (by decide) hs5) ?_
  rintro r6 w6 ⟨b19, rfl, hs6⟩
  refine RL.p rfl rfl rfl (PV_buildS rfl pl63 zr63 rfl rfl) ?_
  refine RL.e0 rfl rfl (EF_storeA (cs := zl63) rfl rfl rfl sz63 rfl (by simp only [one1_cons, one1_nil, SlI.cell hp]; rfl) hs6 (by first | exact u0 | exact u1 | exact u2 | exact u3 | exact u4 | exact u5 | exact u0.app | exact u1.app | exact u2.app | exact u3.app)) ?_
  rintro r7 w7 hs7
  refine RL.done (nxt ?_)
  repeat (first | refine W.seq ?_ | refine W.region ?_)
  have hml : (bcells pub ++ [.int .i64 (u : Int), cv, pv]).length = 1 * 35 := by rw [List.length_append, length_bcells, hpub]; rfl
  obtain ⟨J2, hj2, hv2, hs8⟩ := OwnS.freeze (m := 1) (OwnS.lit (e := 132) (m := 1) hml) hml (by decide) hs7
  exact W.ret (ret_cell rfl rfl (ldA ag63 sz63 hs8 (by first | exact m0 | exact m1 | exact m2 | exact m3 | exact m4 | exact m5 | exact mapp m0 | exact mapp m1 | exact hm) rfl) ⟨_, rfl, J2, _, hj.trans hj2, rfl, ⟨SlB.le hp (hj.trans hj2), cv, pv, hv2, hcv.le hj2, hpv.le hj2⟩, hs8.tail.tail.tail⟩)

end Go.Proofs.YtecbpmgfikgoaaaGreatDoor
end
section
set_option linter.unusedVariables false
set_option linter.unusedSimpArgs false
set_option maxRecDepth 8000
set_option maxHeartbeats 4000000
namespace Go.Proofs.YtecbpmgfikgoaaaGreatDoor
open Go Go.RowKit
variable {G w : World} {M : List Chunk} {I : Imm}

theorem C16u {rb k1 u1 now life : Nat} {rc : List Value} {s1 : List UInt8} (hr : (rb, rc, 78) ∈ M) (hr1 : rc[33]? = some (ptr k1 0)) (hk1 : KeyAt M I k1 s1 u1) (hu : 13 < u1) (hn : now + life ≤ 1073741824) (hs : Sat G M I w) : Calls Tryz.prog 16 #[ptr rb 0, .int .i64 (now : Int), .int .i64 (life : Int)] w (Ret fun r w' => r = .int .i64 3 ∧ Sat G M I w') := by
  obtain ⟨lv1, h321, hm1, hv1⟩ := hk1
  refine enter3 Tryz.func16 rfl Tryz.ntmps16 rfl ?_
  repeat (first | refine W.seq ?_ | refine W.region ?_)
  refine RL.p rfl rfl rfl (PV_assign rfl rfl) ?_
  refine RL.done (nxt ?_)
  repeat (first | refine W.seq ?_ | refine W.region ?_)
  refine W.block ?_
  repeat (first | refine W.seq ?_ | refine W.region ?_)
  refine RL.p rfl rfl rfl (PV_move rfl rfl) ?_
  refine RL.p rfl rfl rfl (PV_eqnil rfl Tryz.underlying27 rfl rfl) ?_
  refine RL.p rfl rfl rfl (PV_move rfl rfl) ?_
  refine RL.split 19 rfl (fun g1 => by cases g1) (fun g1 => ?_)
  refine RL.gp rfl rfl rfl rfl g1 rfl rfl rfl (PV_move rfl rfl) ?_
  refine RL.gp rfl rfl rfl rfl g1 rfl rfl rfl (PV_lss rfl rfl rfl) ?_
  refine RL.p rfl rfl rfl (PV_pickF rfl rfl g1 rfl) ?_
  refine RL.p rfl rfl rfl (PV_move rfl rfl) ?_
  refine RL.split 23 rfl (fun g2 => by exact absurd (of_decide_eq_true g2) (by omega)) (fun g2 => ?_)
  refine RL.gp rfl rfl rfl rfl g2 rfl rfl rfl (PV_move rfl rfl) ?_
  refine RL.gp rfl rfl rfl rfl g2 rfl rfl rfl (PV_gtr rfl rfl rfl) ?_
  refine RL.p rfl rfl rfl (PV_pickF rfl rfl g2 rfl) ?_
  refine RL.p rfl rfl rfl (PV_move rfl rfl) ?_
  refine RL.split 27 rfl (fun g3 => by exact absurd (of_decide_eq_true g3) (by omega)) (fun g3 => ?_)
  refine RL.gp rfl rfl rfl rfl g3 rfl rfl rfl (PV_move rfl rfl) ?_
  refine RL.gp rfl rfl rfl rfl g3 rfl rfl rfl (PV_lss rfl rfl rfl) ?_
  refine RL.p rfl rfl rfl (PV_pickF rfl rfl g3 rfl) ?_
  refine RL.p rfl rfl rfl (PV_move rfl rfl) ?_
  refine RL.split 31 rfl (fun g4 => by exact absurd (of_decide_eq_true g4) (by omega)) (fun g4 => ?_)
  refine RL.gp rfl rfl rfl rfl g4 rfl rfl rfl (PV_move rfl rfl) ?_
  refine RL.gp rfl rfl rfl rfl g4 rfl rfl rfl (PV_move rfl rfl) ?_
  refine RL.gp rfl rfl rfl rfl g4 rfl rfl rfl (PV_sub rfl rfl rfl (by omega)) ?_
  refine RL.gp rfl rfl rfl rfl g4 rfl rfl rfl (PV_gtr rfl rfl rfl) ?_
  refine RL.p rfl rfl rfl (PV_pickF rfl rfl g4 rfl) ?_
  refine RL.p rfl rfl rfl (PV_assign rfl rfl) ?_
  refine RL.done (nxt ?_)
  repeat (first | refine W.seq ?_ | refine W.region ?_)
  refine W.cond rfl (fun h1 => ?_) (fun h1 => ?_)
  · exact absurd (of_decide_eq_true h1) (by omega)
  repeat (first | refine W.seq ?_ | refine W.region ?_)
  refine RL.p rfl rfl rfl (PV_move rfl rfl) ?_
  refine RL.p rfl rfl rfl (PV_nilCheckP rfl rfl) ?_
  refine RL.p rfl rfl rfl (by first | exact PV_fieldAddr0 rfl rfl fa78_1 | exact PV_fieldAddr rfl rfl fa78_1) ?_
  refine RL.p rfl rfl rfl (PV_indexArr (i := 1) rfl Tryz.underlying76 sz75 rfl rfl rfl (by decide)) ?_
  refine RL.s rfl rfl rfl (PV_loadM1 rfl ag75 rfl hr hr1) hs ?_
  refine RL.e rfl rfl rfl (K1 rfl fn32 rfl (C32 h321 hm1 hs)) ?_
  rintro r1 w1 ⟨rfl, hs1⟩
  refine RL.p rfl rfl rfl (PV_gtr rfl rfl rfl) ?_
  refine RL.p rfl rfl rfl (PV_assign rfl rfl) ?_
  refine RL.done (nxt ?_)
  repeat (first | refine W.seq ?_ | refine W.region ?_)
  refine W.cond rfl (fun h2 => ?_) (fun h2 => ?_)
  rotate_left
  · exact absurd (of_decide_eq_false h2) (by omega)
  repeat (first | refine W.seq ?_ | refine W.region ?_)
  refine RL.p rfl rfl rfl (PV_assign rfl rfl) ?_
  refine RL.done (nxt ?_)
  repeat (first | refine W.seq ?_ | refine W.region ?_)
  exact W.ret (ret_tmp rfl rfl ⟨_, rfl, rfl, hs1⟩)

end Go.Proofs.YtecbpmgfikgoaaaGreatDoor
end
section
set_option linter.unusedVariables false
set_option linter.unusedSimpArgs false
set_option maxRecDepth 8000
set_option maxHeartbeats 4000000
namespace Go.Proofs.YtecbpmgfikgoaaaGreatDoor
open Go Go.RowKit
variable {G w : World} {M : List Chunk} {I : Imm}

def optB (may : Bool) (enc : List UInt8) : List UInt8 := if may then enc else []
theorem optB_sl {J : Imm} {may : Bool} {enc : List UInt8} {v : Value} (h1 : may = true → SlB J v enc) (h2 : may = false → v = .slice none 0 0) : SlB J v (optB may enc) := by
  cases may with
  | true => exact h1 rfl
  | false => rw [h2 rfl]; exact SlB.nil
theorem optB_len {may : Bool} {enc : List UInt8} (h : enc.length ≤ 2 ^ 40) : (optB may enc).length ≤ 2 ^ 40 := by
  cases may with
  | true => exact h
  | false => simp [optB]
def bodyT (n e : Int) (K : List Tgt) : List UInt8 := optB (targetsB topS n e K) (nums [4] ++ targetsE topS n e K)
def bodyS (n e : Int) : List UInt8 := optB (nameB topS && (isVersionB n && (isVersionB n && isNumB e))) (nums [3] ++ snapE n e topS n)
def bodyM (n e : Int) : List UInt8 := optB (isVersionB n && (isNumB e && isVersionB n)) (nums [2] ++ timeE n e n (sha (bodyS n e)))
/-- What a signing lays: the time, the snapshot, the targets. -/
def SignedI (J : Imm) (b : Nat → Value) (s1 : List UInt8) (q : Nat) (K : List Tgt) (n e : Int) : Prop :=
  EnvI J (b 1) (b 2) (bodyM n e) (keyH s1) (q + 2) (chainsH s1 (q + 2) (bodyM n e)) (pathH 4 (leavesH s1) (q + 2)) ∧
  EnvI J (b 3) (b 4) (bodyS n e) (keyH s1) (q + 1) (chainsH s1 (q + 1) (bodyS n e)) (pathH 4 (leavesH s1) (q + 1)) ∧
  ∃ p m, SlI J 2 (b 5) 1 [p, m] ∧ EnvI J p m (bodyT n e K) (keyH s1) q (chainsH s1 q (bodyT n e K)) (pathH 4 (leavesH s1) q)

theorem fill45 {h : List UInt8} {a b c : Int} (h32 : h.length = 32) : fillL [(0, 1), (1, 1), (2, 1), (3, 32)] zl45 ([(0, Value.int .i64 a), (1, Value.int .i64 b), (2, Value.int .i64 c), (3, aggL (bcells h))].map fun x => (x.1, x.2.cells.toList)) = some (.int .i64 a :: .int .i64 b :: .int .i64 c :: bcells h) := by
  have h1 : (aggL (bcells h)).cells.toList = bcells h := cells_aggL _
  have h3 : (bcells h).length = 32 := by rw [length_bcells, h32]
  have hz : zl45 = .int .i64 0 :: .int .i64 0 :: .int .i64 0 :: List.replicate 32 (.int .u8 0) := rfl
  rw [hz]
  simp only [List.map_cons, List.map_nil, h1]
  simp [fillL, splice, h3, Value.cells, List.drop_replicate]

theorem EnvI.one {J : Imm} {p mv : Value} {body pub : List UInt8} {u : Nat} {ch pa : List UInt8} (h : EnvI J p mv body pub u ch pa) : one1 [p, mv] = true := by
  obtain ⟨h1, cv, pv, h2, h3, h4⟩ := h
  simp only [one1_cons, one1_nil, SlI.cell h1, h2.cell]
  rfl

theorem C16 {rb k0 k1 q1 now life : Nat} {s s1 : List UInt8} {gen v0 v1 : Int} {f la : Nat → Value} {l led lv1 : Value} {sg : Nat} {b : Nat → Value} {K B : List Tgt} {Ll Ld R : List Chunk}
    (h32 : s.length = 32) (h321 : s1.length = 32) (hv1 : SlI I 32 lv1 16 (bcells (leavesH s1))) (hu : q1 ≤ 13) (hn : now + life ≤ 1073741824) (hsg : sg ≤ 2 ^ 20) (hK : K.length ≤ 2 ^ 10) (hB : B.length ≤ 2 ^ 20) (hok : ∀ t ∈ K, t.ok) (hol : OwnS 26 37 l (lcells K) Ll) (hod : OwnS 26 37 led (lcells B) Ld)
    (hs : Sat G (Ld ++ (Ll ++ (rb, bcells s ++ rtail (ptr k0 0) (ptr k1 0) gen v0 f v1 la l (sg : Int) b led, 78) :: (k1, kcells s1 lv1 q1, 112) :: R)) I w) :
    Calls Tryz.prog 16 #[ptr rb 0, .int .i64 (now : Int), .int .i64 (life : Int)] w (Ret fun r w' => ∃ J b' led' Ld', Le I J ∧ r = .int .i64 0 ∧ b' 0 = b 0 ∧ OwnS 26 37 led' (lcells (B ++ K)) Ld' ∧ SignedI J b' s1 q1 K (sg + 1) (now + life) ∧
      Sat G (Ld' ++ (Ll ++ (rb, bcells s ++ rtail (ptr k0 0) (ptr k1 0) gen v0 f v1 la l ((sg + 1 : Nat) : Int) b' led', 78) :: (k1, kcells s1 lv1 (q1 + 3), 112) :: R)) J w') := by
  obtain ⟨A, c, rfl, hc⟩ := hol.shape (length_lcells K) (by decide)
  refine enter3 Tryz.func16 rfl Tryz.ntmps16 rfl ?_
  repeat (first | refine W.seq ?_ | refine W.region ?_)
  refine RL.p rfl rfl rfl (PV_assign rfl rfl) ?_
  refine RL.done (nxt ?_)
  repeat (first | refine W.seq ?_ | refine W.region ?_)
  refine W.block ?_
  repeat (first | refine W.seq ?_ | refine W.region ?_)
  refine RL.p rfl rfl rfl (PV_move rfl rfl) ?_
  refine RL.p rfl rfl rfl (PV_eqnil rfl Tryz.underlying27 rfl rfl) ?_
  refine RL.p rfl rfl rfl (PV_move rfl rfl) ?_
  refine RL.split 19 rfl (fun g1 => by cases g1) (fun g1 => ?_)
  refine RL.gp rfl rfl rfl rfl g1 rfl rfl rfl (PV_move rfl rfl) ?_
  refine RL.gp rfl rfl rfl rfl g1 rfl rfl rfl (PV_lss rfl rfl rfl) ?_
  refine RL.p rfl rfl rfl (PV_pickF rfl rfl g1 rfl) ?_
  refine RL.p rfl rfl rfl (PV_move rfl rfl) ?_
  refine RL.split 23 rfl (fun g2 => by exact absurd (of_decide_eq_true g2) (by omega)) (fun g2 => ?_)
  refine RL.gp rfl rfl rfl rfl g2 rfl rfl rfl (PV_move rfl rfl) ?_
  refine RL.gp rfl rfl rfl rfl g2 rfl rfl rfl (PV_gtr rfl rfl rfl) ?_
  refine RL.p rfl rfl rfl (PV_pickF rfl rfl g2 rfl) ?_
  refine RL.p rfl rfl rfl (PV_move rfl rfl) ?_
  refine RL.split 27 rfl (fun g3 => by exact absurd (of_decide_eq_true g3) (by omega)) (fun g3 => ?_)
  refine RL.gp rfl rfl rfl rfl g3 rfl rfl rfl (PV_move rfl rfl) ?_
  refine RL.gp rfl rfl rfl rfl g3 rfl rfl rfl (PV_lss rfl rfl rfl) ?_
  refine RL.p rfl rfl rfl (PV_pickF rfl rfl g3 rfl) ?_
  refine RL.p rfl rfl rfl (PV_move rfl rfl) ?_
  refine RL.split 31 rfl (fun g4 => by exact absurd (of_decide_eq_true g4) (by omega)) (fun g4 => ?_)
  refine RL.gp rfl rfl rfl rfl g4 rfl rfl rfl (PV_move rfl rfl) ?_
  refine RL.gp rfl rfl rfl rfl g4 rfl rfl rfl (PV_move rfl rfl) ?_
  refine RL.gp rfl rfl rfl rfl g4 rfl rfl rfl (PV_sub rfl rfl rfl (by omega)) ?_
  refine RL.gp rfl rfl rfl rfl g4 rfl rfl rfl (PV_gtr rfl rfl rfl) ?_
  refine RL.p rfl rfl rfl (PV_pickF rfl rfl g4 rfl) ?_
  refine RL.p rfl rfl rfl (PV_assign rfl rfl) ?_
  refine RL.done (nxt ?_)
  repeat (first | refine W.seq ?_ | refine W.region ?_)
  refine W.cond rfl (fun h1 => ?_) (fun h1 => ?_)
  · exact absurd (of_decide_eq_true h1) (by omega)
  repeat (first | refine W.seq ?_ | refine W.region ?_)
  refine RL.p rfl rfl rfl (PV_move rfl rfl) ?_
  refine RL.p rfl rfl rfl (PV_nilCheckP rfl rfl) ?_
  refine RL.p rfl rfl rfl (by first | exact PV_fieldAddr0 rfl rfl fa78_1 | exact PV_fieldAddr rfl rfl fa78_1) ?_
  refine RL.p rfl rfl rfl (PV_indexArr (i := 1) rfl Tryz.underlying76 sz75 rfl rfl rfl (by decide)) ?_
  refine RL.s rfl rfl rfl (PV_loadM1 rfl ag75 rfl (mapp (mapp m0)) (ap_get (i := 1) h32 rfl)) hs ?_
  refine RL.e rfl rfl rfl (K1 rfl fn32 rfl (C32 h321 (mapp (mapp m1)) hs)) ?_
  rintro r1 w1 ⟨rfl, hs1⟩
  refine RL.p rfl rfl rfl (PV_gtr rfl rfl rfl) ?_
  refine RL.p rfl rfl rfl (PV_assign rfl rfl) ?_
  refine RL.done (nxt ?_)
  repeat (first | refine W.seq ?_ | refine W.region ?_)
  refine W.cond rfl (fun h2 => ?_) (fun h2 => ?_)
  · exact absurd (of_decide_eq_true h2) (by omega)
  refine W.skip (nxt ?_)
  repeat (first | refine W.seq ?_ | refine W.region ?_)
  refine RL.p rfl rfl rfl (PV_move rfl rfl) ?_
  refine RL.p rfl rfl rfl (PV_nilCheckP rfl rfl) ?_
  refine RL.p rfl rfl rfl (by first | exact PV_fieldAddr0 rfl rfl fa78_6 | exact PV_fieldAddr rfl rfl fa78_6) ?_
  refine RL.s rfl rfl rfl (PV_loadM1 rfl ag3 rfl (mapp (mapp m0)) (ap_get (i := 24) h32 rfl)) hs1 ?_
  refine RL.p rfl rfl rfl (PV_add rfl rfl rfl (by omega)) ?_
  refine RL.p rfl rfl rfl (PV_nilCheckP rfl rfl) ?_
  refine RL.p rfl rfl rfl (by first | exact PV_fieldAddr0 rfl rfl fa78_6 | exact PV_fieldAddr rfl rfl fa78_6) ?_
  refine RL.e0 rfl rfl (EF_storeC (cs := bcells s ++ rtail (ptr k0 0) (ptr k1 0) gen v0 f v1 la (.slice A K.length c) ((sg : Int)) b led) rfl rfl rfl sz3 rfl (by rw [ap_len h32 rfl]; decide) (ap_set (i := 24) (t' := rtail (ptr k0 0) (ptr k1 0) gen v0 f v1 la (.slice A K.length c) (((sg + 1 : Nat) : Int)) b led) h32 rfl) hs1 u0.app.app) ?_
  rintro r2 w2 hs2
  refine RL.done (nxt ?_)
  repeat (first | refine W.seq ?_ | refine W.region ?_)
  refine RL.p rfl rfl rfl (PV_move rfl rfl) ?_
  refine RL.p rfl rfl rfl (PV_nilCheckP rfl rfl) ?_
  refine RL.p rfl rfl rfl (by first | exact PV_fieldAddr0 rfl rfl fa78_6 | exact PV_fieldAddr rfl rfl fa78_6) ?_
  refine RL.s rfl rfl rfl (PV_loadM1 rfl ag3 rfl (mapp (mapp m0)) (ap_get (i := 24) h32 rfl)) hs2 ?_
  refine RL.p rfl rfl rfl (PV_move rfl rfl) ?_
  refine RL.p rfl rfl rfl (PV_move rfl rfl) ?_
  refine RL.p rfl rfl rfl (PV_add rfl rfl rfl (by omega)) ?_
  refine RL.p rfl rfl rfl (PV_assign rfl rfl) ?_
  refine RL.p rfl rfl rfl (PV_assign rfl rfl) ?_
  refine RL.done (nxt ?_)
  repeat (first | refine W.seq ?_ | refine W.region ?_)
  refine RL.p rfl rfl rfl (PV_move rfl rfl) ?_
  refine RL.p rfl rfl rfl (PV_nilCheckP rfl rfl) ?_
  refine RL.p rfl rfl rfl (by first | exact PV_fieldAddr0 rfl rfl fa78_1 | exact PV_fieldAddr rfl rfl fa78_1) ?_
  refine RL.p rfl rfl rfl (PV_indexArr (i := 1) rfl Tryz.underlying76 sz75 rfl rfl rfl (by decide)) ?_
  refine RL.s rfl rfl rfl (PV_loadM1 rfl ag75 rfl (mapp (mapp m0)) (ap_get (i := 1) h32 rfl)) hs2 ?_
  refine RL.p rfl rfl rfl (PV_assign rfl rfl) ?_
  refine RL.done (nxt ?_)
  repeat (first | refine W.seq ?_ | refine W.region ?_)
  refine RL.p rfl rfl rfl (PV_move rfl rfl) ?_
  refine RL.p rfl rfl rfl (PV_move rfl rfl) ?_
  refine RL.p rfl rfl rfl (PV_move rfl rfl) ?_
  refine RL.p rfl rfl rfl (PV_nilCheckP rfl rfl) ?_
  refine RL.p rfl rfl rfl (by first | exact PV_fieldAddr0 rfl rfl fa78_5 | exact PV_fieldAddr rfl rfl fa78_5) ?_
  refine RL.s rfl rfl rfl (PV_loadM1 rfl ag22 rfl (mapp (mapp m0)) (ap_get (i := 23) h32 rfl)) hs2 ?_
  refine RL.p rfl rfl rfl (PV_buildS rfl pl70 zr70 rfl rfl) ?_
  refine RL.e rfl rfl rfl (K1 rfl fn37 rfl (C37 (s := topS) (v := ((sg + 1 : Nat) : Int)) (e := (now : Int) + (life : Int)) (K := K) (by decide) hK hok ((hol.toM (length_lcells K) (by decide)).mono fun _ h => h.drop) hs2)) ?_
  rintro r3 w3 ⟨J3, e3, hj3, rfl, hy3, hn3, hs3⟩
  have hb3 : SlB J3 e3 (bodyT (((sg + 1 : Nat) : Int)) ((now : Int) + (life : Int)) K) := optB_sl hy3 hn3
  have hlT : (bodyT (((sg + 1 : Nat) : Int)) ((now : Int) + (life : Int)) K).length ≤ 2 ^ 40 := optB_len (bd_targets (by decide) hK hok)
  refine RL.p rfl rfl rfl (PV_move rfl rfl) ?_
  refine RL.p rfl rfl rfl (PV_extract rfl rfl rfl) ?_
  refine RL.p rfl rfl rfl (PV_extract rfl rfl rfl) ?_
  refine RL.p rfl rfl rfl (PV_assign rfl rfl) ?_
  refine RL.p rfl rfl rfl (PV_assign rfl rfl) ?_
  refine RL.done (nxt ?_)
  repeat (first | refine W.seq ?_ | refine W.region ?_)
  refine RL.p rfl rfl rfl (PV_move rfl rfl) ?_
  refine RL.p rfl rfl rfl (PV_move rfl rfl) ?_
  refine RL.p rfl rfl rfl (PV_move rfl rfl) ?_
  refine RL.p rfl rfl rfl (PV_buildS rfl pl98 zr98 rfl rfl) ?_
  refine RL.e rfl rfl rfl (EF_bs1a rfl el46 rfl rfl (by decide) hs3) ?_
  rintro r4 w4 ⟨b80, rfl, hs4⟩
  refine RL.p rfl rfl rfl (PV_buildS rfl pl48 zr48 rfl rfl) ?_
  refine RL.e rfl rfl rfl (K1 rfl fn38 rfl (C38 (s := topS) (x := ((sg + 1 : Nat) : Int)) (by decide) (SlM.own m0 rfl (Nat.le_refl _)) hs4)) ?_
  rintro r5 w5 ⟨J5, e5, hj5, rfl, hy5, hn5, hs5⟩
  have hb5 : SlB J5 e5 (bodyS (((sg + 1 : Nat) : Int)) ((now : Int) + (life : Int))) := optB_sl hy5 hn5
  have hlS : (bodyS (((sg + 1 : Nat) : Int)) ((now : Int) + (life : Int))).length ≤ 2 ^ 40 := optB_len (bd_snap (by decide))
  replace hs5 := hs5.tail
  refine RL.p rfl rfl rfl (PV_move rfl rfl) ?_
  refine RL.p rfl rfl rfl (PV_extract rfl rfl rfl) ?_
  refine RL.p rfl rfl rfl (PV_extract rfl rfl rfl) ?_
  refine RL.p rfl rfl rfl (PV_assign rfl rfl) ?_
  refine RL.p rfl rfl rfl (PV_assign rfl rfl) ?_
  refine RL.done (nxt ?_)
  repeat (first | refine W.seq ?_ | refine W.region ?_)
  refine RL.p rfl rfl rfl (PV_move rfl rfl) ?_
  refine RL.p rfl rfl rfl (PV_move rfl rfl) ?_
  refine RL.p rfl rfl rfl (PV_move rfl rfl) ?_
  refine RL.p rfl rfl rfl (PV_move rfl rfl) ?_
  refine RL.e rfl rfl rfl (K1 rfl fn40 rfl (C40 hb5 hlS hs5)) ?_
  rintro r6 w6 ⟨rfl, hs6⟩
  refine RL.p rfl rfl rfl (PV_buildS rfl pl45 zr45 rfl (fill45 (length_sha _))) ?_
  refine RL.e rfl rfl rfl (K1 rfl fn39 rfl (C39 (length_sha _) hs6)) ?_
  rintro r7 w7 ⟨J7, e7, hj7, rfl, hy7, hn7, hs7⟩
  have hb7 : SlB J7 e7 (bodyM (((sg + 1 : Nat) : Int)) ((now : Int) + (life : Int))) := optB_sl hy7 hn7
  have hlM : (bodyM (((sg + 1 : Nat) : Int)) ((now : Int) + (life : Int))).length ≤ 2 ^ 40 := optB_len (bd_time (length_sha _))
  have hj37 : Le J3 J7 := hj5.trans hj7
  have hj07 : Le I J7 := hj3.trans hj37
  refine RL.p rfl rfl rfl (PV_move rfl rfl) ?_
  refine RL.p rfl rfl rfl (PV_extract rfl rfl rfl) ?_
  refine RL.p rfl rfl rfl (PV_extract rfl rfl rfl) ?_
  refine RL.p rfl rfl rfl (PV_assign rfl rfl) ?_
  refine RL.p rfl rfl rfl (PV_assign rfl rfl) ?_
  refine RL.done (nxt ?_)
  repeat (first | refine W.seq ?_ | refine W.region ?_)
  refine RL.p rfl rfl rfl (PV_move rfl rfl) ?_
  refine RL.p rfl rfl rfl (PV_move rfl rfl) ?_
  refine RL.e rfl rfl rfl (K1 rfl fn35 rfl (C35 h321 (mapp (mapp m1)) (hv1.le hj07) hs7)) ?_
  rintro r8 w8 ⟨rfl, hs8⟩
  refine RL.p rfl rfl rfl (PV_move rfl rfl) ?_
  refine RL.p rfl rfl rfl (PV_makeFunc1 rfl rfl) ?_
  refine RL.p rfl rfl rfl (PV_move rfl rfl) ?_
  refine RL.e rfl rfl rfl (K3 rfl fn34 rfl rfl rfl (C34 (length_keyH s1) h321 (by omega) u1.app.app (hv1.le hj07) (SlB.le hb3 hj37) hlT hs8)) ?_
  rintro r9 w9 ⟨J9, mv9, hj9, rfl, he9, hs9⟩
  refine RL.e rfl rfl rfl (EF_bs1a rfl el59 rfl rfl (by decide) hs9) ?_
  rintro r10 w10 ⟨b102, rfl, hs10⟩
  refine RL.p rfl rfl rfl (PV_nilCheckP rfl rfl) ?_
  refine RL.p rfl rfl rfl (by first | exact PV_fieldAddr0 rfl rfl fa78_7 | exact PV_fieldAddr rfl rfl fa78_7) ?_
  refine RL.p rfl rfl rfl (by first | exact PV_fieldAddr0 rfl rfl fa65_3 | exact PV_fieldAddr rfl rfl fa65_3) ?_
  refine RL.e0 rfl rfl (EF_storeC (cs := bcells s ++ rtail (ptr k0 0) (ptr k1 0) gen v0 f v1 la (.slice A K.length c) (((sg + 1 : Nat) : Int)) b led) rfl rfl rfl sz59 rfl (by rw [ap_len h32 rfl]; decide) (ap_set (i := 30) (t' := rtail (ptr k0 0) (ptr k1 0) gen v0 f v1 la (.slice A K.length c) (((sg + 1 : Nat) : Int)) (updK b 5 (.slice (some ⟨b102, 0, none⟩) 1 1)) led) h32 rfl) hs10 u0.app.app.there) ?_
  rintro r11 w11 hs11
  obtain ⟨J11, hj11, hv11, hs11a⟩ := OwnS.freeze (m := 1) (sz := 2) (cs := [e3, mv9]) (OwnS.lit (e := 63) (m := 1) rfl) rfl (by decide) hs11
  replace hs11 := hs11a
  have hj711 : Le J7 J11 := hj9.trans hj11
  have hj011 : Le I J11 := hj07.trans hj711
  refine RL.done (nxt ?_)
  repeat (first | refine W.seq ?_ | refine W.region ?_)
  refine RL.p rfl rfl rfl (PV_move rfl rfl) ?_
  refine RL.p rfl rfl rfl (PV_move rfl rfl) ?_
  refine RL.e rfl rfl rfl (K1 rfl fn35 rfl (C35 h321 (mapp (mapp m1)) (hv1.le hj011) hs11)) ?_
  rintro r12 w12 ⟨rfl, hs12⟩
  refine RL.p rfl rfl rfl (PV_move rfl rfl) ?_
  refine RL.p rfl rfl rfl (PV_makeFunc1 rfl rfl) ?_
  refine RL.p rfl rfl rfl (PV_move rfl rfl) ?_
  refine RL.e rfl rfl rfl (K3 rfl fn34 rfl rfl rfl (C34 (length_keyH s1) h321 (by omega) u1.app.app (hv1.le hj011) (SlB.le hb5 (hj7.trans hj711)) hlS hs12)) ?_
  rintro r13 w13 ⟨J13, mv13, hj13, rfl, he13, hs13⟩
  refine RL.p rfl rfl rfl (PV_nilCheckP rfl rfl) ?_
  refine RL.p rfl rfl rfl (by first | exact PV_fieldAddr0 rfl rfl fa78_7 | exact PV_fieldAddr rfl rfl fa78_7) ?_
  refine RL.p rfl rfl rfl (by first | exact PV_fieldAddr0 rfl rfl fa65_2 | exact PV_fieldAddr rfl rfl fa65_2) ?_
  refine RL.e0 rfl rfl (EF_storeP (cs := bcells s ++ rtail (ptr k0 0) (ptr k1 0) gen v0 f v1 la (.slice A K.length c) (((sg + 1 : Nat) : Int)) (updK b 5 (.slice (some ⟨b102, 0, none⟩) 1 1)) led) rfl rfl rfl sz63 he13.one (by rw [ap_len h32 rfl]; exact (by decide : 60 + 2 ≤ 64)) (ap_splice (i := 28) (t' := rtail (ptr k0 0) (ptr k1 0) gen v0 f v1 la (.slice A K.length c) (((sg + 1 : Nat) : Int)) (updK (updK (updK b 5 (.slice (some ⟨b102, 0, none⟩) 1 1)) 3 e5) 4 mv13) led) h32 rfl) hs13 u0.app.app) ?_
  rintro r14 w14 hs14
  refine RL.done (nxt ?_)
  repeat (first | refine W.seq ?_ | refine W.region ?_)
  refine RL.p rfl rfl rfl (PV_move rfl rfl) ?_
  refine RL.p rfl rfl rfl (PV_move rfl rfl) ?_
  refine RL.e rfl rfl rfl (K1 rfl fn35 rfl (C35 h321 (mapp (mapp m1)) (hv1.le (hj011.trans hj13)) hs14)) ?_
  rintro r15 w15 ⟨rfl, hs15⟩
  refine RL.p rfl rfl rfl (PV_move rfl rfl) ?_
  refine RL.p rfl rfl rfl (PV_makeFunc1 rfl rfl) ?_
  refine RL.p rfl rfl rfl (PV_move rfl rfl) ?_
  refine RL.e rfl rfl rfl (K3 rfl fn34 rfl rfl rfl (C34 (length_keyH s1) h321 (by omega) u1.app.app (hv1.le (hj011.trans hj13)) (SlB.le hb7 (hj711.trans hj13)) hlM hs15)) ?_
  rintro r16 w16 ⟨J16, mv16, hj16, rfl, he16, hs16⟩
  refine RL.p rfl rfl rfl (PV_nilCheckP rfl rfl) ?_
  refine RL.p rfl rfl rfl (by first | exact PV_fieldAddr0 rfl rfl fa78_7 | exact PV_fieldAddr rfl rfl fa78_7) ?_
  refine RL.p rfl rfl rfl (by first | exact PV_fieldAddr0 rfl rfl fa65_1 | exact PV_fieldAddr rfl rfl fa65_1) ?_
  refine RL.e0 rfl rfl (EF_storeP (cs := bcells s ++ rtail (ptr k0 0) (ptr k1 0) gen v0 f v1 la (.slice A K.length c) (((sg + 1 : Nat) : Int)) (updK (updK (updK b 5 (.slice (some ⟨b102, 0, none⟩) 1 1)) 3 e5) 4 mv13) led) rfl rfl rfl sz63 he16.one (by rw [ap_len h32 rfl]; exact (by decide : 58 + 2 ≤ 64)) (ap_splice (i := 26) (t' := rtail (ptr k0 0) (ptr k1 0) gen v0 f v1 la (.slice A K.length c) (((sg + 1 : Nat) : Int)) (updK (updK (updK (updK (updK b 5 (.slice (some ⟨b102, 0, none⟩) 1 1)) 3 e5) 4 mv13) 1 e7) 2 mv16) led) h32 rfl) hs16 u0.app.app) ?_
  rintro r17 w17 hs17
  refine RL.done (nxt ?_)
  repeat (first | refine W.seq ?_ | refine W.region ?_)
  refine W.drawsH hs17.drop [(0, true), (1, true), (2, true), (3, true), (4, true), (5, false), (6, false), (7, false), (8, false), (9, false), (10, false), (11, false), (12, false)] mixed (by kernel_rfl) (by kernel_rfl) ?_
  have hs18 := hs17.drew
  refine TW.p rfl rfl rfl rfl (PV_move rfl rfl) (hs18.drop) ?_
  refine TW.p rfl rfl rfl rfl (PV_move rfl rfl) (hs18.drop) ?_
  refine TW.p rfl rfl rfl rfl (PV_nilCheckP rfl rfl) (hs18.drop) ?_
  refine TW.p rfl rfl rfl rfl (by first | exact PV_fieldAddr0 rfl rfl fa78_8 | exact PV_fieldAddr rfl rfl fa78_8) (hs18.drop) ?_
  refine TW.s rfl rfl rfl rfl (PV_loadM1 rfl ag22 rfl (mapp m0) (ap_get (i := 31) h32 rfl)) (hs18.drop) ?_
  refine TW.q rfl rfl rfl rfl (T := fun _ => True) (PV_move rfl rfl) trivial (fun _ => (hs18.drop)) ?_
  refine TW.q rfl rfl rfl rfl (T := fun _ => True) (PV_nilCheckP rfl rfl) trivial (fun _ => (hs18.drop)) ?_
  refine TW.q rfl rfl rfl rfl (T := fun _ => True) (by first | exact PV_fieldAddr0 rfl rfl fa78_5 | exact PV_fieldAddr rfl rfl fa78_5) trivial (fun _ => (hs18.drop)) ?_
  refine TW.q rfl rfl rfl rfl (PV_loadM1 rfl ag22 rfl (by first | exact mapp (mapp m0) | exact mapp m0) (ap_get (i := 23) h32 rfl)) hs18 (fun _ => (hs18.drop)) ?_
  refine TW.e rfl rfl rfl rfl (EF_append (l := B.length) (m := K.length) (news := lcells K) rfl el22 rfl rfl hod (length_lcells B) (((hol.toM (length_lcells K) (by decide)).mono fun _ h => h.drop).rd hs18) (one1_lcells K) (by omega) (by decide) hs18) ?_
  rintro r19 w19 ⟨L19, ho19, hs19⟩
  refine ⟨(hs19.drop), ?_⟩
  refine TW.qn rfl rfl rfl rfl (T := fun _ => True) (PV_nilCheckP rfl rfl) trivial (by kernel_rfl) ?_
  refine TW.qn rfl rfl rfl rfl (T := fun _ => True) (by first | exact PV_fieldAddr0 rfl rfl fa78_8 | exact PV_fieldAddr rfl rfl fa78_8) trivial (by kernel_rfl) ?_
  refine TW.en0 rfl rfl rfl (by kernel_rfl) (EF_storeC (cs := bcells s ++ rtail (ptr k0 0) (ptr k1 0) gen v0 f v1 la (.slice A K.length c) (((sg + 1 : Nat) : Int)) (updK (updK (updK (updK (updK b 5 (.slice (some ⟨b102, 0, none⟩) 1 1)) 3 e5) 4 mv13) 1 e7) 2 mv16) led) rfl rfl rfl sz22 ho19.cell (by rw [ap_len h32 rfl]; decide) (ap_set (i := 31) (t' := rtail (ptr k0 0) (ptr k1 0) gen v0 f v1 la (.slice A K.length c) (((sg + 1 : Nat) : Int)) (updK (updK (updK (updK (updK b 5 (.slice (some ⟨b102, 0, none⟩) 1 1)) 3 e5) 4 mv13) 1 e7) 2 mv16) r19) h32 rfl) hs19 u0.app.app) ?_
  rintro r20 w20 hs20
  refine TW.done (nxt ?_)
  repeat (first | refine W.seq ?_ | refine W.region ?_)
  refine RL.p rfl rfl rfl (PV_assign rfl rfl) ?_
  refine RL.done (nxt ?_)
  repeat (first | refine W.seq ?_ | refine W.region ?_)
  exact W.ret (ret_tmp rfl rfl ⟨_, rfl, J16, (updK (updK (updK (updK (updK b 5 (.slice (some ⟨b102, 0, none⟩) 1 1)) 3 e5) 4 mv13) 1 e7) 2 mv16), r19, L19, hj011.trans (hj13.trans hj16), rfl, rfl, by rw [lcells_append]; exact ho19, ⟨he16, he13.le hj16, e3, mv9, hv11.le (hj13.trans hj16), he9.le (hj11.trans (hj13.trans hj16))⟩, hs20⟩)

end Go.Proofs.YtecbpmgfikgoaaaGreatDoor
end
section
set_option linter.unusedVariables false
set_option linter.unusedSimpArgs false
set_option maxRecDepth 8000
set_option maxHeartbeats 4000000
namespace Go.Proofs.YtecbpmgfikgoaaaGreatDoor
open Go Go.RowKit
variable {G w : World} {M : List Chunk} {I : Imm}

theorem C89o {v : Value} {m : Nat} {cs : List Value} (hv : SlM G M I 35 v m cs) (h1 : one1 cs = true) (hl : m ≤ 2 ^ 30) (hs : Sat G M I w) : Calls Tryz.prog 89 #[v] w (Ret fun r w' => ∃ L, OwnS 132 35 r cs L ∧ Sat G (L ++ M) I w') := by
  obtain ⟨A, c, rfl, hc⟩ := hv.shape
  have hcl : cs.length = m * 35 := hv.1
  refine enter1 Tryz.func89 rfl Tryz.ntmps89 rfl ?_
  repeat (first | refine W.seq ?_ | refine W.region ?_)
  refine RL.p rfl rfl rfl (PV_assign rfl rfl) ?_
  refine RL.done (nxt ?_)
  repeat (first | refine W.seq ?_ | refine W.region ?_)
  refine RL.p rfl rfl rfl (PV_move rfl rfl) ?_
  refine RL.p rfl rfl rfl (PV_eqnils rfl Tryz.underlying61 rfl rfl) ?_
  refine RL.done (nxt ?_)
  repeat (first | refine W.seq ?_ | refine W.region ?_)
  refine W.cond rfl (fun hn => ?_) (fun hn => ?_)
  ·
    repeat (first | refine W.seq ?_ | refine W.region ?_)
    refine RL.p rfl rfl rfl (PV_assign rfl rfl) ?_
    refine RL.done (nxt ?_)
    repeat (first | refine W.seq ?_ | refine W.region ?_)
    have hA : A = none := by cases A with
      | none => rfl
      | some a => cases hn
    subst hA
    have h00 : m = 0 := by
      obtain ⟨_, A, c, he, _, h⟩ := hv
      rcases h with h | ⟨b, off, h, _⟩
      · exact h
      · subst h; cases he
    subst h00
    obtain rfl : cs = [] := List.eq_nil_of_length_eq_zero (by omega)
    exact W.ret (ret_tmp rfl rfl ⟨_, rfl, [], OwnS.nil, hs⟩)
  refine W.skip (nxt ?_)
  repeat (first | refine W.seq ?_ | refine W.region ?_)
  refine RL.e rfl rfl rfl (EF_bs0 rfl el61 hs) ?_
  rintro r1 w1 ⟨b5, rfl, hs1⟩
  refine RL.p rfl rfl rfl (PV_move rfl rfl) ?_
  refine RL.e rfl rfl rfl (EF_append (l := 0) (m := m) (olds := []) rfl el61 rfl rfl (OwnS.lit (m := 0) rfl) rfl (hv.rd hs1.tail) h1 (by omega) (by decide) hs1) ?_
  rintro r2 w2 ⟨L2, ho2, hs2⟩
  refine RL.p rfl rfl rfl (PV_assign rfl rfl) ?_
  refine RL.done (nxt ?_)
  repeat (first | refine W.seq ?_ | refine W.region ?_)
  exact W.ret (ret_tmp rfl rfl ⟨_, rfl, L2, ho2, hs2⟩)

end Go.Proofs.YtecbpmgfikgoaaaGreatDoor
end
section
set_option linter.unusedVariables false
set_option linter.unusedSimpArgs false
set_option maxRecDepth 8000
set_option maxHeartbeats 4000000
namespace Go.Proofs.YtecbpmgfikgoaaaGreatDoor
open Go Go.RowKit
variable {G w : World} {M : List Chunk} {I : Imm}

theorem OwnS.one {e sz : Nat} {v : Value} {cs : List Value} {L : List Chunk} (h : OwnS e sz v cs L) (hl : cs.length = 1 * sz) (hz : 0 < sz) : ∃ b cap zs, v = .slice (some ⟨b, 0, none⟩) 1 cap ∧ 1 ≤ cap ∧ L = [(b, cs ++ zs, e)] ∧ (cs ++ zs).length = cap * sz := by
  rcases h with ⟨rfl, rfl, rfl⟩ | ⟨b, len, cap, zs, rfl, hlen, rfl, hcap, hle⟩
  · simp at hl; omega
  · have : len = 1 := Nat.eq_of_mul_eq_mul_right hz (hlen.symm.trans hl)
    subst this
    exact ⟨b, cap, zs, rfl, hle, rfl, hcap⟩

theorem mk_part {h : List UInt8} {a b c : Value} {zs : List Value} (h32 : h.length = 32) : part (bcells h ++ (a :: b :: c :: zs)) (0 + 0 * 35) 35 = bcells h ++ [a, b, c] := by
  have h3 : (bcells h).length = 32 := by rw [length_bcells, h32]
  simp [part, List.take_append, h3, List.take_of_length_le]
theorem mk_len {h : List UInt8} {a b c : Value} (h32 : h.length = 32) : (bcells h ++ [a, b, c]).length = 35 := by rw [List.length_append, length_bcells, h32]; rfl
theorem mk_one {h : List UInt8} {a b c : Value} (ha : a.oneCell' = true) (hb : b.oneCell' = true) (hc : c.oneCell' = true) : one1 (bcells h ++ [a, b, c]) = true := by
  simp only [one1_append, one1_bcells, one1_cons, one1_nil, ha, hb, hc]
  rfl

theorem C46 {p mv : Value} {body pub ch pa : List UInt8} {u : Nat} (hpub : pub.length = 32) (hl : body.length ≤ 2 ^ 40) (he : EnvI I p mv body pub u ch pa) (hs : Sat G M I w) : Calls Tryz.prog 46 #[aggL [p, mv]] w (Ret fun r w' => ∃ J p' mv', Le I J ∧ r = aggL [p', mv'] ∧ EnvI J p' mv' body pub u ch pa ∧ Sat G M J w') := by
  obtain ⟨hp, cv, pv, hm, hcv, hpv⟩ := he
  have hml : (bcells pub ++ [.int .i64 (u : Int), cv, pv]).length = 1 * 35 := mk_len hpub
  refine enter1 Tryz.func46 rfl Tryz.ntmps46 rfl ?_
  repeat (first | refine W.seq ?_ | refine W.region ?_)
  refine RL.e rfl rfl rfl (EF_boxA rfl rfl hs) ?_
  rintro r1 w1 ⟨b1, rfl, hs1⟩
  refine RL.e rfl rfl rfl (EF_allocA rfl zr63 hs1) ?_
  rintro r2 w2 ⟨b2, rfl, hs2⟩
  refine RL.done (nxt ?_)
  repeat (first | refine W.seq ?_ | refine W.region ?_)
  refine RL.p rfl rfl rfl (by first | exact PV_fieldAddr0 rfl rfl fa63_0 | exact PV_fieldAddr rfl rfl fa63_0) ?_
  refine RL.s rfl rfl rfl (PV_loadM1 rfl ag60 rfl m1 rfl) hs2 ?_
  refine RL.e rfl rfl rfl (K1 rfl fn88 rfl (C88 (SlI.toM hp) hl hs2)) ?_
  rintro r3 w3 ⟨J3, hj3, hv3, hs3⟩
  refine RL.p rfl rfl rfl (by first | exact PV_fieldAddr0 rfl rfl fa63_0 | exact PV_fieldAddr rfl rfl fa63_0) ?_
  refine RL.e0 rfl rfl (EF_storeC (cs := [p, mv]) rfl rfl rfl sz60 (SlI.cell hv3) (Nat.zero_lt_succ _) rfl hs3 (by first | exact u0 | exact u1 | exact u2 | exact u3 | exact u4 | exact u5 | exact u0.app | exact u1.app | exact u2.app | exact u3.app)) ?_
  rintro r4 w4 hs4
  refine RL.done (nxt ?_)
  repeat (first | refine W.seq ?_ | refine W.region ?_)
  refine RL.p rfl rfl rfl (by first | exact PV_fieldAddr0 rfl rfl fa63_1 | exact PV_fieldAddr rfl rfl fa63_1) ?_
  refine RL.s rfl rfl rfl (PV_loadM1 rfl ag61 rfl m1 rfl) hs4 ?_
  refine RL.e rfl rfl rfl (K1 rfl fn89 rfl (C89o ((hm.le hj3).toM) (mk_one rfl hcv.cell hpv.cell) (by decide) hs4)) ?_
  rintro r5 w5 ⟨L5, ho5, hs5⟩
  refine RL.p rfl rfl rfl (by first | exact PV_fieldAddr0 rfl rfl fa63_1 | exact PV_fieldAddr rfl rfl fa63_1) ?_
  refine RL.e0 rfl rfl (EF_storeC (cs := [r3, mv]) rfl rfl rfl sz61 ho5.cell (Nat.lt_succ_self 1) rfl hs5 (by first | exact u0 | exact u1 | exact u2 | exact u3 | exact u4 | exact u5 | exact u0.app | exact u1.app | exact u2.app | exact u3.app)) ?_
  rintro r6 w6 hs6
  obtain ⟨mb, cap, zs, rfl, hcap, rfl, hzl⟩ := ho5.one hml (by decide)
  replace hs6 : Sat G ((mb, bcells pub ++ (.int .i64 (u : Int) :: cv :: pv :: zs), 132) :: (b2, zl63, 63) :: (b1, [r3, .slice (some ⟨mb, 0, none⟩) 1 cap], 63) :: M) J3 w6 := by rw [List.append_assoc] at hs6; exact hs6
  refine RL.done (nxt ?_)
  repeat (first | refine W.seq ?_ | refine W.region ?_)
  refine RL.p rfl rfl rfl (by first | exact PV_fieldAddr0 rfl rfl fa63_1 | exact PV_fieldAddr rfl rfl fa63_1) ?_
  refine RL.s rfl rfl rfl (PV_loadM1 rfl ag61 rfl m2 rfl) hs6 ?_
  refine RL.p rfl rfl rfl (PV_len rfl Tryz.underlying61 rfl) ?_
  refine RL.p rfl rfl rfl (PV_move rfl rfl) ?_
  refine RL.done (nxt ?_)
  repeat (first | refine W.seq ?_ | refine W.region ?_)
  refine W.block ?_
  repeat (first | refine W.seq ?_ | refine W.region ?_)
  refine W.loop (F := fun z : Nat × Value × Value × Imm => [(16, .int .i64 (z.1 : Int)), (15, .int .i64 ((1 : Nat) : Int)), (14, .slice (some ⟨mb, 0, none⟩) 1 cap), (1, ptr b1 0), (2, ptr b2 0)]) (J := fun z w => z.1 ≤ 1 ∧ Le J3 z.2.2.2 ∧ SlI z.2.2.2 32 z.2.1 36 (bcells ch) ∧ SlI z.2.2.2 32 z.2.2.1 4 (bcells pa) ∧ Sat G ((mb, bcells pub ++ (.int .i64 (u : Int) :: z.2.1 :: z.2.2.1 :: zs), 132) :: (b2, zl63, 63) :: (b1, [r3, .slice (some ⟨mb, 0, none⟩) 1 cap], 63) :: M) z.2.2.2 w) (m := fun z => 1 - z.1) (0, cv, pv, J3) (by repeat first | exact Sub.nil | refine Sub.cons rfl ?_) ⟨by omega, Le.refl _, hcv.le hj3, hpv.le hj3, hs6⟩ ?_
  rintro ⟨i, xc, xp, J⟩ w7 ⟨hi, hj, hxc, hxp, hs7⟩
  repeat (first | refine W.seq ?_ | refine W.region ?_)
  refine RL.p rfl rfl rfl (PV_lss rfl rfl rfl) ?_
  refine RL.done (nxt ?_)
  repeat (first | refine W.seq ?_ | refine W.region ?_)
  refine W.cond rfl (fun h1 => ?_) (fun h1 => ?_)
  ·
    dsimp only at hi hj hxc hxp hs7
    obtain rfl : i = 0 := by have := of_decide_eq_true h1; dsimp only at this; omega
    have hzl2 : 35 ≤ (bcells pub ++ (.int .i64 (u : Int) :: xc :: xp :: zs)).length := by simp [length_bcells, hpub]; omega
    refine  W.skip (nxt ?_)
    repeat (first | refine W.seq ?_ | refine W.region ?_)
    refine W.block ?_
    repeat (first | refine W.seq ?_ | refine W.region ?_)
    refine RL.p rfl rfl rfl (PV_move rfl rfl) ?_
    refine RL.p rfl rfl rfl (PV_indexAddr (i := 0) rfl Tryz.underlying61 sz132 rfl rfl rfl (by omega)) ?_
    refine RL.s rfl rfl rfl (PV_loadMA (r := bcells pub ++ [.int .i64 (u : Int), xc, xp]) rfl ag132 sz132 rfl m0 (by simpa using hzl2) (mk_part hpub)) hs7 ?_
    refine RL.e rfl rfl rfl (EF_allocA rfl zr132 hs7) ?_
    rintro r8 w8 ⟨b4, rfl, hs8⟩
    refine RL.p rfl rfl rfl (PV_assign rfl rfl) ?_
    refine RL.e0 rfl rfl (EF_storeA (cs := zl132) rfl rfl rfl sz132 (mk_len hpub) (mk_one rfl hxc.cell hxp.cell) hs8 (by first | exact u0 | exact u1 | exact u2 | exact u3 | exact u4 | exact u5 | exact u0.app | exact u1.app | exact u2.app | exact u3.app)) ?_
    rintro r9 w9 hs9
    refine RL.done (nxt ?_)
    repeat (first | refine W.seq ?_ | refine W.region ?_)
    refine W.drawsH ((hs9.del x1).del x1) [(0, true), (1, true), (2, true), (3, true), (4, true), (5, true), (6, true), (7, true), (8, true), (10, true), (11, true), (12, true), (9, false), (13, false), (14, false), (15, false), (16, false), (17, false), (18, false), (19, false), (20, false), (21, false)] mixed (by kernel_rfl) (by kernel_rfl) ?_
    have hs10 := hs9.drew
    refine TW.p rfl rfl rfl rfl (by first | exact PV_fieldAddr0 rfl rfl fa63_1 | exact PV_fieldAddr rfl rfl fa63_1) (((hs10.del x1).del x1)) ?_
    refine TW.s rfl rfl rfl rfl (PV_loadM1 rfl ag61 rfl m1 rfl) (((hs10.del x1).del x1)) ?_
    refine TW.p rfl rfl rfl rfl (PV_move rfl rfl) (((hs10.del x1).del x1)) ?_
    refine TW.p rfl rfl rfl rfl (by first | exact PV_fieldAddr0 rfl rfl fa63_1 | exact PV_fieldAddr rfl rfl fa63_1) (((hs10.del x1).del x1)) ?_
    refine TW.s rfl rfl rfl rfl (PV_loadM1 rfl ag61 rfl m1 rfl) (((hs10.del x1).del x1)) ?_
    refine TW.p rfl rfl rfl rfl (PV_move rfl rfl) (((hs10.del x1).del x1)) ?_
    refine TW.p rfl rfl rfl rfl (by first | exact PV_fieldAddr0 rfl rfl fa132_1 | exact PV_fieldAddr rfl rfl fa132_1) (((hs10.del x1).del x1)) ?_
    refine TW.p rfl rfl rfl rfl (by first | exact PV_fieldAddr0 rfl rfl fa129_1 | exact PV_fieldAddr rfl rfl fa129_1) (((hs10.del x1).del x1)) ?_
    refine TW.s rfl rfl rfl rfl (PV_loadM1 rfl ag37 rfl m0 (ap_get (i := 1) hpub rfl)) (((hs10.del x1).del x1)) ?_
    refine TW.p rfl rfl rfl rfl (by first | exact PV_fieldAddr0 rfl rfl fa132_1 | exact PV_fieldAddr rfl rfl fa132_1) (((hs10.del x1).del x1)) ?_
    refine TW.p rfl rfl rfl rfl (by first | exact PV_fieldAddr0 rfl rfl fa129_2 | exact PV_fieldAddr rfl rfl fa129_2) (((hs10.del x1).del x1)) ?_
    refine TW.s rfl rfl rfl rfl (PV_loadM1 rfl ag37 rfl m0 (ap_get (i := 2) hpub rfl)) (((hs10.del x1).del x1)) ?_
    refine TW.e rfl rfl rfl rfl (K1 rfl fn52 rfl (C52 (m := 36) hxc.toM (one1_bcells _) (by decide) hs10)) ?_
    rintro r11 w11 ⟨J11, hj11, hc11, hs11⟩
    refine ⟨(((hs11.del x1).del x1).le hj11), ?_⟩
    refine TW.e rfl rfl rfl rfl (K1 rfl fn52 rfl (C52 (m := 4) (hxp.le hj11).toM (one1_bcells _) (by decide) hs11)) ?_
    rintro r12 w12 ⟨J12, hj12, hc12, hs12⟩
    refine ⟨(((hs12.del x1).del x1).le (hj11.trans hj12)), ?_⟩
    refine TW.q rfl rfl rfl rfl (T := fun _ => True) (PV_indexAddr (i := 0) rfl Tryz.underlying61 sz132 rfl rfl rfl (by omega)) trivial (fun _ => (((hs12.del x1).del x1).le (hj11.trans hj12))) ?_
    refine TW.q rfl rfl rfl rfl (T := fun _ => True) (by first | exact PV_fieldAddr0 rfl rfl fa132_1 | exact PV_fieldAddr rfl rfl fa132_1) trivial (fun _ => (((hs12.del x1).del x1).le (hj11.trans hj12))) ?_
    refine TW.q rfl rfl rfl rfl (T := fun _ => True) (by first | exact PV_fieldAddr0 rfl rfl fa129_1 | exact PV_fieldAddr rfl rfl fa129_1) trivial (fun _ => (((hs12.del x1).del x1).le (hj11.trans hj12))) ?_
    refine TW.e0 rfl rfl rfl (EF_storeC (cs := bcells pub ++ (.int .i64 (u : Int) :: xc :: xp :: zs)) rfl rfl rfl sz37 hc11.cell (by have := hzl2; omega) (ap_set (i := 1) (t' := .int .i64 (u : Int) :: r11 :: xp :: zs) hpub rfl) hs12 (by first | exact u0 | exact u1 | exact u2 | exact u3 | exact u4 | exact u5 | exact u0.app | exact u1.app | exact u2.app | exact u3.app)) ?_
    rintro r13 w13 hs13
    refine ⟨(((hs13.del x1).del x1).le (hj11.trans hj12)), ?_⟩
    refine TW.qn rfl rfl rfl rfl (T := fun _ => True) (PV_indexAddr (i := 0) rfl Tryz.underlying61 sz132 rfl rfl rfl (by omega)) trivial (by kernel_rfl) ?_
    refine TW.qn rfl rfl rfl rfl (T := fun _ => True) (by first | exact PV_fieldAddr0 rfl rfl fa132_1 | exact PV_fieldAddr rfl rfl fa132_1) trivial (by kernel_rfl) ?_
    refine TW.qn rfl rfl rfl rfl (T := fun _ => True) (by first | exact PV_fieldAddr0 rfl rfl fa129_2 | exact PV_fieldAddr rfl rfl fa129_2) trivial (by kernel_rfl) ?_
    refine TW.en0 rfl rfl rfl (by kernel_rfl) (EF_storeC (cs := bcells pub ++ (.int .i64 (u : Int) :: r11 :: xp :: zs)) rfl rfl rfl sz37 hc12.cell (by have := hzl2; simp at this ⊢; omega) (ap_set (i := 2) (t' := .int .i64 (u : Int) :: r11 :: r12 :: zs) hpub rfl) hs13 (by first | exact u0 | exact u1 | exact u2 | exact u3 | exact u4 | exact u5 | exact u0.app | exact u1.app | exact u2.app | exact u3.app)) ?_
    rintro r14 w14 hs14
    refine TW.done (nxt ?_)
    repeat (first | refine W.seq ?_ | refine W.region ?_)
    refine RL.p rfl rfl rfl (PV_add rfl rfl rfl (by omega)) ?_
    refine RL.p rfl rfl rfl (PV_move rfl rfl) ?_
    refine RL.done (round_end (0 + 1, r11, r12, J12) ?_ ?_ ?_)
    · repeat first | exact Sub.nil | refine Sub.cons rfl ?_
    · exact ⟨Nat.le_refl _, hj.trans (hj11.trans hj12), hc11.le hj12, hc12, hs14.tail⟩
    · first | omega | (dsimp only; omega)
  repeat (first | refine W.seq ?_ | refine W.region ?_)
  refine  W.exit (nxt ?_)
  dsimp only at hi hj hxc hxp hs7
  obtain rfl : i = 1 := by have := of_decide_eq_false h1; dsimp only at this; omega
  repeat (first | refine W.seq ?_ | refine W.region ?_)
  refine RL.s rfl rfl rfl (PV_loadMA rfl ag63 sz63 rfl (by first | exact m0 | exact m1 | exact m2 | exact m3 | exact m4 | exact m5 | exact mapp m0 | exact mapp m1 | exact mapp m2 | exact mapp m3 | exact hm | exact .tail _ hm | exact .tail _ (.tail _ hm)) (by simp) (part_whole rfl)) hs7 ?_
  refine RL.e0 rfl rfl (EF_storeA (cs := zl63) rfl rfl rfl sz63 rfl (by simp only [one1_cons, one1_nil, SlI.cell hv3]; rfl) hs7 (by first | exact u0 | exact u1 | exact u2 | exact u3 | exact u4 | exact u5 | exact u0.app | exact u1.app | exact u2.app | exact u3.app)) ?_
  rintro r8 w8 hs8
  refine RL.done (nxt ?_)
  repeat (first | refine W.seq ?_ | refine W.region ?_)
  have hc35 : (bcells pub ++ [.int .i64 (u : Int), xc, xp]).length = 1 * 35 := mk_len hpub
  have hown : OwnS 132 35 (.slice (some ⟨mb, 0, none⟩) 1 cap) (bcells pub ++ [.int .i64 (u : Int), xc, xp]) [(mb, bcells pub ++ [.int .i64 (u : Int), xc, xp] ++ zs, 132)] := .inr ⟨mb, 1, cap, zs, rfl, hc35, rfl, by rw [← hzl]; simp, hcap⟩
  obtain ⟨J9, hj9, hv9, hs9⟩ := OwnS.freeze (m := 1) hown hc35 (by decide) (M := (b2, [r3, .slice (some ⟨mb, 0, none⟩) 1 cap], 63) :: (b1, [r3, .slice (some ⟨mb, 0, none⟩) 1 cap], 63) :: M) (by rw [List.append_assoc]; exact hs8)
  exact W.ret (ret_cell rfl rfl (ldA ag63 sz63 hs9 (by first | exact m0 | exact m1 | exact m2 | exact m3 | exact m4 | exact m5 | exact mapp m0 | exact mapp m1 | exact hm) rfl) ⟨_, rfl, J9, r3, _, hj3.trans (hj.trans hj9), rfl, ⟨SlB.le hv3 (hj.trans hj9), xc, xp, hv9, hxc.le hj9, hxp.le hj9⟩, hs9.tail.tail⟩)

end Go.Proofs.YtecbpmgfikgoaaaGreatDoor
end
section
set_option linter.unusedVariables false
set_option linter.unusedSimpArgs false
set_option maxRecDepth 8000
set_option maxHeartbeats 4000000
namespace Go.Proofs.YtecbpmgfikgoaaaGreatDoor
open Go Go.RowKit
variable {G w : World} {M : List Chunk} {I : Imm}

theorem C46z (hs : Sat G M I w) : Calls Tryz.prog 46 #[aggL [.slice none 0 0, .slice none 0 0]] w (Ret fun r w' => ∃ J p m, Le I J ∧ r = aggL [p, m] ∧ p.oneCell' = true ∧ m.oneCell' = true ∧ Sat G M J w') := by
  refine enter1 Tryz.func46 rfl Tryz.ntmps46 rfl ?_
  repeat (first | refine W.seq ?_ | refine W.region ?_)
  refine RL.e rfl rfl rfl (EF_boxA rfl rfl hs) ?_
  rintro r1 w1 ⟨b1, rfl, hs1⟩
  refine RL.e rfl rfl rfl (EF_allocA rfl zr63 hs1) ?_
  rintro r2 w2 ⟨b2, rfl, hs2⟩
  refine RL.done (nxt ?_)
  repeat (first | refine W.seq ?_ | refine W.region ?_)
  refine RL.p rfl rfl rfl (by first | exact PV_fieldAddr0 rfl rfl fa63_0 | exact PV_fieldAddr rfl rfl fa63_0) ?_
  refine RL.s rfl rfl rfl (PV_loadM1 rfl ag60 rfl m1 rfl) hs2 ?_
  refine RL.e rfl rfl rfl (K1 rfl fn88 rfl (C88 (l := []) (SlM.nil 1) (by decide) hs2)) ?_
  rintro r3 w3 ⟨J3, hj3, hv3, hs3⟩
  refine RL.p rfl rfl rfl (by first | exact PV_fieldAddr0 rfl rfl fa63_0 | exact PV_fieldAddr rfl rfl fa63_0) ?_
  refine RL.e0 rfl rfl (EF_storeC (cs := [.slice none 0 0, .slice none 0 0]) rfl rfl rfl sz60 (SlI.cell hv3) (Nat.zero_lt_succ _) rfl hs3 (by first | exact u0 | exact u1 | exact u2 | exact u3 | exact u4 | exact u5 | exact u0.app | exact u1.app | exact u2.app | exact u3.app)) ?_
  rintro r4 w4 hs4
  refine RL.done (nxt ?_)
  repeat (first | refine W.seq ?_ | refine W.region ?_)
  refine RL.p rfl rfl rfl (by first | exact PV_fieldAddr0 rfl rfl fa63_1 | exact PV_fieldAddr rfl rfl fa63_1) ?_
  refine RL.s rfl rfl rfl (PV_loadM1 rfl ag61 rfl m1 rfl) hs4 ?_
  refine RL.e rfl rfl rfl (K1 rfl fn89 rfl (C89o (m := 0) (SlM.nil 35) rfl (by decide) hs4)) ?_
  rintro r5 w5 ⟨L5, ho5, hs5⟩
  refine RL.p rfl rfl rfl (by first | exact PV_fieldAddr0 rfl rfl fa63_1 | exact PV_fieldAddr rfl rfl fa63_1) ?_
  refine RL.e0 rfl rfl (EF_storeC (cs := [r3, .slice none 0 0]) rfl rfl rfl sz61 ho5.cell (Nat.lt_succ_self 1) rfl hs5 (by first | exact u0 | exact u1 | exact u2 | exact u3 | exact u4 | exact u5 | exact u0.app | exact u1.app | exact u2.app | exact u3.app)) ?_
  rintro r6 w6 hs6
  obtain ⟨A5, c5, rfl, _⟩ := ho5.shape (m := 0) rfl (by decide)
  refine RL.done (nxt ?_)
  repeat (first | refine W.seq ?_ | refine W.region ?_)
  refine RL.p rfl rfl rfl (by first | exact PV_fieldAddr0 rfl rfl fa63_1 | exact PV_fieldAddr rfl rfl fa63_1) ?_
  refine RL.s rfl rfl rfl (PV_loadM1 rfl ag61 rfl (mapp m1) rfl) hs6 ?_
  refine RL.p rfl rfl rfl (PV_len rfl Tryz.underlying61 rfl) ?_
  refine RL.p rfl rfl rfl (PV_move rfl rfl) ?_
  refine RL.done (nxt ?_)
  repeat (first | refine W.seq ?_ | refine W.region ?_)
  refine W.block ?_
  repeat (first | refine W.seq ?_ | refine W.region ?_)
  refine W.loop (F := fun _ : Unit => [(16, .int .i64 0), (15, .int .i64 ((0 : Nat) : Int)), (1, ptr b1 0), (2, ptr b2 0)]) (J := fun _ w => Sat G (L5 ++ (b2, zl63, 63) :: (b1, [r3, .slice A5 0 c5], 63) :: M) J3 w) (m := fun _ => 0) () (by repeat first | exact Sub.nil | refine Sub.cons rfl ?_) hs6 ?_
  rintro _ w7 hs7
  repeat (first | refine W.seq ?_ | refine W.region ?_)
  refine RL.p rfl rfl rfl (PV_lss rfl rfl rfl) ?_
  refine RL.done (nxt ?_)
  repeat (first | refine W.seq ?_ | refine W.region ?_)
  refine W.cond rfl (fun h1 => ?_) (fun h1 => ?_)
  · exact absurd (of_decide_eq_true h1) (by omega)
  repeat (first | refine W.seq ?_ | refine W.region ?_)
  refine W.exit (nxt ?_)
  repeat (first | refine W.seq ?_ | refine W.region ?_)
  refine RL.s rfl rfl rfl (PV_loadMA rfl ag63 sz63 rfl (by first | exact m0 | exact m1 | exact m2 | exact m3 | exact m4 | exact m5 | exact mapp m0 | exact mapp m1 | exact mapp m2 | exact mapp m3 | exact hm | exact .tail _ hm | exact .tail _ (.tail _ hm)) (by simp) (part_whole rfl)) hs7 ?_
  refine RL.e0 rfl rfl (EF_storeA (cs := zl63) rfl rfl rfl sz63 rfl (by simp only [one1_cons, one1_nil, SlI.cell hv3]; rfl) hs7 (by first | exact u0 | exact u1 | exact u2 | exact u3 | exact u4 | exact u5 | exact u0.app | exact u1.app | exact u2.app | exact u3.app)) ?_
  rintro r8 w8 hs8
  refine RL.done (nxt ?_)
  repeat (first | refine W.seq ?_ | refine W.region ?_)
  exact W.ret (ret_cell rfl rfl (ldA ag63 sz63 hs8 (by first | exact m0 | exact m1 | exact m2 | exact m3 | exact m4 | exact m5 | exact mapp m0 | exact mapp m1 | exact hm) rfl) ⟨_, rfl, J3, r3, _, hj3, rfl, SlI.cell hv3, rfl, hs8.drop.tail.tail⟩)

end Go.Proofs.YtecbpmgfikgoaaaGreatDoor
end
section
set_option linter.unusedVariables false
set_option linter.unusedSimpArgs false
set_option maxRecDepth 8000
set_option maxHeartbeats 4000000
namespace Go.Proofs.YtecbpmgfikgoaaaGreatDoor
open Go Go.RowKit
variable {G w : World} {M : List Chunk} {I : Imm}

theorem C45z (hs : Sat G M I w) : Calls Tryz.prog 45 #[.slice none 0 0] w (Ret fun r w' => r = .slice none 0 0 ∧ Sat G M I w') := by
  refine enter1 Tryz.func45 rfl Tryz.ntmps45 rfl ?_
  repeat (first | refine W.seq ?_ | refine W.region ?_)
  refine RL.p rfl rfl rfl (PV_assign rfl rfl) ?_
  refine RL.done (nxt ?_)
  repeat (first | refine W.seq ?_ | refine W.region ?_)
  refine RL.p rfl rfl rfl (PV_assign rfl rfl) ?_
  refine RL.done (nxt ?_)
  repeat (first | refine W.seq ?_ | refine W.region ?_)
  refine RL.p rfl rfl rfl (PV_move rfl rfl) ?_
  refine RL.p rfl rfl rfl (PV_len rfl Tryz.underlying59 rfl) ?_
  refine RL.p rfl rfl rfl (PV_move rfl rfl) ?_
  refine RL.done (nxt ?_)
  repeat (first | refine W.seq ?_ | refine W.region ?_)
  refine W.block ?_
  repeat (first | refine W.seq ?_ | refine W.region ?_)
  refine W.loop (F := fun _ : Unit => [(8, .int .i64 0), (7, .int .i64 ((0 : Nat) : Int)), (3, .slice none 0 0)]) (J := fun _ w => Sat G M I w) (m := fun _ => 0) () (by repeat first | exact Sub.nil | refine Sub.cons rfl ?_) hs ?_
  rintro _ w1 hs1
  repeat (first | refine W.seq ?_ | refine W.region ?_)
  refine RL.p rfl rfl rfl (PV_lss rfl rfl rfl) ?_
  refine RL.done (nxt ?_)
  repeat (first | refine W.seq ?_ | refine W.region ?_)
  refine W.cond rfl (fun h1 => ?_) (fun h1 => ?_)
  · exact absurd (of_decide_eq_true h1) (by omega)
  repeat (first | refine W.seq ?_ | refine W.region ?_)
  refine W.exit (nxt ?_)
  repeat (first | refine W.seq ?_ | refine W.region ?_)
  refine RL.p rfl rfl rfl (PV_move rfl rfl) ?_
  refine RL.p rfl rfl rfl (PV_assign rfl rfl) ?_
  refine RL.done (nxt ?_)
  repeat (first | refine W.seq ?_ | refine W.region ?_)
  exact W.ret (ret_tmp rfl rfl ⟨_, rfl, rfl, hs1⟩)

end Go.Proofs.YtecbpmgfikgoaaaGreatDoor
end
section
set_option linter.unusedVariables false
set_option linter.unusedSimpArgs false
set_option maxRecDepth 8000
set_option maxHeartbeats 4000000
namespace Go.Proofs.YtecbpmgfikgoaaaGreatDoor
open Go Go.RowKit
variable {G w : World} {M : List Chunk} {I : Imm}

theorem C45 {v p mv : Value} {body pub ch pa : List UInt8} {u : Nat} (hpub : pub.length = 32) (hl : body.length ≤ 2 ^ 40) (hv : SlI I 2 v 1 [p, mv]) (he : EnvI I p mv body pub u ch pa) (hs : Sat G M I w) : Calls Tryz.prog 45 #[v] w (Ret fun r w' => ∃ J p' mv', Le I J ∧ SlI J 2 r 1 [p', mv'] ∧ EnvI J p' mv' body pub u ch pa ∧ Sat G M J w') := by
  obtain ⟨bb, off, c, rfl, hc, hmem⟩ := hv.mem (by decide)
  refine enter1 Tryz.func45 rfl Tryz.ntmps45 rfl ?_
  repeat (first | refine W.seq ?_ | refine W.region ?_)
  refine RL.p rfl rfl rfl (PV_assign rfl rfl) ?_
  refine RL.done (nxt ?_)
  repeat (first | refine W.seq ?_ | refine W.region ?_)
  refine RL.p rfl rfl rfl (PV_assign rfl rfl) ?_
  refine RL.done (nxt ?_)
  repeat (first | refine W.seq ?_ | refine W.region ?_)
  refine RL.p rfl rfl rfl (PV_move rfl rfl) ?_
  refine RL.p rfl rfl rfl (PV_len rfl Tryz.underlying59 rfl) ?_
  refine RL.p rfl rfl rfl (PV_move rfl rfl) ?_
  refine RL.done (nxt ?_)
  repeat (first | refine W.seq ?_ | refine W.region ?_)
  refine W.block ?_
  repeat (first | refine W.seq ?_ | refine W.region ?_)
  refine W.loop (F := fun z : Nat × Value × Imm => [(8, .int .i64 (z.1 : Int)), (7, .int .i64 ((1 : Nat) : Int)), (6, .slice (some ⟨bb, off, none⟩) 1 c), (3, z.2.1)]) (J := fun z w => Le I z.2.2 ∧ ((z.1 = 0 ∧ z.2.1 = .slice none 0 0 ∧ Sat G M z.2.2 w) ∨ (z.1 = 1 ∧ ∃ p2 m2, SlI z.2.2 2 z.2.1 1 [p2, m2] ∧ EnvI z.2.2 p2 m2 body pub u ch pa ∧ Sat G M z.2.2 w))) (m := fun z => 1 - z.1) (0, .slice none 0 0, I) (by repeat first | exact Sub.nil | refine Sub.cons rfl ?_) ⟨Le.refl _, .inl ⟨rfl, rfl, hs⟩⟩ ?_
  rintro ⟨i, x, J⟩ w1 ⟨hj, hs1⟩
  repeat (first | refine W.seq ?_ | refine W.region ?_)
  refine RL.p rfl rfl rfl (PV_lss rfl rfl rfl) ?_
  refine RL.done (nxt ?_)
  repeat (first | refine W.seq ?_ | refine W.region ?_)
  refine W.cond rfl (fun h1 => ?_) (fun h1 => ?_)
  ·
    dsimp only at hj hs1
    obtain rfl : i = 0 := by have := of_decide_eq_true h1; dsimp only at this; omega
    rcases hs1 with ⟨_, rfl, hs1⟩ | ⟨h, _⟩
    rotate_left
    · exact absurd h (by decide)
    refine  W.skip (nxt ?_)
    repeat (first | refine W.seq ?_ | refine W.region ?_)
    refine W.block ?_
    repeat (first | refine W.seq ?_ | refine W.region ?_)
    refine RL.p rfl rfl rfl (PV_indexAddr (i := 0) rfl Tryz.underlying59 sz63 rfl rfl rfl (by omega)) ?_
    refine RL.s rfl rfl rfl (PV_loadMemA (j := 0 * 2) rfl ag63 sz63 rfl (fun _ h => h) ((hmem _ _).mono fun _ h => h.le hj) (by simp) (part_whole rfl)) hs1 ?_
    refine RL.e rfl rfl rfl (EF_allocA rfl zr63 hs1) ?_
    rintro r2 w2 ⟨b5, rfl, hs2⟩
    refine RL.e0 rfl rfl (EF_storeA (cs := zl63) rfl rfl rfl sz63 rfl he.one hs2 (by first | exact u0 | exact u1 | exact u2 | exact u3 | exact u4 | exact u5 | exact u0.app | exact u1.app | exact u2.app | exact u3.app)) ?_
    rintro r3 w3 hs3
    refine RL.done (nxt ?_)
    repeat (first | refine W.seq ?_ | refine W.region ?_)
    refine RL.p rfl rfl rfl (PV_move rfl rfl) ?_
    refine RL.s rfl rfl rfl (PV_loadMA rfl ag63 sz63 rfl (by first | exact m0 | exact m1 | exact m2 | exact m3 | exact m4 | exact m5 | exact mapp m0 | exact mapp m1 | exact mapp m2 | exact mapp m3 | exact hm | exact .tail _ hm | exact .tail _ (.tail _ hm)) (by simp) (part_whole rfl)) hs3 ?_
    refine RL.e rfl rfl rfl (K1 rfl fn46 rfl (C46 hpub hl (he.le hj) hs3)) ?_
    rintro r4 w4 ⟨J4, p4, m4, hj4, rfl, he4, hs4⟩
    refine RL.e rfl rfl rfl (EF_bs1a rfl el59 rfl rfl (by decide) hs4) ?_
    rintro r5 w5 ⟨b15, rfl, hs5⟩
    refine RL.e rfl rfl rfl (EF_append (l := 0) (m := 1) (olds := []) (news := [p4, m4]) (L := []) rfl el59 rfl rfl OwnS.nil rfl (rdW (m := 1) hs5 m0 rfl (Nat.le_refl _)) he4.one (by omega) (by decide) hs5) ?_
    rintro r6 w6 ⟨L6, ho6, hs6⟩
    refine RL.p rfl rfl rfl (PV_assign rfl rfl) ?_
    refine RL.done (nxt ?_)
    repeat (first | refine W.seq ?_ | refine W.region ?_)
    refine RL.p rfl rfl rfl (PV_add rfl rfl rfl (by omega)) ?_
    refine RL.p rfl rfl rfl (PV_move rfl rfl) ?_
    obtain ⟨J7, hj7, hv7, hs7⟩ := OwnS.freeze (m := 1) (sz := 2) (cs := [p4, m4]) ho6 rfl (by decide) hs6
    refine RL.done (round_end (0 + 1, r6, J7) ?_ ?_ ?_)
    · repeat first | exact Sub.nil | refine Sub.cons rfl ?_
    · exact ⟨hj.trans (hj4.trans hj7), .inr ⟨rfl, p4, m4, hv7, he4.le hj7, hs7.tail.tail⟩⟩
    · first | omega | (dsimp only; omega)
  repeat (first | refine W.seq ?_ | refine W.region ?_)
  refine  W.exit (nxt ?_)
  dsimp only at hj hs1
  rcases hs1 with ⟨h, _⟩ | ⟨_, p2, m2, hv2, he2, hs1⟩
  · exact absurd (of_decide_eq_false h1) (by dsimp only; omega)
  repeat (first | refine W.seq ?_ | refine W.region ?_)
  refine RL.p rfl rfl rfl (PV_move rfl rfl) ?_
  refine RL.p rfl rfl rfl (PV_assign rfl rfl) ?_
  refine RL.done (nxt ?_)
  repeat (first | refine W.seq ?_ | refine W.region ?_)
  exact W.ret (ret_tmp rfl rfl ⟨_, rfl, J, p2, m2, hj, hv2, he2, hs1⟩)

end Go.Proofs.YtecbpmgfikgoaaaGreatDoor
end
section
set_option linter.unusedVariables false
set_option linter.unusedSimpArgs false
set_option maxRecDepth 8000
set_option maxHeartbeats 4000000
namespace Go.Proofs.YtecbpmgfikgoaaaGreatDoor
open Go Go.RowKit
variable {G w : World} {M : List Chunk} {I : Imm}

theorem part_get {rc : List Value} (hp : part rc 57 6 = [.slice none 0 0, .slice none 0 0, .slice none 0 0, .slice none 0 0, .slice none 0 0, .slice none 0 0]) : ∀ i, i < 6 → rc[57 + i]? = some (.slice none 0 0) := by
  intro i hi
  have h1 : (part rc 57 6)[i]? = rc[57 + i]? := by simp only [part, List.getElem?_take, List.getElem?_drop, hi, if_true]
  rw [← h1, hp]
  rcases (show i = 0 ∨ i = 1 ∨ i = 2 ∨ i = 3 ∨ i = 4 ∨ i = 5 by omega) with rfl | rfl | rfl | rfl | rfl | rfl <;> rfl
theorem part_part {rc l r : List Value} {i : Nat} (hp : part rc 57 6 = l) (h : part l i 2 = r) (hi : i + 2 ≤ 6 := by decide) : part rc (57 + i) 2 = r := by
  rw [← h, ← hp]
  simp only [part, List.drop_take, List.take_take, List.drop_drop]
  congr 1
  omega

theorem C18z {rb : Nat} {rc : List Value} (hr : (rb, rc, 78) ∈ M) (hrl : rc.length = 64) (hp : part rc 57 6 = [.slice none 0 0, .slice none 0 0, .slice none 0 0, .slice none 0 0, .slice none 0 0, .slice none 0 0]) (hs : Sat G M I w) : Calls Tryz.prog 18 #[ptr rb 0] w (Ret fun r w' => ∃ J p1 m1 p2 m2, Le I J ∧ r = aggL [.slice none 0 0, p1, m1, p2, m2, .slice none 0 0] ∧ Sat G M J w') := by
  have hg : ∀ i, i < 6 → rc[57 + i]? = some (.slice none 0 0) := part_get hp
  have h58 : part rc 58 2 = [.slice none 0 0, .slice none 0 0] := part_part (i := 1) hp rfl
  have h60 : part rc 60 2 = [.slice none 0 0, .slice none 0 0] := part_part (i := 3) hp rfl
  refine enter1 Tryz.func18 rfl Tryz.ntmps18 rfl ?_
  repeat (first | refine W.seq ?_ | refine W.region ?_)
  refine RL.e rfl rfl rfl (EF_allocA rfl zr65 hs) ?_
  rintro r1 w1 ⟨b2, rfl, hs1⟩
  refine RL.done (nxt ?_)
  repeat (first | refine W.seq ?_ | refine W.region ?_)
  refine RL.p rfl rfl rfl (PV_move rfl rfl) ?_
  refine RL.p rfl rfl rfl (PV_eqnil rfl Tryz.underlying27 rfl rfl) ?_
  refine RL.done (nxt ?_)
  repeat (first | refine W.seq ?_ | refine W.region ?_)
  refine W.cond rfl (fun h1 => ?_) (fun h1 => ?_)
  · cases h1
  refine W.skip (nxt ?_)
  repeat (first | refine W.seq ?_ | refine W.region ?_)
  refine W.drawsH hs1 [(0, true), (1, true), (2, true), (3, true), (4, true), (6, true), (7, true), (8, true), (9, true), (10, true), (12, true), (13, true), (14, true), (15, true), (16, true), (18, true), (19, true), (20, true), (21, true), (22, true), (5, false), (11, false), (17, false), (23, false), (24, false), (25, false)] mixed (by kernel_rfl) (by kernel_rfl) ?_
  have hs2 := hs1.drew
  refine TW.p rfl rfl rfl rfl (PV_move rfl rfl) (hs2) ?_
  refine TW.p rfl rfl rfl rfl (PV_nilCheckP rfl rfl) (hs2) ?_
  refine TW.p rfl rfl rfl rfl (by first | exact PV_fieldAddr0 rfl rfl fa78_7 | exact PV_fieldAddr rfl rfl fa78_7) (hs2) ?_
  refine TW.p rfl rfl rfl rfl (by first | exact PV_fieldAddr0 rfl rfl fa65_0 | exact PV_fieldAddr rfl rfl fa65_0) (hs2) ?_
  refine TW.s rfl rfl rfl rfl (PV_loadM1 rfl ag59 rfl (.tail _ hr) (hg 0 (by decide))) (hs2) ?_
  refine TW.p rfl rfl rfl rfl (PV_move rfl rfl) (hs2) ?_
  refine TW.p rfl rfl rfl rfl (PV_nilCheckP rfl rfl) (hs2) ?_
  refine TW.p rfl rfl rfl rfl (by first | exact PV_fieldAddr0 rfl rfl fa78_7 | exact PV_fieldAddr rfl rfl fa78_7) (hs2) ?_
  refine TW.p rfl rfl rfl rfl (by first | exact PV_fieldAddr0 rfl rfl fa65_1 | exact PV_fieldAddr rfl rfl fa65_1) (hs2) ?_
  refine TW.s rfl rfl rfl rfl (PV_loadMA rfl ag63 sz63 rfl (.tail _ hr) (by rw [hrl]; decide) h58) (hs2) ?_
  refine TW.p rfl rfl rfl rfl (PV_move rfl rfl) (hs2) ?_
  refine TW.p rfl rfl rfl rfl (PV_nilCheckP rfl rfl) (hs2) ?_
  refine TW.p rfl rfl rfl rfl (by first | exact PV_fieldAddr0 rfl rfl fa78_7 | exact PV_fieldAddr rfl rfl fa78_7) (hs2) ?_
  refine TW.p rfl rfl rfl rfl (by first | exact PV_fieldAddr0 rfl rfl fa65_2 | exact PV_fieldAddr rfl rfl fa65_2) (hs2) ?_
  refine TW.s rfl rfl rfl rfl (PV_loadMA rfl ag63 sz63 rfl (.tail _ hr) (by rw [hrl]; decide) h60) (hs2) ?_
  refine TW.p rfl rfl rfl rfl (PV_move rfl rfl) (hs2) ?_
  refine TW.p rfl rfl rfl rfl (PV_nilCheckP rfl rfl) (hs2) ?_
  refine TW.p rfl rfl rfl rfl (by first | exact PV_fieldAddr0 rfl rfl fa78_7 | exact PV_fieldAddr rfl rfl fa78_7) (hs2) ?_
  refine TW.p rfl rfl rfl rfl (by first | exact PV_fieldAddr0 rfl rfl fa65_3 | exact PV_fieldAddr rfl rfl fa65_3) (hs2) ?_
  refine TW.s rfl rfl rfl rfl (PV_loadM1 rfl ag59 rfl (.tail _ hr) (hg 5 (by decide))) (hs2) ?_
  refine TW.e rfl rfl rfl rfl (K1 rfl fn45 rfl (C45z hs2)) ?_
  rintro r3 w3 ⟨rfl, hs3⟩
  refine ⟨(hs3), ?_⟩
  refine TW.e rfl rfl rfl rfl (K1 rfl fn46 rfl (C46z hs3)) ?_
  rintro r4 w4 ⟨J4, p4, m4, hj4, rfl, hp4, hm4, hs4⟩
  refine ⟨((hs4).le hj4), ?_⟩
  refine TW.e rfl rfl rfl rfl (K1 rfl fn46 rfl (C46z hs4)) ?_
  rintro r5 w5 ⟨J5, p5, m5, hj5, rfl, hp5, hm5, hs5⟩
  refine ⟨((hs5).le (hj4.trans hj5)), ?_⟩
  refine TW.e rfl rfl rfl rfl (K1 rfl fn45 rfl (C45z hs5)) ?_
  rintro r6 w6 ⟨rfl, hs6⟩
  refine ⟨((hs6).le (hj4.trans hj5)), ?_⟩
  refine TW.q rfl rfl rfl rfl (T := fun _ => True) (PV_buildS (cs := [.slice none 0 0, p4, m4, p5, m5, .slice none 0 0]) rfl pl65 zr65 rfl rfl) trivial (fun _ => ((hs6).le (hj4.trans hj5))) ?_
  refine TW.en0 rfl rfl rfl (by kernel_rfl) (EF_storeA (cs := zl65) rfl rfl rfl sz65 rfl (by simp only [one1_cons, one1_nil, hp4, hm4, hp5, hm5]; rfl) hs6 (by first | exact u0 | exact u1 | exact u2 | exact u3 | exact u4 | exact u5 | exact u0.app | exact u1.app | exact u2.app | exact u3.app)) ?_
  rintro r7 w7 hs7
  refine TW.done (nxt ?_)
  repeat (first | refine W.seq ?_ | refine W.region ?_)
  exact W.ret (ret_cell rfl rfl (ldA ag65 sz65 hs7 (by first | exact m0 | exact m1 | exact m2 | exact m3 | exact m4 | exact m5 | exact mapp m0 | exact mapp m1 | exact hm) rfl) ⟨_, rfl, J5, p4, m4, p5, m5, hj4.trans hj5, rfl, hs7.tail⟩)

end Go.Proofs.YtecbpmgfikgoaaaGreatDoor
end
section
set_option linter.unusedVariables false
set_option linter.unusedSimpArgs false
set_option maxRecDepth 8000
set_option maxHeartbeats 4000000
namespace Go.Proofs.YtecbpmgfikgoaaaGreatDoor
open Go Go.RowKit
variable {G w : World} {M : List Chunk} {I : Imm}

theorem part_at {rc l : List Value} {i : Nat} {v : Value} (hp : part rc 57 6 = l) (h : l[i]? = some v) (hi : i < 6) : rc[57 + i]? = some v := by
  rw [← h, ← hp]
  simp only [part, List.getElem?_take, List.getElem?_drop, hi, if_true]

theorem env_one {J J' : Imm} {p mv p' mv' : Value} {body pub : List UInt8} {u : Nat} {ch pa : List UInt8} {body' pub' : List UInt8} {u' : Nat} {ch' pa' : List UInt8} {A : Option Addr} {c : Nat} (h : EnvI J p mv body pub u ch pa) (h' : EnvI J' p' mv' body' pub' u' ch' pa') : one1 [.slice none 0 0, p, mv, p', mv', .slice A 1 c] = true := by
  obtain ⟨h1, cv, pv, h2, _⟩ := h
  obtain ⟨h3, cv', pv', h4, _⟩ := h'
  simp only [one1_cons, one1_nil, SlI.cell h1, h2.cell, SlI.cell h3, h4.cell]
  rfl

theorem C18 {rb q : Nat} {rc : List Value} {b : Nat → Value} {s1 : List UInt8} {K : List Tgt} {n e : Int} (hr : (rb, rc, 78) ∈ M) (hrl : rc.length = 64) (hp : part rc 57 6 = [b 0, b 1, b 2, b 3, b 4, b 5]) (h0 : b 0 = .slice none 0 0) (hlM : (bodyM n e).length ≤ 2 ^ 40) (hlS : (bodyS n e).length ≤ 2 ^ 40) (hlT : (bodyT n e K).length ≤ 2 ^ 40) (hb : SignedI I b s1 q K n e) (hs : Sat G M I w) :
    Calls Tryz.prog 18 #[ptr rb 0] w (Ret fun r w' => ∃ J b', Le I J ∧ r = aggL [.slice none 0 0, b' 1, b' 2, b' 3, b' 4, b' 5] ∧ SignedI J b' s1 q K n e ∧ Sat G M J w') := by
  obtain ⟨hbM, hbS, pT, mT, hvT, hbT⟩ := hb
  rw [h0] at hp
  have h58 : part rc 58 2 = [b 1, b 2] := part_part (i := 1) hp rfl
  have h60 : part rc 60 2 = [b 3, b 4] := part_part (i := 3) hp rfl
  refine enter1 Tryz.func18 rfl Tryz.ntmps18 rfl ?_
  repeat (first | refine W.seq ?_ | refine W.region ?_)
  refine RL.e rfl rfl rfl (EF_allocA rfl zr65 hs) ?_
  rintro r1 w1 ⟨b2, rfl, hs1⟩
  refine RL.done (nxt ?_)
  repeat (first | refine W.seq ?_ | refine W.region ?_)
  refine RL.p rfl rfl rfl (PV_move rfl rfl) ?_
  refine RL.p rfl rfl rfl (PV_eqnil rfl Tryz.underlying27 rfl rfl) ?_
  refine RL.done (nxt ?_)
  repeat (first | refine W.seq ?_ | refine W.region ?_)
  refine W.cond rfl (fun h1 => ?_) (fun h1 => ?_)
  · cases h1
  refine W.skip (nxt ?_)
  repeat (first | refine W.seq ?_ | refine W.region ?_)
  refine W.drawsH hs1 [(0, true), (1, true), (2, true), (3, true), (4, true), (6, true), (7, true), (8, true), (9, true), (10, true), (12, true), (13, true), (14, true), (15, true), (16, true), (18, true), (19, true), (20, true), (21, true), (22, true), (5, false), (11, false), (17, false), (23, false), (24, false), (25, false)] mixed (by kernel_rfl) (by kernel_rfl) ?_
  have hs2 := hs1.drew
  refine TW.p rfl rfl rfl rfl (PV_move rfl rfl) (hs2) ?_
  refine TW.p rfl rfl rfl rfl (PV_nilCheckP rfl rfl) (hs2) ?_
  refine TW.p rfl rfl rfl rfl (by first | exact PV_fieldAddr0 rfl rfl fa78_7 | exact PV_fieldAddr rfl rfl fa78_7) (hs2) ?_
  refine TW.p rfl rfl rfl rfl (by first | exact PV_fieldAddr0 rfl rfl fa65_0 | exact PV_fieldAddr rfl rfl fa65_0) (hs2) ?_
  refine TW.s rfl rfl rfl rfl (PV_loadM1 rfl ag59 rfl (.tail _ hr) (part_at (i := 0) hp rfl (by decide))) (hs2) ?_
  refine TW.p rfl rfl rfl rfl (PV_move rfl rfl) (hs2) ?_
  refine TW.p rfl rfl rfl rfl (PV_nilCheckP rfl rfl) (hs2) ?_
  refine TW.p rfl rfl rfl rfl (by first | exact PV_fieldAddr0 rfl rfl fa78_7 | exact PV_fieldAddr rfl rfl fa78_7) (hs2) ?_
  refine TW.p rfl rfl rfl rfl (by first | exact PV_fieldAddr0 rfl rfl fa65_1 | exact PV_fieldAddr rfl rfl fa65_1) (hs2) ?_
  refine TW.s rfl rfl rfl rfl (PV_loadMA rfl ag63 sz63 rfl (.tail _ hr) (by rw [hrl]; decide) h58) (hs2) ?_
  refine TW.p rfl rfl rfl rfl (PV_move rfl rfl) (hs2) ?_
  refine TW.p rfl rfl rfl rfl (PV_nilCheckP rfl rfl) (hs2) ?_
  refine TW.p rfl rfl rfl rfl (by first | exact PV_fieldAddr0 rfl rfl fa78_7 | exact PV_fieldAddr rfl rfl fa78_7) (hs2) ?_
  refine TW.p rfl rfl rfl rfl (by first | exact PV_fieldAddr0 rfl rfl fa65_2 | exact PV_fieldAddr rfl rfl fa65_2) (hs2) ?_
  refine TW.s rfl rfl rfl rfl (PV_loadMA rfl ag63 sz63 rfl (.tail _ hr) (by rw [hrl]; decide) h60) (hs2) ?_
  refine TW.p rfl rfl rfl rfl (PV_move rfl rfl) (hs2) ?_
  refine TW.p rfl rfl rfl rfl (PV_nilCheckP rfl rfl) (hs2) ?_
  refine TW.p rfl rfl rfl rfl (by first | exact PV_fieldAddr0 rfl rfl fa78_7 | exact PV_fieldAddr rfl rfl fa78_7) (hs2) ?_
  refine TW.p rfl rfl rfl rfl (by first | exact PV_fieldAddr0 rfl rfl fa65_3 | exact PV_fieldAddr rfl rfl fa65_3) (hs2) ?_
  refine TW.s rfl rfl rfl rfl (PV_loadM1 rfl ag59 rfl (.tail _ hr) (part_at (i := 5) hp rfl (by decide))) (hs2) ?_
  refine TW.e rfl rfl rfl rfl (K1 rfl fn45 rfl (C45z hs2)) ?_
  rintro r3 w3 ⟨rfl, hs3⟩
  refine ⟨(hs3), ?_⟩
  refine TW.e rfl rfl rfl rfl (K1 rfl fn46 rfl (C46 (length_keyH s1) hlM hbM hs3)) ?_
  rintro r4 w4 ⟨J4, p4, m4, hj4, rfl, he4, hs4⟩
  refine ⟨((hs4).le hj4), ?_⟩
  refine TW.e rfl rfl rfl rfl (K1 rfl fn46 rfl (C46 (length_keyH s1) hlS (hbS.le hj4) hs4)) ?_
  rintro r5 w5 ⟨J5, p5, m5, hj5, rfl, he5, hs5⟩
  refine ⟨((hs5).le (hj4.trans hj5)), ?_⟩
  refine TW.e rfl rfl rfl rfl (K1 rfl fn45 rfl (C45 (length_keyH s1) hlT (hvT.le (hj4.trans hj5)) (hbT.le (hj4.trans hj5)) hs5)) ?_
  rintro r6 w6 ⟨J6, p6, m6, hj6, hv6, he6, hs6⟩
  obtain ⟨A6, c6, rfl, _⟩ := SlI.shape hv6
  refine ⟨((hs6).le (hj4.trans (hj5.trans hj6))), ?_⟩
  refine TW.q rfl rfl rfl rfl (T := fun _ => True) (PV_buildS (cs := [.slice none 0 0, p4, m4, p5, m5, .slice A6 1 c6]) rfl pl65 zr65 rfl rfl) trivial (fun _ => ((hs6).le (hj4.trans (hj5.trans hj6)))) ?_
  refine TW.en0 rfl rfl rfl (by kernel_rfl) (EF_storeA (cs := zl65) rfl rfl rfl sz65 rfl (env_one he4 he5) hs6 (by first | exact u0 | exact u1 | exact u2 | exact u3 | exact u4 | exact u5 | exact u0.app | exact u1.app | exact u2.app | exact u3.app)) ?_
  rintro r7 w7 hs7
  refine TW.done (nxt ?_)
  repeat (first | refine W.seq ?_ | refine W.region ?_)
  exact W.ret (ret_cell rfl rfl (ldA ag65 sz65 hs7 (by first | exact m0 | exact m1 | exact m2 | exact m3 | exact m4 | exact m5 | exact mapp m0 | exact mapp m1 | exact hm) rfl) ⟨_, rfl, J6, (fun i => if i = 1 then p4 else if i = 2 then m4 else if i = 3 then p5 else if i = 4 then m5 else .slice A6 1 c6), hj4.trans (hj5.trans hj6), rfl, ⟨he4.le (hj5.trans hj6), he5.le hj6, p6, m6, hv6, he6⟩, hs7.tail⟩)

end Go.Proofs.YtecbpmgfikgoaaaGreatDoor
end
section
set_option linter.unusedVariables false
set_option linter.unusedSimpArgs false
set_option maxRecDepth 8000
set_option maxHeartbeats 4000000
namespace Go.Proofs.YtecbpmgfikgoaaaGreatDoor
open Go Go.RowKit
variable {G w : World} {M : List Chunk} {I : Imm}

section
variable {P : Program} {n : Nat} {E : List (Nat × Value)} {S : World → Prop} {o : Oper}
/-- A field of one cell of a struct value. -/
theorem PV_field {T : TypeId} {x : Operand} {f : Nat} {fs : Array Field} {fd : Field} {cs : List Value} {v : Value} (ho : o.op = .field T x f) (ht : P.underlying T = some (.struct fs)) (hf : fs[f]? = some fd) (ha' : ∀ w, (isAgg fd.type).run P w = .ok false w) (hx : ev E x = some (aggL cs)) (hv : cs[fd.offset]? = some v) : PV P n o E S v := .of fun ac ha w => by
  simp [execOp, ho, ha.ev hx, Instr.field, run_underlying ht, hf, aggL, asAgg, Go.part, ha', hv]
end
theorem built24 (a : Act) : Tryz.prog.built 24 ((#[(0, Operand.const (.int .u8 1))] : Array (Nat × Operand)).map fun (i, x) => (i, a.eval x)).toList = some (bcells (1 :: List.replicate 31 0)).toArray := by kernel_rfl

theorem C11 (hs : Sat G M I w) : Calls Tryz.prog 11 #[] w (Ret fun r w' => r = .bool true ∧ Sat G M I w') := by
  refine enter0 Tryz.func11 rfl Tryz.ntmps11 ?_
  repeat (first | refine W.seq ?_ | refine W.region ?_)
  refine RL.p rfl rfl rfl (PV_assign rfl rfl) ?_
  refine RL.done (nxt ?_)
  repeat (first | refine W.seq ?_ | refine W.region ?_)
  refine RL.p rfl rfl rfl (PV_build (cs := bcells (1 :: List.replicate 31 0)) rfl (fun a ha => built24 a)) ?_
  refine RL.e rfl rfl rfl (K1 rfl fn7 rfl (C7 (s := 1 :: List.replicate 31 0) rfl hs)) ?_
  rintro r1 w1 ⟨J1, rb, k0, k1, lv0, lv1, ks, hj1, rfl, hv0, hv1, hks, hs1⟩
  refine RL.p rfl rfl rfl (PV_assign rfl rfl) ?_
  refine RL.done (nxt ?_)
  repeat (first | refine W.seq ?_ | refine W.region ?_)
  refine RL.p rfl rfl rfl (PV_move rfl rfl) ?_
  refine RL.p rfl rfl rfl (PV_nenil rfl Tryz.underlying27 rfl rfl) ?_
  refine RL.p rfl rfl rfl (PV_move rfl rfl) ?_
  refine RL.split 6 rfl (fun g1 => ?_) (fun g1 => by cases g1)
  refine RL.gp rfl rfl rfl rfl g1 rfl rfl rfl (PV_move rfl rfl) ?_
  refine RL.ge rfl rfl rfl rfl g1 rfl rfl rfl (K1 rfl fn13 rfl (C13 (hh := roleH (seedH (1 :: List.replicate 31 0) 0) (seedH (1 :: List.replicate 31 0) 1)) m2 (ap_len rfl rfl) (ap_part (i := 3) rfl rfl) (fun j _ => length_roleH _ _ j) hks hs1)) ?_
  rintro r2 w2 ⟨J2, kk2, hj2, rfl, hkk2, hs2⟩
  refine RL.gp rfl rfl rfl rfl g1 rfl rfl rfl (PV_field rfl Tryz.underlying42 rfl (by first | exact ag59 | exact ag3 | exact ag22) rfl rfl) ?_
  refine RL.gp rfl rfl rfl rfl g1 rfl rfl rfl (PV_eqi rfl rfl rfl) ?_
  refine RL.p rfl rfl rfl (PV_pickT rfl rfl g1 rfl) ?_
  refine RL.p rfl rfl rfl (PV_move rfl rfl) ?_
  refine RL.split 12 rfl (fun g2 => ?_) (fun g2 => by exact absurd (of_decide_eq_false g2) (by decide))
  refine RL.gp rfl rfl rfl rfl g2 rfl rfl rfl (PV_move rfl rfl) ?_
  refine RL.ge rfl rfl rfl rfl g2 rfl rfl rfl (K1 rfl fn18 rfl (C18z m2 (ap_len rfl rfl) (ap_part (i := 25) rfl rfl) hs2)) ?_
  rintro r3 w3 ⟨J3, p1, m1, p2, m2, hj3, rfl, hs3⟩
  refine RL.gp rfl rfl rfl rfl g2 rfl rfl rfl (PV_field rfl Tryz.underlying65 rfl (by first | exact ag59 | exact ag3 | exact ag22) rfl rfl) ?_
  refine RL.gp rfl rfl rfl rfl g2 rfl rfl rfl (PV_len rfl Tryz.underlying59 rfl) ?_
  refine RL.gp rfl rfl rfl rfl g2 rfl rfl rfl (PV_eqi rfl rfl rfl) ?_
  refine RL.p rfl rfl rfl (PV_pickT rfl rfl g2 rfl) ?_
  refine RL.p rfl rfl rfl (PV_move rfl rfl) ?_
  refine RL.split 19 rfl (fun g3 => ?_) (fun g3 => by exact absurd (of_decide_eq_false g3) (by decide))
  refine RL.gp rfl rfl rfl rfl g3 rfl rfl rfl (PV_move rfl rfl) ?_
  refine RL.ge rfl rfl rfl rfl g3 rfl rfl rfl (K3 rfl fn16 rfl rfl rfl (C16 (now := 0) (life := 1) (sg := 0) (K := []) (B := []) (q1 := 0) (Ll := []) (Ld := []) rfl (length_sha _) (hv1.le (hj2.trans hj3)) (by decide) (by decide) (by decide) (by decide) (by decide) (by simp) OwnS.nil OwnS.nil (hs3.unmid (L := [_, _])))) ?_
  rintro r4 w4 ⟨J4, b4, led, Ld, hj4, rfl, hb0, hod, hsg, hs4⟩
  refine RL.gp rfl rfl rfl rfl g3 rfl rfl rfl (PV_eqi rfl rfl rfl) ?_
  refine RL.p rfl rfl rfl (PV_pickT rfl rfl g3 rfl) ?_
  refine RL.p rfl rfl rfl (PV_move rfl rfl) ?_
  refine RL.split 24 rfl (fun g4 => ?_) (fun g4 => by exact absurd (of_decide_eq_false g4) (by decide))
  refine RL.gp rfl rfl rfl rfl g4 rfl rfl rfl (PV_move rfl rfl) ?_
  refine RL.ge rfl rfl rfl rfl g4 rfl rfl rfl (K1 rfl fn18 rfl (C18 (mapp m0) (ap_len rfl rfl) (ap_part (i := 25) rfl rfl) hb0 (optB_len (bd_time (length_sha _))) (optB_len (bd_snap (by decide))) (optB_len (bd_targets (by decide) (by decide) (by simp))) hsg hs4)) ?_
  rintro r5 w5 ⟨J5, b5, hj5, rfl, ⟨_, _, pT, mT, hvT, _⟩, hs5⟩
  obtain ⟨A5, c5, h5, _⟩ := SlI.shape hvT
  rw [h5]
  refine RL.gp rfl rfl rfl rfl g4 rfl rfl rfl (PV_field rfl Tryz.underlying65 rfl (by first | exact ag59 | exact ag3 | exact ag22) rfl rfl) ?_
  refine RL.gp rfl rfl rfl rfl g4 rfl rfl rfl (PV_len rfl Tryz.underlying59 rfl) ?_
  refine RL.gp rfl rfl rfl rfl g4 rfl rfl rfl (PV_eqi rfl rfl rfl) ?_
  refine RL.p rfl rfl rfl (PV_pickT rfl rfl g4 rfl) ?_
  refine RL.p rfl rfl rfl (PV_assign rfl rfl) ?_
  refine RL.done (nxt ?_)
  repeat (first | refine W.seq ?_ | refine W.region ?_)
  exact W.ret (ret_tmp rfl rfl ⟨_, rfl, rfl, (hs5.drop.tail.tail.tail).le (hj1.trans (hj2.trans (hj3.trans (hj4.trans hj5))))⟩)
--⟩)

end Go.Proofs.YtecbpmgfikgoaaaGreatDoor
end
