/- Targets and digests held against each other. Conditions: none. -/
import Derived.Test.YtecbpmgfikgoaaaGreatDoorK5
import Derived.Stop.BytesEq
set_option linter.unusedVariables false
set_option linter.unusedSimpArgs false
set_option maxRecDepth 8000
namespace Go.Proofs.YtecbpmgfikgoaaaGreatDoor
open Go Go.RowKit
def eqT (a b : Tgt) : Bool := (a.name.toList == b.name.toList) && ((a.size == b.size) && ((a.sum == b.sum) && ((a.hw.toList == b.hw.toList) && ((a.ctr == b.ctr) && (a.ecu.toList == b.ecu.toList)))))
theorem eqT_self (a : Tgt) : eqT a a = true := by simp [eqT]
theorem run_part1 {P : Program} {T off : Nat} {cs : List Value} {v : Value} {w : World} (hT : ∀ w, (isAgg T).run P w = .ok false w) (hc : cs[off]? = some v) : (Go.part T cs.toArray off).run P w = .ok v w := by
  simp [Go.part, hT, hc]
theorem run_partA {P : Program} {T off m : Nat} {cs r : List Value} {w : World} (hT : ∀ w, (isAgg T).run P w = .ok true w) (hs : (P.info? T).map (·.size) = some m) (hl : off + m ≤ cs.length) (hc : part cs off m = r) : (Go.part T cs.toArray off).run P w = .ok (aggL r) w := by
  cases hi : P.info? T with
  | none => simp [hi] at hs
  | some i =>
    have hm : i.size = m := by simpa [hi] using hs
    have h2 : List.take m (List.drop off cs) = r := hc
    simp [Go.part, hT, sizeOf, typeInfo, hi, hm, aggL, h2, hl]
theorem bcells_cell (l : List UInt8) : bcells l = l.map Extern.Stop.cell := rfl
theorem run_eq24 (d : Nat) (w : World) {a b : List UInt8} (ha : a.length = 32) (hb : b.length = 32) : (Op.equalIn (d + 2) 24 (aggL (bcells a)) (aggL (bcells b))).run Tryz.prog w = .ok (a == b) w :=
  run_equalIn_bytes w d 24 5 32 Tryz.underlying24 Tryz.underlying5 (fun w => by kernel_rfl) a b ha hb
theorem fields26 : (Tryz.prog.fieldsOf 26).toList.map (fun f => (f.name != "_", f.type, f.offset)) = [(true, 9, 0), (true, 3, 1), (true, 24, 2), (true, 9, 34), (true, 3, 35), (true, 9, 36)] := by kernel_rfl
theorem eqFields_cons {P : Program} {d : Nat} {xs ys : Array Value} {f : Field} {fs : List Field} {w : World} {a b : Value} {r r' : Bool} (hn : (f.name != "_") = true) (ha : (Go.part f.type xs f.offset).run P w = .ok a w) (hb : (Go.part f.type ys f.offset).run P w = .ok b w) (he : (Op.equalIn d f.type a b).run P w = .ok r w)
    (hr : (Op.eqFields d xs ys fs).run P w = .ok r' w) : (Op.eqFields d xs ys (f :: fs)).run P w = .ok (r && r') w := by
  have hn' : f.name ≠ "_" := by simpa using hn
  cases r with
  | true => simp [Op.eqFields, hn', ha, hb, he, hr]
  | false => simp [Op.eqFields, hn', ha, hb, he]
theorem run_eqT (d : Nat) (w : World) (a b : Tgt) : (Op.equalIn (d + 3) 26 (aggL (tcells a)) (aggL (tcells b))).run Tryz.prog w = .ok (eqT a b) w := by
  have hf := fields26
  rw [aggL, aggL, run_equalIn_struct w (d + 2) 26 _ _ (by kernel_rfl) (by kernel_rfl)]
  generalize (Tryz.prog.fieldsOf 26).toList = fs at hf
  have hl : fs.length = 6 := by have := congrArg List.length hf; simpa using this
  match fs, hl, hf with
  | [f0, f1, f2, f3, f4, f5], _, hf =>
  simp only [List.map_cons, List.map_nil, List.cons.injEq, Prod.mk.injEq, and_true] at hf
  obtain ⟨⟨n0, t0, o0⟩, ⟨n1, t1, o1⟩, ⟨n2, t2, o2⟩, ⟨n3, t3, o3⟩, ⟨n4, t4, o4⟩, ⟨n5, t5, o5⟩⟩ := hf
  have l : ∀ t : Tgt, 2 + 32 ≤ (tcells t).length := fun t => by rw [length_tcells]; decide
  refine (eqFields_cons n0 (by rw [t0, o0]; exact run_part1 ag9 tc_0) (by rw [t0, o0]; exact run_part1 ag9 tc_0) (by rw [t0]; exact run_equalIn_string w _ _ _ _ Tryz.underlying9) ?_)
  refine (eqFields_cons n1 (by rw [t1, o1]; exact run_part1 ag3 tc_1) (by rw [t1, o1]; exact run_part1 ag3 tc_1) (by rw [t1]; exact run_equalIn_int w _ _ _ _ _ _ Tryz.underlying3) ?_)
  refine (eqFields_cons n2 (by rw [t2, o2]; exact run_partA ag24 sz24 (l _) tc_sum) (by rw [t2, o2]; exact run_partA ag24 sz24 (l _) tc_sum) (by rw [t2]; exact run_eq24 d w a.h b.h) ?_)
  refine (eqFields_cons n3 (by rw [t3, o3]; exact run_part1 ag9 tc_34) (by rw [t3, o3]; exact run_part1 ag9 tc_34) (by rw [t3]; exact run_equalIn_string w _ _ _ _ Tryz.underlying9) ?_)
  refine (eqFields_cons n4 (by rw [t4, o4]; exact run_part1 ag3 tc_35) (by rw [t4, o4]; exact run_part1 ag3 tc_35) (by rw [t4]; exact run_equalIn_int w _ _ _ _ _ _ Tryz.underlying3) ?_)
  have := eqFields_cons (P := Tryz.prog) (d := d + 2) (xs := (tcells a).toArray) (ys := (tcells b).toArray) (fs := []) (w := w) (r' := true) n5 (by rw [t5, o5]; exact run_part1 ag9 tc_36) (by rw [t5, o5]; exact run_part1 ag9 tc_36) (by rw [t5]; exact run_equalIn_string w _ _ _ _ Tryz.underlying9) rfl
  rwa [Bool.and_true] at this

section
variable {n : Nat} {E : List (Nat × Value)} {S : World → Prop} {o : Oper}
theorem PV_eqT {x y : Operand} {T' : TypeId} {a b : Tgt} (ho : o.op = .binOp .eql 26 x y T') (hx : ev E x = some (aggL (tcells a))) (hy : ev E y = some (aggL (tcells b))) : PV Tryz.prog n o E S (.bool (eqT a b)) := .of fun ac ha w => by
  have hg : (eqGuard .eql 26 x y (aggL (tcells a)) (aggL (tcells b))).run Tryz.prog w = .ok () w := run_eqGuard_agg w .eql 26 x y _ _ (by kernel_rfl)
  have he := run_eqT 9997 w a b
  have hb : (binOp .eql 26 (aggL (tcells a)) (aggL (tcells b))).run Tryz.prog w = .ok (.bool (eqT a b)) w := by
    rw [aggL, aggL] at he ⊢
    rw [run_eql_struct, he]
    rfl
  simp [execOp, ho, ha.ev hx, ha.ev hy, hg, hb]
theorem PV_neT {x y : Operand} {T' : TypeId} {a b : Tgt} (ho : o.op = .binOp .neq 26 x y T') (hx : ev E x = some (aggL (tcells a))) (hy : ev E y = some (aggL (tcells b))) : PV Tryz.prog n o E S (.bool (!(eqT a b))) := .of fun ac ha w => by
  have hg : (eqGuard .neq 26 x y (aggL (tcells a)) (aggL (tcells b))).run Tryz.prog w = .ok () w := run_eqGuard_agg w .neq 26 x y _ _ (by kernel_rfl)
  have he := run_eqT 9997 w a b
  have hb : (binOp .neq 26 (aggL (tcells a)) (aggL (tcells b))).run Tryz.prog w = .ok (.bool (!(eqT a b))) w := by
    rw [aggL, aggL] at he ⊢
    rw [run_neq_struct, he]
    rfl
  simp [execOp, ho, ha.ev hx, ha.ev hy, hg, hb]
theorem PV_eqH {x y : Operand} {T' : TypeId} {a b : List UInt8} (ho : o.op = .binOp .eql 24 x y T') (h1 : a.length = 32) (h2 : b.length = 32) (hx : ev E x = some (aggL (bcells a))) (hy : ev E y = some (aggL (bcells b))) : PV Tryz.prog n o E S (.bool (a == b)) := .of fun ac ha w => by
  have hg : (eqGuard .eql 24 x y (aggL (bcells a)) (aggL (bcells b))).run Tryz.prog w = .ok () w := run_eqGuard_agg w .eql 24 x y _ _ (by kernel_rfl)
  have he := run_eq24 9998 w h1 h2
  have hb : (binOp .eql 24 (aggL (bcells a)) (aggL (bcells b))).run Tryz.prog w = .ok (.bool (a == b)) w := by
    rw [aggL, aggL] at he ⊢
    rw [run_eql_struct, he]
    rfl
  simp [execOp, ho, ha.ev hx, ha.ev hy, hg, hb]
theorem PV_neH {x y : Operand} {T' : TypeId} {a b : List UInt8} (ho : o.op = .binOp .neq 24 x y T') (h1 : a.length = 32) (h2 : b.length = 32) (hx : ev E x = some (aggL (bcells a))) (hy : ev E y = some (aggL (bcells b))) : PV Tryz.prog n o E S (.bool (!(a == b))) := .of fun ac ha w => by
  have hg : (eqGuard .neq 24 x y (aggL (bcells a)) (aggL (bcells b))).run Tryz.prog w = .ok () w := run_eqGuard_agg w .neq 24 x y _ _ (by kernel_rfl)
  have he := run_eq24 9998 w h1 h2
  have hb : (binOp .neq 24 (aggL (bcells a)) (aggL (bcells b))).run Tryz.prog w = .ok (.bool (!(a == b))) w := by
    rw [aggL, aggL] at he ⊢
    rw [run_neq_struct, he]
    rfl
  simp [execOp, ho, ha.ev hx, ha.ev hy, hg, hb]
end
end Go.Proofs.YtecbpmgfikgoaaaGreatDoor
