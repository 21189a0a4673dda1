/- Bits of bytes and words, bytes as text: what these operations yield. Conditions: as each theorem says. -/
import Derived.Test.YtecbpmgfikgoaaaGreatDoorK5
set_option linter.unusedVariables false
set_option linter.unusedSimpArgs false
set_option maxRecDepth 8000
namespace Go.Proofs.YtecbpmgfikgoaaaGreatDoor
open Go Go.RowKit
section
variable {P : Program} {n : Nat} {E : List (Nat × Value)} {S : World → Prop} {o : Oper} {G w : World} {M M' : List Chunk} {I J : Imm}
theorem PV_u8_and {T T' : TypeId} {x y : Operand} {p q : UInt8} (ho : o.op = .binOp .and T x y T') (hx : ev E x = some (u8v p)) (hy : ev E y = some (u8v q)) : PV P n o E S (u8v (p &&& q)) := .of fun a ha w => by
  have h1 := ha.ev hx
  have h2 := ha.ev hy
  have hv : (Value.int .u8 (IntKind.u8.wrap ((BitVec.ofInt 8 (p.toNat : Int) &&& BitVec.ofInt 8 (q.toNat : Int)).toNat : Int))) = u8v (p &&& q) := by
    rw [IntKind.wrap_u8]
    simp [u8v]
    have : p.toNat &&& q.toNat < 256 := Nat.and_lt_two_pow (n := 8) p.toNat q.toNat_lt
    omega
  simp only [execOp, ho, h1, h2, u8v, eqGuard, binOp, Op.intBits, Sem.run_bind, Sem.run_pure, Result.andThen_ok]
  have hb : IntKind.u8.bits = 8 := rfl
  exact congrArg (fun v => (Result.ok (Next.value v) w : Result Next)) hv
theorem PV_u64_or {T T' : TypeId} {x y : Operand} {p q : Int} {a b : Nat} (ho : o.op = .binOp .or T x y T') (hx : ev E x = some (.int .u64 p)) (hy : ev E y = some (.int .u64 q)) (hp : p = (a : Int)) (hq : q = (b : Int)) (ha' : a < 18446744073709551616) (hb' : b < 18446744073709551616) : PV P n o E S (.int .u64 ((a ||| b : Nat) : Int)) := .of fun ac ha w => by
  subst hp hq
  have hv : (Value.int .u64 (IntKind.u64.wrap ((BitVec.ofInt 64 (a : Int) ||| BitVec.ofInt 64 (b : Int)).toNat : Int))) = .int .u64 ((a ||| b : Nat) : Int) := by
    have h1 : a ||| b < 2 ^ 64 := Nat.or_lt_two_pow (n := 64) ha' hb'
    have e1 : (BitVec.ofInt 64 (a : Int)).toNat = a := by simp; omega
    have e2 : (BitVec.ofInt 64 (b : Int)).toNat = b := by simp; omega
    rw [BitVec.toNat_or, e1, e2]
    congr 1
    simp [IntKind.wrap, IntKind.bits, IntKind.signed]
    omega
  simp only [execOp, ho, ha.ev hx, ha.ev hy, eqGuard, binOp, Op.intBits, Sem.run_bind, Sem.run_pure, Result.andThen_ok]
  have hb : IntKind.u64.bits = 64 := rfl
  exact congrArg (fun v => (Result.ok (Next.value v) w : Result Next)) hv
theorem PV_u64_and {T T' : TypeId} {x y : Operand} {p q : Int} {a b : Nat} (ho : o.op = .binOp .and T x y T') (hx : ev E x = some (.int .u64 p)) (hy : ev E y = some (.int .u64 q)) (hp : p = (a : Int)) (hq : q = (b : Int)) (ha' : a < 18446744073709551616) (hb' : b < 18446744073709551616) : PV P n o E S (.int .u64 ((a &&& b : Nat) : Int)) := .of fun ac ha w => by
  subst hp hq
  have hv : (Value.int .u64 (IntKind.u64.wrap ((BitVec.ofInt 64 (a : Int) &&& BitVec.ofInt 64 (b : Int)).toNat : Int))) = .int .u64 ((a &&& b : Nat) : Int) := by
    have h1 : a &&& b < 2 ^ 64 := Nat.and_lt_two_pow (n := 64) a hb'
    have e1 : (BitVec.ofInt 64 (a : Int)).toNat = a := by simp; omega
    have e2 : (BitVec.ofInt 64 (b : Int)).toNat = b := by simp; omega
    rw [BitVec.toNat_and, e1, e2]
    congr 1
    simp [IntKind.wrap, IntKind.bits, IntKind.signed]
    omega
  simp only [execOp, ho, ha.ev hx, ha.ev hy, eqGuard, binOp, Op.intBits, Sem.run_bind, Sem.run_pure, Result.andThen_ok]
  have hb : IntKind.u64.bits = 64 := rfl
  exact congrArg (fun v => (Result.ok (Next.value v) w : Result Next)) hv
theorem PV_conv_u8_u64 {T T' : TypeId} {x : Operand} {p : UInt8} (ho : o.op = .convert T T' x) (hs : P.underlying T = some (.int .u8)) (hd : P.underlying T' = some (.int .u64)) (hx : ev E x = some (u8v p)) : PV P n o E S (.int .u64 (p.toNat : Int)) := by
  have := PV_conv (P := P) (n := n) (S := S) ho hs hd hx
  have h := p.toNat_lt
  rw [show IntKind.u64.wrap (p.toNat : Int) = (p.toNat : Int) by simp [IntKind.wrap, IntKind.bits, IntKind.signed]; omega] at this
  exact this
theorem PV_conv_u64_i64 {T T' : TypeId} {x : Operand} {p : Int} {m : Nat} (ho : o.op = .convert T T' x) (hs : P.underlying T = some (.int .u64)) (hd : P.underlying T' = some (.int .i64)) (hx : ev E x = some (.int .u64 p)) (hp : p = (m : Int)) (hm : m < 9223372036854775808) : PV P n o E S (.int .i64 (m : Int)) := by
  subst hp
  have := PV_conv (P := P) (n := n) (S := S) ho hs hd hx
  rwa [IntWalk.i64_in _ (by omega)] at this
/-- Bytes as a text. -/
theorem run_toStr {v : Value} {l : List UInt8} (h : RdW w 1 v l.length (bcells l)) : (Conv.bytesToString v).run P w = .ok (.string ⟨l.toArray⟩) w := by
  obtain ⟨hl, A, c, rfl, hc, hb⟩ := h
  have key : ∀ (f : Value → ByteArray → Sem (ForInStep ByteArray)), (∀ (b : UInt8) s, (f (u8v b) s).run P w = .ok (.yield (s.push b)) w) → ∀ (l : List UInt8) (s : ByteArray), (forIn (bcells l) s f).run P w = .ok (⟨(s.data.toList ++ l).toArray⟩ : ByteArray) w := by
    intro f hf l
    induction l with
    | nil => intro s; simp [bcells]
    | cons b l ih =>
      intro s
      simp only [bcells, List.map_cons, List.forIn_cons, Sem.run_bind, hf, Result.andThen_ok]
      have := ih (s.push b)
      simp only [bcells] at this
      rw [this]
      simp
  rcases hb with h0 | ⟨b, off, cs, T, fr, rfl, hh, hf, hp⟩
  · have : l = [] := List.eq_nil_of_length_eq_zero h0
    subst this
    cases A with
    | none => simp [Conv.bytesToString]; rfl
    | some a => simp [Conv.bytesToString, loadCells, loadCellsFrom]; rfl
  · have h1 := run_loadCells_list (P := P) w ⟨b, off, none⟩ (bcells l) (cells_of_heap hh (by simpa using hf) (by simpa using hp))
    rw [length_bcells] at h1
    simp only [Conv.bytesToString, Sem.run_bind, h1, Result.andThen_ok, ← Array.forIn_toList]
    rw [key _ (fun b s => by simp [u8v]) l ByteArray.empty]
    simp
theorem PV_toStr {T T' e : TypeId} {x : Operand} {v : Value} {l : List UInt8} {M0 : List Chunk} (ho : o.op = .convert T T' x) (hT : P.underlying T = some (.slice e)) (hT' : P.underlying T' = some .string) (he : P.underlying e = some (.int .u8)) (hx : ev E x = some v)
    (hsub : ∀ w, S w → Sat G M0 I w) (hv : SlM G M0 I 1 v l.length (bcells l)) : PV P n o E S (.string ⟨l.toArray⟩) := by
  intro a ha w hS
  have hr := run_toStr (P := P) (hv.rd (hsub w hS))
  obtain ⟨A, c, rfl, _⟩ := hv.shape
  simp [execOp, ho, ha.ev hx, convert, run_underlying hT, run_underlying hT', run_underlying he, hr]
end
end Go.Proofs.YtecbpmgfikgoaaaGreatDoor
