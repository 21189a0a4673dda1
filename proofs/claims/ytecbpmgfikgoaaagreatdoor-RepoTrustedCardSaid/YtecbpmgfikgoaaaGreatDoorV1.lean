/- Slices cut and grown within the call's own memory: cap, cuts, an append that fits, an append of zeros, clear, overlaps. Conditions: as each theorem says. -/
import Derived.Test.YtecbpmgfikgoaaaGreatDoorK5
import Derived.Lib.Overlaps
set_option linter.unusedVariables false
set_option linter.unusedSimpArgs false
set_option maxRecDepth 8000
namespace Go.Proofs.YtecbpmgfikgoaaaGreatDoor
open Go Go.RowKit
section
variable {P : Program} {n : Nat} {E : List (Nat × Value)} {S : World → Prop} {o : Oper} {G w : World} {M M' : List Chunk} {I J : Imm}

theorem PV_cap {T e : TypeId} {x : Operand} {a : Option Addr} {l c : Nat} (ho : o.op = .call { callee := .builtin .cap, args := #[x], argTypes := #[T] }) (ht : P.underlying T = some (.slice e)) (hx : ev E x = some (.slice a l c)) : PV P n o E S (.int .i64 c) := .of fun ac ha w => by
  simp [execOp, ho, resolve, invoke, builtin, ha.ev hx, Builtin.cap_, run_underlying ht, goInt]
theorem map_add0 (A : Option Addr) : A.map (·.add 0) = A := by cases A <;> simp [Addr.add]
theorem PV_sliceHi {T e : TypeId} {x y : Operand} {A : Option Addr} {l c r sz : Nat} {k : IntKind} {rr : Int} (ho : o.op = .slice T x none (some y) none) (ht : P.underlying T = some (.slice e)) (hs : (P.info? e).map (·.size) = some sz)
    (hx : ev E x = some (.slice A l c)) (hy : ev E y = some (.int k rr)) (hr : rr = (r : Int)) (h2 : r ≤ c) : PV P n o E S (.slice A r c) := .of fun ac ha w => by
  subst hr
  cases hi' : P.info? e with
  | none => simp [hi'] at hs
  | some j =>
    have g : (0 : Int) ≤ (r : Int) ∧ (r : Int) ≤ (c : Int) := by omega
    simp [execOp, ho, ha.ev hx, ha.ev hy, Instr.sliceAt, run_underlying ht, Instr.slice, Instr.sliceBounds, Instr.sliceBound, asIntOf, g, h2, sizeOf, typeInfo, hi', Addr.add]
theorem PV_sliceG {T e : TypeId} {x y : Operand} {A : Option Addr} {l c p sz : Nat} {k : IntKind} {pp : Int} (ho : o.op = .slice T x (some y) none none) (ht : P.underlying T = some (.slice e)) (hs : (P.info? e).map (·.size) = some sz)
    (hx : ev E x = some (.slice A l c)) (hy : ev E y = some (.int k pp)) (hp : pp = (p : Int)) (h1 : p ≤ l) : PV P n o E S (.slice (if c = p then A else A.map (·.add (p * sz))) (l - p) (c - p)) := .of fun ac ha w => by
  subst hp
  cases hi' : P.info? e with
  | none => simp [hi'] at hs
  | some j =>
    have hj : j.size = sz := by simpa [hi'] using hs
    have g : (0 : Int) ≤ (p : Int) ∧ (p : Int) ≤ (l : Int) := by omega
    simp [execOp, ho, ha.ev hx, ha.ev hy, Instr.sliceAt, run_underlying ht, Instr.slice, Instr.sliceBounds, Instr.sliceBound, asIntOf, g, h1, sizeOf, typeInfo, hi', hj]
theorem PV_sliceLo {T e : TypeId} {x y : Operand} {b q l c p sz : Nat} {k : IntKind} {pp : Int} (ho : o.op = .slice T x (some y) none none) (ht : P.underlying T = some (.slice e)) (hs : (P.info? e).map (·.size) = some sz)
    (hx : ev E x = some (.slice (some ⟨b, q, none⟩) l c)) (hy : ev E y = some (.int k pp)) (hp : pp = (p : Int)) (h1 : p ≤ l) (hc : p < c) : PV P n o E S (.slice (some ⟨b, q + p * sz, none⟩) (l - p) (c - p)) := by
  have := PV_sliceG (S := S) (n := n) ho ht hs hx hy hp h1
  rw [if_neg (by omega), Option.map_some, add_lit'] at this
  exact this
theorem PV_sliceLH {T e : TypeId} {x y z : Operand} {b q l c p r sz : Nat} {k k' : IntKind} {pp rr : Int} (ho : o.op = .slice T x (some y) (some z) none) (ht : P.underlying T = some (.slice e)) (hs : (P.info? e).map (·.size) = some sz)
    (hx : ev E x = some (.slice (some ⟨b, q, none⟩) l c)) (hy : ev E y = some (.int k pp)) (hz : ev E z = some (.int k' rr)) (hp : pp = (p : Int)) (hr : rr = (r : Int)) (h1 : p ≤ r) (h2 : r ≤ c) (hc : p < c) : PV P n o E S (.slice (some ⟨b, q + p * sz, none⟩) (r - p) (c - p)) := by
  have := PV_sliceSl (S := S) (n := n) (lo := some y) (hi := some z) ho ht hs hx (.inr ⟨y, rfl, k, pp, hy, hp⟩) (.inr ⟨z, rfl, k', rr, hz, hr⟩) h1 h2
  rwa [if_neg (by omega)] at this
theorem PV_slice3 {T e : TypeId} {x y z u : Operand} {A : Option Addr} {l c p r m sz : Nat} {k k' k2 : IntKind} {pp rr mm : Int} (ho : o.op = .slice T x (some y) (some z) (some u)) (ht : P.underlying T = some (.slice e)) (hs : (P.info? e).map (·.size) = some sz)
    (hx : ev E x = some (.slice A l c)) (hy : ev E y = some (.int k pp)) (hz : ev E z = some (.int k' rr)) (hu : ev E u = some (.int k2 mm)) (hp : pp = (p : Int)) (hr : rr = (r : Int)) (hm : mm = (m : Int)) (h1 : p ≤ r) (h2 : r ≤ m) (h3 : m ≤ c) : PV P n o E S (.slice (if m = p then A else A.map (·.add (p * sz))) (r - p) (m - p)) := .of fun ac ha w => by
  subst hp hr hm
  cases hi' : P.info? e with
  | none => simp [hi'] at hs
  | some j =>
    have hj : j.size = sz := by simpa [hi'] using hs
    have g : (0 : Int) ≤ (p : Int) ∧ (p : Int) ≤ (r : Int) := by omega
    have g' : (0 : Int) ≤ (r : Int) ∧ (r : Int) ≤ (m : Int) := by omega
    have g2 : (0 : Int) ≤ (m : Int) ∧ (m : Int) ≤ (c : Int) := by omega
    simp [execOp, ho, ha.ev hx, ha.ev hy, ha.ev hz, ha.ev hu, Instr.sliceAt, run_underlying ht, Instr.slice, Instr.sliceBounds, Instr.sliceBound, asIntOf, g, g', g2, h1, h2, h3, sizeOf, typeInfo, hi', hj]

/-- An append that fits. -/
theorem EF_appendFit {TS e bytes : Nat} {z : List Value} {x y : Operand} {t : Value} {b l c m : Nat} {cs news : List Value} {TT : TypeId} (ho : o.op = .call { callee := .builtin .append, args := #[x, y], argTypes := #[TS, TS] }) (he : El P TS e z bytes)
    (hx : ev E x = some (.slice (some ⟨b, 0, none⟩) l c)) (hy : ev E y = some t) (hnew : RdW w z.length t m news) (h1 : one1 news = true) (hroom : l + m ≤ c) (hf : (l + m) * z.length ≤ cs.length) (hs : Sat G M I w)
    (hu : Upd b TT cs (splice cs (l * z.length) news) M M') : EF P n o E w (fun r w' => r = .slice (some ⟨b, 0, none⟩) (l + m) c ∧ Sat G M' I w') := by
  intro a ha next Q h
  obtain ⟨i, zv, hi, hz, hzl, hsz, hbys⟩ := he.parts
  have hblk := hs.own b cs TT hu.mem
  have hfn : (Builtin.firstCells i.size m t).run P w = .ok news.toArray w := by rw [hsz]; exact run_firstCells hnew
  obtain ⟨hnl, A', c', rfl, hc', hnb⟩ := hnew
  have hfit : l * z.length + news.length ≤ cs.length := by rw [hnl, ← Nat.add_mul]; exact hf
  have hst := run_storeCells_at P b (l * i.size) TT news 0 cs.toArray w hblk (by simpa [hsz] using hfit) (List.all_eq_true.1 h1)
  simp only [Nat.add_zero] at hst
  have hrun : (Builtin.append_ #[TS, TS] o.type #[.slice (some ⟨b, 0, none⟩) l c, .slice A' m c']).run P w = .ok (.slice (some ⟨b, 0, none⟩) (l + m) c) (w.setRow b (splice cs (l * z.length) news).toArray) := by
    simp [Builtin.append_, run_underlying he.sl, sizeOf, typeInfo, hi, Builtin.lenOf, hroom, hfn, Addr.add_lit, hst, splice]
    rw [hsz]
  simp only [Oper.wp, execOp, ho, resolve, invoke, builtin, List.map_toArray, List.map_cons, List.map_nil, ha.ev hx, ha.ev hy, Sem.run_bind, Sem.run_pure, Result.andThen_ok, hrun, Oper.upon]
  exact h _ _ ⟨rfl, hs.setRow hu⟩

/-- An append of zeros that does not fit. -/
theorem EF_appendZ {TS TI e bytes : Nat} {z : List Value} {x y : Operand} {q : Int} {k : IntKind} {l m c : Nat} {A : Option Addr} {olds : List Value} (ho : o.op = .call { callee := .builtin .append, args := #[x, y], argTypes := #[TS, TI] }) (he : El P TS e z bytes) (hti : P.underlying TI = some (.int k))
    (hx : ev E x = some (.slice A l c)) (hy : ev E y = some (.int .i64 q)) (hq : q = (m : Int)) (hold : RdW w z.length (.slice A l c) l olds) (hg : c < l + m) (hb : (l + m) * bytes ≤ 140737488355328) (hby : 0 < bytes) (hs : Sat G M I w) :
    EF P n o E w (fun r w' => ∃ b ys cap, r = .slice (some ⟨b, 0, none⟩) (l + m) cap ∧ l + m ≤ cap ∧ (olds ++ ys).length = cap * z.length ∧ Sat G ((b, olds ++ ys, e) :: M) I w') := by
  subst hq
  intro a ha next Q h
  obtain ⟨i, zv, hi, hz, hzl, hsz, hbys⟩ := he.parts
  have h63 : l + m ≤ 140737488355328 := Nat.le_trans (Nat.le_mul_of_pos_right _ hby) hb
  have hcap : Builtin.nextslicecap (l + m) c * i.bytes ≤ 281474976710656 := by
    have := nextslicecap_le hg
    rw [hbys]
    calc _ ≤ (2 * (l + m)) * bytes := Nat.mul_le_mul_right _ this
      _ ≤ _ := by rw [Nat.mul_assoc]; omega
  have hn : ¬ (l + m ≤ c) := by omega
  have h63' : ¬ (9223372036854775807 < ((l : Int) + (m : Int))) := by omega
  have h48' : ¬ (281474976710656 < Builtin.nextslicecap (l + m) c * i.bytes) := by omega
  have hwr : IntKind.i64.wrap (m : Int) = (m : Int) := IntWalk.i64_in _ (by omega)
  have hneg : ¬ ((m : Int) < 0) := by omega
  have hmax : max (m : Int) 0 = (m : Int) := by omega
  have hmb : ¬ ((281474976710656 : Int) < (m : Int) * (i.bytes : Int)) := by
    rw [hbys]
    have h1 : m * bytes ≤ (l + m) * bytes := Nat.mul_le_mul_right _ (by omega)
    have h2 : ((m * bytes : Nat) : Int) = (m : Int) * (bytes : Int) := by simp
    omega
  have hpos := he.pos
  have hmz : ¬ (m = 0 ∨ i.size = 0) ∨ m = 0 := by rw [hsz]; omega
  have hfo : (Builtin.firstCells i.size l (.slice A l c)).run P w.drew = .ok olds.toArray w.drew := by rw [hsz]; exact run_firstCells (w := w.drew) hold
  have hzc : zv.cells.size = z.length := by rw [← hzl]; simp
  obtain ⟨news, hnews⟩ : ∃ news : Array Value, news = if m * i.size = 0 then #[] else Builtin.zeroCells zv.cells m := ⟨_, rfl⟩
  have hnl : news.size = m * z.length := by
    subst hnews
    split
    · rename_i h0
      rw [← hsz, h0]
      rfl
    · simp [Builtin.zeroCells, hzc]
  have hrun : (Builtin.append_ #[TS, TI] o.type #[.slice A l c, .int .i64 (m : Int)]).run P w = .ok (.slice (some ⟨w.heap.size, 0, none⟩) (l + m) (grownCap w (l + m) c e))
      (w.drew.alloc (cellsO (olds ++ (news.toList ++ (Builtin.zeroCells zv.cells (grownCap w (l + m) c e - (l + m))).toList)) e)) := by
    simp only [Builtin.append_]
    simp [run_underlying he.sl, run_underlying hti, sizeOf, typeInfo, zeroValue, hi, hz, asInt, asIntOf, hmax, hn, h63', h48', Question.forced, hfo, newRow, grownCap, cellsO, hwr, hneg, hmb]
    subst hnews
    split <;> (simp; congr 2; apply Array.ext'; simp [List.append_assoc])
  have hge : l + m ≤ grownCap w (l + m) c e := by unfold grownCap; simp only [Question.cut]; omega
  simp only [Oper.wp, execOp, ho, resolve, invoke, builtin, List.map_toArray, List.map_cons, List.map_nil, ha.ev hx, ha.ev hy, Sem.run_bind, Sem.run_pure, Result.andThen_ok, hrun, Oper.upon]
  refine h _ _ ⟨w.heap.size, news.toList ++ (Builtin.zeroCells zv.cells (grownCap w (l + m) c e - (l + m))).toList, grownCap w (l + m) c e, rfl, hge, ?_, ?_⟩
  · have h1 := hold.1
    simp only [List.length_append, Array.length_toList, hnl, Builtin.zeroCells, Array.size_map, Array.size_range, hzc, h1]
    rw [← Nat.add_mul, ← Nat.add_mul]
    congr 1
    omega
  · exact hs.drew.alloc _ e

/-- clear of one element. -/
theorem EF_clear1 {TS e bytes : Nat} {z : List Value} {x : Operand} {b off c m : Nat} {cs : List Value} {TT : TypeId} (ho : o.op = .call { callee := .builtin .clear, args := #[x], argTypes := #[TS] }) (he : El P TS e z bytes) (h1 : one1 z = true)
    (hx : ev E x = some (.slice (some ⟨b, off, none⟩) m c)) (hm : m = 1) (hf : off + z.length ≤ cs.length) (hs : Sat G M I w) (hu : Upd b TT cs (splice cs off z) M M') : EF P n o E w (fun r w' => Sat G M' I w') := by
  subst hm
  intro a ha next Q h
  obtain ⟨i, zv, hi, hz, hzl, hsz, hbys⟩ := he.parts
  have hblk := hs.own b cs TT hu.mem
  have hst := run_storeCells_at P b off TT z 0 cs.toArray w hblk (by simpa using hf) (List.all_eq_true.1 h1)
  simp only [Nat.add_zero] at hst
  have hzero : (Builtin.zeroCells zv.cells 1).toList = z := by
    rw [← hzl]
    apply List.ext_getElem
    · simp [Builtin.zeroCells]
    · intro j h1 h2
      simp at h2
      simp [Builtin.zeroCells, Nat.mod_eq_of_lt h2, h2]
  have hrun : (Builtin.clear_ #[TS] o.type #[.slice (some ⟨b, off, none⟩) 1 c]).run P w = .ok (.tuple #[]) (w.setRow b (splice cs off z).toArray) := by
    simp [Builtin.clear_, run_underlying he.sl, zeroValue, typeInfo, hi, hz, hzero, hst, splice]
  simp only [Oper.wp, execOp, ho, resolve, invoke, builtin, List.map_toArray, List.map_cons, List.map_nil, ha.ev hx, Sem.run_bind, Sem.run_pure, Result.andThen_ok, hrun, Oper.upon]
  exact h _ _ (hs.setRow hu)

theorem EF_copyC {TS TX e bytes : Nat} {z : List Value} {x y : Operand} {t : Value} {b off dl dc m : Nat} {cs cs' news vs : List Value} {TT : TypeId} {M' : List Chunk} (ho : o.op = .call { callee := .builtin .copy, args := #[x, y], argTypes := #[TS, TX] }) (he : El P TS e z bytes)
    (hx : ev E x = some (.slice (some ⟨b, off, none⟩) dl dc)) (hy : ev E y = some t) (hnew : RdW w z.length t m news) (hv : news.take (min m dl * z.length) = vs) (h1 : one1 vs = true) (hf : off + vs.length ≤ cs.length) (hc : splice cs off vs = cs') (hs : Sat G M I w)
    (hu : Upd b TT cs cs' M M') : EF P n o E w (fun r w' => r = .int .i64 ((min m dl : Nat) : Int) ∧ Sat G M' I w') := by
  intro a ha next Q h
  obtain ⟨i, zv, hi, hz, hzl, hsz, hbys⟩ := he.parts
  have hfn : (Builtin.firstCells i.size (min m dl) t).run P w = .ok vs.toArray w := by rw [hsz, ← hv]; exact hnew.take (Nat.min_le_left _ _)
  have hblk := hs.own b cs TT hu.mem
  have hst := run_storeCells_at P b off TT vs 0 cs.toArray w hblk (by simp only [Nat.add_zero, List.size_toArray]; omega) (fun v hv => List.all_eq_true.1 h1 v hv)
  simp only [Nat.add_zero] at hst
  obtain ⟨hnl, A', c', rfl, hc', hnb⟩ := hnew
  subst hc
  have hrun : (Builtin.copy_ #[TS, TX] o.type #[.slice (some ⟨b, off, none⟩) dl dc, .slice A' m c']).run P w = .ok (.int .i64 ((min m dl : Nat) : Int)) (w.setRow b (splice cs off vs).toArray) := by
    have hmin : Nat.min m dl = min m dl := rfl
    simp [Builtin.copy_, run_underlying he.sl, sizeOf, typeInfo, hi, Builtin.lenOf, hmin, hfn, hst, goInt, splice]
  simp only [Oper.wp, execOp, ho, resolve, invoke, builtin, List.map_toArray, List.map_cons, List.map_nil, ha.ev hx, ha.ev hy, Sem.run_bind, Sem.run_pure, Result.andThen_ok, hrun, Oper.upon]
  exact h _ _ ⟨rfl, hs.setRow hu⟩

theorem splice2 {cs T Y : List Value} {x : Nat} (h : x + T.length + Y.length ≤ cs.length) : splice (splice cs (x + T.length) Y) x T = cs.take x ++ (T ++ (Y ++ cs.drop (x + T.length + Y.length))) := by
  have h1 : (cs.take (x + T.length)).length = x + T.length := by rw [List.length_take]; omega
  have h2 : splice cs (x + T.length) Y = cs.take (x + T.length) ++ (Y ++ cs.drop (x + T.length + Y.length)) := by simp [splice]
  rw [h2, splice]
  have h3 : (cs.take (x + T.length) ++ (Y ++ cs.drop (x + T.length + Y.length))).drop (x + T.length) = Y ++ cs.drop (x + T.length + Y.length) := by
    conv => lhs; rw [show x + T.length = (cs.take (x + T.length)).length from h1.symm]
    rw [h1, List.drop_left' h1]
  rw [List.take_append_of_le_length (by omega), List.take_take, Nat.min_eq_left (by omega), h3, List.append_assoc]
theorem splice2' {cs T Y : List Value} {x : Nat} (h : x + T.length + Y.length ≤ cs.length) : splice (splice cs x T) (x + T.length) Y = cs.take x ++ (T ++ (Y ++ cs.drop (x + T.length + Y.length))) := by
  have h0 : (cs.take x).length = x := by rw [List.length_take]; omega
  have h1 : (cs.take x ++ T).length = x + T.length := by rw [List.length_append, h0]
  have h2 : splice cs x T = (cs.take x ++ T) ++ cs.drop (x + T.length) := by simp [splice]
  rw [h2, splice]
  rw [List.take_append_of_le_length (by omega), List.take_of_length_le (by omega), ← h1, ← List.drop_drop, List.drop_left, h1, List.drop_drop]
  simp [List.append_assoc]
theorem lcells_take (K : List Tgt) (i : Nat) : (lcells K).take (i * 37) = lcells (K.take i) := by
  have h : lcells K = lcells (K.take i) ++ lcells (K.drop i) := by rw [← lcells_append, List.take_append_drop]
  by_cases hi : i ≤ K.length
  · have hl : (lcells (K.take i)).length = i * 37 := by rw [length_lcells, List.length_take, Nat.min_eq_left hi]
    rw [h, ← hl, List.take_left]
  · rw [List.take_of_length_le (by omega : K.length ≤ i), List.take_of_length_le (by rw [length_lcells]; omega)]
theorem lcells_drop (K : List Tgt) (i : Nat) : (lcells K).drop (i * 37) = lcells (K.drop i) := by
  have h : lcells K = lcells (K.take i) ++ lcells (K.drop i) := by rw [← lcells_append, List.take_append_drop]
  by_cases hi : i ≤ K.length
  · have hl : (lcells (K.take i)).length = i * 37 := by rw [length_lcells, List.length_take, Nat.min_eq_left hi]
    rw [h, ← hl, List.drop_left]
  · rw [List.drop_eq_nil_of_le (by omega : K.length ≤ i), List.drop_eq_nil_of_le (by rw [length_lcells]; omega)]
    rfl
theorem part_lo {K : List Tgt} {zs : List Value} {i : Nat} (hi : i ≤ K.length) : part (lcells K ++ zs) 0 (i * 37) = lcells (K.take i) := by
  rw [part, List.drop_zero, List.take_append_of_le_length (by rw [length_lcells]; omega), lcells_take]
theorem part_hi {K : List Tgt} {zs : List Value} {i : Nat} (hi : i ≤ K.length) : part (lcells K ++ zs) (0 + i * 37) ((K.length - i) * 37) = lcells (K.drop i) := by
  have h : (lcells K).length = K.length * 37 := length_lcells K
  have h2 : (lcells (K.drop i)).length = (K.length - i) * 37 := by rw [length_lcells, List.length_drop]
  rw [Nat.zero_add, part, List.drop_append_of_le_length (by omega), lcells_drop, ← h2, List.take_left]
/-- A target laid among others. -/
theorem ins_own {b i c : Nat} {K : List Tgt} {t : Tgt} {zs : List Value} (hi : i ≤ K.length) (hc : i + (K.length + 1 - i) ≤ c) (hl : (lcells (K.take i) ++ (tcells t ++ (lcells (K.drop i) ++ zs))).length = c * 37) :
    OwnS 26 37 (.slice (some ⟨b, 0, none⟩) (i + (K.length + 1 - i)) c) (lcells (K.take i ++ t :: K.drop i)) [(b, lcells (K.take i) ++ (tcells t ++ (lcells (K.drop i) ++ zs)), 26)] := by
  have he : lcells (K.take i) ++ (tcells t ++ (lcells (K.drop i) ++ zs)) = lcells (K.take i ++ t :: K.drop i) ++ zs := by
    rw [show K.take i ++ t :: K.drop i = K.take i ++ ([t] ++ K.drop i) from rfl, lcells_append, lcells_append, lcells_one]
    simp [List.append_assoc]
  refine .inr ⟨b, _, c, zs, rfl, ?_, by rw [he], by rw [← he]; exact hl, hc⟩
  rw [length_lcells]
  simp
  omega
/-- What stands behind a place. -/
theorem rd_tail {P : Program} {G w : World} {M : List Chunk} {I : Imm} {b c p : Nat} {K : List Tgt} {zs : List Value} (hs : Sat G M I w) (hm : (b, lcells K ++ zs, 26) ∈ M) (hl : (lcells K ++ zs).length = c * 37) (hp : p ≤ K.length) (hc : K.length ≤ c) :
    RdW w 37 (.slice (if c = p then some ⟨b, 0, none⟩ else (some (⟨b, 0, none⟩ : Addr)).map (·.add (p * 37))) (K.length - p) (c - p)) (K.length - p) (lcells (K.drop p)) := by
  by_cases h : c = p
  · rw [if_pos h]
    have h0 : K.length - p = 0 := by omega
    rw [h0, List.drop_eq_nil_of_le (by omega)]
    exact ⟨rfl, _, _, rfl, Nat.zero_le _, .inl rfl⟩
  · rw [if_neg h, Option.map_some, add_lit']
    exact rdM hs hm (by omega) (by rw [hl]; omega) (part_hi hp)
/-- A target taken out. -/
theorem del_own {b i c : Nat} {K : List Tgt} {zs : List Value} (hi : i < K.length) (hc : K.length ≤ c) (hl : (lcells K ++ zs).length = c * 37) :
    OwnS 26 37 (.slice (some ⟨b, 0, none⟩) (i + (K.length - (i + 1))) c) (lcells (K.eraseIdx i)) [(b, splice (splice (lcells K ++ zs) (i * 37) (lcells (K.drop (i + 1)))) (0 + (i + (K.length - (i + 1))) * 37) zl26, 26)] := by
  have htk : (lcells (K.take i)).length = i * 37 := by rw [length_lcells, List.length_take, Nat.min_eq_left (by omega)]
  have hdk : (lcells (K.drop (i + 1))).length = (K.length - (i + 1)) * 37 := by rw [length_lcells, List.length_drop]
  have h1 : splice (lcells K ++ zs) (i * 37) (lcells (K.drop (i + 1))) = (lcells (K.take i) ++ lcells (K.drop (i + 1))) ++ (lcells K ++ zs).drop (i * 37 + (K.length - (i + 1)) * 37) := by
    rw [splice, hdk, List.take_append_of_le_length (by rw [length_lcells]; omega), lcells_take]
  have h2 : (lcells (K.take i) ++ lcells (K.drop (i + 1))).length = (i + (K.length - (i + 1))) * 37 := by rw [List.length_append, htk, hdk, Nat.add_mul]
  have h3 : lcells (K.eraseIdx i) = lcells (K.take i) ++ lcells (K.drop (i + 1)) := by rw [List.eraseIdx_eq_take_drop_succ, lcells_append]
  have hlen : (splice (splice (lcells K ++ zs) (i * 37) (lcells (K.drop (i + 1)))) (0 + (i + (K.length - (i + 1))) * 37) zl26).length = c * 37 := by
    rw [length_splice (by rw [length_splice (by rw [hdk, hl]; omega), hl]; show _ + 37 ≤ _; omega), length_splice (by rw [hdk, hl]; omega), hl]
  have h4 : splice (splice (lcells K ++ zs) (i * 37) (lcells (K.drop (i + 1)))) (0 + (i + (K.length - (i + 1))) * 37) zl26 = lcells (K.eraseIdx i) ++ (zl26 ++ ((lcells K ++ zs).drop (i * 37 + (K.length - (i + 1)) * 37)).drop 37) := by
    rw [h1, h3, splice, Nat.zero_add, ← h2, List.take_left, List.append_assoc]
    congr 2
    rw [← List.drop_drop, List.drop_left]
    rfl
  refine .inr ⟨b, _, c, _, rfl, by rw [h3]; exact h2, by rw [← h4], by rw [← h4]; exact hlen, by omega⟩
end

/-- slices.overlaps at two blocks of the call's own. -/
theorem PV_overlaps {n : Nat} {E : List (Nat × Value)} {o : Oper} {G : World} {M : List Chunk} {I : Imm} {x y : Operand} {vb b off la ca lb cb : Nat} {cs cs' : List Value} {T T' : TypeId} {ts : Array TypeId} (ho : o.op = .call { callee := .value (.func 50), args := #[x, y], argTypes := ts })
    (hx : ev E x = some (.slice (some ⟨vb, 0, none⟩) la ca)) (hy : ev E y = some (.slice (some ⟨b, off, none⟩) lb cb)) (hne : vb ≠ b) (hmv : (vb, cs, T) ∈ M) (hmb : (b, cs', T') ∈ M) (hcs : cs' ≠ []) : PV Tryz.prog n o E (Sat G M I) (.bool false) := by
  intro a ha w hs
  have hv := hs.own vb cs T hmv
  have hb := hs.own b cs' T' hmb
  have hcall : (callFunc 50 #[.slice (some ⟨vb, 0, none⟩) la ca, .slice (some ⟨b, off, none⟩) lb cb]).run Tryz.prog w = .ok (.value (.bool false)) w := by
    rw [run_callFunc_extern Tryz.func50 (by kernel_rfl) (by kernel_rfl) (by kernel_rfl) (e := Extern.SlicesOverlaps.overlaps #[22, 22] #[4]) (by kernel_rfl),
      Lib.run_overlaps_apart w 22 4 26 Tryz.underlying22 37 (fun w => by kernel_rfl) ⟨vb, 0, none⟩ ⟨b, off, none⟩ la ca lb cb hne T T' cs.length cs'.length (by simp [World.shape?, hv, cellsO]) (by simp [World.shape?, hb, cellsO])
        (fun h => hcs (List.eq_nil_of_length_eq_zero h)) (by simp [World.frozen?, hv, cellsO]) (by simp [World.frozen?, hv, cellsO])]
    rfl
  have hf := ha.ev (x := .func 50) rfl
  have hgo : (callFunc 50 (#[] ++ #[.slice (some ⟨vb, 0, none⟩) la ca, .slice (some ⟨b, off, none⟩) lb cb] ++ #[])).run Tryz.prog w = .ok (.value (.bool false)) w := by simpa using hcall
  have hargs : (#[x, y] : Array Operand).map a.eval = #[.slice (some ⟨vb, 0, none⟩) la ca, .slice (some ⟨b, off, none⟩) lb cb] := by simp [ha.ev hx, ha.ev hy]
  simp only [execOp, ho, resolve, hf, hargs, Deferred.ofValue, invoke, Sem.run_bind, Sem.run_pure, Result.andThen_ok, hgo]
end Go.Proofs.YtecbpmgfikgoaaaGreatDoor
