/- The laws' arguments, read as targets and acts; slices of them in memory that nobody writes. Conditions: the reader has read them. -/
import Derived.Test.YtecbpmgfikgoaaaGreatDoorK2
import Derived.ProofKit
import Derived.OpenShut
import Derived.LaidMore
import Derived.Carry
import Derived.SizedLaws
import Derived.Deep.Slices
set_option linter.unusedVariables false
set_option linter.unusedSimpArgs false
namespace Go.Proofs.YtecbpmgfikgoaaaGreatDoor
open Go Go.RowKit

theorem c5 : Tryz.prog.cellsOf 5 = 1 := by kernel_rfl
theorem c3 : Tryz.prog.cellsOf 3 = 1 := by kernel_rfl
theorem c9 : Tryz.prog.cellsOf 9 = 1 := by kernel_rfl
theorem c24 : Tryz.prog.cellsOf 24 = 32 := by kernel_rfl
theorem c26 : Tryz.prog.cellsOf 26 = 37 := by kernel_rfl
theorem c53 : Tryz.prog.cellsOf 53 = 40 := by kernel_rfl
instance : Inhabited Tgt := ⟨⟨.empty, 0, List.replicate 32 0, .empty, 0, .empty, rfl⟩⟩
structure ActT where
  kind : Int
  t : Tgt
  now : Int
  life : Int
instance : Inhabited ActT := ⟨⟨0, default, 0, 0⟩⟩
def acells (a : ActT) : List Value := .int .i64 a.kind :: (tcells a.t ++ [.int .i64 a.now, .int .i64 a.life])
theorem length_acells (a : ActT) : (acells a).length = 40 := by simp [acells, length_tcells]

theorem take_drop_eq {l a b : List Value} {i k : Nat} (h : (l.drop i).take k = a) (h2 : l.drop (i + k) = b) : l.drop i = a ++ b := by
  rw [← h, ← h2, ← List.drop_drop, List.take_append_drop]

section
variable {H : Type} {enc : TypeId × Value → H} {w : World} {base : Nat} {spare : Nat → Bool} {held : Bool} {n : Nat} {cs : List Value} {x : DataW H × List MemPlace}

theorem open_bytes32 (h : DataW.trod enc Tryz.prog w base spare held n 24 cs = some x) : ∃ l : List UInt8, l.length = 32 ∧ cs = bcells l := by
  obtain ⟨xs, m, rfl, hx, hl, hxl, hel⟩ := DataW.trod_array Tryz.underlying24 h
  rw [c24] at hl
  have hv : ∀ i (hi : i < 32), ∃ b : UInt8, cs[i]'(by omega) = u8v b := by
    intro i hi
    have h1 := hel i hi
    rw [List.getElem?_eq_getElem (by omega), c5, Nat.mul_one] at h1
    obtain ⟨k, h2, _, hw⟩ := DataW.trod_int Tryz.underlying5 h1
    have h3 : ((cs.drop i).take 1)[0]? = some (.int .u8 k) := by rw [h2]; rfl
    have h4 : cs[i]'(by omega) = .int .u8 k := by
      have : cs[i]? = some (.int .u8 k) := by simpa [List.getElem?_take, List.getElem?_drop] using h3
      rw [List.getElem?_eq_getElem (by omega)] at this
      simpa using this
    have hk : 0 ≤ k ∧ k ≤ 255 := by simpa [Lit.wf, IntKind.min, IntKind.max, IntKind.signed, IntKind.bits] using hw
    refine ⟨UInt8.ofNat k.toNat, ?_⟩
    rw [h4, u8v]
    refine congrArg (Value.int .u8) ?_
    simp
    omega
  obtain ⟨g, hg⟩ := Deep.choose_lt (α := UInt8) (n := 32) (p := fun i b => cs[i]? = some (u8v b)) (fun i hi => by
    obtain ⟨b, hb⟩ := hv i hi
    exact ⟨b, by rw [List.getElem?_eq_getElem (by omega), hb]⟩)
  refine ⟨(List.range 32).map g, by rw [List.length_map, List.length_range], ?_⟩
  apply List.ext_getElem?
  intro i
  by_cases hi : i < 32
  · rw [hg i hi, bcells, List.getElem?_map, List.getElem?_map, List.getElem?_range hi]
    rfl
  · rw [List.getElem?_eq_none (by omega), List.getElem?_eq_none (by rw [length_bcells, List.length_map, List.length_range]; omega)]

theorem open_tgt (h : DataW.trod enc Tryz.prog w base spare held n 26 cs = some x) :
    ∃ t : Tgt, cs = tcells t ∧ ((∀ m ∈ x.1.weights Tryz.prog 26, m ≤ reachBytes) → t.name.size ≤ reachBytes ∧ t.hw.size ≤ reachBytes ∧ t.ecu.size ≤ reachBytes) := by
  obtain ⟨xs, m, rfl, hx, hl, hxl, hel⟩ := DataW.trod_struct Tryz.underlying26 h
  rw [c26] at hl
  have hxl' : xs.length = 6 := hxl
  match xs, hxl', hel, hx with
  | [x0, x1, x2, x3, x4, x5], _, hel, hx =>
  have e0 := hel 0 _ rfl
  have e1 := hel 1 _ rfl
  have e2 := hel 2 _ rfl
  have e3 := hel 3 _ rfl
  have e4 := hel 4 _ rfl
  have e5 := hel 5 _ rfl
  simp only [List.getElem?_cons_zero, List.getElem?_cons_succ] at e0 e1 e2 e3 e4 e5
  obtain ⟨s0, p0, q0, _⟩ := DataW.trod_string Tryz.underlying9 e0
  obtain ⟨k1, p1, q1, _⟩ := DataW.trod_int Tryz.underlying3 e1
  obtain ⟨l2, h2, p2⟩ := open_bytes32 e2
  obtain ⟨s3, p3, q3, _⟩ := DataW.trod_string Tryz.underlying9 e3
  obtain ⟨k4, p4, q4, _⟩ := DataW.trod_int Tryz.underlying3 e4
  obtain ⟨s5, p5, q5, _⟩ := DataW.trod_string Tryz.underlying9 e5
  change (cs.drop 0).take (Tryz.prog.cellsOf 9) = _ at p0
  change (cs.drop 1).take (Tryz.prog.cellsOf 3) = _ at p1
  change (cs.drop 2).take (Tryz.prog.cellsOf 24) = _ at p2
  change (cs.drop 34).take (Tryz.prog.cellsOf 9) = _ at p3
  change (cs.drop 35).take (Tryz.prog.cellsOf 3) = _ at p4
  change (cs.drop 36).take (Tryz.prog.cellsOf 9) = _ at p5
  rw [c9] at p0 p3 p5
  rw [c3] at p1 p4
  rw [c24] at p2
  refine ⟨⟨s0, k1, l2, s3, k4, s5, h2⟩, ?_, fun hw => ?_⟩
  · have a6 : cs.drop 37 = [] := List.drop_eq_nil_of_le (by omega)
    have a5 := take_drop_eq (i := 36) (k := 1) p5 a6
    have a4 := take_drop_eq (i := 35) (k := 1) p4 a5
    have a3 := take_drop_eq (i := 34) (k := 1) p3 a4
    have a2 := take_drop_eq (i := 2) (k := 32) p2 a3
    have a1 := take_drop_eq (i := 1) (k := 1) p1 a2
    have a0 := take_drop_eq (i := 0) (k := 1) p0 a1
    rw [tcells]
    simpa using a0
  · subst hx q0 q1 q3 q4 q5
    have hu : Tryz.prog.underlying 26 = some (.struct _) := Tryz.underlying26
    simp only [DataW.weights, hu, List.map_cons, List.map_nil] at hw
    refine ⟨?_, ?_, ?_⟩
    · have := hw _ (DataW.weights_mem_each (j := 0) rfl rfl s0.data.toList.length (by simp [DataW.weights]))
      simpa using this
    · have := hw _ (DataW.weights_mem_each (j := 3) rfl rfl s3.data.toList.length (by simp [DataW.weights]))
      simpa using this
    · have := hw _ (DataW.weights_mem_each (j := 5) rfl rfl s5.data.toList.length (by simp [DataW.weights]))
      simpa using this

theorem open_act (h : DataW.trod enc Tryz.prog w base spare held n 53 cs = some x) :
    ∃ a : ActT, cs = acells a ∧ ((∀ m ∈ x.1.weights Tryz.prog 53, m ≤ reachBytes) → a.t.name.size ≤ reachBytes ∧ a.t.hw.size ≤ reachBytes ∧ a.t.ecu.size ≤ reachBytes) := by
  obtain ⟨xs, m, rfl, hx, hl, hxl, hel⟩ := DataW.trod_struct Tryz.underlying53 h
  rw [c53] at hl
  have hxl' : xs.length = 4 := hxl
  match xs, hxl', hel, hx with
  | [x0, x1, x2, x3], _, hel, hx =>
  have e0 := hel 0 _ rfl
  have e1 := hel 1 _ rfl
  have e2 := hel 2 _ rfl
  have e3 := hel 3 _ rfl
  simp only [List.getElem?_cons_zero, List.getElem?_cons_succ] at e0 e1 e2 e3
  obtain ⟨k0, p0, q0, _⟩ := DataW.trod_int Tryz.underlying3 e0
  obtain ⟨t, p1, hw1⟩ := open_tgt e1
  obtain ⟨k2, p2, q2, _⟩ := DataW.trod_int Tryz.underlying3 e2
  obtain ⟨k3, p3, q3, _⟩ := DataW.trod_int Tryz.underlying3 e3
  change (cs.drop 0).take (Tryz.prog.cellsOf 3) = _ at p0
  change (cs.drop 1).take (Tryz.prog.cellsOf 26) = _ at p1
  change (cs.drop 38).take (Tryz.prog.cellsOf 3) = _ at p2
  change (cs.drop 39).take (Tryz.prog.cellsOf 3) = _ at p3
  rw [c26] at p1
  rw [c3] at p0 p2 p3
  refine ⟨⟨k0, t, k2, k3⟩, ?_, fun hw => hw1 fun m hm => hw m ?_⟩
  · have a4 : cs.drop 40 = [] := List.drop_eq_nil_of_le (by omega)
    have a3 := take_drop_eq (i := 39) (k := 1) p3 a4
    have a2 := take_drop_eq (i := 38) (k := 1) p2 a3
    have a1 := take_drop_eq (i := 1) (k := 37) p1 a2
    have a0 := take_drop_eq (i := 0) (k := 1) p0 a1
    rw [acells]
    simpa using a0
  · subst hx
    have hu : Tryz.prog.underlying 53 = some (.struct _) := Tryz.underlying53
    simp only [DataW.weights, hu, List.map_cons, List.map_nil]
    exact DataW.weights_mem_each (j := 1) rfl rfl m hm
end

theorem weights_all {H : Type} {P : Program} {e : TypeId} {l : List (DataW H)} {d : DataW H} (h : d ∈ l) {m : Nat} (hm : m ∈ d.weights P e) : m ∈ DataW.weightsAll P e l := by
  induction l with
  | nil => cases h
  | cons a l ih =>
    simp only [DataW.weightsAll, List.mem_append]
    rcases List.mem_cons.1 h with rfl | h
    · exact .inl hm
    · exact .inr (ih h)

theorem part_add (l : List Value) (o a b : Nat) : part l o (a + b) = part l o a ++ part l (o + a) b := by
  simp only [part]
  rw [List.take_add, List.drop_drop]

/-- A slice that came in. -/
theorem open_flat {H : Type} {enc : TypeId × Value → H} {W : World} {held : Bool} {n sz : Nat} {T e : TypeId} {v : Value} {x : DataW H × List MemPlace} {α : Type} [Inhabited α] {f : α → List Value} {Q : α → Prop}
    (ht : Tryz.prog.underlying T = some (.slice e)) (hc : Tryz.prog.cellsOf e = sz) (hpos : 0 < sz) (hf : ∀ a, (f a).length = sz) (hby : 0 < Tryz.prog.bytesOf e)
    (hop : ∀ n cs (y : DataW H × List MemPlace), DataW.trod enc Tryz.prog W 0 (fun _ => true) held n e cs = some y → ∃ a, cs = f a ∧ ((∀ m ∈ y.1.weights Tryz.prog e, m ≤ reachBytes) → Q a))
    (h : DataW.trod enc Tryz.prog W 0 (fun _ => true) held n T [v] = some x) (hw : ∀ m ∈ x.1.weights Tryz.prog T, m ≤ reachBytes) :
    ∃ K : List α, SlI (allOf W) sz v K.length (K.flatMap f) ∧ (∀ a ∈ K, Q a) ∧ K.length ≤ reachBytes := by
  rcases Deep.open_slice ht h with ⟨h0, _⟩ | ⟨a, len, cap, m, nn, D, Pl, hv, _, hle, _, hm, rfl, hel⟩
  · obtain rfl : v = .slice none 0 0 := by simpa using h0
    exact ⟨[], SlI.nil sz, by simp, Nat.zero_le _⟩
  · obtain rfl : v = .slice (some a) len cap := by simpa using hv
    simp only [if_true] at hm
    subst hm
    rw [hc] at hel
    obtain ⟨g, hg⟩ := Deep.choose_lt (α := α) (n := m) (p := fun i y => W.cells? 0 (a.add (i * sz)) sz = some (f y) ∧ ((∀ q ∈ (D i).weights Tryz.prog e, q ≤ reachBytes) → Q y)) (fun i hi => by
      obtain ⟨cs', h1, h2⟩ := hel i hi
      obtain ⟨y, rfl, h3⟩ := hop _ _ _ h2
      exact ⟨y, h1, h3⟩)
    have hlenb : len ≤ reachBytes := by
      have := hw (((List.range len).map D).length + ((List.range (m - len)).map fun j => D (len + j)).length |>.mul (Tryz.prog.bytesOf e)) (by simp [DataW.weights, ht])
      simp only [List.length_map, List.length_range, Nat.mul_eq] at this
      have h2 := Nat.le_mul_of_pos_right (len + (m - len)) hby
      omega
    have hall : ∀ (fs : List (α)), True := fun _ => trivial
    refine ⟨(List.range len).map g, ?_, fun y hy => ?_, by simpa using hlenb⟩
    · have hlen : ((List.range len).map g).length = len := by simp
      rw [hlen]
      have hflen : ∀ k, (((List.range k).map g).flatMap f).length = k * sz := by
        intro k
        induction k with
        | zero => simp
        | succ k ih =>
          rw [List.range_succ, List.map_append, List.flatMap_append, List.length_append, ih]
          simp [hf, Nat.add_mul]
      refine ⟨hflen len, some a, m, rfl, hle, ?_⟩
      rcases Nat.eq_zero_or_pos len with h0 | h0
      · exact .inl h0
      · right
        obtain ⟨_, _, hcell⟩ := World.cells?_some (hg 0 (by omega)).1
        have hc0 := hcell 0 hpos
        rw [List.getElem?_eq_getElem (by rw [hf]; exact hpos)] at hc0
        have hsp := World.cell?_spot hc0
        obtain ⟨b, off, sp⟩ := a
        have hsp' : sp = none := by
          cases sp with
          | none => rfl
          | some z => simp only [Addr.add] at hsp; split at hsp <;> simp_all
        subst hsp'
        have hblk : ∃ d TT fr, W.heap[b]? = some (.cells d TT fr) := by
          simp only [Nat.zero_mul, add_lit', World.cell?] at hc0
          split at hc0
          · rename_i d TT fr hh
            exact ⟨d, TT, fr, hh⟩
          · cases hc0
        obtain ⟨d, TT, fr, hd⟩ := hblk
        have key : ∀ k, k ≤ m → off + k * sz ≤ d.size ∧ part d.toList off (k * sz) = ((List.range k).map g).flatMap f := by
          intro k
          induction k with
          | zero =>
            intro _
            refine ⟨?_, by simp [part]⟩
            have h1 := hc0
            simp [add_lit', World.cell?, hd] at h1
            obtain ⟨h2, _⟩ := Array.getElem?_eq_some_iff.1 h1
            simp
            omega
          | succ k ih =>
            intro hk
            obtain ⟨i1, i2⟩ := ih (by omega)
            obtain ⟨_, _, hck⟩ := World.cells?_some (hg k (by omega)).1
            have hget : ∀ j, j < sz → d[off + k * sz + j]? = (f (g k))[j]? := fun j hj => by
              have := hck j hj
              simpa [add_lit', World.cell?, hd] using this
            have hlast := hget (sz - 1) (by omega)
            rw [List.getElem?_eq_getElem (by rw [hf]; omega)] at hlast
            obtain ⟨h2, _⟩ := Array.getElem?_eq_some_iff.1 hlast
            have hsz1 : off + (k + 1) * sz ≤ d.size := by rw [Nat.add_mul]; omega
            refine ⟨hsz1, ?_⟩
            rw [Nat.add_mul, Nat.one_mul, part_add, i2, List.range_succ, List.map_append, List.flatMap_append]
            refine congrArg (fun z => ((List.range k).map g).flatMap f ++ z) ?_
            simp only [List.map_cons, List.map_nil, List.flatMap_cons, List.flatMap_nil, List.append_nil]
            apply List.ext_getElem?
            intro j
            by_cases hj : j < sz
            · rw [← hget j hj, part, List.getElem?_take, if_pos hj, List.getElem?_drop, Array.getElem?_toList]
            · rw [List.getElem?_eq_none (by simp [part]; omega), List.getElem?_eq_none (by rw [hf]; omega)]
        obtain ⟨k1, k2⟩ := key len hle
        exact ⟨b, off, d, TT, fr, rfl, hd, k1, k2⟩
    · obtain ⟨i, hi, rfl⟩ := List.mem_map.1 hy
      have hi' : i < len := List.mem_range.1 hi
      refine (hg i (by omega)).2 fun q hq => hw q ?_
      simp only [DataW.weights, ht, List.mem_cons, List.mem_append]
      exact .inr (.inl (weights_all (List.mem_map.2 ⟨i, List.mem_range.2 hi', rfl⟩) hq))
end Go.Proofs.YtecbpmgfikgoaaaGreatDoor
