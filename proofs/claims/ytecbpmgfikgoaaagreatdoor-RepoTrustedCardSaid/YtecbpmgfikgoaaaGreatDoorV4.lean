/- A Repo in memory as one thing, and what each call of it leaves. Conditions: as each theorem says. -/
import Derived.Test.YtecbpmgfikgoaaaGreatDoorU26
set_option linter.unusedVariables false
set_option linter.unusedSimpArgs false
set_option maxRecDepth 8000
namespace Go.Proofs.YtecbpmgfikgoaaaGreatDoor
open Go Go.RowKit
variable {G w : World} {M : List Chunk} {I J : Imm}

/-- The body of a root that a rotation signs. -/
def rbody (s : List UInt8) (i : Nat) : List UInt8 := bodyR ((i : Int) + 2) 1073741824 (roleH (seedH s 0) (seedH s (i + 2)))
def rootOk (J : Imm) (s : List UInt8) (ecs : List Value) (m : Nat) : Prop :=
  ecs.length = m * 2 ∧ ∀ i, i < m → ∃ u mv, ecs[2 * i]? = some u ∧ ecs[2 * i + 1]? = some mv ∧ EnvI J u mv (rbody s i) (keyH (seedH s 0)) i (chainsH (seedH s 0) i (rbody s i)) (pathH 4 (leavesH (seedH s 0)) i)
/-- What was signed last: the key's seed, its leaf, the targets, the version, when it ends. -/
structure TopT where
  s1 : List UInt8
  q : Nat
  K : List Tgt
  n : Int
  e : Int
def topOk (J : Imm) (b : Nat → Value) : Option TopT → Prop
  | none => ∀ i, 1 ≤ i → i ≤ 5 → b i = .slice none 0 0
  | some t => SignedI J b t.s1 t.q t.K t.n t.e
theorem SignedI.le {J J' : Imm} {b : Nat → Value} {s1 : List UInt8} {q : Nat} {K : List Tgt} {n e : Int} (h : SignedI J b s1 q K n e) (hl : Le J J') : SignedI J' b s1 q K n e := by
  obtain ⟨h1, h2, p, m, h3, h4⟩ := h
  exact ⟨h1.le hl, h2.le hl, p, m, h3.le hl, h4.le hl⟩
theorem topOk.le {J J' : Imm} {b : Nat → Value} {tp : Option TopT} (h : topOk J b tp) (hl : Le J J') : topOk J' b tp := by
  cases tp with
  | none => exact h
  | some t => exact SignedI.le h hl
theorem SignedI.congr {J : Imm} {b b' : Nat → Value} {s1 : List UInt8} {q : Nat} {K : List Tgt} {n e : Int} (h : SignedI J b s1 q K n e) (hb : ∀ i, 1 ≤ i → b' i = b i) : SignedI J b' s1 q K n e := by
  unfold SignedI at *
  rw [hb 1 (by decide), hb 2 (by decide), hb 3 (by decide), hb 4 (by decide), hb 5 (by decide)]
  exact h
theorem topOk.congr {J : Imm} {b b' : Nat → Value} {tp : Option TopT} (h : topOk J b tp) (hb : ∀ i, 1 ≤ i → b' i = b i) : topOk J b' tp := by
  cases tp with
  | none => exact fun i h1 h5 => (hb i h1).trans (h i h1 h5)
  | some t => exact SignedI.congr h hb
theorem rootOk.le {J J' : Imm} {s : List UInt8} {ecs : List Value} {m : Nat} (h : rootOk J s ecs m) (hl : Le J J') : rootOk J' s ecs m := by
  obtain ⟨h1, h2⟩ := h
  refine ⟨h1, fun i hi => ?_⟩
  obtain ⟨u, mv, a, b, c⟩ := h2 i hi
  exact ⟨u, mv, a, b, c.le hl⟩
theorem rootOk.snoc {s : List UInt8} {ecs : List Value} {m : Nat} {u mv : Value} (h : rootOk J s ecs m) (he : EnvI J u mv (rbody s m) (keyH (seedH s 0)) m (chainsH (seedH s 0) m (rbody s m)) (pathH 4 (leavesH (seedH s 0)) m)) : rootOk J s (ecs ++ [u, mv]) (m + 1) := by
  obtain ⟨h1, h2⟩ := h
  refine ⟨by rw [List.length_append, h1]; simp; omega, fun i hi => ?_⟩
  by_cases h : i < m
  · obtain ⟨u', mv', a, b, c⟩ := h2 i h
    exact ⟨u', mv', by rw [List.getElem?_append_left (by omega)]; exact a, by rw [List.getElem?_append_left (by omega)]; exact b, c⟩
  · obtain rfl : i = m := by omega
    exact ⟨u, mv, by rw [List.getElem?_append_right (by omega), h1, show 2 * i - i * 2 = 0 by omega]; rfl, by rw [List.getElem?_append_right (by omega), h1, show 2 * i + 1 - i * 2 = 1 by omega]; rfl, he⟩

structure RepoX where
  k0 : Nat
  k1 : Nat
  lv0 : Value
  lv1 : Value
  l : Value
  led : Value
  f : Nat → Value
  la : Nat → Value
  b : Nat → Value
  ecs : List Value
  Ll : List Chunk
  Ld : List Chunk
  Lr : List Chunk
def RepoX.rc (x : RepoX) (s : List UInt8) (m sg : Nat) : List Value := bcells s ++ rtail (ptr x.k0 0) (ptr x.k1 0) ((m + 1 : Nat) : Int) 1 x.f ((m + 1 : Nat) : Int) x.la x.l (sg : Int) x.b x.led
def RepoX.c0 (x : RepoX) (s : List UInt8) (m : Nat) : Chunk := (x.k0, kcells (seedH s 0) x.lv0 m, 112)
def RepoX.c1 (x : RepoX) (s : List UInt8) (m y : Nat) : Chunk := (x.k1, kcells (seedH s (m + 1)) x.lv1 y, 112)
def RepoX.all (x : RepoX) (rb : Nat) (s : List UInt8) (m y sg : Nat) : List Chunk := x.Ld ++ (x.Ll ++ (x.Lr ++ [(rb, x.rc s m sg, 78), x.c0 s m, x.c1 s m y]))
structure RepoOk (J : Imm) (s : List UInt8) (K B : List Tgt) (m : Nat) (tp : Option TopT) (x : RepoX) : Prop where
  h32 : s.length = 32
  h0 : SlI J 32 x.lv0 16 (bcells (leavesH (seedH s 0)))
  h1 : SlI J 32 x.lv1 16 (bcells (leavesH (seedH s (m + 1))))
  hf : ∀ j, j < 4 → SlI J 32 (x.f j) 1 (bcells (roleH (seedH s 0) (seedH s 1) j))
  hla : ∀ j, j < 4 → SlI J 32 (x.la j) 1 (bcells (roleH (seedH s 0) (seedH s (m + 1)) j))
  hl : OwnS 26 37 x.l (lcells K) x.Ll
  hd : OwnS 26 37 x.led (lcells B) x.Ld
  hr : OwnS 63 2 (x.b 0) x.ecs x.Lr
  hec : rootOk J s x.ecs m
  htp : topOk J x.b tp
theorem RepoOk.le {J J' : Imm} {s : List UInt8} {K B : List Tgt} {m : Nat} {tp : Option TopT} {x : RepoX} (h : RepoOk J s K B m tp x) (hl : Le J J') : RepoOk J' s K B m tp x :=
  ⟨h.h32, h.h0.le hl, h.h1.le hl, fun j hj => (h.hf j hj).le hl, fun j hj => (h.hla j hj).le hl, h.hl, h.hd, h.hr, h.hec.le hl, h.htp.le hl⟩
/-- A Repo at rb: its seed, its list, its ledger, how often it was rotated, how many leaves of its online key are used, how often it signed, what it signed last. -/
def RepoM (G : World) (M : List Chunk) (J : Imm) (rb : Nat) (s : List UInt8) (K B : List Tgt) (m y sg : Nat) (tp : Option TopT) (w : World) : Prop :=
  ∃ x : RepoX, RepoOk J s K B m tp x ∧ Sat G (x.all rb s m y sg ++ M) J w
section
variable {rb : Nat} {s : List UInt8} {K B : List Tgt} {m y sg : Nat} {tp : Option TopT}
theorem RepoM.sat (h : RepoM G M J rb s K B m y sg tp w) : Sat G M J w := by
  obtain ⟨x, hx, hs⟩ := h
  exact hs.drop
theorem RepoM.open (h : RepoM G M J rb s K B m y sg tp w) : ∃ Y, Sat G (Y ++ M) J w ∧ ∀ M' J' w', Le J J' → Sat G (Y ++ M') J' w' → RepoM G M' J' rb s K B m y sg tp w' := by
  obtain ⟨x, hx, hs⟩ := h
  exact ⟨_, hs, fun M' J' w' hl hs' => ⟨x, hx.le hl, hs'⟩⟩
theorem RepoM.drew (h : RepoM G M J rb s K B m y sg tp w) : RepoM G M J rb s K B m y sg tp w.drew := by
  obtain ⟨x, hx, hs⟩ := h
  exact ⟨x, hx, hs.drew⟩
theorem RepoX.get (x : RepoX) (h : s.length = 32) {i : Nat} {v : Value} (hv : (rtail (ptr x.k0 0) (ptr x.k1 0) ((m + 1 : Nat) : Int) 1 x.f ((m + 1 : Nat) : Int) x.la x.l (sg : Int) x.b x.led)[i]? = some v) : (x.rc s m sg)[32 + i]? = some v := ap_get h hv
theorem RepoX.len (x : RepoX) (h : s.length = 32) : (x.rc s m sg).length = 64 := ap_len h rfl
theorem RepoX.mem (x : RepoX) : (rb, x.rc s m sg, 78) ∈ x.all rb s m y sg ++ M := by simp [RepoX.all]
theorem RepoX.mem0 (x : RepoX) : x.c0 s m ∈ x.all rb s m y sg ++ M := by simp [RepoX.all]
theorem RepoX.mem1 (x : RepoX) : x.c1 s m y ∈ x.all rb s m y sg ++ M := by simp [RepoX.all]

theorem Calls.ret_mono {P : Program} {f : FuncId} {args : Array Value} {p q : Value → World → Prop} (h : Calls P f args w (Ret p)) (hi : ∀ r w', p r w' → q r w') : Calls P f args w (Ret q) :=
  Calls.mono h fun e w' ⟨r, he, hp⟩ => ⟨r, he, hi r w' hp⟩

theorem M7 {s : List UInt8} (h32 : s.length = 32) (hs : Sat G M I w) : Calls Tryz.prog 7 #[aggL (bcells s)] w (Ret fun r w' => ∃ J rb, Le I J ∧ r = ptr rb 0 ∧ RepoM G M J rb s [] [] 0 0 0 none w') := by
  refine Calls.ret_mono (C7 h32 hs) ?_
  rintro r w' ⟨J, rb, k0, k1, lv0, lv1, ks, hj, rfl, h0, h1, hk, hs'⟩
  exact ⟨J, rb, hj, rfl, ⟨k0, k1, lv0, lv1, .slice none 0 0, .slice none 0 0, ks, ks, fun _ => .slice none 0 0, [], [], [], []⟩, ⟨h32, h0, h1, hk, hk, OwnS.nil, OwnS.nil, OwnS.nil, ⟨rfl, fun i hi => absurd hi (by omega)⟩, fun _ _ _ => rfl⟩,
    hs'.perm (by classical exact List.perm_iff_count.2 fun a => by simp only [RepoX.all, RepoX.rc, RepoX.c0, RepoX.c1, List.nil_append, List.count_append, List.count_cons, List.count_nil]; ac_rfl)⟩

theorem M8 {t : Tgt} (hok : t.ok) (hK : K.length ≤ 2 ^ 10) (h : RepoM G M J rb s K B m y sg tp w) :
    Calls Tryz.prog 8 #[ptr rb 0, aggL (tcells t)] w (Ret fun r w' => ∃ e K', r = .int .i64 e ∧ PubR K t e K' ∧ RepoM G M J rb s K' B m y sg tp w') := by
  obtain ⟨x, hx, hs⟩ := h
  refine Calls.ret_mono (C8 (R := x.Ld ++ (x.Lr ++ (x.c0 s m :: x.c1 s m y :: M))) (x.len hx.h32) (x.get (i := 23) hx.h32 rfl) hok hK hx.hl (hs.perm (by classical exact List.perm_iff_count.2 fun a => by simp only [RepoX.all, List.count_append, List.count_cons, List.count_nil]; ac_rfl))) ?_
  rintro r w' ⟨e, K', l', Ll', rfl, hp, ho, hs'⟩
  rw [show (x.rc s m sg).set 55 l' = ({ x with l := l', Ll := Ll' } : RepoX).rc s m sg from ap_set (i := 23) hx.h32 rfl] at hs'
  exact ⟨e, K', rfl, hp, { x with l := l', Ll := Ll' }, ⟨hx.h32, hx.h0, hx.h1, hx.hf, hx.hla, ho, hx.hd, hx.hr, hx.hec, hx.htp⟩,
    hs'.perm (by classical exact List.perm_iff_count.2 fun a => by simp only [RepoX.all, RepoX.c0, RepoX.c1, List.count_append, List.count_cons, List.count_nil]; ac_rfl)⟩
theorem M14 {a b : ByteArray} (hK : K.length ≤ 2 ^ 10) (h : RepoM G M J rb s K B m y sg tp w) :
    Calls Tryz.prog 14 #[ptr rb 0, .string a, .string b] w (Ret fun r w' => ∃ e K', r = .int .i64 e ∧ RemR K (remT a b) e K' ∧ RepoM G M J rb s K' B m y sg tp w') := by
  obtain ⟨x, hx, hs⟩ := h
  refine Calls.ret_mono (C14 (R := x.Ld ++ (x.Lr ++ (x.c0 s m :: x.c1 s m y :: M))) (x.len hx.h32) (x.get (i := 23) hx.h32 rfl) hK hx.hl (hs.perm (by classical exact List.perm_iff_count.2 fun a => by simp only [RepoX.all, List.count_append, List.count_cons, List.count_nil]; ac_rfl))) ?_
  rintro r w' ⟨e, K', l', Ll', rfl, hp, ho, hs'⟩
  rw [show (x.rc s m sg).set 55 l' = ({ x with l := l', Ll := Ll' } : RepoX).rc s m sg from ap_set (i := 23) hx.h32 rfl] at hs'
  exact ⟨e, K', rfl, hp, { x with l := l', Ll := Ll' }, ⟨hx.h32, hx.h0, hx.h1, hx.hf, hx.hla, ho, hx.hd, hx.hr, hx.hec, hx.htp⟩,
    hs'.perm (by classical exact List.perm_iff_count.2 fun a => by simp only [RepoX.all, RepoX.c0, RepoX.c1, List.count_append, List.count_cons, List.count_nil]; ac_rfl)⟩
theorem M9 (hK : K.length ≤ 2 ^ 10) (h : RepoM G M J rb s K B m y sg tp w) :
    Calls Tryz.prog 9 #[ptr rb 0] w (Ret fun r w' => ∃ J', Le J J' ∧ SlI J' 37 r K.length (lcells K) ∧ RepoM G M J' rb s K B m y sg tp w') := by
  obtain ⟨x, hx, hs⟩ := h
  refine Calls.ret_mono (C9 (m := K.length) (cs := lcells K) x.mem (x.get (i := 23) hx.h32 rfl) ((hx.hl.toM (M := x.Ld ++ (x.Lr ++ ((rb, x.rc s m sg, 78) :: x.c0 s m :: x.c1 s m y :: M))) (length_lcells K) (by decide)).mono fun w h => h.perm (by classical exact List.perm_iff_count.2 fun a => by simp only [RepoX.all, List.count_append, List.count_cons, List.count_nil]; ac_rfl)) (one1_lcells K) (by omega) hs) ?_
  rintro r w' ⟨J', hj, hv, hs'⟩
  exact ⟨J', hj, hv, x, hx.le hj, hs'⟩
theorem M20 (hB : B.length ≤ 2 ^ 20) (h : RepoM G M J rb s K B m y sg tp w) :
    Calls Tryz.prog 20 #[ptr rb 0] w (Ret fun r w' => ∃ J', Le J J' ∧ SlI J' 37 r B.length (lcells B) ∧ RepoM G M J' rb s K B m y sg tp w') := by
  obtain ⟨x, hx, hs⟩ := h
  refine Calls.ret_mono (C20 (m := B.length) (cs := lcells B) x.mem (x.get (i := 31) hx.h32 rfl) ((hx.hd.toM (M := x.Ll ++ (x.Lr ++ ((rb, x.rc s m sg, 78) :: x.c0 s m :: x.c1 s m y :: M))) (length_lcells B) (by decide)).mono fun w h => h.perm (by classical exact List.perm_iff_count.2 fun a => by simp only [RepoX.all, List.count_append, List.count_cons, List.count_nil]; ac_rfl)) (one1_lcells B) (by omega) hs) ?_
  rintro r w' ⟨J', hj, hv, hs'⟩
  exact ⟨J', hj, hv, x, hx.le hj, hs'⟩
theorem M16u {now life : Nat} (hy : 13 < y) (hn : now + life ≤ 1073741824) (h : RepoM G M J rb s K B m y sg tp w) :
    Calls Tryz.prog 16 #[ptr rb 0, .int .i64 (now : Int), .int .i64 (life : Int)] w (Ret fun r w' => r = .int .i64 3 ∧ RepoM G M J rb s K B m y sg tp w') := by
  obtain ⟨x, hx, hs⟩ := h
  refine Calls.ret_mono (C16u (s1 := seedH s (m + 1)) (u1 := y) x.mem (x.get (i := 1) hx.h32 rfl) ⟨x.lv1, length_sha _, x.mem1, hx.h1⟩ hy hn hs) ?_
  rintro r w' ⟨rfl, hs'⟩
  exact ⟨rfl, x, hx, hs'⟩
theorem M16 {now life : Nat} (hy : y ≤ 13) (hn : now + life ≤ 1073741824) (hsg : sg ≤ 2 ^ 20) (hK : K.length ≤ 2 ^ 10) (hB : B.length ≤ 2 ^ 20) (hok : ∀ t ∈ K, t.ok) (h : RepoM G M J rb s K B m y sg tp w) :
    Calls Tryz.prog 16 #[ptr rb 0, .int .i64 (now : Int), .int .i64 (life : Int)] w (Ret fun r w' => ∃ J', Le J J' ∧ r = .int .i64 0 ∧ RepoM G M J' rb s K (B ++ K) m (y + 3) (sg + 1) (some ⟨seedH s (m + 1), y, K, (sg : Int) + 1, (now : Int) + (life : Int)⟩) w') := by
  obtain ⟨x, hx, hs⟩ := h
  refine Calls.ret_mono (C16 (K := K) (B := B) (s := s) (s1 := seedH s (m + 1)) (lv1 := x.lv1) (q1 := y) (gen := ((m + 1 : Nat) : Int)) (v0 := 1) (v1 := ((m + 1 : Nat) : Int)) (f := x.f) (la := x.la) (b := x.b) (led := x.led) (l := x.l) (k0 := x.k0) (k1 := x.k1) (rb := rb) (sg := sg) (Ll := x.Ll) (Ld := x.Ld) (R := x.c0 s m :: (x.Lr ++ M)) hx.h32 (length_sha _) hx.h1 hy hn hsg hK hB hok hx.hl hx.hd
    (hs.perm (by classical exact List.perm_iff_count.2 fun a => by simp only [RepoX.all, RepoX.rc, RepoX.c0, RepoX.c1, List.count_append, List.count_cons, List.count_nil]; ac_rfl))) ?_
  rintro r w' ⟨J', b', led', Ld', hj, rfl, hb0, hod, hsi, hs'⟩
  exact ⟨J', hj, rfl, { x with b := b', led := led', Ld := Ld' }, ⟨hx.h32, hx.h0.le hj, hx.h1.le hj, fun j h => (hx.hf j h).le hj, fun j h => (hx.hla j h).le hj, hx.hl, hod, by show OwnS 63 2 (b' 0) _ _; rw [hb0]; exact hx.hr, hx.hec.le hj, hsi⟩,
    hs'.perm (by classical exact List.perm_iff_count.2 fun a => by simp only [RepoX.all, RepoX.rc, RepoX.c0, RepoX.c1, List.count_append, List.count_cons, List.count_nil]; ac_rfl)⟩
theorem M15u (hm : 16 ≤ m) (h : RepoM G M J rb s K B m y sg tp w) :
    Calls Tryz.prog 15 #[ptr rb 0] w (Ret fun r w' => r = .int .i64 3 ∧ RepoM G M J rb s K B m y sg tp w') := by
  obtain ⟨x, hx, hs⟩ := h
  refine Calls.ret_mono (C15u (s0 := seedH s 0) (n0 := m) x.mem (x.get (i := 0) hx.h32 rfl) ⟨x.lv0, length_sha _, x.mem0, hx.h0⟩ hm hs) ?_
  rintro r w' ⟨rfl, hs'⟩
  exact ⟨rfl, x, hx, hs'⟩
theorem M15 (hm : m < 16) (h : RepoM G M J rb s K B m y sg tp w) :
    Calls Tryz.prog 15 #[ptr rb 0] w (Ret fun r w' => ∃ J', Le J J' ∧ r = .int .i64 0 ∧ RepoM G M J' rb s K B (m + 1) 0 sg tp w') := by
  obtain ⟨x, hx, hs⟩ := h
  refine Calls.ret_mono (C15 (rb := rb) (k0 := x.k0) (k1 := x.k1) (s := s) (g := m + 1) (v1 := ((m + 1 : Nat) : Int)) (sg := (sg : Int)) (f := x.f) (la := x.la) (l := x.l) (led := x.led) (lv0 := x.lv0) (b := x.b) (ecs := x.ecs) (q := m) (Lr := x.Lr) (R := x.Ld ++ (x.Ll ++ (x.c1 s m y :: M))) hx.h32 hx.h0 hm (by omega) (by omega) (by omega) hx.hec.1 hx.hr
    (hs.perm (by classical exact List.perm_iff_count.2 fun a => by simp only [RepoX.all, RepoX.rc, RepoX.c0, RepoX.c1, List.count_append, List.count_cons, List.count_nil]; ac_rfl))) ?_
  rintro r w' ⟨J', kb, lvn, ks, u, mv, v, Lr', hj, rfl, hlv, hks, he, hor, hs'⟩
  have e1 : ((m + 1 : Nat) : Int) + 1 = ((m + 1 + 1 : Nat) : Int) := rfl
  have e2 : ((m + 1 : Nat) : Int) + 1 = (m : Int) + 2 := by omega
  refine ⟨J', hj, rfl, { x with k1 := kb, lv1 := lvn, la := ks, b := fun i => if i = 0 then v else x.b i, ecs := x.ecs ++ [u, mv], Lr := Lr' }, ⟨hx.h32, hx.h0.le hj, hlv, fun j h => (hx.hf j h).le hj, hks, hx.hl, hx.hd, hor, (hx.hec.le hj).snoc ?_, (hx.htp.le hj).congr fun i hi => if_neg (by omega)⟩, ?_⟩
  · rw [e2] at he
    exact he
  · rw [e1] at hs'
    have h2 : Sat G (x.c1 s m y :: (({ x with k1 := kb, lv1 := lvn, la := ks, b := fun i => if i = 0 then v else x.b i, ecs := x.ecs ++ [u, mv], Lr := Lr' } : RepoX).all rb s (m + 1) 0 sg ++ M)) J' w' :=
      hs'.perm (by classical exact List.perm_iff_count.2 fun a => by simp only [RepoX.all, RepoX.rc, RepoX.c0, RepoX.c1, List.count_append, List.count_cons, List.count_nil]; ac_rfl)
    exact h2.tail
theorem M13 (h : RepoM G M J rb s K B m y sg tp w) :
    Calls Tryz.prog 13 #[ptr rb 0] w (Ret fun r w' => ∃ J' kk, Le J J' ∧ r = aggL (rcells 1 1073741824 kk) ∧ (∀ j, j < 4 → SlI J' 32 (kk j) 1 (bcells (roleH (seedH s 0) (seedH s 1) j))) ∧ RepoM G M J' rb s K B m y sg tp w') := by
  obtain ⟨x, hx, hs⟩ := h
  refine Calls.ret_mono (C13 (hh := roleH (seedH s 0) (seedH s 1)) x.mem (x.len hx.h32) (ap_part (i := 3) hx.h32 rfl) (fun j _ => length_roleH _ _ j) hx.hf hs) ?_
  rintro r w' ⟨J', kk, hj, rfl, hk, hs'⟩
  exact ⟨J', kk, hj, rfl, hk, x, hx.le hj, hs'⟩
end
end Go.Proofs.YtecbpmgfikgoaaaGreatDoor
