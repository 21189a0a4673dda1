/- Walks of functions 4: what each call gives back, and that it writes nothing of anybody else's. Conditions: as each theorem says. -/
import Derived.Test.YtecbpmgfikgoaaaGreatDoorY1
set_option linter.unusedVariables false
set_option linter.unusedSimpArgs false
set_option maxRecDepth 8000
set_option maxHeartbeats 4000000
namespace Go.Proofs.YtecbpmgfikgoaaaGreatDoor
open Go Go.RowKit
variable {G w : World} {M : List Chunk} {I : Imm}

theorem solo_target {t : Tgt} (h : soloB t = true) : targetB t = true := (targets_in h).2.2.2.2.1 0 t rfl
theorem targetsB_all {K : List Tgt} {n e : Int} (hK : K.length ≤ 16) (hso : ∀ t, t ∈ K → soloB t = true) (hs : sortT K) (hn : isVersionB n = true) (he : isNumB e = true) : targetsB topS n e K = true := by
  unfold targetsB
  rw [top_name, hn, he, decide_eq_true hK, Bool.true_and, Bool.true_and, Bool.true_and, Bool.true_and, List.all_eq_true]
  intro i hi
  have hi := List.mem_range.1 hi
  obtain ⟨t, ht⟩ : ∃ t, K[i]? = some t := ⟨_, List.getElem?_eq_getElem hi⟩
  unfold chkB
  rw [ht]
  dsimp only
  rw [solo_target (hso t (List.mem_of_getElem? ht)), Bool.true_and]
  cases i with
  | zero => rfl
  | succ j =>
    obtain ⟨a, ha⟩ : ∃ a, K[j]? = some a := ⟨_, List.getElem?_eq_getElem (by omega)⟩
    dsimp only
    rw [ha]
    dsimp only
    rw [rises_bef]
    exact hs j a t ha ht
theorem bodyT_eq {n e : Int} {K : List Tgt} (h : targetsB topS n e K = true) : bodyT n e K = nums [4] ++ targetsE topS n e K := by rw [bodyT, optB, if_pos h]
theorem bodyS_eq {n e : Int} (hn : isVersionB n = true) (he : isNumB e = true) : bodyS n e = nums [3] ++ snapE n e topS n := by rw [bodyS, optB, if_pos (by rw [top_name, hn, he]; rfl)]
theorem bodyM_eq {n e : Int} (hn : isVersionB n = true) (he : isNumB e = true) : bodyM n e = nums [2] ++ timeE n e n (sha (nums [3] ++ snapE n e topS n)) := by rw [bodyM, optB, if_pos (by rw [hn, he]; rfl), bodyS_eq hn he]
theorem C17s {s : List UInt8} {v m now q : Nat} {kt b : Nat → Value} {has : Bool} {a bt c : Int} {h0 : List UInt8} {s0 s1 : Int} {pv tg rv : Value} {ecs : List Value} {K : List Tgt} {n e : Int} (hh0 : h0.length = 32) (hv1 : 1 ≤ v) (hvm : v ≤ m + 1) (hm : m ≤ 16) (hks : ∀ j, j < 4 → SlI I 32 (kt j) 1 (bcells (roleH (seedH s 0) (seedH s v) j))) (hr : SlI I 2 rv m ecs) (hec : rootOk I s ecs m) (hq : q + 2 < 16) (hb : SignedI I b (seedH s (m + 1)) q K n e) (hok : ∀ t ∈ K, t.ok) (hT : targetsB topS n e K = true) (hhas : has = true → a ≤ n ∧ c ≤ n) (hpin : PinOk I has pv n) (hexp : (now : Int) < e) (hnow : now < 1073741824) (hs : Sat G M I w) :
    Calls Tryz.prog 17 #[aggL (trc v kt has a bt c h0 s0 s1 pv tg), aggL [rv, b 1, b 2, b 3, b 4, b 5], .int .i64 (now : Int)] w (Ret fun r w' => ∃ J ks kv tg' lv h0', Le I J ∧ r = .tuple #[aggL (trc (m + 1) ks true n e n h0' n e kv tg'), .int .i64 0] ∧ h0'.length = 32 ∧ (∀ j, j < 4 → SlI J 32 (ks j) 1 (bcells (roleH (seedH s 0) (seedH s (m + 1)) j))) ∧ PinOk J true kv n ∧ SlI J 5 tg' 1 [.string topS, .int .i64 n, .int .i64 e, lv, .slice none 0 0] ∧ SlI J 37 lv K.length (lcells K) ∧ kv.oneCell' = true ∧ Sat G M J w') := by
  obtain ⟨-, hvn, hee, -, -, -⟩ := targets_in hT
  obtain ⟨hM, hS, pT, mT, htv, hTe⟩ := hb
  rw [bodyM_eq hvn hee] at hM
  rw [bodyS_eq hvn hee] at hS
  rw [bodyT_eq hT] at hTe
  refine Calls.ret_mono (C17 hh0 hv1 hvm hm hks hr hec hq hM hS htv hTe hok hT hhas hpin hexp hnow hs) ?_
  rintro r w' ⟨J, ks, kv, tg', lv, hj, rfl, hk1, hkv, htg, hlv, hs'⟩
  obtain ⟨A, cc, rfl, hcc⟩ := hkv.shape
  exact ⟨J, ks, _, tg', lv, _, hj, rfl, length_sha _, hk1, ⟨A, 1, cc, rfl, fun _ => ⟨rfl, rfl, n, hkv, Int.le_refl n⟩⟩, htg, hlv, rfl, hs'⟩
theorem body_len {n e : Int} {K : List Tgt} (hok : ∀ t ∈ K, t.ok) (hT : targetsB topS n e K = true) : (bodyM n e).length ≤ 2 ^ 40 ∧ (bodyS n e).length ≤ 2 ^ 40 ∧ (bodyT n e K).length ≤ 2 ^ 40 := by
  obtain ⟨-, hvn, hee, -, -, -⟩ := targets_in hT
  rw [bodyM_eq hvn hee, bodyS_eq hvn hee, bodyT_eq hT]
  exact ⟨time_len hvn hee hvn (length_sha _), snap_len top_name hvn hvn hee, targets_len hok hT⟩
section
variable {J : Imm} {rb : Nat} {s : List UInt8} {K B : List Tgt} {m y sg : Nat} {tp : Option TopT}
theorem M16d {now life : Nat} (hn : now + life ≤ 1073741824) (hsg : sg ≤ 2 ^ 20) (hK : K.length ≤ 2 ^ 10) (hB : B.length ≤ 2 ^ 20) (hok : ∀ t ∈ K, t.ok) (h : RepoM G M J rb s K B m y sg tp w) :
    Calls Tryz.prog 16 #[ptr rb 0, .int .i64 (now : Int), .int .i64 (life : Int)] w (Ret fun r w' => ∃ J' e B' y' sg' tp', Le J J' ∧ r = .int .i64 e ∧ ((e = 0 ∧ B' = B ++ K ∧ sg' = sg + 1 ∧ y ≤ 13 ∧ tp' = some ⟨seedH s (m + 1), y, K, (sg : Int) + 1, (now : Int) + (life : Int)⟩) ∨ (e = 3 ∧ B' = B ∧ sg' = sg)) ∧ RepoM G M J' rb s K B' m y' sg' tp' w') := by
  by_cases hy : y ≤ 13
  · refine Calls.ret_mono (M16 hy hn hsg hK hB hok h) ?_
    rintro r w' ⟨J', hj, rfl, h'⟩
    exact ⟨J', 0, _, _, _, _, hj, rfl, .inl ⟨rfl, rfl, rfl, hy, rfl⟩, h'⟩
  · refine Calls.ret_mono (M16u (by omega) hn h) ?_
    rintro r w' ⟨rfl, h'⟩
    exact ⟨J, 3, _, _, _, _, Le.refl J, rfl, .inr ⟨rfl, rfl, rfl⟩, h'⟩
theorem M15d (hm : m ≤ 16) (h : RepoM G M J rb s K B m y sg tp w) : Calls Tryz.prog 15 #[ptr rb 0] w (Ret fun r w' => ∃ J' m' y' v, Le J J' ∧ r = .int .i64 v ∧ m ≤ m' ∧ m' ≤ 16 ∧ RepoM G M J' rb s K B m' y' sg tp w') := by
  by_cases hm : m < 16
  · refine Calls.ret_mono (M15 hm h) ?_
    rintro r w' ⟨J', hj, rfl, h'⟩
    exact ⟨J', m + 1, 0, 0, hj, rfl, Nat.le_succ m, hm, h'⟩
  · refine Calls.ret_mono (M15u (by omega) h) ?_
    rintro r w' ⟨rfl, h'⟩
    exact ⟨J, m, y, 3, Le.refl J, rfl, Nat.le_refl m, by omega, h'⟩
/-- Bundle, of a Repo that has just signed, where its chunks lie among others. -/
theorem C18x {x : RepoX} {q : Nat} {n e : Int} {Kt : List Tgt} {D : List Chunk} (hx : RepoOk J s K B m (some ⟨seedH s (m + 1), q, Kt, n, e⟩) x) (hD : D = x.all rb s m y sg ++ M ∨ ∃ c, D = c :: (x.all rb s m y sg ++ M)) (hm : m ≤ 16) (hok : ∀ t ∈ Kt, t.ok) (hT : targetsB topS n e Kt = true) (hs : Sat G D J w) :
    Calls Tryz.prog 18 #[ptr rb 0] w (Ret fun r w' => ∃ J' rv ecs' b', Le J J' ∧ r = aggL [rv, b' 1, b' 2, b' 3, b' 4, b' 5] ∧ SlI J' 2 rv m ecs' ∧ rootOk J' s ecs' m ∧ SignedI J' b' (seedH s (m + 1)) q Kt n e ∧ Sat G D J' w') := by
  have hmem : (rb, x.rc s m sg, 78) ∈ D := by
    rcases hD with rfl | ⟨c, rfl⟩
    · exact x.mem
    · exact .tail _ x.mem
  have hown : SlM G D J 2 (x.b 0) m x.ecs := by
    have h0 : SlM G (x.all rb s m y sg ++ M) J 2 (x.b 0) m x.ecs := (hx.hr.toM (M := x.Ld ++ (x.Ll ++ ((rb, x.rc s m sg, 78) :: x.c0 s m :: x.c1 s m y :: M))) hx.hec.1 (by decide)).mono fun w h => h.perm (by classical exact List.perm_iff_count.2 fun a => by simp only [RepoX.all, List.count_append, List.count_cons, List.count_nil]; ac_rfl)
    rcases hD with rfl | ⟨c, rfl⟩
    · exact h0
    · exact h0.mono fun w h => h.tail
  obtain ⟨l1, l2, l3⟩ := body_len hok hT
  exact C18r hmem (x.len hx.h32) (ap_part (i := 25) hx.h32 rfl) hm hown hx.hec l1 l2 l3 hx.htp hs
end
/-- What holds between two acts: the Repo, and what is trusted of it. -/
def TruJ (G : World) (M : List Chunk) (I : Imm) (s : List UInt8) (rb b8 n : Nat) (w : World) : Prop :=
  ∃ (J : Imm) (K B : List Tgt) (m y sg : Nat) (tp : Option TopT) (v : Nat) (ks : Nat → Value) (has : Bool) (a bt c : Int) (h0 : List UInt8) (s0 s1 : Int) (pv tg : Value),
    Le I J ∧ K.length ≤ 16 ∧ (∀ t, t ∈ K → t.ok) ∧ (∀ t, t ∈ K → soloB t = true) ∧ sortT K ∧ B.length ≤ 16 * n ∧ sg ≤ n ∧ m ≤ 16 ∧ 1 ≤ v ∧ v ≤ m + 1 ∧
    (∀ j, j < 4 → SlI J 32 (ks j) 1 (bcells (roleH (seedH s 0) (seedH s v) j))) ∧ h0.length = 32 ∧ (has = true → a ≤ (sg : Int) ∧ c ≤ (sg : Int)) ∧ PinOk J has pv (sg : Int) ∧
    RepoM G ((b8, trc v ks has a bt c h0 s0 s1 pv tg, 51) :: M) J rb s K B m y sg tp w
theorem PinOk.up {has : Bool} {pv : Value} {n n' : Int} (h : PinOk I has pv n) (hn : n ≤ n') : PinOk I has pv n' := by
  obtain ⟨A, k, c, h1, h2⟩ := h
  refine ⟨A, k, c, h1, fun hk => ?_⟩
  obtain ⟨h3, h4, x0, h5, h6⟩ := h2 hk
  exact ⟨h3, h4, x0, h5, Int.le_trans h6 hn⟩

theorem one1_trc {v : Nat} {ks : Nat → Value} {has : Bool} {a b c : Int} {h0 : List UInt8} {s0 s1 : Int} {pv tg : Value} (hk : ∀ j, j < 4 → (ks j).oneCell' = true) (hp : pv.oneCell' = true) (ht : tg.oneCell' = true) : one1 (trc v ks has a b c h0 s0 s1 pv tg) = true := by
  rw [trc, one1_append, one1_cons, one1_cons, one1_cons, one1_cons, one1_append, one1_bcells, one1_cons, one1_cons, one1_cons, one1_cons, one1_nil, hp, ht, ← rprog_four, one1_rprog hk]
  rfl
theorem fill51r {v : Int} {ks : Nat → Value} : fillL [(0, 10), (10, 1), (11, 35), (46, 3), (49, 1)] zl51 ([(0, aggL (rcells v 1073741824 ks))].map fun x => (x.1, x.2.cells.toList)) = some (rcells v 1073741824 ks ++ (.bool false :: .int .i64 0 :: .int .i64 0 :: .int .i64 0 :: (bcells z32 ++ [.int .i64 0, .int .i64 0, .slice none 0 0, .slice none 0 0]))) := by
  have c0 : (aggL (rcells v 1073741824 ks)).cells.toList = rcells v 1073741824 ks := cells_aggL _
  simp only [List.map_cons, List.map_nil, fillL, List.getElem?_cons_zero, c0]
  rw [if_pos ⟨rfl, by decide⟩]
  rfl

theorem C4 {seed : List UInt8} {v : Value} {L : List ActT} {life : Int} (h32 : seed.length = 32) (hL : L.length ≤ 2 ^ 50) (hw : ∀ a, a ∈ L → wideT a.t) (hv : SlM G M I 40 v L.length (L.flatMap acells)) (hs : Sat G M I w) : Calls Tryz.prog 4 #[aggL (bcells seed), v, .int .i64 life] w (Ret fun r w' => r = .bool true ∧ Sat G M I w') := by
  obtain ⟨A, c, rfl, hc⟩ := hv.shape
  refine enter3 Tryz.func4 rfl Tryz.ntmps4 rfl ?_
  repeat first | apply W.seq | apply W.region
  refine RL.e rfl rfl rfl (EF_boxA rfl rfl hs) ?_
  rintro r1 w1 ⟨b3, rfl, hs1⟩
  refine RL.p rfl rfl rfl (PV_assign rfl rfl) ?_
  refine RL.done (nxt ?_)
  repeat refine W.seq ?_
  refine W.cut (fun bq : Bool => [(21, .bool bq), (3, ptr b3 0), (1, .slice A L.length c), (2, .int .i64 life)]) (fun bq w => (bq = false → (∀ i a, i < 24 → L[i]? = some a → smallT a.t) ∧ 1 ≤ life ∧ life ≤ 1000) ∧ Sat G ((b3, bcells seed, 24) :: M) I w) ?_ ?_
  ·
    refine W.region ?_
    refine RL.p rfl rfl rfl (PV_move rfl rfl) ?_
    refine RL.e rfl rfl rfl (K1 rfl fn12 rfl (C12 hL hw (hv.mono fun _ h => h.tail) hs1)) ?_
    rintro r2 w2 ⟨⟨q, rfl, hsm⟩, hs2⟩
    refine RL.p rfl rfl rfl (PV_move rfl rfl) ?_
    refine RL.split 14 rfl (fun g1 => ?_) (fun g1 => ?_)
    ·
      refine RL.gk rfl rfl rfl rfl g1 rfl rfl rfl ?_
      refine RL.gk rfl rfl rfl rfl g1 rfl rfl rfl ?_
      refine RL.p rfl rfl rfl (PV_pickT rfl rfl g1 rfl) ?_
      refine RL.p rfl rfl rfl (PV_move rfl rfl) ?_
      refine RL.gk rfl rfl rfl rfl rfl rfl rfl rfl ?_
      refine RL.gk rfl rfl rfl rfl rfl rfl rfl rfl ?_
      refine RL.p rfl rfl rfl (PV_pickT rfl rfl rfl rfl) ?_
      exact RL.done (cut_end (F := (fun bq : Bool => [(21, .bool bq), (3, ptr b3 0), (1, .slice A L.length c), (2, .int .i64 life)])) (J := (fun bq w => (bq = false → (∀ i a, i < 24 → L[i]? = some a → smallT a.t) ∧ 1 ≤ life ∧ life ≤ 1000) ∧ Sat G ((b3, bcells seed, 24) :: M) I w)) _ (by repeat first | exact Sub.nil | refine Sub.cons rfl ?_) (by exact (by first | exact ⟨fun h => (by cases h), hs2⟩ | exact ⟨fun h => ⟨hsm g1, (by have := of_decide_eq_false g2; omega), (by have := of_decide_eq_false h; omega)⟩, hs2⟩)))
    ·
      refine RL.gp rfl rfl rfl rfl g1 rfl rfl rfl (PV_move rfl rfl) ?_
      refine RL.gp rfl rfl rfl rfl g1 rfl rfl rfl (PV_lss rfl rfl rfl) ?_
      refine RL.p rfl rfl rfl (PV_pickF rfl rfl g1 rfl) ?_
      refine RL.p rfl rfl rfl (PV_move rfl rfl) ?_
      refine RL.split 18 rfl (fun g2 => ?_) (fun g2 => ?_)
      ·
        refine RL.gk rfl rfl rfl rfl g2 rfl rfl rfl ?_
        refine RL.gk rfl rfl rfl rfl g2 rfl rfl rfl ?_
        refine RL.p rfl rfl rfl (PV_pickT rfl rfl g2 rfl) ?_
        exact RL.done (cut_end (F := (fun bq : Bool => [(21, .bool bq), (3, ptr b3 0), (1, .slice A L.length c), (2, .int .i64 life)])) (J := (fun bq w => (bq = false → (∀ i a, i < 24 → L[i]? = some a → smallT a.t) ∧ 1 ≤ life ∧ life ≤ 1000) ∧ Sat G ((b3, bcells seed, 24) :: M) I w)) _ (by repeat first | exact Sub.nil | refine Sub.cons rfl ?_) (by exact (by first | exact ⟨fun h => (by cases h), hs2⟩ | exact ⟨fun h => ⟨hsm g1, (by have := of_decide_eq_false g2; omega), (by have := of_decide_eq_false h; omega)⟩, hs2⟩)))
      ·
        refine RL.gp rfl rfl rfl rfl g2 rfl rfl rfl (PV_move rfl rfl) ?_
        refine RL.gp rfl rfl rfl rfl g2 rfl rfl rfl (PV_gtr rfl rfl rfl) ?_
        refine RL.p rfl rfl rfl (PV_pickF rfl rfl g2 rfl) ?_
        exact RL.done (cut_end (F := (fun bq : Bool => [(21, .bool bq), (3, ptr b3 0), (1, .slice A L.length c), (2, .int .i64 life)])) (J := (fun bq w => (bq = false → (∀ i a, i < 24 → L[i]? = some a → smallT a.t) ∧ 1 ≤ life ∧ life ≤ 1000) ∧ Sat G ((b3, bcells seed, 24) :: M) I w)) _ (by repeat first | exact Sub.nil | refine Sub.cons rfl ?_) (by exact (by first | exact ⟨fun h => (by cases h), hs2⟩ | exact ⟨fun h => ⟨hsm g1, (by have := of_decide_eq_false g2; omega), (by have := of_decide_eq_false h; omega)⟩, hs2⟩)))
  rintro bq w101 ⟨hF0, hs101⟩
  refine nxt ?_
  repeat first | apply W.seq | apply W.region
  refine W.cond rfl (fun h1 => ?_) (fun h1 => ?_)
  ·
    repeat first | apply W.seq | apply W.region
    refine RL.p rfl rfl rfl (PV_assign rfl rfl) ?_
    refine RL.done (nxt ?_)
    repeat first | apply W.seq | apply W.region
    exact W.ret (ret_tmp rfl rfl ⟨_, rfl, rfl, hs101.tail⟩)
  refine W.skip (nxt ?_)
  repeat first | apply W.seq | apply W.region
  obtain ⟨hsm0, hl1, hl2⟩ := hF0 h1
  obtain ⟨lf, rfl⟩ : ∃ lf : Nat, life = (lf : Int) := ⟨life.toNat, by omega⟩
  refine RL.s rfl rfl rfl (PV_loadMA (r := bcells seed) rfl ag24 sz24 rfl m0 (by rw [length_bcells, h32]; decide) (part_whole (by rw [length_bcells, h32]))) hs101 ?_
  refine RL.e rfl rfl rfl (K1 rfl fn7 rfl (M7 h32 hs101)) ?_
  rintro r102 w102 ⟨J102, rb, hj102, rfl, hs102⟩
  refine RL.p rfl rfl rfl (PV_assign rfl rfl) ?_
  refine RL.done (nxt ?_)
  repeat first | apply W.seq | apply W.region
  refine RL.p rfl rfl rfl (PV_move rfl rfl) ?_
  refine RL.p rfl rfl rfl (PV_eqnil rfl Tryz.underlying27 rfl rfl) ?_
  refine RL.done (nxt ?_)
  repeat first | apply W.seq | apply W.region
  refine W.cond rfl (fun h2 => ?_) (fun h2 => ?_)
  · cases h2
  refine W.skip (nxt ?_)
  repeat first | apply W.seq | apply W.region
  refine RL.p rfl rfl rfl (PV_move rfl rfl) ?_
  refine RL.e rfl rfl rfl (K1 rfl fn13 rfl (M13 hs102)) ?_
  rintro r103 w103 ⟨J103, kk103, hj103, rfl, hkk103, hs103⟩
  obtain ⟨Y, hsY, wand⟩ := hs103.open
  refine RL.p rfl rfl rfl (PV_buildS (cs := trc 1 kk103 false 0 0 0 z32 0 0 (.slice none 0 0) (.slice none 0 0)) rfl pl51 zr51 rfl fill51r) ?_
  refine RL.e rfl rfl rfl (EF_allocA rfl zr51 hsY) ?_
  rintro r104 w104 ⟨b8, rfl, hs104⟩
  refine RL.e0 rfl rfl (EF_storeA (cs := zl51) rfl rfl rfl sz51 (by rw [length_trc rfl]; rfl) (one1_trc (fun j hj => (hkk103 j hj).cell) rfl rfl) hs104 (by first | exact u0 | exact u1 | exact u2 | exact u3 | exact u4 | exact u5 | exact u0.app | exact u1.app | exact u2.app | exact u3.app)) ?_
  rintro r105 w105 hs105
  refine RL.done (nxt ?_)
  repeat first | apply W.seq | apply W.region
  refine RL.p rfl rfl rfl (PV_assign rfl rfl) ?_
  refine RL.done (nxt ?_)
  repeat first | apply W.seq | apply W.region
  refine W.block ?_
  repeat first | apply W.seq | apply W.region
  refine W.loop (F := fun i : Nat => [(9, .int .i64 (i : Int)), (8, ptr b8 0), (7, ptr rb 0), (1, .slice A L.length c), (2, .int .i64 (lf : Int))]) (J := fun i w => i ≤ L.length ∧ i ≤ 24 ∧ TruJ G ((b3, bcells seed, 24) :: M) I seed rb b8 i w) (m := fun i => 24 - i) 0 (by repeat first | exact Sub.nil | refine Sub.cons rfl ?_) ⟨by omega, by omega, J103, [], [], 0, 0, 0, none, 1, kk103, false, 0, 0, 0, z32, 0, 0, .slice none 0 0, .slice none 0 0, hj102.trans hj103, by decide, (fun t h => by cases h), (fun t h => by cases h), sortT_nil, by decide, by decide, by decide, by decide, by decide, hkk103, rfl, (fun h => by cases h), ⟨none, 0, 0, rfl, fun h => absurd h (by decide)⟩, wand _ _ _ (Le.refl _) hs105.mid⟩ ?_
  rintro i w106 ⟨hiL, hi24, J, K, B, m, y, sg, tp, vv, ks, has, a0, bt, c0, h0, s0, s1, pv, tg, hj, hK, hok, hso, hsort, hB, hsg, hm, hv1, hvm, hks, hh0, hhas, hpin, hs106⟩
  repeat refine W.seq ?_
  refine W.cut (fun b : Bool => [(36, .bool b), (9, .int .i64 (i : Int)), (8, ptr b8 0), (7, ptr rb 0), (1, .slice A L.length c), (2, .int .i64 (lf : Int))]) (fun b w => (b = true → i < L.length ∧ i < 24) ∧ (b = false → L.length ≤ i ∨ 24 ≤ i) ∧ RepoM G ((b8, trc vv ks has a0 bt c0 h0 s0 s1 pv tg, 51) :: (b3, bcells seed, 24) :: M) J rb seed K B m y sg tp w) ?_ ?_
  ·
    refine W.region ?_
    refine RL.p rfl rfl rfl (PV_move rfl rfl) ?_
    refine RL.p rfl rfl rfl (PV_move rfl rfl) ?_
    refine RL.p rfl rfl rfl (PV_len rfl Tryz.underlying35 rfl) ?_
    refine RL.p rfl rfl rfl (PV_lss rfl rfl rfl) ?_
    refine RL.p rfl rfl rfl (PV_move rfl rfl) ?_
    refine RL.split 33 rfl (fun g3 => ?_) (fun g3 => ?_)
    ·
      refine RL.gp rfl rfl rfl rfl g3 rfl rfl rfl (PV_move rfl rfl) ?_
      refine RL.gp rfl rfl rfl rfl g3 rfl rfl rfl (PV_lss rfl rfl rfl) ?_
      refine RL.p rfl rfl rfl (PV_pickT rfl rfl g3 rfl) ?_
      exact RL.done (cut_end (F := (fun b : Bool => [(36, .bool b), (9, .int .i64 (i : Int)), (8, ptr b8 0), (7, ptr rb 0), (1, .slice A L.length c), (2, .int .i64 (lf : Int))])) (J := (fun b w => (b = true → i < L.length ∧ i < 24) ∧ (b = false → L.length ≤ i ∨ 24 ≤ i) ∧ RepoM G ((b8, trc vv ks has a0 bt c0 h0 s0 s1 pv tg, 51) :: (b3, bcells seed, 24) :: M) J rb seed K B m y sg tp w)) _ (by repeat first | exact Sub.nil | refine Sub.cons rfl ?_) (by exact (by first | exact ⟨fun h => ⟨by have := of_decide_eq_true g3; omega, by have := of_decide_eq_true h; omega⟩, fun h => .inr (by have := of_decide_eq_false h; omega), hs106⟩ | exact ⟨fun h => (by cases h), fun _ => .inl (by have := of_decide_eq_false g3; omega), hs106⟩)))
    ·
      refine RL.gk rfl rfl rfl rfl g3 rfl rfl rfl ?_
      refine RL.gk rfl rfl rfl rfl g3 rfl rfl rfl ?_
      refine RL.p rfl rfl rfl (PV_pickF rfl rfl g3 rfl) ?_
      exact RL.done (cut_end (F := (fun b : Bool => [(36, .bool b), (9, .int .i64 (i : Int)), (8, ptr b8 0), (7, ptr rb 0), (1, .slice A L.length c), (2, .int .i64 (lf : Int))])) (J := (fun b w => (b = true → i < L.length ∧ i < 24) ∧ (b = false → L.length ≤ i ∨ 24 ≤ i) ∧ RepoM G ((b8, trc vv ks has a0 bt c0 h0 s0 s1 pv tg, 51) :: (b3, bcells seed, 24) :: M) J rb seed K B m y sg tp w)) _ (by repeat first | exact Sub.nil | refine Sub.cons rfl ?_) (by exact (by first | exact ⟨fun h => ⟨by have := of_decide_eq_true g3; omega, by have := of_decide_eq_true h; omega⟩, fun h => .inr (by have := of_decide_eq_false h; omega), hs106⟩ | exact ⟨fun h => (by cases h), fun _ => .inl (by have := of_decide_eq_false g3; omega), hs106⟩)))
  rintro q24 w206 ⟨hT24, hF24, hs206⟩
  refine nxt ?_
  repeat first | apply W.seq | apply W.region
  refine W.cond rfl (fun h3 => ?_) (fun h3 => ?_)
  ·
    obtain ⟨hin, hin24⟩ := hT24 h3
    obtain ⟨bb, off, c', he, _, hmem⟩ := hv.elem (by omega)
    obtain ⟨rfl, rfl⟩ : A = some ⟨bb, off, none⟩ ∧ c = c' := by simpa using he
    obtain ⟨a, hai⟩ : ∃ x, L[i]? = some x := ⟨_, List.getElem?_eq_getElem hin⟩
    have ham := act_mem hmem hai
    have htm := act_tgt hmem hai
    refine W.skip (nxt ?_)
    repeat first | apply W.seq | apply W.region
    refine W.cut (fun _ : Unit => [(9, .int .i64 (i : Int)), (8, ptr b8 0), (7, ptr rb 0), (1, .slice (some ⟨bb, off, none⟩) L.length c), (2, .int .i64 (lf : Int))]) (fun _ w => TruJ G ((b3, bcells seed, 24) :: M) I seed rb b8 (i + 1) w) ?_ ?_
    ·
      repeat first | apply W.seq | apply W.region
      refine W.block ?_
      repeat first | apply W.seq | apply W.region
      refine RL.p rfl rfl rfl (PV_move rfl rfl) ?_
      refine RL.p rfl rfl rfl (PV_move rfl rfl) ?_
      refine RL.p rfl rfl rfl (PV_indexAddr (i := i) rfl Tryz.underlying35 sz53 rfl rfl rfl (by omega)) ?_
      refine RL.p rfl rfl rfl (by first | exact PV_fieldAddr0 rfl rfl fa53_0 | exact PV_fieldAddr rfl rfl fa53_0) ?_
      refine RL.s rfl rfl rfl (PV_loadMem1 (j := 0) rfl ag3 rfl (fun _ h => ((h.sat.tail.tail).le hj)) ham ac_0) hs206 ?_
      refine RL.done (nxt ?_)
      repeat first | apply W.seq | apply W.region
      refine W.block ?_
      repeat first | apply W.seq | apply W.region
      refine RL.p rfl rfl rfl (PV_eqi rfl rfl rfl) ?_
      refine RL.p rfl rfl rfl (PV_assign rfl rfl) ?_
      refine RL.done (nxt ?_)
      repeat first | apply W.seq | apply W.region
      refine W.cond rfl (fun h4 => ?_) (fun h4 => ?_)
      ·
        repeat first | apply W.seq | apply W.region
        refine RL.p rfl rfl rfl (PV_move rfl rfl) ?_
        refine RL.p rfl rfl rfl (PV_move rfl rfl) ?_
        refine RL.p rfl rfl rfl (PV_move rfl rfl) ?_
        refine RL.p rfl rfl rfl (PV_indexAddr (i := i) rfl Tryz.underlying35 sz53 rfl rfl rfl (by omega)) ?_
        refine RL.p rfl rfl rfl (by first | exact PV_fieldAddr0 rfl rfl fa53_1 | exact PV_fieldAddr rfl rfl fa53_1) ?_
        refine RL.s rfl rfl rfl (PV_loadMemA (j := 1) rfl ag26 sz26 rfl (fun _ h => ((h.sat.tail.tail).le hj)) ham (by rw [length_acells]; decide) ac_t) hs206 ?_
        refine RL.e rfl rfl rfl (K2 rfl fn8 rfl rfl (M8 (hsm0 i a hin24 hai).ok (by omega) hs206)) ?_
        rintro r207 w207 ⟨e, Kq, rfl, hpub, hs207⟩
        refine RL.done (cut_end (F := (fun _ : Unit => [(9, .int .i64 (i : Int)), (8, ptr b8 0), (7, ptr rb 0), (1, .slice (some ⟨bb, off, none⟩) L.length c), (2, .int .i64 (lf : Int))])) (J := (fun _ w => TruJ G ((b3, bcells seed, 24) :: M) I seed rb b8 (i + 1) w)) () ?_ ?_)
        · repeat first | exact Sub.nil | refine Sub.cons rfl ?_
        · exact ⟨J, Kq, B, m, y, sg, tp, vv, ks, has, a0, bt, c0, h0, s0, s1, pv, tg, hj, (hpub.good hsort hK).2.1, fun t ht => (hpub.mem ht).elim (hok t) (fun h => h.1 ▸ (hsm0 i a hin24 hai).ok), fun t ht => (hpub.mem ht).elim (hso t) (fun h => by rw [h.1]; exact h.2), (hpub.good hsort hK).1, by omega, by omega, hm, hv1, hvm, hks, hh0, hhas, hpin, hs207⟩
      ·
        repeat first | apply W.seq | apply W.region
        refine RL.p rfl rfl rfl (PV_eqi rfl rfl rfl) ?_
        refine RL.p rfl rfl rfl (PV_assign rfl rfl) ?_
        refine RL.done (nxt ?_)
        repeat first | apply W.seq | apply W.region
        refine W.cond rfl (fun h5 => ?_) (fun h5 => ?_)
        ·
          repeat first | apply W.seq | apply W.region
          refine W.drawsH hs206.sat [(0, true), (1, true), (2, true), (3, true), (4, true), (5, true), (6, true), (7, true), (8, false), (9, false), (10, false), (11, false), (12, false), (13, false)] mixed (by kernel_rfl) (by kernel_rfl) ?_
          have hs207 := hs206.drew
          refine TW.p rfl rfl rfl rfl (PV_move rfl rfl) (hs207.sat) ?_
          refine TW.p rfl rfl rfl rfl (PV_move rfl rfl) (hs207.sat) ?_
          refine TW.p rfl rfl rfl rfl (PV_move rfl rfl) (hs207.sat) ?_
          refine TW.p rfl rfl rfl rfl (PV_indexAddr (i := i) rfl Tryz.underlying35 sz53 rfl rfl rfl (by omega)) (hs207.sat) ?_
          refine TW.p rfl rfl rfl rfl (by first | exact PV_fieldAddr0 rfl rfl fa53_1 | exact PV_fieldAddr rfl rfl fa53_1) (hs207.sat) ?_
          refine TW.p rfl rfl rfl rfl (by first | exact PV_fieldAddr0 rfl rfl fa26_0 | exact PV_fieldAddr rfl rfl fa26_0) (hs207.sat) ?_
          refine TW.s rfl rfl rfl rfl (PV_loadMem1 (j := 0) rfl ag9 rfl (fun _ h => ((h.tail.tail).le hj)) htm tc_0) (hs207.sat) ?_
          refine TW.p rfl rfl rfl rfl (PV_move rfl rfl) (hs207.sat) ?_
          refine TW.q rfl rfl rfl rfl (T := fun _ => True) (PV_move rfl rfl) trivial (fun _ => (hs207.sat)) ?_
          refine TW.q rfl rfl rfl rfl (T := fun _ => True) (PV_indexAddr (i := i) rfl Tryz.underlying35 sz53 rfl rfl rfl (by omega)) trivial (fun _ => (hs207.sat)) ?_
          refine TW.q rfl rfl rfl rfl (T := fun _ => True) (by first | exact PV_fieldAddr0 rfl rfl fa53_1 | exact PV_fieldAddr rfl rfl fa53_1) trivial (fun _ => (hs207.sat)) ?_
          refine TW.q rfl rfl rfl rfl (T := fun _ => True) (by first | exact PV_fieldAddr0 rfl rfl fa26_5 | exact PV_fieldAddr rfl rfl fa26_5) trivial (fun _ => (hs207.sat)) ?_
          refine TW.q rfl rfl rfl rfl (PV_loadMem1 (j := 36) rfl ag9 rfl (fun _ h => ((h.sat.tail.tail).le hj)) htm tc_36) hs207 (fun _ => (hs207.sat)) ?_
          refine TW.e rfl rfl rfl rfl (K3 rfl fn14 rfl rfl rfl (M14 (by omega) hs207)) ?_
          rintro r208 w208 ⟨e, Kq, rfl, hrem, hs208⟩
          refine ⟨(hs208.sat), ?_⟩
          refine TW.done (cut_end (F := (fun _ : Unit => [(9, .int .i64 (i : Int)), (8, ptr b8 0), (7, ptr rb 0), (1, .slice (some ⟨bb, off, none⟩) L.length c), (2, .int .i64 (lf : Int))])) (J := (fun _ w => TruJ G ((b3, bcells seed, 24) :: M) I seed rb b8 (i + 1) w)) () ?_ ?_)
          · repeat first | exact Sub.nil | refine Sub.cons rfl ?_
          · exact ⟨J, Kq, B, m, y, sg, tp, vv, ks, has, a0, bt, c0, h0, s0, s1, pv, tg, hj, (hrem.good hsort hK).2, fun t ht => hok t (hrem.mem ht), fun t ht => hso t (hrem.mem ht), (hrem.good hsort hK).1, by omega, by omega, hm, hv1, hvm, hks, hh0, hhas, hpin, hs208⟩
        ·
          repeat first | apply W.seq | apply W.region
          refine RL.p rfl rfl rfl (PV_eqi rfl rfl rfl) ?_
          refine RL.p rfl rfl rfl (PV_assign rfl rfl) ?_
          refine RL.done (nxt ?_)
          repeat first | apply W.seq | apply W.region
          refine W.cond rfl (fun h6 => ?_) (fun h6 => ?_)
          ·
            repeat first | apply W.seq | apply W.region
            refine RL.p rfl rfl rfl (PV_move rfl rfl) ?_
            refine RL.e rfl rfl rfl (K1 rfl fn15 rfl (M15d hm hs206)) ?_
            rintro r207 w207 ⟨J3, m2, y2, ev, hj3, rfl, hm1, hm2, hs207⟩
            refine RL.done (cut_end (F := (fun _ : Unit => [(9, .int .i64 (i : Int)), (8, ptr b8 0), (7, ptr rb 0), (1, .slice (some ⟨bb, off, none⟩) L.length c), (2, .int .i64 (lf : Int))])) (J := (fun _ w => TruJ G ((b3, bcells seed, 24) :: M) I seed rb b8 (i + 1) w)) () ?_ ?_)
            · repeat first | exact Sub.nil | refine Sub.cons rfl ?_
            · exact ⟨J3, K, B, m2, y2, sg, tp, vv, ks, has, a0, bt, c0, h0, s0, s1, pv, tg, hj.trans hj3, hK, hok, hso, hsort, by omega, by omega, hm2, hv1, by omega, fun j h => (hks j h).le hj3, hh0, hhas, hpin.le hj3, hs207⟩
          ·
            repeat first | apply W.seq | apply W.region
            refine RL.p rfl rfl rfl (PV_move rfl rfl) ?_
            refine RL.p rfl rfl rfl (PV_move rfl rfl) ?_
            refine RL.p rfl rfl rfl (PV_move rfl rfl) ?_
            refine RL.e rfl rfl rfl (K3 rfl fn16 rfl rfl rfl (M16d (by omega) (by omega) (by omega) (by omega) hok hs206)) ?_
            rintro r207 w207 ⟨J3, e, B2, y2, sg2, tp2, hj3, rfl, hcase, hs207⟩
            refine RL.p rfl rfl rfl (PV_nei rfl rfl rfl) ?_
            refine RL.done (nxt ?_)
            repeat first | apply W.seq | apply W.region
            refine W.cond rfl (fun h7 => ?_) (fun h7 => ?_)
            ·
              repeat first | apply W.seq | apply W.region
              refine W.exit (cut_end (F := (fun _ : Unit => [(9, .int .i64 (i : Int)), (8, ptr b8 0), (7, ptr rb 0), (1, .slice (some ⟨bb, off, none⟩) L.length c), (2, .int .i64 (lf : Int))])) (J := (fun _ w => TruJ G ((b3, bcells seed, 24) :: M) I seed rb b8 (i + 1) w)) () ?_ ?_)
              · repeat first | exact Sub.nil | refine Sub.cons rfl ?_
              · exact (by
                  rcases hcase with ⟨h, _⟩ | ⟨_, h2, h3⟩
                  · rw [h] at h7; exact absurd (of_decide_eq_true h7) (by decide)
                  · subst h2 h3
                    exact ⟨J3, K, B2, m, y2, sg2, tp2, vv, ks, has, a0, bt, c0, h0, s0, s1, pv, tg, hj.trans hj3, hK, hok, hso, hsort, by omega, by omega, hm, hv1, hvm, fun j h => (hks j h).le hj3, hh0, hhas, hpin.le hj3, hs207⟩)
            refine W.skip (nxt ?_)
            repeat first | apply W.seq | apply W.region
            obtain ⟨rfl, hB2e, hsge, hy13, htpe⟩ : e = 0 ∧ B2 = B ++ K ∧ sg2 = sg + 1 ∧ y ≤ 13 ∧ tp2 = (some ⟨seedH seed (m + 1), y, K, ((sg : Int) + 1), ((i : Int) + (lf : Int))⟩) := by
              rcases hcase with h | ⟨h, _⟩
              · exact h
              · rw [h] at h7; exact absurd (of_decide_eq_false h7) (by decide)
            subst hB2e hsge htpe
            have hT : targetsB topS ((sg : Int) + 1) ((i : Int) + (lf : Int)) K = true := targetsB_all hK hso hsort (by simp only [isVersionB, Bool.and_eq_true, decide_eq_true_eq]; omega) (by simp only [isNumB, Bool.and_eq_true, decide_eq_true_eq]; omega)
            obtain ⟨x, hx, hs207⟩ := hs207
            refine W.cut (fun z : Nat => [(10, ptr z 0), (11, .int .i64 0), (9, .int .i64 (i : Int)), (8, ptr b8 0), (7, ptr rb 0), (1, .slice (some ⟨bb, off, none⟩) L.length c), (2, .int .i64 (lf : Int))]) (fun z w => ∃ (J5 : Imm) (ks5 : Nat → Value) (kv5 tg5 lv5 : Value) (hh5 : List UInt8), Le J3 J5 ∧ hh5.length = 32 ∧ (∀ j, j < 4 → SlI J5 32 (ks5 j) 1 (bcells (roleH (seedH seed 0) (seedH seed (m + 1)) j))) ∧ PinOk J5 true kv5 ((sg : Int) + 1) ∧ SlI J5 5 tg5 1 [.string topS, .int .i64 ((sg : Int) + 1), .int .i64 ((i : Int) + (lf : Int)), lv5, .slice none 0 0] ∧ SlI J5 37 lv5 K.length (lcells K) ∧ RepoM G ((z, trc (m + 1) ks5 true ((sg : Int) + 1) ((i : Int) + (lf : Int)) ((sg : Int) + 1) hh5 ((sg : Int) + 1) ((i : Int) + (lf : Int)) kv5 tg5, 51) :: (b8, trc vv ks has a0 bt c0 h0 s0 s1 pv tg, 51) :: (b3, bcells seed, 24) :: M) J5 rb seed K (B ++ K) m y2 (sg + 1) (some ⟨seedH seed (m + 1), y, K, ((sg : Int) + 1), ((i : Int) + (lf : Int))⟩) w) ?_ ?_
            ·
              refine W.drawsF hs207.drop (.fork [(0, true), (1, true), (3, true)] 2 8 (.fork [] 4 8 (.fin [(5, true), (6, true), (7, true), (8, false), (9, false), (10, false)]) (.fin [(4, false), (5, false), (6, true), (7, true), (9, false), (10, false)])) (.fin [(2, false), (4, false), (5, false), (6, true), (7, true), (9, false), (10, false)])) [(0, true), (1, true), (3, true), (5, true), (6, true), (7, true)] mixed (by kernel_rfl) (by kernel_rfl) ?_
              have hs208 := hs207.drew
              refine TW.s rfl rfl rfl rfl (PV_loadMA (r := trc vv ks has a0 bt c0 h0 s0 s1 pv tg) rfl ag51 sz51 rfl m0 (by rw [length_trc hh0]; decide) (part_whole (length_trc hh0))) (hs208.drop) ?_
              refine TW.p rfl rfl rfl rfl (PV_move rfl rfl) (hs208.drop) ?_
              refine TW.p rfl rfl rfl rfl (PV_move rfl rfl) (hs208.drop) ?_
              refine TW.fork ?_ ?_
              ·
                refine TW.e rfl rfl rfl rfl (K1 rfl fn18 rfl (C18x hx (.inl rfl) hm hok hT hs208)) ?_
                rintro r209 w209 ⟨J209, rv209, ec209, bn209, hj209, rfl, hr209, he209, hb209, hs209⟩
                refine ⟨(hs209.drop.le hj209), ?_⟩
                refine TW.fork ?_ ?_
                ·
                  refine TW.e rfl rfl rfl rfl (K3 rfl fn17 rfl rfl rfl (C17s hh0 hv1 hvm hm (fun j h => (hks j h).le (hj3.trans hj209)) hr209 he209 (by omega) hb209 hok hT (fun h => by have := hhas h; omega) ((hpin.le (hj3.trans hj209)).up (by omega)) (by omega) (by omega) hs209)) ?_
                  rintro r210 w210 ⟨J210, ks210, kv210, tg210, lv210, hh210, hj210, rfl, hhl210, hks210, hpin210, htg210, hlv210, hkc210, hs210⟩
                  refine ⟨(hs210.drop.le (hj209.trans hj210)), ?_⟩
                  refine TW.p rfl rfl rfl rfl (PV_move rfl rfl) (hs210.drop.le (hj209.trans hj210)) ?_
                  refine TW.p rfl rfl rfl rfl (PV_extract rfl rfl rfl) (hs210.drop.le (hj209.trans hj210)) ?_
                  refine TW.p rfl rfl rfl rfl (PV_extract rfl rfl rfl) (hs210.drop.le (hj209.trans hj210)) ?_
                  refine TW.e rfl rfl rfl rfl (EF_allocA rfl zr51 hs210) ?_
                  rintro r211 w211 ⟨b10, rfl, hs211⟩
                  refine ⟨(hs211.tail.drop.le (hj209.trans hj210)), ?_⟩
                  refine TW.e0 rfl rfl rfl (EF_storeA (cs := zl51) rfl rfl rfl sz51 (by rw [length_trc hhl210]; rfl) (one1_trc (fun j hj => (hks210 j hj).cell) hkc210 htg210.cell) hs211 (by first | exact u0 | exact u1 | exact u2 | exact u3 | exact u4 | exact u5 | exact u0.app | exact u1.app | exact u2.app | exact u3.app)) ?_
                  rintro r212 w212 hs212
                  refine ⟨(hs212.tail.drop.le (hj209.trans hj210)), ?_⟩
                  refine TW.qn rfl rfl rfl rfl (T := fun _ => True) (PV_assign rfl rfl) trivial (by kernel_rfl) ?_
                  exact TW.done (cut_end (F := (fun z : Nat => [(10, ptr z 0), (11, .int .i64 0), (9, .int .i64 (i : Int)), (8, ptr b8 0), (7, ptr rb 0), (1, .slice (some ⟨bb, off, none⟩) L.length c), (2, .int .i64 (lf : Int))])) (J := (fun z w => ∃ (J5 : Imm) (ks5 : Nat → Value) (kv5 tg5 lv5 : Value) (hh5 : List UInt8), Le J3 J5 ∧ hh5.length = 32 ∧ (∀ j, j < 4 → SlI J5 32 (ks5 j) 1 (bcells (roleH (seedH seed 0) (seedH seed (m + 1)) j))) ∧ PinOk J5 true kv5 ((sg : Int) + 1) ∧ SlI J5 5 tg5 1 [.string topS, .int .i64 ((sg : Int) + 1), .int .i64 ((i : Int) + (lf : Int)), lv5, .slice none 0 0] ∧ SlI J5 37 lv5 K.length (lcells K) ∧ RepoM G ((z, trc (m + 1) ks5 true ((sg : Int) + 1) ((i : Int) + (lf : Int)) ((sg : Int) + 1) hh5 ((sg : Int) + 1) ((i : Int) + (lf : Int)) kv5 tg5, 51) :: (b8, trc vv ks has a0 bt c0 h0 s0 s1 pv tg, 51) :: (b3, bcells seed, 24) :: M) J5 rb seed K (B ++ K) m y2 (sg + 1) (some ⟨seedH seed (m + 1), y, K, ((sg : Int) + 1), ((i : Int) + (lf : Int))⟩) w)) _ (by repeat first | exact Sub.nil | refine Sub.cons rfl ?_) (by exact (by first | exact ⟨J210, ks210, kv210, tg210, lv210, hh210, hj209.trans hj210, hhl210, hks210, hpin210, htg210, hlv210, ⟨x, hx.le (hj209.trans hj210), hs212.mid⟩⟩ | exact ⟨J211, ks211, kv211, tg211, lv211, hh211, hj209.trans hj211, hhl211, hks211, hpin211, htg211, hlv211, ⟨x, hx.le (hj209.trans hj211), hs212.mid⟩⟩ | exact ⟨J211, ks211, kv211, tg211, lv211, hh211, hj210.trans hj211, hhl211, hks211, hpin211, htg211, hlv211, ⟨x, hx.le (hj210.trans hj211), hs212.mid⟩⟩)))
                ·
                  refine TW.e rfl rfl rfl rfl (EF_allocA rfl zr51 hs209) ?_
                  rintro r210 w210 ⟨b10, rfl, hs210⟩
                  refine ⟨(hs210.tail.drop.le hj209), ?_⟩
                  refine TW.e rfl rfl rfl rfl (K3 rfl fn17 rfl rfl rfl (C17s hh0 hv1 hvm hm (fun j h => (hks j h).le (hj3.trans hj209)) hr209 he209 (by omega) hb209 hok hT (fun h => by have := hhas h; omega) ((hpin.le (hj3.trans hj209)).up (by omega)) (by omega) (by omega) hs210)) ?_
                  rintro r211 w211 ⟨J211, ks211, kv211, tg211, lv211, hh211, hj211, rfl, hhl211, hks211, hpin211, htg211, hlv211, hkc211, hs211⟩
                  refine ⟨(hs211.tail.drop.le (hj209.trans hj211)), ?_⟩
                  refine TW.q rfl rfl rfl rfl (T := fun _ => True) (PV_move rfl rfl) trivial (fun _ => (hs211.tail.drop.le (hj209.trans hj211))) ?_
                  refine TW.p rfl rfl rfl rfl (PV_extract rfl rfl rfl) (hs211.tail.drop.le (hj209.trans hj211)) ?_
                  refine TW.p rfl rfl rfl rfl (PV_extract rfl rfl rfl) (hs211.tail.drop.le (hj209.trans hj211)) ?_
                  refine TW.e0 rfl rfl rfl (EF_storeA (cs := zl51) rfl rfl rfl sz51 (by rw [length_trc hhl211]; rfl) (one1_trc (fun j hj => (hks211 j hj).cell) hkc211 htg211.cell) hs211 (by first | exact u0 | exact u1 | exact u2 | exact u3 | exact u4 | exact u5 | exact u0.app | exact u1.app | exact u2.app | exact u3.app)) ?_
                  rintro r212 w212 hs212
                  refine ⟨(hs212.tail.drop.le (hj209.trans hj211)), ?_⟩
                  refine TW.qn rfl rfl rfl rfl (T := fun _ => True) (PV_assign rfl rfl) trivial (by kernel_rfl) ?_
                  exact TW.done (cut_end (F := (fun z : Nat => [(10, ptr z 0), (11, .int .i64 0), (9, .int .i64 (i : Int)), (8, ptr b8 0), (7, ptr rb 0), (1, .slice (some ⟨bb, off, none⟩) L.length c), (2, .int .i64 (lf : Int))])) (J := (fun z w => ∃ (J5 : Imm) (ks5 : Nat → Value) (kv5 tg5 lv5 : Value) (hh5 : List UInt8), Le J3 J5 ∧ hh5.length = 32 ∧ (∀ j, j < 4 → SlI J5 32 (ks5 j) 1 (bcells (roleH (seedH seed 0) (seedH seed (m + 1)) j))) ∧ PinOk J5 true kv5 ((sg : Int) + 1) ∧ SlI J5 5 tg5 1 [.string topS, .int .i64 ((sg : Int) + 1), .int .i64 ((i : Int) + (lf : Int)), lv5, .slice none 0 0] ∧ SlI J5 37 lv5 K.length (lcells K) ∧ RepoM G ((z, trc (m + 1) ks5 true ((sg : Int) + 1) ((i : Int) + (lf : Int)) ((sg : Int) + 1) hh5 ((sg : Int) + 1) ((i : Int) + (lf : Int)) kv5 tg5, 51) :: (b8, trc vv ks has a0 bt c0 h0 s0 s1 pv tg, 51) :: (b3, bcells seed, 24) :: M) J5 rb seed K (B ++ K) m y2 (sg + 1) (some ⟨seedH seed (m + 1), y, K, ((sg : Int) + 1), ((i : Int) + (lf : Int))⟩) w)) _ (by repeat first | exact Sub.nil | refine Sub.cons rfl ?_) (by exact (by first | exact ⟨J210, ks210, kv210, tg210, lv210, hh210, hj209.trans hj210, hhl210, hks210, hpin210, htg210, hlv210, ⟨x, hx.le (hj209.trans hj210), hs212.mid⟩⟩ | exact ⟨J211, ks211, kv211, tg211, lv211, hh211, hj209.trans hj211, hhl211, hks211, hpin211, htg211, hlv211, ⟨x, hx.le (hj209.trans hj211), hs212.mid⟩⟩ | exact ⟨J211, ks211, kv211, tg211, lv211, hh211, hj210.trans hj211, hhl211, hks211, hpin211, htg211, hlv211, ⟨x, hx.le (hj210.trans hj211), hs212.mid⟩⟩)))
              ·
                refine TW.e rfl rfl rfl rfl (EF_allocA rfl zr51 hs208) ?_
                rintro r209 w209 ⟨b10, rfl, hs209⟩
                refine ⟨(hs209.tail.drop), ?_⟩
                refine TW.e rfl rfl rfl rfl (K1 rfl fn18 rfl (C18x hx (.inr ⟨_, rfl⟩) hm hok hT hs209)) ?_
                rintro r210 w210 ⟨J210, rv210, ec210, bn210, hj210, rfl, hr210, he210, hb210, hs210⟩
                refine ⟨(hs210.tail.drop.le hj210), ?_⟩
                refine TW.e rfl rfl rfl rfl (K3 rfl fn17 rfl rfl rfl (C17s hh0 hv1 hvm hm (fun j h => (hks j h).le (hj3.trans hj210)) hr210 he210 (by omega) hb210 hok hT (fun h => by have := hhas h; omega) ((hpin.le (hj3.trans hj210)).up (by omega)) (by omega) (by omega) hs210)) ?_
                rintro r211 w211 ⟨J211, ks211, kv211, tg211, lv211, hh211, hj211, rfl, hhl211, hks211, hpin211, htg211, hlv211, hkc211, hs211⟩
                refine ⟨(hs211.tail.drop.le (hj210.trans hj211)), ?_⟩
                refine TW.q rfl rfl rfl rfl (T := fun _ => True) (PV_move rfl rfl) trivial (fun _ => (hs211.tail.drop.le (hj210.trans hj211))) ?_
                refine TW.p rfl rfl rfl rfl (PV_extract rfl rfl rfl) (hs211.tail.drop.le (hj210.trans hj211)) ?_
                refine TW.p rfl rfl rfl rfl (PV_extract rfl rfl rfl) (hs211.tail.drop.le (hj210.trans hj211)) ?_
                refine TW.e0 rfl rfl rfl (EF_storeA (cs := zl51) rfl rfl rfl sz51 (by rw [length_trc hhl211]; rfl) (one1_trc (fun j hj => (hks211 j hj).cell) hkc211 htg211.cell) hs211 (by first | exact u0 | exact u1 | exact u2 | exact u3 | exact u4 | exact u5 | exact u0.app | exact u1.app | exact u2.app | exact u3.app)) ?_
                rintro r212 w212 hs212
                refine ⟨(hs212.tail.drop.le (hj210.trans hj211)), ?_⟩
                refine TW.qn rfl rfl rfl rfl (T := fun _ => True) (PV_assign rfl rfl) trivial (by kernel_rfl) ?_
                exact TW.done (cut_end (F := (fun z : Nat => [(10, ptr z 0), (11, .int .i64 0), (9, .int .i64 (i : Int)), (8, ptr b8 0), (7, ptr rb 0), (1, .slice (some ⟨bb, off, none⟩) L.length c), (2, .int .i64 (lf : Int))])) (J := (fun z w => ∃ (J5 : Imm) (ks5 : Nat → Value) (kv5 tg5 lv5 : Value) (hh5 : List UInt8), Le J3 J5 ∧ hh5.length = 32 ∧ (∀ j, j < 4 → SlI J5 32 (ks5 j) 1 (bcells (roleH (seedH seed 0) (seedH seed (m + 1)) j))) ∧ PinOk J5 true kv5 ((sg : Int) + 1) ∧ SlI J5 5 tg5 1 [.string topS, .int .i64 ((sg : Int) + 1), .int .i64 ((i : Int) + (lf : Int)), lv5, .slice none 0 0] ∧ SlI J5 37 lv5 K.length (lcells K) ∧ RepoM G ((z, trc (m + 1) ks5 true ((sg : Int) + 1) ((i : Int) + (lf : Int)) ((sg : Int) + 1) hh5 ((sg : Int) + 1) ((i : Int) + (lf : Int)) kv5 tg5, 51) :: (b8, trc vv ks has a0 bt c0 h0 s0 s1 pv tg, 51) :: (b3, bcells seed, 24) :: M) J5 rb seed K (B ++ K) m y2 (sg + 1) (some ⟨seedH seed (m + 1), y, K, ((sg : Int) + 1), ((i : Int) + (lf : Int))⟩) w)) _ (by repeat first | exact Sub.nil | refine Sub.cons rfl ?_) (by exact (by first | exact ⟨J210, ks210, kv210, tg210, lv210, hh210, hj209.trans hj210, hhl210, hks210, hpin210, htg210, hlv210, ⟨x, hx.le (hj209.trans hj210), hs212.mid⟩⟩ | exact ⟨J211, ks211, kv211, tg211, lv211, hh211, hj209.trans hj211, hhl211, hks211, hpin211, htg211, hlv211, ⟨x, hx.le (hj209.trans hj211), hs212.mid⟩⟩ | exact ⟨J211, ks211, kv211, tg211, lv211, hh211, hj210.trans hj211, hhl211, hks211, hpin211, htg211, hlv211, ⟨x, hx.le (hj210.trans hj211), hs212.mid⟩⟩)))
            rintro z w307 ⟨J5, ks5, kv5, tg5, lv5, hh5, hj5, hhl5, hks5, hpin5, htg5, hlv5, hs307⟩
            obtain ⟨gb, go, gc, rfl, hgc, hgm⟩ := htg5.mem (by decide)
            have hkc5 : kv5.oneCell' = true := by obtain ⟨_, _, _, rfl, _⟩ := hpin5; rfl
            refine nxt ?_
            repeat first | apply W.seq | apply W.region
            refine W.drawsH hs307.sat [(0, false), (1, false), (2, false), (3, false), (4, false), (5, false), (6, false), (7, false), (8, false), (9, true), (10, true), (11, true), (12, true), (13, true), (14, false), (15, false), (16, false), (17, false), (18, false)] mixed (by kernel_rfl) (by kernel_rfl) ?_
            have hs308 := hs307.drew
            refine TW.q rfl rfl rfl rfl (T := fun _ => True) (PV_move rfl rfl) trivial (fun _ => (hs308.sat)) ?_
            refine TW.q rfl rfl rfl rfl (T := fun _ => True) (PV_nei rfl rfl rfl) trivial (fun _ => (hs308.sat)) ?_
            refine TW.q rfl rfl rfl rfl (T := fun _ => True) (PV_move rfl rfl) trivial (fun _ => (hs308.sat)) ?_
            refine TW.split 59 rfl (fun g4 => by exact absurd (of_decide_eq_true g4) (by decide)) (fun g4 => ?_)
            refine TW.gq rfl rfl rfl rfl rfl g4 rfl rfl rfl (T := fun _ => True) (by first | exact PV_fieldAddr0 rfl rfl fa51_4 | exact PV_fieldAddr rfl rfl fa51_4) trivial (fun _ => (hs308.sat)) ?_
            refine TW.gq rfl rfl rfl rfl rfl g4 rfl rfl rfl (PV_loadM1 rfl ag49 rfl m0 (trc_tg hhl5)) (hs308.sat) (fun _ => (hs308.sat)) ?_
            refine TW.gq rfl rfl rfl rfl rfl g4 rfl rfl rfl (T := fun _ => True) (PV_len rfl Tryz.underlying49 rfl) trivial (fun _ => (hs308.sat)) ?_
            refine TW.gq rfl rfl rfl rfl rfl g4 rfl rfl rfl (T := fun _ => True) (PV_nei rfl rfl rfl) trivial (fun _ => (hs308.sat)) ?_
            refine TW.q rfl rfl rfl rfl (T := fun _ => True) (PV_pickF rfl rfl g4 rfl) trivial (fun _ => (hs308.sat)) ?_
            refine TW.q rfl rfl rfl rfl (T := fun _ => True) (PV_move rfl rfl) trivial (fun _ => (hs308.sat)) ?_
            refine TW.split 65 rfl (fun g5 => by exact absurd (of_decide_eq_true g5) (by decide)) (fun g5 => ?_)
            refine TW.gp rfl rfl rfl rfl rfl g5 rfl rfl rfl (by first | exact PV_fieldAddr0 rfl rfl fa51_4 | exact PV_fieldAddr rfl rfl fa51_4) (hs308.sat) ?_
            refine TW.gs rfl rfl rfl rfl rfl g5 rfl rfl rfl (PV_loadM1 rfl ag49 rfl m0 (trc_tg hhl5)) (hs308.sat) ?_
            refine TW.gp rfl rfl rfl rfl rfl g5 rfl rfl rfl (PV_indexAddr (i := 0) rfl Tryz.underlying49 sz70 rfl rfl rfl (by omega)) (hs308.sat) ?_
            refine TW.gp rfl rfl rfl rfl rfl g5 rfl rfl rfl (by first | exact PV_fieldAddr0 rfl rfl fa70_3 | exact PV_fieldAddr rfl rfl fa70_3) (hs308.sat) ?_
            refine TW.gs rfl rfl rfl rfl rfl g5 rfl rfl rfl (PV_loadMem1 (j := 3) rfl ag22 rfl (fun _ h => h) (hgm _ _) rfl) (hs308.sat) ?_
            refine TW.gq rfl rfl rfl rfl rfl g5 rfl rfl rfl (T := fun _ => True) (PV_move rfl rfl) trivial (fun _ => (hs308.sat)) ?_
            refine TW.ge rfl rfl rfl rfl rfl g5 rfl rfl rfl (K1 rfl fn9 rfl (M9 (by omega) hs308)) ?_
            rintro r309 w309 ⟨J309, hj309, htv, hs309⟩
            obtain ⟨Y, hsY, wand⟩ := hs309.open
            refine ⟨(hs309.sat.le hj309), ?_⟩
            refine TW.ge rfl rfl rfl rfl rfl g5 rfl rfl rfl (K2 rfl fn19 rfl rfl (C19 (K := K) (by omega) (hlv5.le hj309).toM htv.toM hsY)) ?_
            rintro r310 w310 ⟨rfl, hs310⟩
            refine ⟨(hs310.drop.le hj309), ?_⟩
            refine TW.gq rfl rfl rfl rfl rfl g5 rfl rfl rfl (T := fun _ => True) (PV_not rfl rfl) trivial (fun _ => (hs310.drop.le hj309)) ?_
            refine TW.q rfl rfl rfl rfl (T := fun _ => True) (PV_pickF rfl rfl g5 rfl) trivial (fun _ => (hs310.drop.le hj309)) ?_
            refine TW.done (nxt ?_)
            repeat first | apply W.seq | apply W.region
            refine W.cond rfl (fun h8 => ?_) (fun h8 => ?_)
            · cases h8
            refine W.skip (nxt ?_)
            repeat first | apply W.seq | apply W.region
            refine RL.s rfl rfl rfl (PV_loadMA (r := trc (m + 1) ks5 true ((sg : Int) + 1) ((i : Int) + (lf : Int)) ((sg : Int) + 1) hh5 ((sg : Int) + 1) ((i : Int) + (lf : Int)) kv5 (.slice (some ⟨gb, go, none⟩) 1 gc)) rfl ag51 sz51 rfl (mapp m0) (by rw [length_trc hhl5]; decide) (part_whole (length_trc hhl5))) hs310 ?_
            refine RL.e0 rfl rfl (EF_storeA (cs := trc vv ks has a0 bt c0 h0 s0 s1 pv tg) rfl rfl rfl (by rw [length_trc hh0]; exact sz51) (by rw [length_trc hhl5, length_trc hh0]) (one1_trc (fun j hj => (hks5 j hj).cell) hkc5 rfl) hs310 (by first | exact u0 | exact u1 | exact u2 | exact u3 | exact u4 | exact u5 | exact u0.app | exact u1.app | exact u2.app | exact u3.app)) ?_
            rintro r311 w311 hs311
            refine RL.done (cut_end (F := (fun _ : Unit => [(9, .int .i64 (i : Int)), (8, ptr b8 0), (7, ptr rb 0), (1, .slice (some ⟨bb, off, none⟩) L.length c), (2, .int .i64 (lf : Int))])) (J := (fun _ w => TruJ G ((b3, bcells seed, 24) :: M) I seed rb b8 (i + 1) w)) () ?_ ?_)
            · repeat first | exact Sub.nil | refine Sub.cons rfl ?_
            · exact ⟨J309, K, B ++ K, m, y2, sg + 1, (some ⟨seedH seed (m + 1), y, K, ((sg : Int) + 1), ((i : Int) + (lf : Int))⟩), m + 1, ks5, true, ((sg : Int) + 1), ((i : Int) + (lf : Int)), ((sg : Int) + 1), hh5, ((sg : Int) + 1), ((i : Int) + (lf : Int)), kv5, .slice (some ⟨gb, go, none⟩) 1 gc, hj.trans (hj3.trans (hj5.trans hj309)), hK, hok, hso, hsort, (by rw [List.length_append]; omega), by omega, hm, by omega, by omega, fun j h => (hks5 j h).le hj309, hhl5, (fun _ => by omega), (hpin5.le hj309).up (by omega), wand _ _ _ (Le.refl _) (hs311.del (Del.app x0))⟩
    rintro _ w306 hs306
    refine nxt ?_
    repeat first | apply W.seq | apply W.region
    refine RL.p rfl rfl rfl (PV_move rfl rfl) ?_
    refine RL.p rfl rfl rfl (PV_add rfl rfl rfl (by omega)) ?_
    refine RL.p rfl rfl rfl (PV_assign rfl rfl) ?_
    refine RL.done (round_end (i + 1) ?_ ?_ ?_)
    · repeat first | exact Sub.nil | refine Sub.cons rfl ?_
    · exact ⟨by omega, by omega, hs306⟩
    · first | omega | (dsimp only; omega)
  repeat first | apply W.seq | apply W.region
  refine W.exit (nxt ?_)
  repeat first | apply W.seq | apply W.region
  refine RL.e rfl rfl rfl (K0 rfl fn11 (C11 hs206.sat)) ?_
  rintro r207 w207 ⟨rfl, hs207⟩
  refine RL.p rfl rfl rfl (PV_assign rfl rfl) ?_
  refine RL.done (nxt ?_)
  repeat first | apply W.seq | apply W.region
  exact W.ret (ret_tmp rfl rfl ⟨_, rfl, rfl, (hs207.tail.tail).le hj⟩)

end Go.Proofs.YtecbpmgfikgoaaaGreatDoor
