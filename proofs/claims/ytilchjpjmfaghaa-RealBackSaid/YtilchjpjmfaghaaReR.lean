/- chapter 01: Print. -/
import Derived.Test.YtilchjpjmfaghaaReQ
import Derived.Test.YtilchjpjmfaghaaReG
namespace Go.Proofs.Ytilchjpjmfaghaa.T3
set_option linter.unusedSimpArgs false
set_option linter.unusedVariables false
open Go.RowKit Go.Shelf
attribute [local go_sem] Oper.semAt_some
set_option maxHeartbeats 4000000
set_option maxRecDepth 100000
/-- how many digits a number has, less one -/
def kd (n : Int) : Nat := if n < 10 then 0 else if n < 100 then 1 else if n < 1000 then 2 else if n < 10000 then 3 else 4
theorem kd_has {n : Int} (h0 : 0 ≤ n) (h1 : n ≤ 32768) : hasD n (kd n) := by
  unfold kd hasD
  split
  · omega
  split
  · omega
  split
  · omega
  split
  · omega
  · omega
def wds (n : Int) : List Int := upto (wd n (kd n)) (kd n + 1)
def prM (a : Int) : List Int := (if a < 0 then [45] else []) ++ wds ((if a < 0 then -a else a) / 65536) ++ [46] ++ ff 17 ((if a < 0 then -a else a) % 65536)
def prS (a : Int) : ByteArray := ⟨((prM a).map fun x => UInt8.ofNat x.toNat).toArray⟩
theorem ff_oct : ∀ (k : Nat) (f : Int), 0 ≤ f → f < 65536 → ∀ x ∈ ff k f, 0 ≤ x ∧ x ≤ 255
  | 0, _, _, _ => fun x hx => absurd hx (by simp [ff])
  | k + 1, f, h0, h1 => by
    intro x hx
    simp only [ff, List.mem_cons] at hx
    rcases hx with rfl | hx
    · omega
    · split at hx
      · exact ff_oct k _ (by omega) (by omega) x hx
      · simp at hx
theorem prM_oct {a : Int} (ha : -2147483648 ≤ a ∧ a ≤ 2147483648) : ∀ x ∈ prM a, 0 ≤ x ∧ x ≤ 255 := by
  intro x hx
  unfold prM at hx
  rcases List.mem_append.1 hx with hx | hx
  · rcases List.mem_append.1 hx with hx | hx
    · rcases List.mem_append.1 hx with hx | hx
      · split at hx
        · simp at hx; omega
        · simp at hx
      · obtain ⟨j, _, rfl⟩ := List.mem_map.1 hx
        unfold wd
        omega
    · simp at hx; omega
  · exact ff_oct 17 _ (by omega) (by omega) x hx
theorem cells_oct : ∀ {M : List Int}, (∀ x ∈ M, 0 ≤ x ∧ x ≤ 255) → u8s M = Lib.byteCells (M.map fun x => UInt8.ofNat x.toNat)
  | [], _ => rfl
  | x :: M, h => by
    have hx := h x (by simp)
    have ih := cells_oct (M := M) (fun y hy => h y (by simp [hy]))
    have h2 : x.toNat % 256 = x.toNat := Nat.mod_eq_of_lt (by omega)
    have h3 : ((UInt8.ofNat x.toNat).toNat : Int) = x := by simp [h2]; omega
    simp only [u8s, Lib.byteCells, List.map_cons] at ih ⊢
    rw [ih, h3]
theorem prM_cells {a : Int} (ha : -2147483648 ≤ a ∧ a ≤ 2147483648) : u8s (prM a) = Lib.byteCells ((prM a).map fun x => UInt8.ofNat x.toNat) := cells_oct (prM_oct ha)
theorem own_builder {b : Nat} {M : List Int} {w0 : World} {B : Nat} (hB : B ≤ b) : OwnFrom w0.heap.size (fun (pre : List Int) W => Lib.IsBuilder 53 5 B b (u8s (M ++ pre)) W) := by
  have key : ∀ (p : Value) (bs : List Value) (A A' : World) (row : Option Nat), Lib.BuilderAt 53 5 B b p bs A → A.grownBy A' row → (∀ r, row = some r → w0.heap.size ≤ r ∧ ∃ o : Obj, A.heap[r]? = some o ∧ o.isCells = false) → Lib.BuilderAt 53 5 B b p bs A' := by
    rintro p bs A A' row ⟨h1, v, hb, hown, hne⟩ hg hr
    refine ⟨h1, v, rw_grown hg (fun e => ?_) hb, hown.kept hg ?_, hne⟩
    · obtain ⟨_, o, ho, hc⟩ := hr b e.symm
      rw [hb] at ho
      cases ho
      simp [Obj.isCells] at hc
    · cases hv : v.ownBlock with
      | none => exact .inl rfl
      | some k =>
        refine .inr fun e => ?_
        obtain ⟨_, o, ho, hc⟩ := hr k e.symm
        obtain ⟨c, fz, hk⟩ := Lib.ownsRowF_kind (World.ownsRowF_of hown) k hv
        rw [hk] at ho
        cases ho
        simp [Obj.isCells] at hc
  rintro pre A A' row hs hg hr
  rcases hs with h | h
  · exact .inl (key _ _ _ _ _ h hg hr)
  · exact .inr (key _ _ _ _ _ h hg hr)
theorem keeps_others {b : Nat} {W W' : World} (hsz : W.heap.size ≤ W'.heap.size) (hb : ∃ c t fz, W.heap[b]? = some (.cells c t fz)) (h : Lib.OthersKept 5 (some b) W W') : KeepsOthers W W' := by
  refine ⟨hsz, fun k o hk ho => h k o hk (fun e => ?_) (fun c fz e => ?_)⟩
  · cases e
    obtain ⟨c, t, fz, hc⟩ := hb
    rw [hk] at hc
    cases hc
    simp [Obj.isCells] at ho
  · subst e
    simp [Obj.isCells] at ho
theorem keeps_box (n : Int) (Bs : Nat) {B : Nat} : ∀ (W : World) (l : Nat) (o o' : Obj), B ≤ l → W.heap[l]? = some o → o.isCells = false → o.isWalk = false → KR n Bs W (W.putObj l o') := by
  intro W l o o' _ hl ho _ hbox
  have : Bs ≠ l := by
    rintro rfl
    rw [hbox] at hl
    cases hl
    simp [Obj.isCells] at ho
  exact (World.putObj_heap_other this).trans hbox
theorem print1_any (a : Int) (g : Nat) (w : World) (hg : w.heap[g]? = some (.cells #[.int .i64 a] 3 (0, 0))) (ha : -2147483648 ≤ a ∧ a ≤ 2147483648) :
    Calls Try.prog 51 #[.pointer (some ⟨g, 0, none⟩)] w fun e w' => e = .returned (.tuple #[.string (prS a), .int .i64 0, .int .i64 0]) ∧ Below w.heap.size w w' := by
  obtain ⟨ha1, ha2⟩ := ha
  have c0 := cel1 hg
  have hlg := rw_lt hg
  refine (callsIn_wide (n := 8)).1 ?_
  refine callsIn_of_wp_marks Try.func51 rfl trivial ?_ rfl
  simp only [Try.ntmps51, List.size_toArray, List.length_cons, List.length_nil, Nat.reduceAdd, Nat.reduceSub, Array.replicate_succ, Array.replicate_zero, List.push_toArray, List.append_toArray, List.nil_append, List.cons_append]
  by_cases hneg : a < 0
  · obtain ⟨p, hp⟩ : ∃ p, -a = p := ⟨_, rfl⟩
    have hp0 : 0 ≤ p ∧ p ≤ 2147483648 := by omega
    obtain ⟨hp1, hp2⟩ := hp0
    gi_wp2
    refine ⟨trivial, (callsIn_wide.2 (wb_any w.heap.size w.heap.size [] 45 _ (.inl ⟨Nat.le_refl _, .slice none 0 0, rw_new rfl, World.ownsRow_nil _ _ _ _, by simp [Value.ownBlock]⟩) (by simp) (by simp))).mono ?_⟩
    rintro e w1 ⟨rfl, hb1, hB1, hO1⟩
    have hB2 : RowKit.Below w.heap.size w w1 := (Below.alloc (Below.refl _ w) (Nat.le_refl _) _).trans hB1
    have hI1 : Lib.IsBuilder 53 5 w.heap.size w.heap.size (u8s ([45] ++ [])) w1 := .inr hb1
    clear hb1 hB1 hO1
    gi_wp2
    have hz2 : w.heap.size < w1.heap.size := by rcases hI1 with h | h <;> exact h.lt
    refine ⟨trivial, (whole_in Fence.wide 7 trivial rfl (p / 65536) w1).mono ?_⟩
    rintro e w2 ⟨rfl, hw2⟩
    have hbox : w2.heap[w1.heap.size]? = some (BO (p / 65536)) := by rw [hw2]; exact rw_new rfl
    have hB3 : RowKit.Below w.heap.size w w2 := by rw [hw2]; exact hB2.alloc (by omega) _
    have hI2 : Lib.IsBuilder 53 5 w.heap.size w.heap.size (u8s ([45] ++ [])) w2 := by
      have h := own_builder (b := w.heap.size) (M := [45]) (w0 := w1) (B := w.heap.size) (Nat.le_refl _)
      rw [hw2]
      exact h.alloc (s := []) _ hI1
    have hsz2 : w2.heap.size = w1.heap.size + 1 := by rw [hw2]; simp
    have Hsz2 := Lib.hid hsz2
    clear hw2 hsz2 hB2 hI1
    gi_wp2
    have hpk := kd_has (n := p / 65536) (by omega) (by omega)
    have hbB : w.heap.size ≠ w1.heap.size := by omega
    refine wpIn_rangeFunc_ownF (n := 8) rfl (by omega) (gf := 73) (lb := #[.pointer (some ⟨w1.heap.size, 0, none⟩)]) rfl trivial (enters_of Try.func73 (by kernel_rfl) rfl)
      (whole_stops Fence.wide 7 trivial rfl (by omega) w1.heap.size (kd (p / 65536)) (p / 65536) (by omega) (by omega) hpk w2 hbox) (fun h k hh => k (h hh)) (keeps_box (p / 65536) w1.heap.size) (Below.refl _ _) (fun _ => rfl)
      (fun pre W => Lib.IsBuilder 53 5 w.heap.size w.heap.size (u8s ([45] ++ pre)) W ∧ RowKit.Below w.heap.size w W ∧ pre.length ≤ 5)
      (fun _ _ _ => False)
      (OwnFrom.and (own_builder (Nat.le_refl _)) (OwnFrom.and (ownFrom_below (Nat.le_refl _) (by have := hB3.size; omega)) (fun _ _ _ _ h _ _ => h)))
      (fun _ _ _ _ _ h _ _ => h)
      ⟨hI2, hB3, by simp⟩
      (fun x => { tmps := #[.pointer (some ⟨g, 0, none⟩), .string ⟨#[]⟩, .int .i64 0, .int .i64 0, .pointer (some ⟨w.heap.size, 0, none⟩), .int .i64 p, .int .u8 x, undef, undef, .int .i64 a, .int .i64 a, .bool true, .nilIface, .int .i64 a, .int .i64 p, .int .i64 p, .int .i64 (p / 65536), .func (.func 73) #[] #[.pointer (some ⟨w1.heap.size, 0, none⟩)], .int .u8 x, undef, undef, undef, undef, undef, undef, undef, undef, undef, undef, undef, undef, undef, undef, undef, undef, undef, undef, undef, undef], defers := [] }) ?assign ?body ?done ?stop
    case assign =>
      intro l x W K hK
      gi_wp2
      exact hK
    case body =>
      rintro l pre x W ⟨hI, hB, hl⟩ hlen
      have hle := (kd_has (n := p / 65536) (by omega) (by omega)).1
      have hbl : ∃ c t fz, W.heap[w.heap.size]? = some (.cells c t fz) := by rcases hI with h | h <;> exact ⟨_, _, _, h.2.choose_spec.1⟩
      have hsz := hB.size
      gi_wp2
      refine ⟨trivial, (CallsIn.inRound l (callsIn_wide.2 (wb_any w.heap.size w.heap.size (u8s ([45] ++ pre)) x W hI (by simp [u8s]; omega) hsz))).mono ?_⟩
      rintro e W' ⟨rfl, hb', hB', hO'⟩
      gi_wp2
      refine ⟨keeps_others hB'.size hbl hO', fun hbox => hO' _ _ hbox (by simp; omega) (fun c fz e => by cases e), ⟨.inr ?_, hB.trans hB', by simp; omega⟩⟩
      rw [show u8s ([45] ++ (pre ++ [x])) = u8s ([45] ++ pre) ++ [.int .u8 x] by simp [u8s]]
      exact hb'
    case done =>
      rintro D ys W hD rfl ⟨hI, hB, hl⟩ hK
      have hsz := hB.size
      have hDb : D ≠ w.heap.size := by have := hB3.size; have := Hsz2.out; omega
      obtain ⟨WD, hWD⟩ : ∃ WD, upto (wd (p / 65536) (kd (p / 65536))) (kd (p / 65536) + 1) = WD := ⟨_, rfl⟩
      rw [hWD] at hI hl
      have HWD := Lib.hid hWD
      have hf0 : 0 ≤ p % 65536 ∧ p % 65536 < 65536 := by omega
      have hpm : (p : Int).tmod 65536 = p % 65536 := Int.tmod_eq_emod_of_nonneg (by omega)
      obtain ⟨f0, hf⟩ : ∃ f0, p % 65536 = f0 := ⟨_, rfl⟩
      rw [hf] at hf0 hpm
      have Hf := Lib.hid hf
      clear hWD hf hbox hI2 hpk hbB hz2
      gi_wp2
      refine ⟨trivial, (callsIn_wide.2 (wb_any w.heap.size w.heap.size (u8s ([45] ++ WD)) 46 W hI (by simp [u8s]; omega) hsz)).mono ?_⟩
      rintro e W2 ⟨rfl, hb2, hB2, hO2⟩
      have hK2 : W2.heap[D]? = some (.deferred (some [])) := hO2 _ _ hK (by simp; omega) (fun c fz e => by cases e)
      have hB4 := hB.trans hB2
      have hb3 : Lib.BuilderAt 53 5 w.heap.size w.heap.size (.pointer (some ⟨w.heap.size, 0, none⟩)) (u8s ([45] ++ WD ++ [46] ++ [])) W2 := by
        rw [show u8s ([45] ++ WD ++ [46] ++ []) = u8s ([45] ++ WD) ++ [.int .u8 46] by simp [u8s]]
        exact hb2
      clear hb2 hB2 hO2 hI hB hK hsz
      gi_wp2
      gi_loopw [7, 8] (fun v7 v8 wr => ∃ (pre : List Int) (f : Int) (fst : Bool) (j : Nat), v7 = .int .i64 f ∧ v8 = .bool fst ∧ FS f0 pre f fst j ∧ Lib.BuilderAt 53 5 w.heap.size w.heap.size (.pointer (some ⟨w.heap.size, 0, none⟩)) (u8s ([45] ++ WD ++ [46] ++ pre)) wr ∧ RowKit.Below w.heap.size w wr ∧ wr.heap[D]? = some (.deferred (some []))) (fun _ _ wr => 60 - blen w.heap.size wr)
      case atStart => exact ⟨[], f0, true, 0, rfl, rfl, FS.start hf0.1 hf0.2, hb3, hB4, hK2⟩
      case round =>
        clear hb3 hB4 hK2
        obtain ⟨pre, f, fst, j, rfl, rfl, hFS, hb, hB, hK⟩ := hrel
        have hsz := hB.size
        have hbl := blen_at hb
        by_cases hgo : 0 < f
        · obtain ⟨hf1, hf2⟩ := hFS.1
          have hst := FS.step hFS (by simp [*])
          have hj := FS.len hFS
          have hp5 : f * 10 / 65536 ≤ 9 := by omega
          have hp6 : 0 ≤ f * 10 / 65536 := by omega
          have Hst := Lib.hid hst
          have Hbl := Lib.hid hbl
          clear hst hbl hFS
          gi_wp2
          refine ⟨trivial, (callsIn_wide.2 (wb_any w.heap.size w.heap.size (u8s ([45] ++ WD ++ [46] ++ pre)) _ wr (.inr hb) (by simp [u8s]; omega) hsz)).mono ?_⟩
          rintro e W5 ⟨rfl, hb5, hB5, hO5⟩
          have hK5 : W5.heap[D]? = some (.deferred (some [])) := hO5 _ _ hK (by simp; omega) (fun c fz e => by cases e)
          have Hbl5 := Lib.hid (blen_at hb5)
          gi_wp2
          go_roundw
          case rel =>
            refine ⟨pre ++ [48 + f * 10 / 65536], f * 10 % 65536, false, j + 1, rfl, rfl, Hst.out, ?_, hB.trans hB5, hK5⟩
            rw [show u8s ([45] ++ WD ++ [46] ++ (pre ++ [48 + f * 10 / 65536])) = u8s ([45] ++ WD ++ [46] ++ pre) ++ [.int .u8 (48 + f * 10 / 65536)] by simp [u8s]]
            exact hb5
          case measure => rw [Hbl5.out, Hbl.out]; simp [u8s]; omega
        · cases fst
          · have hpre := FS.fin hFS (by simp; omega)
            have hf9 : f = 0 := by have := hFS.1; omega
            subst hf9
            have hall : [45] ++ WD ++ [46] ++ pre = prM a := by
              rw [hpre, ← HWD.out, ← Hf.out]
              unfold prM wds
              rw [if_pos hneg, if_pos hneg, hp]
            rw [hall, prM_cells ⟨ha1, ha2⟩] at hb
            clear hFS hbl hpre hall hgo
            gi_wp2
            refine ⟨trivial, (callsIn_wide.2 (Ytilchjpjmfaghaa.T3.bString_k w.heap.size w.heap.size _ wr (Lib.IsBuilderF.of (.inr hb)) hsz)).mono ?_⟩
            rintro e W6 ⟨rfl, hF6, hB6, hO6⟩
            have hK6 : W6.heap[D]? = some (.deferred (some [])) := hO6 _ _ hK (by simp; omega) (fun c fz e => by cases e)
            gi_wp2
            refine ⟨by simp, .inl ⟨_, _, rfl, run_takeDeferred hK6, ?_⟩⟩
            refine ⟨.tuple #[.string (prS a), .int .i64 0, .int .i64 0], by simp [results, Try.results51, go_sem, prS], rfl, ?_⟩
            exact (hB.trans hB6).trans (belowK_b (w := w) (Nat.le_refl _) W6 D _ _ (by have := hB3.size; omega) hK6 rfl rfl)
          · obtain ⟨hf1, hf2⟩ := hFS.1
            have hst := FS.step hFS (by simp [*])
            have hj := FS.len hFS
            have hp5 : f * 10 / 65536 ≤ 9 := by omega
            have hp6 : 0 ≤ f * 10 / 65536 := by omega
            have Hst := Lib.hid hst
            have Hbl := Lib.hid hbl
            clear hst hbl hFS
            gi_wp2
            refine ⟨trivial, (callsIn_wide.2 (wb_any w.heap.size w.heap.size (u8s ([45] ++ WD ++ [46] ++ pre)) _ wr (.inr hb) (by simp [u8s]; omega) hsz)).mono ?_⟩
            rintro e W5 ⟨rfl, hb5, hB5, hO5⟩
            have hK5 : W5.heap[D]? = some (.deferred (some [])) := hO5 _ _ hK (by simp; omega) (fun c fz e => by cases e)
            have Hbl5 := Lib.hid (blen_at hb5)
            gi_wp2
            go_roundw
            case rel =>
              refine ⟨pre ++ [48 + f * 10 / 65536], f * 10 % 65536, false, j + 1, rfl, rfl, Hst.out, ?_, hB.trans hB5, hK5⟩
              rw [show u8s ([45] ++ WD ++ [46] ++ (pre ++ [48 + f * 10 / 65536])) = u8s ([45] ++ WD ++ [46] ++ pre) ++ [.int .u8 (48 + f * 10 / 65536)] by simp [u8s]]
              exact hb5
            case measure => rw [Hbl5.out, Hbl.out]; simp [u8s]; omega
    case stop =>
      rintro D c pre W _ _ h _
      exact h.elim
  · have hneg2 : ¬ a < 0 := hneg
    gi_wp2
    obtain ⟨w1, hw1⟩ : ∃ w1, w1 = w.alloc (.cells #[.pointer none, .slice none 0 0] 53 (0, 0)) := ⟨_, rfl⟩
    have hB2 : RowKit.Below w.heap.size w w1 := by rw [hw1]; exact Below.alloc (Below.refl _ w) (Nat.le_refl _) _
    have hI1 : Lib.IsBuilder 53 5 w.heap.size w.heap.size (u8s ([] ++ [])) w1 := by rw [hw1]; exact (.inl ⟨Nat.le_refl _, .slice none 0 0, rw_new rfl, World.ownsRow_nil _ _ _ _, by simp [Value.ownBlock]⟩)
    have hz1 : w.heap.size < w1.heap.size := by rw [hw1]; simp
    rw [← hw1]
    clear hw1
    have hz2 : w.heap.size < w1.heap.size := by rcases hI1 with h | h <;> exact h.lt
    refine ⟨trivial, (whole_in Fence.wide 7 trivial rfl (a / 65536) w1).mono ?_⟩
    rintro e w2 ⟨rfl, hw2⟩
    have hbox : w2.heap[w1.heap.size]? = some (BO (a / 65536)) := by rw [hw2]; exact rw_new rfl
    have hB3 : RowKit.Below w.heap.size w w2 := by rw [hw2]; exact hB2.alloc (by omega) _
    have hI2 : Lib.IsBuilder 53 5 w.heap.size w.heap.size (u8s ([] ++ [])) w2 := by
      have h := own_builder (b := w.heap.size) (M := []) (w0 := w1) (B := w.heap.size) (Nat.le_refl _)
      rw [hw2]
      exact h.alloc (s := []) _ hI1
    have hsz2 : w2.heap.size = w1.heap.size + 1 := by rw [hw2]; simp
    have Hsz2 := Lib.hid hsz2
    clear hw2 hsz2 hB2 hI1
    gi_wp2
    have hpk := kd_has (n := a / 65536) (by omega) (by omega)
    have hbB : w.heap.size ≠ w1.heap.size := by omega
    refine wpIn_rangeFunc_ownF (n := 8) rfl (by omega) (gf := 73) (lb := #[.pointer (some ⟨w1.heap.size, 0, none⟩)]) rfl trivial (enters_of Try.func73 (by kernel_rfl) rfl)
      (whole_stops Fence.wide 7 trivial rfl (by omega) w1.heap.size (kd (a / 65536)) (a / 65536) (by omega) (by omega) hpk w2 hbox) (fun h k hh => k (h hh)) (keeps_box (a / 65536) w1.heap.size) (Below.refl _ _) (fun _ => rfl)
      (fun pre W => Lib.IsBuilder 53 5 w.heap.size w.heap.size (u8s ([] ++ pre)) W ∧ RowKit.Below w.heap.size w W ∧ pre.length ≤ 5)
      (fun _ _ _ => False)
      (OwnFrom.and (own_builder (Nat.le_refl _)) (OwnFrom.and (ownFrom_below (Nat.le_refl _) (by have := hB3.size; omega)) (fun _ _ _ _ h _ _ => h)))
      (fun _ _ _ _ _ h _ _ => h)
      ⟨hI2, hB3, by simp⟩
      (fun x => { tmps := #[.pointer (some ⟨g, 0, none⟩), .string ⟨#[]⟩, .int .i64 0, .int .i64 0, .pointer (some ⟨w.heap.size, 0, none⟩), .int .i64 a, .int .u8 x, undef, undef, .int .i64 a, .int .i64 a, .bool false, undef, undef, undef, .int .i64 a, .int .i64 (a / 65536), .func (.func 73) #[] #[.pointer (some ⟨w1.heap.size, 0, none⟩)], .int .u8 x, undef, undef, undef, undef, undef, undef, undef, undef, undef, undef, undef, undef, undef, undef, undef, undef, undef, undef, undef, undef], defers := [] }) ?assign ?body ?done ?stop
    case assign =>
      intro l x W K hK
      gi_wp2
      exact hK
    case body =>
      rintro l pre x W ⟨hI, hB, hl⟩ hlen
      have hle := (kd_has (n := a / 65536) (by omega) (by omega)).1
      have hbl : ∃ c t fz, W.heap[w.heap.size]? = some (.cells c t fz) := by rcases hI with h | h <;> exact ⟨_, _, _, h.2.choose_spec.1⟩
      have hsz := hB.size
      gi_wp2
      refine ⟨trivial, (CallsIn.inRound l (callsIn_wide.2 (wb_any w.heap.size w.heap.size (u8s ([] ++ pre)) x W hI (by simp [u8s]; omega) hsz))).mono ?_⟩
      rintro e W' ⟨rfl, hb', hB', hO'⟩
      gi_wp2
      refine ⟨keeps_others hB'.size hbl hO', fun hbox => hO' _ _ hbox (by simp; omega) (fun c fz e => by cases e), ⟨.inr ?_, hB.trans hB', by simp; omega⟩⟩
      rw [show u8s ([] ++ (pre ++ [x])) = u8s ([] ++ pre) ++ [.int .u8 x] by simp [u8s]]
      exact hb'
    case done =>
      rintro D ys W hD rfl ⟨hI, hB, hl⟩ hK
      have hsz := hB.size
      have hDb : D ≠ w.heap.size := by have := hB3.size; have := Hsz2.out; omega
      obtain ⟨WD, hWD⟩ : ∃ WD, upto (wd (a / 65536) (kd (a / 65536))) (kd (a / 65536) + 1) = WD := ⟨_, rfl⟩
      rw [hWD] at hI hl
      have HWD := Lib.hid hWD
      have hf0 : 0 ≤ a % 65536 ∧ a % 65536 < 65536 := by omega
      have hpm : (a : Int).tmod 65536 = a % 65536 := Int.tmod_eq_emod_of_nonneg (by omega)
      obtain ⟨f0, hf⟩ : ∃ f0, a % 65536 = f0 := ⟨_, rfl⟩
      rw [hf] at hf0 hpm
      have Hf := Lib.hid hf
      clear hWD hf hbox hI2 hpk hbB hz2
      gi_wp2
      refine ⟨trivial, (callsIn_wide.2 (wb_any w.heap.size w.heap.size (u8s ([] ++ WD)) 46 W hI (by simp [u8s]; omega) hsz)).mono ?_⟩
      rintro e W2 ⟨rfl, hb2, hB2, hO2⟩
      have hK2 : W2.heap[D]? = some (.deferred (some [])) := hO2 _ _ hK (by simp; omega) (fun c fz e => by cases e)
      have hB4 := hB.trans hB2
      have hb3 : Lib.BuilderAt 53 5 w.heap.size w.heap.size (.pointer (some ⟨w.heap.size, 0, none⟩)) (u8s ([] ++ WD ++ [46] ++ [])) W2 := by
        rw [show u8s ([] ++ WD ++ [46] ++ []) = u8s ([] ++ WD) ++ [.int .u8 46] by simp [u8s]]
        exact hb2
      clear hb2 hB2 hO2 hI hB hK hsz
      gi_wp2
      gi_loopw [7, 8] (fun v7 v8 wr => ∃ (pre : List Int) (f : Int) (fst : Bool) (j : Nat), v7 = .int .i64 f ∧ v8 = .bool fst ∧ FS f0 pre f fst j ∧ Lib.BuilderAt 53 5 w.heap.size w.heap.size (.pointer (some ⟨w.heap.size, 0, none⟩)) (u8s ([] ++ WD ++ [46] ++ pre)) wr ∧ RowKit.Below w.heap.size w wr ∧ wr.heap[D]? = some (.deferred (some []))) (fun _ _ wr => 60 - blen w.heap.size wr)
      case atStart => exact ⟨[], f0, true, 0, rfl, rfl, FS.start hf0.1 hf0.2, hb3, hB4, hK2⟩
      case round =>
        clear hb3 hB4 hK2
        obtain ⟨pre, f, fst, j, rfl, rfl, hFS, hb, hB, hK⟩ := hrel
        have hsz := hB.size
        have hbl := blen_at hb
        by_cases hgo : 0 < f
        · obtain ⟨hf1, hf2⟩ := hFS.1
          have hst := FS.step hFS (by simp [*])
          have hj := FS.len hFS
          have hp5 : f * 10 / 65536 ≤ 9 := by omega
          have hp6 : 0 ≤ f * 10 / 65536 := by omega
          have Hst := Lib.hid hst
          have Hbl := Lib.hid hbl
          clear hst hbl hFS
          gi_wp2
          refine ⟨trivial, (callsIn_wide.2 (wb_any w.heap.size w.heap.size (u8s ([] ++ WD ++ [46] ++ pre)) _ wr (.inr hb) (by simp [u8s]; omega) hsz)).mono ?_⟩
          rintro e W5 ⟨rfl, hb5, hB5, hO5⟩
          have hK5 : W5.heap[D]? = some (.deferred (some [])) := hO5 _ _ hK (by simp; omega) (fun c fz e => by cases e)
          have Hbl5 := Lib.hid (blen_at hb5)
          gi_wp2
          go_roundw
          case rel =>
            refine ⟨pre ++ [48 + f * 10 / 65536], f * 10 % 65536, false, j + 1, rfl, rfl, Hst.out, ?_, hB.trans hB5, hK5⟩
            rw [show u8s ([] ++ WD ++ [46] ++ (pre ++ [48 + f * 10 / 65536])) = u8s ([] ++ WD ++ [46] ++ pre) ++ [.int .u8 (48 + f * 10 / 65536)] by simp [u8s]]
            exact hb5
          case measure => rw [Hbl5.out, Hbl.out]; simp [u8s]; omega
        · cases fst
          · have hpre := FS.fin hFS (by simp; omega)
            have hf9 : f = 0 := by have := hFS.1; omega
            subst hf9
            have hall : [] ++ WD ++ [46] ++ pre = prM a := by
              rw [hpre, ← HWD.out, ← Hf.out]
              unfold prM wds
              rw [if_neg (by omega), if_neg (by omega)]
            rw [hall, prM_cells ⟨ha1, ha2⟩] at hb
            clear hFS hbl hpre hall hgo
            gi_wp2
            refine ⟨trivial, (callsIn_wide.2 (Ytilchjpjmfaghaa.T3.bString_k w.heap.size w.heap.size _ wr (Lib.IsBuilderF.of (.inr hb)) hsz)).mono ?_⟩
            rintro e W6 ⟨rfl, hF6, hB6, hO6⟩
            have hK6 : W6.heap[D]? = some (.deferred (some [])) := hO6 _ _ hK (by simp; omega) (fun c fz e => by cases e)
            gi_wp2
            refine ⟨by simp, .inl ⟨_, _, rfl, run_takeDeferred hK6, ?_⟩⟩
            refine ⟨.tuple #[.string (prS a), .int .i64 0, .int .i64 0], by simp [results, Try.results51, go_sem, prS], rfl, ?_⟩
            exact (hB.trans hB6).trans (belowK_b (w := w) (Nat.le_refl _) W6 D _ _ (by have := hB3.size; omega) hK6 rfl rfl)
          · obtain ⟨hf1, hf2⟩ := hFS.1
            have hst := FS.step hFS (by simp [*])
            have hj := FS.len hFS
            have hp5 : f * 10 / 65536 ≤ 9 := by omega
            have hp6 : 0 ≤ f * 10 / 65536 := by omega
            have Hst := Lib.hid hst
            have Hbl := Lib.hid hbl
            clear hst hbl hFS
            gi_wp2
            refine ⟨trivial, (callsIn_wide.2 (wb_any w.heap.size w.heap.size (u8s ([] ++ WD ++ [46] ++ pre)) _ wr (.inr hb) (by simp [u8s]; omega) hsz)).mono ?_⟩
            rintro e W5 ⟨rfl, hb5, hB5, hO5⟩
            have hK5 : W5.heap[D]? = some (.deferred (some [])) := hO5 _ _ hK (by simp; omega) (fun c fz e => by cases e)
            have Hbl5 := Lib.hid (blen_at hb5)
            gi_wp2
            go_roundw
            case rel =>
              refine ⟨pre ++ [48 + f * 10 / 65536], f * 10 % 65536, false, j + 1, rfl, rfl, Hst.out, ?_, hB.trans hB5, hK5⟩
              rw [show u8s ([] ++ WD ++ [46] ++ (pre ++ [48 + f * 10 / 65536])) = u8s ([] ++ WD ++ [46] ++ pre) ++ [.int .u8 (48 + f * 10 / 65536)] by simp [u8s]]
              exact hb5
            case measure => rw [Hbl5.out, Hbl.out]; simp [u8s]; omega
    case stop =>
      rintro D c pre W _ _ h _
      exact h.elim
end Go.Proofs.Ytilchjpjmfaghaa.T3
