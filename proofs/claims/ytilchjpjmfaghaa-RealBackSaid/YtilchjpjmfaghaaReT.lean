/- chapter 01: the reference's Print. -/
import Derived.Test.YtilchjpjmfaghaaReS
namespace Go.Proofs.Ytilchjpjmfaghaa.T3
set_option linter.unusedSimpArgs false
set_option linter.unusedVariables false
open Go.RowKit Go.Shelf
attribute [local go_sem] Oper.semAt_some
set_option maxHeartbeats 4000000
set_option maxRecDepth 100000
def bA (M : List Int) : ByteArray := ⟨(M.map fun x => UInt8.ofNat x.toNat).toArray⟩
theorem upto_step (n : Int) (i : Nat) : upto (wd n i) (i + 1) = (48 + n / 10 ^ i % 10) :: upto (wd n (i - 1)) i := by
  unfold upto
  rw [List.range_succ_eq_map, List.map_cons, List.map_map]
  congr 1
  refine List.map_congr_left fun j hj => ?_
  have := List.mem_range.1 hj
  simp only [Function.comp_apply, wd]
  rw [show i - (j + 1) = i - 1 - j by omega]
/-- the whole part's digits after i rounds -/
def WS (n : Int) (k : Nat) (M : List Int) (v : Int) (i : Nat) : Prop := i ≤ k + 1 ∧ M = upto (wd n (i - 1)) i ∧ v = n / 10 ^ i
theorem WS.start (n : Int) (k : Nat) : WS n k [] n 0 := ⟨by omega, rfl, by simp⟩
theorem WS.step {n : Int} {k : Nat} {M : List Int} {v : Int} {i : Nat} (hk : hasD n k) (h0 : 0 ≤ n) (h : WS n k M v i) (hg : 0 < v ∨ M = []) : WS n k ((48 + v % 10) :: M) (v / 10) (i + 1) := by
  obtain ⟨h1, rfl, rfl⟩ := h
  refine ⟨?_, ?_, ?_⟩
  · rcases Nat.lt_or_ge k i with h | h
    · exfalso
      obtain rfl : i = k + 1 := by omega
      rcases hg with h9 | h9
      · have : n / 10 ^ (k + 1) = 0 := Int.ediv_eq_zero_of_lt h0 hk.2.1
        omega
      · have := congrArg List.length h9
        simp [upto_length] at this
    · omega
  · rw [show i + 1 - 1 = i by omega, upto_step]
  · rw [Int.pow_succ, Int.ediv_ediv_of_nonneg (Int.le_of_lt (Int.pow_pos (by omega)))]
theorem WS.fin {n : Int} {k : Nat} {M : List Int} {v : Int} {i : Nat} (hk : hasD n k) (h0 : 0 ≤ n) (h : WS n k M v i) (hg : ¬ (0 < v ∨ M = [])) : M = upto (wd n k) (k + 1) := by
  obtain ⟨h1, rfl, rfl⟩ := h
  rcases Nat.lt_or_ge k i with h | h
  · obtain rfl : i = k + 1 := by omega
    rfl
  · exfalso
    apply hg
    rcases Nat.eq_zero_or_pos i with rfl | hi
    · right; rfl
    · left
      have hp : (10 : Int) ^ i ≤ 10 ^ k := by
        obtain ⟨hk4, _, _⟩ := hk
        rcases four5 hk4 with rfl | rfl | rfl | rfl | rfl <;> (rcases four5 (show i ≤ 4 by omega) with rfl | rfl | rfl | rfl | rfl <;> first | decide | omega)
      have h5 := hk.2.2 (by omega)
      have := (pw_bd (show i ≤ 4 by have := hk.1; omega)).1
      have := (Int.le_ediv_iff_mul_le (a := 1) (b := n) (c := (10 : Int) ^ i) (by omega)).2 (by omega)
      omega
def slen : Value → Nat
  | .string s => s.size
  | _ => 0
theorem bA_size (M : List Int) : (bA M).size = M.length := by simp [bA, ByteArray.size]
theorem bA_nil (M : List Int) : (bA M).toList.isEmpty = decide (M = []) := by
  rw [Lib.toList_data]
  cases M <;> simp [bA]
theorem conv1 (w : World) (x : Int) : (convert 35 9 (.slice (some ⟨w.heap.size, 0, none⟩) 1 1)).run Try.prog (w.alloc (.cells #[.int .u8 x] 5)) = .ok (.string (bA [x])) (w.alloc (.cells #[.int .u8 x] 5)) := by
  have h := run_convert_bytes_arg (P := Try.prog) (w.alloc (.cells #[.int .u8 x] 5)) 35 5 rfl rfl w.heap.size 0 1 1 [x] rfl (fun i hi => by
    obtain rfl : i = 0 := by omega
    rw [World.cell?_alloc_mark]
    rfl) 9 rfl
  exact h
theorem bA_cat (x : Int) (M : List Int) : bA [x] ++ bA M = bA (x :: M) := by
  apply ByteArray.ext
  simp [bA]
theorem bA_snoc (x : Int) (M : List Int) : bA M ++ bA [x] = bA (M ++ [x]) := by
  apply ByteArray.ext
  simp [bA]
theorem WS.len {n : Int} {k : Nat} {M : List Int} {v : Int} {i : Nat} (hk : hasD n k) (h : WS n k M v i) : M.length ≤ 5 := by
  rw [h.2.1, upto_length]
  have := h.1
  have := hk.1
  omega
theorem rprint_any (a : Int) (w : World) (ha : -2147483648 ≤ a ∧ a ≤ 2147483648) :
    Calls Try.prog 20 #[.int .i64 a] w fun e w' => e = .returned (.string (prS a)) ∧ Below w.heap.size w w' := by
  obtain ⟨ha1, ha2⟩ := ha
  by_cases hneg : a < 0
  · obtain ⟨p, hp⟩ : ∃ p, -a = p := ⟨_, rfl⟩
    have hp0 : 0 ≤ p ∧ p ≤ 2147483648 := by omega
    obtain ⟨hp1, hp2⟩ := hp0
    have hpm : (p : Int).tdiv 65536 = p / 65536 := Int.tdiv_eq_ediv_of_nonneg (by omega)
    have hpr : (p : Int).tmod 65536 = p % 65536 := Int.tmod_eq_emod_of_nonneg (by omega)
    have Hk := Lib.hid (kd_has (n := p / 65536) (by omega) (by omega))
    have hq : 0 ≤ p / 65536 ∧ p / 65536 ≤ 32768 := by omega
    obtain ⟨q, hqq⟩ : ∃ q, p / 65536 = q := ⟨_, rfl⟩
    rw [hqq] at hpm hq Hk
    have hf0 : 0 ≤ p % 65536 ∧ p % 65536 < 65536 := by omega
    obtain ⟨f0, hff⟩ : ∃ f0, p % 65536 = f0 := ⟨_, rfl⟩
    rw [hff] at hpr hf0
    have Hq := Lib.hid hqq
    have Hf := Lib.hid hff
    clear hqq hff
    go_enter Try.func20, Try.ntmps20
    go_wp2_with fail
    go_loopw [4, 5] (fun v4 v5 wr => ∃ (M : List Int) (v : Int) (i : Nat), v4 = .int .i64 v ∧ v5 = .string (bA M) ∧ WS q (kd q) M v i ∧ (0 ≤ v ∧ v ≤ 32768) ∧ Below w.heap.size w wr) (fun _ v5 _ => 60 - slen v5)
    case atStart => exact ⟨[], q, 0, rfl, rfl, WS.start _ _, hq, Below.refl _ _⟩
    case round =>
      obtain ⟨M, v, i, rfl, rfl, hW, ⟨hv0, hv1⟩, hB⟩ := hrel
      have hsz := hB.size
      have h1 : v.tdiv 10 = v / 10 := Int.tdiv_eq_ediv_of_nonneg hv0
      have h2 : v.tmod 10 = v % 10 := Int.tmod_eq_emod_of_nonneg hv0
      have hl := WS.len Hk.out hW
      have hs := bA_size M
      have he := bA_nil M
      by_cases hgo : 0 < v
      · clear he
        have hst := WS.step Hk.out hq.1 hW (.inl hgo)
        have Hst := Lib.hid hst
        clear hst hW
        have hcv := conv1 wr (48 + v % 10)
        have hcat := bA_cat (48 + v % 10) M
        have hs1 : (bA [48 + v % 10]).size = 1 := bA_size _
        go_wp2_with fail
        go_roundw
        case rel => exact ⟨_, _, _, rfl, rfl, Hst.out, by omega, hB.alloc hsz _⟩
        case measure => simp only [slen, bA_size, List.length_cons, List.length_nil]; omega
      · by_cases hM : M = []
        · have hst := WS.step Hk.out hq.1 hW (.inr hM)
          have Hst := Lib.hid hst
          clear hst hW
          have hcv := conv1 wr (48 + v % 10)
          have hcat := bA_cat (48 + v % 10) M
          have hs1 : (bA [48 + v % 10]).size = 1 := bA_size _
          subst hM
          have he2 : (bA []).toList.isEmpty = true := he
          clear he
          go_wp2_with fail
          go_roundw
          case rel => exact ⟨_, _, _, rfl, rfl, Hst.out, by omega, hB.alloc hsz _⟩
          case measure => simp only [slen, bA_size, List.length_cons, List.length_nil]; omega
        · have hfin := WS.fin Hk.out hq.1 hW (by simp [hM]; omega)
          have Hfin := Lib.hid hfin
          clear hfin hW
          have he2 : (bA M).toList.isEmpty = false := by rw [he]; simpa using hM
          clear he
          obtain ⟨P1, hP1⟩ : ∃ P1, [45] ++ M = P1 := ⟨_, rfl⟩
          obtain ⟨Q, hQ⟩ : ∃ Q, P1 ++ [46] = Q := ⟨_, rfl⟩
          have e1 : ({ data := #[45] } : ByteArray) ++ bA M = bA P1 := by rw [← hP1]; apply ByteArray.ext; simp [bA]
          have e2 : bA P1 ++ ({ data := #[46] } : ByteArray) = bA Q := by rw [← hQ]; exact bA_snoc 46 _
          have s1 : ({ data := #[45] } : ByteArray).size = 1 := rfl
          have s2 : ({ data := #[46] } : ByteArray).size = 1 := rfl
          have hp1l : P1.length ≤ 6 := by rw [← hP1]; simp; omega
          have hql : Q.length ≤ 7 := by rw [← hQ]; simp; omega
          have s3 := bA_size P1
          have HQ := Lib.hid hQ
          have HP := Lib.hid hP1
          clear hQ hP1
          go_wp2_with fail
          go_loopw [3, 6, 7] (fun v3 v6 v7 wr => ∃ (pre : List Int) (f : Int) (fst : Bool) (j : Nat), v3 = .string (bA (Q ++ pre)) ∧ v6 = .int .i64 f ∧ v7 = .int .i64 j ∧ FS f0 pre f fst j ∧ Below w.heap.size w wr) (fun v3 _ _ _ => 60 - slen v3)
          case atStart => exact ⟨[], f0, true, 0, by rw [List.append_nil], rfl, rfl, FS.start hf0.1 hf0.2, hB⟩
          case round =>
            clear hB hsz
            obtain ⟨pre, f, fst, j, rfl, rfl, rfl, hFS, hB⟩ := hrel
            have hsz := hB.size
            have hfst : fst = decide (j = 0) := hFS.2.2.2.2.1
            have hj0 : (((j : Nat) : Int) == 0) = fst := by rw [hfst]; by_cases h : j = 0 <;> simp [h]
            by_cases hg0 : 0 < f
            · cases fst
              · clear hfst
                have hst := FS.step hFS (by simp [*])
                obtain ⟨hf1, hf2⟩ := hFS.1
                have hj := FS.len hFS
                have hjj : j ≤ 17 := hFS.2.2.1
                have Hst := Lib.hid hst
                clear hst hFS
                have hm1 : (f * 10).tdiv 65536 = f * 10 / 65536 := Int.tdiv_eq_ediv_of_nonneg (by omega)
                have hm2 : (f * 10).tmod 65536 = f * 10 % 65536 := Int.tmod_eq_emod_of_nonneg (by omega)
                have hp5 : f * 10 / 65536 ≤ 9 := by omega
                have hp6 : 0 ≤ f * 10 / 65536 := by omega
                have hcv := conv1 wr (48 + f * 10 / 65536)
                have hcat : bA (Q ++ pre) ++ bA [48 + f * 10 / 65536] = bA (Q ++ (pre ++ [48 + f * 10 / 65536])) := by rw [bA_snoc, List.append_assoc]
                have hs1 : (bA [48 + f * 10 / 65536]).size = 1 := bA_size _
                have hs2 : (bA (Q ++ pre)).size = Q.length + pre.length := by rw [bA_size, List.length_append]
                go_wp2_with fail
                go_roundw
                case rel => exact ⟨pre ++ [48 + f * 10 / 65536], f * 10 % 65536, false, j + 1, rfl, rfl, by go_num, Hst.out, hB.alloc hsz _⟩
                case measure => simp [slen, bA_size]; omega
              · clear hfst
                have hst := FS.step hFS (by simp [*])
                obtain ⟨hf1, hf2⟩ := hFS.1
                have hj := FS.len hFS
                have hjj : j ≤ 17 := hFS.2.2.1
                have Hst := Lib.hid hst
                clear hst hFS
                have hm1 : (f * 10).tdiv 65536 = f * 10 / 65536 := Int.tdiv_eq_ediv_of_nonneg (by omega)
                have hm2 : (f * 10).tmod 65536 = f * 10 % 65536 := Int.tmod_eq_emod_of_nonneg (by omega)
                have hp5 : f * 10 / 65536 ≤ 9 := by omega
                have hp6 : 0 ≤ f * 10 / 65536 := by omega
                have hcv := conv1 wr (48 + f * 10 / 65536)
                have hcat : bA (Q ++ pre) ++ bA [48 + f * 10 / 65536] = bA (Q ++ (pre ++ [48 + f * 10 / 65536])) := by rw [bA_snoc, List.append_assoc]
                have hs1 : (bA [48 + f * 10 / 65536]).size = 1 := bA_size _
                have hs2 : (bA (Q ++ pre)).size = Q.length + pre.length := by rw [bA_size, List.length_append]
                go_wp2_with fail
                go_roundw
                case rel => exact ⟨pre ++ [48 + f * 10 / 65536], f * 10 % 65536, false, j + 1, rfl, rfl, by go_num, Hst.out, hB.alloc hsz _⟩
                case measure => simp [slen, bA_size]; omega
            · cases fst
              · have hpre := FS.fin hFS (by simp; omega)
                have hall : Q ++ pre = prM a := by
                  rw [hpre, ← HQ.out, ← HP.out, Hfin.out, ← Hq.out, ← Hf.out]
                  unfold prM wds
                  rw [if_pos hneg, if_pos hneg, hp]
                have Hall := Lib.hid hall
                clear hFS hpre hall hfst
                go_wp2_with fail
                go_ret
                exact ⟨by rw [Hall.out]; rfl, hB⟩
              · clear hfst
                have hst := FS.step hFS (by simp [*])
                obtain ⟨hf1, hf2⟩ := hFS.1
                have hj := FS.len hFS
                have hjj : j ≤ 17 := hFS.2.2.1
                have Hst := Lib.hid hst
                clear hst hFS
                have hm1 : (f * 10).tdiv 65536 = f * 10 / 65536 := Int.tdiv_eq_ediv_of_nonneg (by omega)
                have hm2 : (f * 10).tmod 65536 = f * 10 % 65536 := Int.tmod_eq_emod_of_nonneg (by omega)
                have hp5 : f * 10 / 65536 ≤ 9 := by omega
                have hp6 : 0 ≤ f * 10 / 65536 := by omega
                have hcv := conv1 wr (48 + f * 10 / 65536)
                have hcat : bA (Q ++ pre) ++ bA [48 + f * 10 / 65536] = bA (Q ++ (pre ++ [48 + f * 10 / 65536])) := by rw [bA_snoc, List.append_assoc]
                have hs1 : (bA [48 + f * 10 / 65536]).size = 1 := bA_size _
                have hs2 : (bA (Q ++ pre)).size = Q.length + pre.length := by rw [bA_size, List.length_append]
                go_wp2_with fail
                go_roundw
                case rel => exact ⟨pre ++ [48 + f * 10 / 65536], f * 10 % 65536, false, j + 1, rfl, rfl, by go_num, Hst.out, hB.alloc hsz _⟩
                case measure => simp [slen, bA_size]; omega
  · have hneg2 : ¬ a < 0 := hneg
    have hpm : (a : Int).tdiv 65536 = a / 65536 := Int.tdiv_eq_ediv_of_nonneg (by omega)
    have hpr : (a : Int).tmod 65536 = a % 65536 := Int.tmod_eq_emod_of_nonneg (by omega)
    have Hk := Lib.hid (kd_has (n := a / 65536) (by omega) (by omega))
    have hq : 0 ≤ a / 65536 ∧ a / 65536 ≤ 32768 := by omega
    obtain ⟨q, hqq⟩ : ∃ q, a / 65536 = q := ⟨_, rfl⟩
    rw [hqq] at hpm hq Hk
    have hf0 : 0 ≤ a % 65536 ∧ a % 65536 < 65536 := by omega
    obtain ⟨f0, hff⟩ : ∃ f0, a % 65536 = f0 := ⟨_, rfl⟩
    rw [hff] at hpr hf0
    have Hq := Lib.hid hqq
    have Hf := Lib.hid hff
    clear hqq hff
    go_enter Try.func20, Try.ntmps20
    go_wp2_with fail
    go_loopw [4, 5] (fun v4 v5 wr => ∃ (M : List Int) (v : Int) (i : Nat), v4 = .int .i64 v ∧ v5 = .string (bA M) ∧ WS q (kd q) M v i ∧ (0 ≤ v ∧ v ≤ 32768) ∧ Below w.heap.size w wr) (fun _ v5 _ => 60 - slen v5)
    case atStart => exact ⟨[], q, 0, rfl, rfl, WS.start _ _, hq, Below.refl _ _⟩
    case round =>
      obtain ⟨M, v, i, rfl, rfl, hW, ⟨hv0, hv1⟩, hB⟩ := hrel
      have hsz := hB.size
      have h1 : v.tdiv 10 = v / 10 := Int.tdiv_eq_ediv_of_nonneg hv0
      have h2 : v.tmod 10 = v % 10 := Int.tmod_eq_emod_of_nonneg hv0
      have hl := WS.len Hk.out hW
      have hs := bA_size M
      have he := bA_nil M
      by_cases hgo : 0 < v
      · clear he
        have hst := WS.step Hk.out hq.1 hW (.inl hgo)
        have Hst := Lib.hid hst
        clear hst hW
        have hcv := conv1 wr (48 + v % 10)
        have hcat := bA_cat (48 + v % 10) M
        have hs1 : (bA [48 + v % 10]).size = 1 := bA_size _
        go_wp2_with fail
        go_roundw
        case rel => exact ⟨_, _, _, rfl, rfl, Hst.out, by omega, hB.alloc hsz _⟩
        case measure => simp only [slen, bA_size, List.length_cons, List.length_nil]; omega
      · by_cases hM : M = []
        · have hst := WS.step Hk.out hq.1 hW (.inr hM)
          have Hst := Lib.hid hst
          clear hst hW
          have hcv := conv1 wr (48 + v % 10)
          have hcat := bA_cat (48 + v % 10) M
          have hs1 : (bA [48 + v % 10]).size = 1 := bA_size _
          subst hM
          have he2 : (bA []).toList.isEmpty = true := he
          clear he
          go_wp2_with fail
          go_roundw
          case rel => exact ⟨_, _, _, rfl, rfl, Hst.out, by omega, hB.alloc hsz _⟩
          case measure => simp only [slen, bA_size, List.length_cons, List.length_nil]; omega
        · have hfin := WS.fin Hk.out hq.1 hW (by simp [hM]; omega)
          have Hfin := Lib.hid hfin
          clear hfin hW
          have he2 : (bA M).toList.isEmpty = false := by rw [he]; simpa using hM
          clear he
          obtain ⟨P1, hP1⟩ : ∃ P1, [] ++ M = P1 := ⟨_, rfl⟩
          obtain ⟨Q, hQ⟩ : ∃ Q, P1 ++ [46] = Q := ⟨_, rfl⟩
          have e1 : ({ data := #[] } : ByteArray) ++ bA M = bA P1 := by rw [← hP1]; apply ByteArray.ext; simp [bA]
          have e2 : bA P1 ++ ({ data := #[46] } : ByteArray) = bA Q := by rw [← hQ]; exact bA_snoc 46 _
          have s1 : ({ data := #[] } : ByteArray).size = 0 := rfl
          have s2 : ({ data := #[46] } : ByteArray).size = 1 := rfl
          have hp1l : P1.length ≤ 6 := by rw [← hP1]; simp; omega
          have hql : Q.length ≤ 7 := by rw [← hQ]; simp; omega
          have s3 := bA_size P1
          have HQ := Lib.hid hQ
          have HP := Lib.hid hP1
          clear hQ hP1
          go_wp2_with fail
          go_loopw [3, 6, 7] (fun v3 v6 v7 wr => ∃ (pre : List Int) (f : Int) (fst : Bool) (j : Nat), v3 = .string (bA (Q ++ pre)) ∧ v6 = .int .i64 f ∧ v7 = .int .i64 j ∧ FS f0 pre f fst j ∧ Below w.heap.size w wr) (fun v3 _ _ _ => 60 - slen v3)
          case atStart => exact ⟨[], f0, true, 0, by rw [List.append_nil], rfl, rfl, FS.start hf0.1 hf0.2, hB⟩
          case round =>
            clear hB hsz
            obtain ⟨pre, f, fst, j, rfl, rfl, rfl, hFS, hB⟩ := hrel
            have hsz := hB.size
            have hfst : fst = decide (j = 0) := hFS.2.2.2.2.1
            have hj0 : (((j : Nat) : Int) == 0) = fst := by rw [hfst]; by_cases h : j = 0 <;> simp [h]
            by_cases hg0 : 0 < f
            · cases fst
              · clear hfst
                have hst := FS.step hFS (by simp [*])
                obtain ⟨hf1, hf2⟩ := hFS.1
                have hj := FS.len hFS
                have hjj : j ≤ 17 := hFS.2.2.1
                have Hst := Lib.hid hst
                clear hst hFS
                have hm1 : (f * 10).tdiv 65536 = f * 10 / 65536 := Int.tdiv_eq_ediv_of_nonneg (by omega)
                have hm2 : (f * 10).tmod 65536 = f * 10 % 65536 := Int.tmod_eq_emod_of_nonneg (by omega)
                have hp5 : f * 10 / 65536 ≤ 9 := by omega
                have hp6 : 0 ≤ f * 10 / 65536 := by omega
                have hcv := conv1 wr (48 + f * 10 / 65536)
                have hcat : bA (Q ++ pre) ++ bA [48 + f * 10 / 65536] = bA (Q ++ (pre ++ [48 + f * 10 / 65536])) := by rw [bA_snoc, List.append_assoc]
                have hs1 : (bA [48 + f * 10 / 65536]).size = 1 := bA_size _
                have hs2 : (bA (Q ++ pre)).size = Q.length + pre.length := by rw [bA_size, List.length_append]
                go_wp2_with fail
                go_roundw
                case rel => exact ⟨pre ++ [48 + f * 10 / 65536], f * 10 % 65536, false, j + 1, rfl, rfl, by go_num, Hst.out, hB.alloc hsz _⟩
                case measure => simp [slen, bA_size]; omega
              · clear hfst
                have hst := FS.step hFS (by simp [*])
                obtain ⟨hf1, hf2⟩ := hFS.1
                have hj := FS.len hFS
                have hjj : j ≤ 17 := hFS.2.2.1
                have Hst := Lib.hid hst
                clear hst hFS
                have hm1 : (f * 10).tdiv 65536 = f * 10 / 65536 := Int.tdiv_eq_ediv_of_nonneg (by omega)
                have hm2 : (f * 10).tmod 65536 = f * 10 % 65536 := Int.tmod_eq_emod_of_nonneg (by omega)
                have hp5 : f * 10 / 65536 ≤ 9 := by omega
                have hp6 : 0 ≤ f * 10 / 65536 := by omega
                have hcv := conv1 wr (48 + f * 10 / 65536)
                have hcat : bA (Q ++ pre) ++ bA [48 + f * 10 / 65536] = bA (Q ++ (pre ++ [48 + f * 10 / 65536])) := by rw [bA_snoc, List.append_assoc]
                have hs1 : (bA [48 + f * 10 / 65536]).size = 1 := bA_size _
                have hs2 : (bA (Q ++ pre)).size = Q.length + pre.length := by rw [bA_size, List.length_append]
                go_wp2_with fail
                go_roundw
                case rel => exact ⟨pre ++ [48 + f * 10 / 65536], f * 10 % 65536, false, j + 1, rfl, rfl, by go_num, Hst.out, hB.alloc hsz _⟩
                case measure => simp [slen, bA_size]; omega
            · cases fst
              · have hpre := FS.fin hFS (by simp; omega)
                have hall : Q ++ pre = prM a := by
                  rw [hpre, ← HQ.out, ← HP.out, Hfin.out, ← Hq.out, ← Hf.out]
                  unfold prM wds
                  rw [if_neg (by omega), if_neg (by omega)]
                have Hall := Lib.hid hall
                clear hFS hpre hall hfst
                go_wp2_with fail
                go_ret
                exact ⟨by rw [Hall.out]; rfl, hB⟩
              · clear hfst
                have hst := FS.step hFS (by simp [*])
                obtain ⟨hf1, hf2⟩ := hFS.1
                have hj := FS.len hFS
                have hjj : j ≤ 17 := hFS.2.2.1
                have Hst := Lib.hid hst
                clear hst hFS
                have hm1 : (f * 10).tdiv 65536 = f * 10 / 65536 := Int.tdiv_eq_ediv_of_nonneg (by omega)
                have hm2 : (f * 10).tmod 65536 = f * 10 % 65536 := Int.tmod_eq_emod_of_nonneg (by omega)
                have hp5 : f * 10 / 65536 ≤ 9 := by omega
                have hp6 : 0 ≤ f * 10 / 65536 := by omega
                have hcv := conv1 wr (48 + f * 10 / 65536)
                have hcat : bA (Q ++ pre) ++ bA [48 + f * 10 / 65536] = bA (Q ++ (pre ++ [48 + f * 10 / 65536])) := by rw [bA_snoc, List.append_assoc]
                have hs1 : (bA [48 + f * 10 / 65536]).size = 1 := bA_size _
                have hs2 : (bA (Q ++ pre)).size = Q.length + pre.length := by rw [bA_size, List.length_append]
                go_wp2_with fail
                go_roundw
                case rel => exact ⟨pre ++ [48 + f * 10 / 65536], f * 10 % 65536, false, j + 1, rfl, rfl, by go_num, Hst.out, hB.alloc hsz _⟩
                case measure => simp [slen, bA_size]; omega
end Go.Proofs.Ytilchjpjmfaghaa.T3
