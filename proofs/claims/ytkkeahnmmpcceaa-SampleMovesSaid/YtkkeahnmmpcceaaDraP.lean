/- chaseref28.Draft.Picture returns a valid picture, for every draft; nothing that was in memory changes. -/
import Derived.Test.YtkkeahnmmpcceaaDraM
import Derived.Test.YtkkeahnmmpcceaaDraF
import Derived.Test.YtkkeahnmmpcceaaSamB
import Derived.Test.YtkkeahnmmpcceaaWorks
import Derived.Test.YtkkeahnmmpcceaaGrow
import Derived.WalkKit
import Derived.Lib.Hide
import Derived.Deep.QuietTactic
import Derived.BigQuiet
import Derived.Lib.QuietBelow
import Derived.Deep.RegionHeld3
import Derived.WalkLawsBesides
import Derived.WalkSpells
import Derived.Outline
import Derived.Deep.DeepFit
import Derived.Maps.AppendAt
import Derived.Deep.AppendLies
namespace Go.Proofs.Ytkkeahnmmpcceaa.T3
open Go.RowKit

set_option maxRecDepth 100000 in
set_option maxHeartbeats 8000000 in
theorem dpicture_any (W H N : Int) (x : Option Addr) (len cap : Nat) (k a b c d e f : Int) (near : Bool) (w : World) (hW : 0 ≤ W ∧ W ≤ 255) (hH : 0 ≤ H ∧ H ≤ 255) (hN : 0 ≤ N ∧ N ≤ 255) (hx : Octets w x len) (hlen : len ≤ 9223372036854775807)
    (hk : 0 ≤ k ∧ k ≤ 255) (ha : i32ok a) (hb : i32ok b) (hc : i32ok c) (hd : i32ok d) (he : i32ok e) (hf : i32ok f) :
    Calls Try.prog 8 #[.agg #[.int .u8 W, .int .u8 H, .int .u8 N, .slice x len cap, .int .u8 k, .int .i32 a, .int .i32 b, .int .i32 c, .int .i32 d, .int .i32 e, .int .i32 f, .bool near]] w fun r w' => (∃ W H N S A B C D E F, pOk W H N S A B C D E F ∧ W ≤ 9 ∧ H ≤ 9 ∧ (near = true → (-400000 ≤ A ∧ A ≤ 400000) ∧ (-400000 ≤ B ∧ B ≤ 400000) ∧ (-400000 ≤ C ∧ C ≤ 400000) ∧ (-400000 ≤ D ∧ D ≤ 400000) ∧ (-3000000 ≤ E ∧ E ≤ 3000000) ∧ (-3000000 ≤ F ∧ F ≤ 3000000)) ∧ r = .returned (.agg #[.int .i64 W, .int .i64 H, .int .i64 N, .string S, .int .i64 A, .int .i64 B, .int .i64 C, .int .i64 D, .int .i64 E, .int .i64 F])) ∧ Below w.heap.size w w' := by
  have hW1 : 1 ≤ 1 + W % 9 ∧ 1 + W % 9 ≤ 9 := by omega
  have hH1 : 1 ≤ 1 + H % 9 ∧ 1 + H % 9 ≤ 9 := by omega
  have hN1 : N % 3 = 0 ∨ N % 3 = 1 ∨ N % 3 = 2 := by omega
  go_enter Try.func8, Try.ntmps8
  go_wp2_with fail
  go_cut [3] from 6 to 25 (fun v3 wx => ∃ (b3 : Nat) (W1 H1 n A B C D E F : Int), v3 = .pointer (some ⟨b3, 0, none⟩) ∧ w.heap.size + 2 ≤ b3 ∧ b3 < wx.heap.size ∧ (1 ≤ W1 ∧ W1 ≤ 9) ∧ (1 ≤ H1 ∧ H1 ≤ 9) ∧ (n = 1 ∨ n = 3 ∨ n = 4) ∧ mOk A B C D E F ∧ Below w.heap.size w wx ∧ wx.heap[b3]? = some (.cells #[.int .i64 W1, .int .i64 H1, .int .i64 n, .string ⟨#[]⟩, .int .i64 A, .int .i64 B, .int .i64 C, .int .i64 D, .int .i64 E, .int .i64 F] 30 (0, 0)) ∧ wx.heap[w.heap.size]? = some (.cells #[.int .u8 W, .int .u8 H, .int .u8 N, .slice x len cap, .int .u8 k, .int .i32 a, .int .i32 b, .int .i32 c, .int .i32 d, .int .i32 e, .int .i32 f, .bool near] 26 (0, 0)) ∧ wx.heap[w.heap.size + 1]? = some (.cells #[.int .i64 0, .int .i64 0, .int .i64 0, .string ⟨#[]⟩, .int .i64 0, .int .i64 0, .int .i64 0, .int .i64 0, .int .i64 0, .int .i64 0] 30 (0, 0)))
  case first =>
    rcases hN1 with hN1 | hN1 | hN1
    ·
      refine wp_region_grow [(0, none), (1, none), (2, none), (3, none), (4, none), (5, none), (6, none), (7, none), (8, none), (9, none), (11, none), (12, none), (13, none), (16, none), (17, none), (10, some (.blk (fun b => .slice (some ⟨b, 0, none⟩) 3 3) (.cells #[.int .i64 1, .int .i64 3, .int .i64 4] 3))), (14, none), (15, none), (18, some (.val (fun v => ∃ A B C D E F, mOk A B C D E F ∧ v = .agg #[.int .i64 A, .int .i64 B, .int .i64 C, .int .i64 D, .int .i64 E, .int .i64 F]))), (19, none), (20, some (.blk (fun b => .pointer (some ⟨b, 0, none⟩)) (.cells #[.int .i64 0, .int .i64 0, .int .i64 0, .string ⟨#[]⟩, .int .i64 0, .int .i64 0, .int .i64 0, .int .i64 0, .int .i64 0, .int .i64 0] 30)))] (.s 21 .e .done) (by kernel_rfl) (by kernel_rfl) (fun _ _ _ _ _ h => h) ?_
      (apply wpG_p rfl rfl rfl rfl rfl; (intro w' K hK; (first | go_big_op | go_wp2_with fail); exact hK))
      (apply wpG_l rfl rfl rfl rfl rfl; (intro w' K hC hK; (have hr' := hC.old; simp at hr'); (first | go_big_op | go_wp2_with fail); exact hK); (case he => first | rfl | (simp [Act.put, *]; done)))
      (apply wpG_p rfl rfl rfl rfl rfl; (intro w' K hK; (first | go_big_op | go_wp2_with fail); exact hK))
      (apply wpG_p rfl rfl rfl rfl rfl; (intro w' K hK; (first | go_big_op | go_wp2_with fail); exact hK))
      (apply wpG_p rfl rfl rfl rfl rfl; (intro w' K hK; (first | go_big_op | go_wp2_with fail); exact hK))
      (apply wpG_p rfl rfl rfl rfl rfl; (intro w' K hK; (first | go_big_op | go_wp2_with fail); exact hK))
      (apply wpG_l rfl rfl rfl rfl rfl; (intro w' K hC hK; (have hr' := hC.old; simp at hr'); (first | go_big_op | go_wp2_with fail); exact hK); (case he => first | rfl | (simp [Act.put, *]; done)))
      (apply wpG_p rfl rfl rfl rfl rfl; (intro w' K hK; (first | go_big_op | go_wp2_with fail); exact hK))
      (apply wpG_p rfl rfl rfl rfl rfl; (intro w' K hK; (first | go_big_op | go_wp2_with fail); exact hK))
      (apply wpG_p rfl rfl rfl rfl rfl; (intro w' K hK; (first | go_big_op | go_wp2_with fail); exact hK))
      (apply wpG_p rfl rfl rfl rfl rfl; (intro w' K hK; (first | go_big_op | go_wp2_with fail); exact hK))
      (apply wpG_l rfl rfl rfl rfl rfl; (intro w' K hC hK; (have hr' := hC.old; simp at hr'); (first | go_big_op | go_wp2_with fail); exact hK); (case he => first | rfl | (simp [Act.put, *]; done)))
      (apply wpG_p rfl rfl rfl rfl rfl; (intro w' K hK; (first | go_big_op | go_wp2_with fail); exact hK))
      (apply wpG_p rfl rfl rfl rfl rfl; (intro w' K hK; (first | go_big_op | go_wp2_with fail); exact hK))
      (apply wpG_l rfl rfl rfl rfl rfl; (intro w' K hC hK; (have hr' := hC.old; simp at hr'); (first | go_big_op | go_wp2_with fail); exact hK); (case he => first | rfl | (simp [Act.put, *]; done)))
      refine wpG_g (d := 16) rfl rfl rfl rfl (by first | exact ⟨_, 0, rfl⟩ | (fail)) (fun w' K hC hK => ?_) (fun v hv => ?_)
      · (have hr' := hC.old; simp at hr'; (first | go_big_op | go_wp2_with fail); (exact hK _ _ ⟨_, rfl⟩ (Below.alloc (Below.refl _ _) (Nat.le_refl _) _) ⟨_, rfl, hC.1.size, by simp, heap_alloc_new _ _⟩))
      obtain ⟨b10, rfl⟩ := hv
      (apply wpG_p rfl rfl rfl rfl rfl; (intro w' K hK; (first | go_big_op | go_wp2_with fail); exact hK))
      (apply wpG_l rfl rfl rfl rfl rfl; (intro w' K hC hK; (obtain ⟨b', hb', _, hlb, hblk⟩ := hC.get 10 rfl (by kernel_rfl); cases hb'; have c0 := cell_of_row w' b10 0 _ _ _ hblk; simp at c0); (first | go_big_op | go_wp2_with fail); exact hK); (case he => first | rfl | (simp [Act.put, *]; done)))
      refine wpG_g (d := 24) rfl rfl rfl rfl (by first | exact ⟨_, 0, rfl⟩ | (exact ⟨.agg #[.int .i64 0, .int .i64 0, .int .i64 0, .int .i64 0, .int .i64 0, .int .i64 0], 0, 0, 0, 0, 0, 0, by unfold mOk; omega, rfl⟩)) (fun w' K hC hK => ?_) (fun v hv => ?_)
      · (have hr' := hC.old; simp at hr'; (first | go_big_op | go_wp2_with fail); (refine Calls.mono (dmatrix_any k a b c d e f _ hk ha hb hc hd he hf) ?_; rintro e' w2 ⟨⟨A, B, C, D, E, F, hm, rfl⟩, hb2⟩; exact hK _ _ ⟨A, B, C, D, E, F, hm, rfl⟩ hb2 trivial))
      obtain ⟨A, B, C, D, E, F, hm, rfl⟩ := hv
      (apply wpG_p rfl rfl rfl rfl rfl; (intro w' K hK; (first | go_big_op | go_wp2_with fail); exact hK))
      refine wpG_g (d := 3) rfl rfl rfl rfl (by first | exact ⟨_, 0, rfl⟩ | (fail)) (fun w' K hC hK => ?_) (fun v hv => ?_)
      · (have hr' := hC.old; simp at hr'; (first | go_big_op | go_wp2_with fail); (exact hK _ _ ⟨_, rfl⟩ (Below.alloc (Below.refl _ _) (Nat.le_refl _) _) ⟨_, rfl, hC.1.size, by simp, heap_alloc_new _ _⟩))
      obtain ⟨b20, rfl⟩ := hv
      refine wpG_nil (fun w1 hB1 hG => ?_)
      obtain ⟨⟨b', e3, h3a, h3b, h3⟩, _⟩ := List.forall_mem_cons.1 hG; cases e3
      refine wpOrd_e1 rfl rfl (fun K hK => ?_)
      refine wp_store_row 30 _ _ rfl b20 _ rfl rfl _ _ h3 (by kernel_rfl) rfl (by kernel_rfl) ?_; refine hK _ _ trivial ?_; clear hK K
      refine wpOrd_nil ?_
      go_wp2_with fail; go_meet; case rel => exact ⟨b20, 1 + W % 9, 1 + H % 9, 1, A, B, C, D, E, F, rfl, by simpa using h3a, by rw [size_setRow]; exact h3b, hW1, hH1, by omega, hm, below_setRow (below_then (Below.drew (Below.alloc (Below.alloc (Below.refl _ w) (Nat.le_refl _) _) (by simp) _)) (by simp; omega) hB1) _ _ (by simp at h3a; omega), setRow_heap _ _ _ _ _ _ h3, (setRow_other _ _ _ _ (by simp at h3a; omega)).trans ((hB1.block _ (by simp; omega)).trans (heap_alloc2_old w _ _)), (setRow_other _ _ _ _ (by simp at h3a; omega)).trans ((hB1.block _ (by simp)).trans (heap_alloc2_new w _ _))⟩
    ·
      refine wp_region_grow [(0, none), (1, none), (2, none), (3, none), (4, none), (5, none), (6, none), (7, none), (8, none), (9, none), (11, none), (12, none), (13, none), (16, none), (17, none), (10, some (.blk (fun b => .slice (some ⟨b, 0, none⟩) 3 3) (.cells #[.int .i64 1, .int .i64 3, .int .i64 4] 3))), (14, none), (15, none), (18, some (.val (fun v => ∃ A B C D E F, mOk A B C D E F ∧ v = .agg #[.int .i64 A, .int .i64 B, .int .i64 C, .int .i64 D, .int .i64 E, .int .i64 F]))), (19, none), (20, some (.blk (fun b => .pointer (some ⟨b, 0, none⟩)) (.cells #[.int .i64 0, .int .i64 0, .int .i64 0, .string ⟨#[]⟩, .int .i64 0, .int .i64 0, .int .i64 0, .int .i64 0, .int .i64 0, .int .i64 0] 30)))] (.s 21 .e .done) (by kernel_rfl) (by kernel_rfl) (fun _ _ _ _ _ h => h) ?_
      (apply wpG_p rfl rfl rfl rfl rfl; (intro w' K hK; (first | go_big_op | go_wp2_with fail); exact hK))
      (apply wpG_l rfl rfl rfl rfl rfl; (intro w' K hC hK; (have hr' := hC.old; simp at hr'); (first | go_big_op | go_wp2_with fail); exact hK); (case he => first | rfl | (simp [Act.put, *]; done)))
      (apply wpG_p rfl rfl rfl rfl rfl; (intro w' K hK; (first | go_big_op | go_wp2_with fail); exact hK))
      (apply wpG_p rfl rfl rfl rfl rfl; (intro w' K hK; (first | go_big_op | go_wp2_with fail); exact hK))
      (apply wpG_p rfl rfl rfl rfl rfl; (intro w' K hK; (first | go_big_op | go_wp2_with fail); exact hK))
      (apply wpG_p rfl rfl rfl rfl rfl; (intro w' K hK; (first | go_big_op | go_wp2_with fail); exact hK))
      (apply wpG_l rfl rfl rfl rfl rfl; (intro w' K hC hK; (have hr' := hC.old; simp at hr'); (first | go_big_op | go_wp2_with fail); exact hK); (case he => first | rfl | (simp [Act.put, *]; done)))
      (apply wpG_p rfl rfl rfl rfl rfl; (intro w' K hK; (first | go_big_op | go_wp2_with fail); exact hK))
      (apply wpG_p rfl rfl rfl rfl rfl; (intro w' K hK; (first | go_big_op | go_wp2_with fail); exact hK))
      (apply wpG_p rfl rfl rfl rfl rfl; (intro w' K hK; (first | go_big_op | go_wp2_with fail); exact hK))
      (apply wpG_p rfl rfl rfl rfl rfl; (intro w' K hK; (first | go_big_op | go_wp2_with fail); exact hK))
      (apply wpG_l rfl rfl rfl rfl rfl; (intro w' K hC hK; (have hr' := hC.old; simp at hr'); (first | go_big_op | go_wp2_with fail); exact hK); (case he => first | rfl | (simp [Act.put, *]; done)))
      (apply wpG_p rfl rfl rfl rfl rfl; (intro w' K hK; (first | go_big_op | go_wp2_with fail); exact hK))
      (apply wpG_p rfl rfl rfl rfl rfl; (intro w' K hK; (first | go_big_op | go_wp2_with fail); exact hK))
      (apply wpG_l rfl rfl rfl rfl rfl; (intro w' K hC hK; (have hr' := hC.old; simp at hr'); (first | go_big_op | go_wp2_with fail); exact hK); (case he => first | rfl | (simp [Act.put, *]; done)))
      refine wpG_g (d := 16) rfl rfl rfl rfl (by first | exact ⟨_, 0, rfl⟩ | (fail)) (fun w' K hC hK => ?_) (fun v hv => ?_)
      · (have hr' := hC.old; simp at hr'; (first | go_big_op | go_wp2_with fail); (exact hK _ _ ⟨_, rfl⟩ (Below.alloc (Below.refl _ _) (Nat.le_refl _) _) ⟨_, rfl, hC.1.size, by simp, heap_alloc_new _ _⟩))
      obtain ⟨b10, rfl⟩ := hv
      (apply wpG_p rfl rfl rfl rfl rfl; (intro w' K hK; (first | go_big_op | go_wp2_with fail); exact hK))
      (apply wpG_l rfl rfl rfl rfl rfl; (intro w' K hC hK; (obtain ⟨b', hb', _, hlb, hblk⟩ := hC.get 10 rfl (by kernel_rfl); cases hb'; have c0 := cell_of_row w' b10 1 _ _ _ hblk; simp at c0); (first | go_big_op | go_wp2_with fail); exact hK); (case he => first | rfl | (simp [Act.put, *]; done)))
      refine wpG_g (d := 24) rfl rfl rfl rfl (by first | exact ⟨_, 0, rfl⟩ | (exact ⟨.agg #[.int .i64 0, .int .i64 0, .int .i64 0, .int .i64 0, .int .i64 0, .int .i64 0], 0, 0, 0, 0, 0, 0, by unfold mOk; omega, rfl⟩)) (fun w' K hC hK => ?_) (fun v hv => ?_)
      · (have hr' := hC.old; simp at hr'; (first | go_big_op | go_wp2_with fail); (refine Calls.mono (dmatrix_any k a b c d e f _ hk ha hb hc hd he hf) ?_; rintro e' w2 ⟨⟨A, B, C, D, E, F, hm, rfl⟩, hb2⟩; exact hK _ _ ⟨A, B, C, D, E, F, hm, rfl⟩ hb2 trivial))
      obtain ⟨A, B, C, D, E, F, hm, rfl⟩ := hv
      (apply wpG_p rfl rfl rfl rfl rfl; (intro w' K hK; (first | go_big_op | go_wp2_with fail); exact hK))
      refine wpG_g (d := 3) rfl rfl rfl rfl (by first | exact ⟨_, 0, rfl⟩ | (fail)) (fun w' K hC hK => ?_) (fun v hv => ?_)
      · (have hr' := hC.old; simp at hr'; (first | go_big_op | go_wp2_with fail); (exact hK _ _ ⟨_, rfl⟩ (Below.alloc (Below.refl _ _) (Nat.le_refl _) _) ⟨_, rfl, hC.1.size, by simp, heap_alloc_new _ _⟩))
      obtain ⟨b20, rfl⟩ := hv
      refine wpG_nil (fun w1 hB1 hG => ?_)
      obtain ⟨⟨b', e3, h3a, h3b, h3⟩, _⟩ := List.forall_mem_cons.1 hG; cases e3
      refine wpOrd_e1 rfl rfl (fun K hK => ?_)
      refine wp_store_row 30 _ _ rfl b20 _ rfl rfl _ _ h3 (by kernel_rfl) rfl (by kernel_rfl) ?_; refine hK _ _ trivial ?_; clear hK K
      refine wpOrd_nil ?_
      go_wp2_with fail; go_meet; case rel => exact ⟨b20, 1 + W % 9, 1 + H % 9, 3, A, B, C, D, E, F, rfl, by simpa using h3a, by rw [size_setRow]; exact h3b, hW1, hH1, by omega, hm, below_setRow (below_then (Below.drew (Below.alloc (Below.alloc (Below.refl _ w) (Nat.le_refl _) _) (by simp) _)) (by simp; omega) hB1) _ _ (by simp at h3a; omega), setRow_heap _ _ _ _ _ _ h3, (setRow_other _ _ _ _ (by simp at h3a; omega)).trans ((hB1.block _ (by simp; omega)).trans (heap_alloc2_old w _ _)), (setRow_other _ _ _ _ (by simp at h3a; omega)).trans ((hB1.block _ (by simp)).trans (heap_alloc2_new w _ _))⟩
    ·
      refine wp_region_grow [(0, none), (1, none), (2, none), (3, none), (4, none), (5, none), (6, none), (7, none), (8, none), (9, none), (11, none), (12, none), (13, none), (16, none), (17, none), (10, some (.blk (fun b => .slice (some ⟨b, 0, none⟩) 3 3) (.cells #[.int .i64 1, .int .i64 3, .int .i64 4] 3))), (14, none), (15, none), (18, some (.val (fun v => ∃ A B C D E F, mOk A B C D E F ∧ v = .agg #[.int .i64 A, .int .i64 B, .int .i64 C, .int .i64 D, .int .i64 E, .int .i64 F]))), (19, none), (20, some (.blk (fun b => .pointer (some ⟨b, 0, none⟩)) (.cells #[.int .i64 0, .int .i64 0, .int .i64 0, .string ⟨#[]⟩, .int .i64 0, .int .i64 0, .int .i64 0, .int .i64 0, .int .i64 0, .int .i64 0] 30)))] (.s 21 .e .done) (by kernel_rfl) (by kernel_rfl) (fun _ _ _ _ _ h => h) ?_
      (apply wpG_p rfl rfl rfl rfl rfl; (intro w' K hK; (first | go_big_op | go_wp2_with fail); exact hK))
      (apply wpG_l rfl rfl rfl rfl rfl; (intro w' K hC hK; (have hr' := hC.old; simp at hr'); (first | go_big_op | go_wp2_with fail); exact hK); (case he => first | rfl | (simp [Act.put, *]; done)))
      (apply wpG_p rfl rfl rfl rfl rfl; (intro w' K hK; (first | go_big_op | go_wp2_with fail); exact hK))
      (apply wpG_p rfl rfl rfl rfl rfl; (intro w' K hK; (first | go_big_op | go_wp2_with fail); exact hK))
      (apply wpG_p rfl rfl rfl rfl rfl; (intro w' K hK; (first | go_big_op | go_wp2_with fail); exact hK))
      (apply wpG_p rfl rfl rfl rfl rfl; (intro w' K hK; (first | go_big_op | go_wp2_with fail); exact hK))
      (apply wpG_l rfl rfl rfl rfl rfl; (intro w' K hC hK; (have hr' := hC.old; simp at hr'); (first | go_big_op | go_wp2_with fail); exact hK); (case he => first | rfl | (simp [Act.put, *]; done)))
      (apply wpG_p rfl rfl rfl rfl rfl; (intro w' K hK; (first | go_big_op | go_wp2_with fail); exact hK))
      (apply wpG_p rfl rfl rfl rfl rfl; (intro w' K hK; (first | go_big_op | go_wp2_with fail); exact hK))
      (apply wpG_p rfl rfl rfl rfl rfl; (intro w' K hK; (first | go_big_op | go_wp2_with fail); exact hK))
      (apply wpG_p rfl rfl rfl rfl rfl; (intro w' K hK; (first | go_big_op | go_wp2_with fail); exact hK))
      (apply wpG_l rfl rfl rfl rfl rfl; (intro w' K hC hK; (have hr' := hC.old; simp at hr'); (first | go_big_op | go_wp2_with fail); exact hK); (case he => first | rfl | (simp [Act.put, *]; done)))
      (apply wpG_p rfl rfl rfl rfl rfl; (intro w' K hK; (first | go_big_op | go_wp2_with fail); exact hK))
      (apply wpG_p rfl rfl rfl rfl rfl; (intro w' K hK; (first | go_big_op | go_wp2_with fail); exact hK))
      (apply wpG_l rfl rfl rfl rfl rfl; (intro w' K hC hK; (have hr' := hC.old; simp at hr'); (first | go_big_op | go_wp2_with fail); exact hK); (case he => first | rfl | (simp [Act.put, *]; done)))
      refine wpG_g (d := 16) rfl rfl rfl rfl (by first | exact ⟨_, 0, rfl⟩ | (fail)) (fun w' K hC hK => ?_) (fun v hv => ?_)
      · (have hr' := hC.old; simp at hr'; (first | go_big_op | go_wp2_with fail); (exact hK _ _ ⟨_, rfl⟩ (Below.alloc (Below.refl _ _) (Nat.le_refl _) _) ⟨_, rfl, hC.1.size, by simp, heap_alloc_new _ _⟩))
      obtain ⟨b10, rfl⟩ := hv
      (apply wpG_p rfl rfl rfl rfl rfl; (intro w' K hK; (first | go_big_op | go_wp2_with fail); exact hK))
      (apply wpG_l rfl rfl rfl rfl rfl; (intro w' K hC hK; (obtain ⟨b', hb', _, hlb, hblk⟩ := hC.get 10 rfl (by kernel_rfl); cases hb'; have c0 := cell_of_row w' b10 2 _ _ _ hblk; simp at c0); (first | go_big_op | go_wp2_with fail); exact hK); (case he => first | rfl | (simp [Act.put, *]; done)))
      refine wpG_g (d := 24) rfl rfl rfl rfl (by first | exact ⟨_, 0, rfl⟩ | (exact ⟨.agg #[.int .i64 0, .int .i64 0, .int .i64 0, .int .i64 0, .int .i64 0, .int .i64 0], 0, 0, 0, 0, 0, 0, by unfold mOk; omega, rfl⟩)) (fun w' K hC hK => ?_) (fun v hv => ?_)
      · (have hr' := hC.old; simp at hr'; (first | go_big_op | go_wp2_with fail); (refine Calls.mono (dmatrix_any k a b c d e f _ hk ha hb hc hd he hf) ?_; rintro e' w2 ⟨⟨A, B, C, D, E, F, hm, rfl⟩, hb2⟩; exact hK _ _ ⟨A, B, C, D, E, F, hm, rfl⟩ hb2 trivial))
      obtain ⟨A, B, C, D, E, F, hm, rfl⟩ := hv
      (apply wpG_p rfl rfl rfl rfl rfl; (intro w' K hK; (first | go_big_op | go_wp2_with fail); exact hK))
      refine wpG_g (d := 3) rfl rfl rfl rfl (by first | exact ⟨_, 0, rfl⟩ | (fail)) (fun w' K hC hK => ?_) (fun v hv => ?_)
      · (have hr' := hC.old; simp at hr'; (first | go_big_op | go_wp2_with fail); (exact hK _ _ ⟨_, rfl⟩ (Below.alloc (Below.refl _ _) (Nat.le_refl _) _) ⟨_, rfl, hC.1.size, by simp, heap_alloc_new _ _⟩))
      obtain ⟨b20, rfl⟩ := hv
      refine wpG_nil (fun w1 hB1 hG => ?_)
      obtain ⟨⟨b', e3, h3a, h3b, h3⟩, _⟩ := List.forall_mem_cons.1 hG; cases e3
      refine wpOrd_e1 rfl rfl (fun K hK => ?_)
      refine wp_store_row 30 _ _ rfl b20 _ rfl rfl _ _ h3 (by kernel_rfl) rfl (by kernel_rfl) ?_; refine hK _ _ trivial ?_; clear hK K
      refine wpOrd_nil ?_
      go_wp2_with fail; go_meet; case rel => exact ⟨b20, 1 + W % 9, 1 + H % 9, 4, A, B, C, D, E, F, rfl, by simpa using h3a, by rw [size_setRow]; exact h3b, hW1, hH1, by omega, hm, below_setRow (below_then (Below.drew (Below.alloc (Below.alloc (Below.refl _ w) (Nat.le_refl _) _) (by simp) _)) (by simp; omega) hB1) _ _ (by simp at h3a; omega), setRow_heap _ _ _ _ _ _ h3, (setRow_other _ _ _ _ (by simp at h3a; omega)).trans ((hB1.block _ (by simp; omega)).trans (heap_alloc2_old w _ _)), (setRow_other _ _ _ _ (by simp at h3a; omega)).trans ((hB1.block _ (by simp)).trans (heap_alloc2_new w _ _))⟩
  case rest =>
    obtain ⟨b3, W1, H1, n, A, B, C, D, E, F, rfl, hb3, hlt3, hW2, hH2, hn, hm, hB, h3, hdr, hzp⟩ := hcut
    clear hW1 hH1 hN1 hW hH hN hk ha hb hc hd he hf
    have n11 : wc.cell? ⟨w.heap.size, 11, none⟩ = some (.bool near) := cell_of_row _ _ 11 _ _ _ hdr
    have hl0 : w.heap.size < wc.heap.size := by omega
    go_upto_if 27 with fail
    go_cut [] from 26 to 53 (fun wx => ∃ (A B C D E F : Int), mOk A B C D E F ∧ (near = true → (-400000 ≤ A ∧ A ≤ 400000) ∧ (-400000 ≤ B ∧ B ≤ 400000) ∧ (-400000 ≤ C ∧ C ≤ 400000) ∧ (-400000 ≤ D ∧ D ≤ 400000) ∧ (-3000000 ≤ E ∧ E ≤ 3000000) ∧ (-3000000 ≤ F ∧ F ≤ 3000000)) ∧ b3 < wx.heap.size ∧ Below w.heap.size w wx ∧ wx.heap[b3]? = some (.cells #[.int .i64 W1, .int .i64 H1, .int .i64 n, .string ⟨#[]⟩, .int .i64 A, .int .i64 B, .int .i64 C, .int .i64 D, .int .i64 E, .int .i64 F] 30 (0, 0)) ∧ wx.heap[w.heap.size]? = some (.cells #[.int .u8 W, .int .u8 H, .int .u8 N, .slice x len cap, .int .u8 k, .int .i32 a, .int .i32 b, .int .i32 c, .int .i32 d, .int .i32 e, .int .i32 f, .bool near] 26 (0, 0)) ∧ wx.heap[w.heap.size + 1]? = some (.cells #[.int .i64 0, .int .i64 0, .int .i64 0, .string ⟨#[]⟩, .int .i64 0, .int .i64 0, .int .i64 0, .int .i64 0, .int .i64 0, .int .i64 0] 30 (0, 0)))
    case first =>
      cases near
      · go_wp2_with fail
        go_meet
        case rel => exact ⟨A, B, C, D, E, F, hm, (fun h => by cases h), hlt3, hB, h3, hdr, hzp⟩
      · obtain ⟨p0, p1, p2, p3, p4, p5, p6, p7, p8, p9⟩ := pic10 h3
        have f4 := picf10 h3 4
        have f5 := picf10 h3 5
        have f6 := picf10 h3 6
        have f7 := picf10 h3 7
        have f8 := picf10 h3 8
        have f9 := picf10 h3 9
        go_wp2_with fail
        have am := tmod_bd A 400000 (by omega)
        have bm := tmod_bd B 400000 (by omega)
        have cm := tmod_bd C 400000 (by omega)
        have dm := tmod_bd D 400000 (by omega)
        have em := tmod_bd E 3000000 (by omega)
        have fm := tmod_bd F 3000000 (by omega)
        go_meet
        case rel =>
          refine ⟨_, _, _, _, _, _, ?_, fun _ => ⟨by omega, by omega, by omega, by omega, by omega, by omega⟩, ?_, (by repeat (first | with_reducible exact Below.refl _ _ | with_reducible assumption | ((with_reducible refine Below.alloc ?_ ?hb_ _); (case hb_ => first | omega | (simp; done) | (simp; omega))) | ((with_reducible refine Below.setCell ?_ ?hb_ _); (case hb_ => first | omega | (simp; done) | (simp; omega))) | with_reducible refine Below.drew ?_ | with_reducible refine below_drewN ?_ _)), heap_setCell_same _ _ _ _ _ _ (heap_setCell_same _ _ _ _ _ _ (heap_setCell_same _ _ _ _ _ _ (heap_setCell_same _ _ _ _ _ _ (heap_setCell_same _ _ _ _ _ _ (heap_setCell_same _ _ _ _ _ _ (h3)))))), (heap_setCell_other _ _ _ _ (by simp; omega)).trans ((heap_setCell_other _ _ _ _ (by simp; omega)).trans ((heap_setCell_other _ _ _ _ (by simp; omega)).trans ((heap_setCell_other _ _ _ _ (by simp; omega)).trans ((heap_setCell_other _ _ _ _ (by simp; omega)).trans ((heap_setCell_other _ _ _ _ (by simp; omega)).trans (hdr)))))), (heap_setCell_other _ _ _ _ (by simp; omega)).trans ((heap_setCell_other _ _ _ _ (by simp; omega)).trans ((heap_setCell_other _ _ _ _ (by simp; omega)).trans ((heap_setCell_other _ _ _ _ (by simp; omega)).trans ((heap_setCell_other _ _ _ _ (by simp; omega)).trans ((heap_setCell_other _ _ _ _ (by simp; omega)).trans (hzp))))))⟩
          · unfold mOk; omega
          · simpa using hlt3
    case rest =>
      clear n11 hl0 h3 hdr hzp hB hlt3 hm
      obtain ⟨A, B, C, D, E, F, hm, hnear, hlt3, hB, h3, hdr, hzp⟩ := hcut
      have m1 := mul_bd (a := W1) (b := H1) (X := 9) (Y := 9) (by omega) hW2.2 (by omega) hH2.2
      have m0 : 1 ≤ W1 * H1 := Int.mul_pos (by omega) (by omega)
      have m2 := mul_bd (a := W1 * H1) (b := n) (X := 81) (Y := 4) (by omega) (by omega) (by omega) (by omega)
      have m3 : 1 ≤ W1 * H1 * n := Int.mul_pos (by omega) (by omega)
      obtain ⟨L, hL⟩ : ∃ L : Nat, (L : Int) = W1 * H1 * n := ⟨(W1 * H1 * n).toNat, by omega⟩
      have hL4 : L ≤ 324 := by omega
      obtain ⟨p0, p1, p2, p3, p4, p5, p6, p7, p8, p9⟩ := pic10 h3
      have hmk : Sem.run Try.prog (Instr.makeSlice 22 (.int .i64 (W1 * H1 * n)) (.int .i64 (W1 * H1 * n))) wc = .ok (.slice (some ⟨wc.heap.size, 0, none⟩) L L) (wc.alloc (.cells (rowU L fun _ => 0) 5)) := by
        rw [← hL]
        exact make_u8 L (by omega) wc
      have HL := Lib.hid hL
      clear hL
      go_wp2_with fail
      clear hmk p0 p1 p2 p3 p4 p5 p6 p7 p8 p9
      go_loopw [5] (fun v wr => ∃ (i : Nat) (g : Nat → Int), i ≤ L ∧ v = .int .i64 i ∧ (∀ j, 0 ≤ g j ∧ g j ≤ 255) ∧ Below w.heap.size w wr ∧ b3 < wr.heap.size ∧ wr.heap[b3]? = some (.cells #[.int .i64 W1, .int .i64 H1, .int .i64 n, .string ⟨#[]⟩, .int .i64 A, .int .i64 B, .int .i64 C, .int .i64 D, .int .i64 E, .int .i64 F] 30 (0, 0)) ∧ wr.heap[w.heap.size]? = some (.cells #[.int .u8 W, .int .u8 H, .int .u8 N, .slice x len cap, .int .u8 k, .int .i32 a, .int .i32 b, .int .i32 c, .int .i32 d, .int .i32 e, .int .i32 f, .bool near] 26 (0, 0)) ∧ wr.heap[w.heap.size + 1]? = some (.cells #[.int .i64 0, .int .i64 0, .int .i64 0, .string ⟨#[]⟩, .int .i64 0, .int .i64 0, .int .i64 0, .int .i64 0, .int .i64 0, .int .i64 0] 30 (0, 0)) ∧ wc.heap.size < wr.heap.size ∧ wr.heap[wc.heap.size]? = some (.cells (rowU L g) 5 (0, 0))) (fun v _ => L - (intOf v).toNat)
      case atStart => exact ⟨0, _, Nat.zero_le _, rfl, fun _ => by omega, (by repeat (first | with_reducible exact Below.refl _ _ | with_reducible assumption | ((with_reducible refine Below.alloc ?_ ?hb_ _); (case hb_ => first | omega | (simp; done) | (simp; omega))) | ((with_reducible refine Below.setCell ?_ ?hb_ _); (case hb_ => first | omega | (simp; done) | (simp; omega))) | with_reducible refine Below.drew ?_ | with_reducible refine below_drewN ?_ _)), by simp; omega, (Below.heap_alloc _ _ _ hlt3).trans h3, (Below.heap_alloc _ _ _ (by omega)).trans hdr, (Below.heap_alloc _ _ _ (by omega)).trans hzp, by simp, heap_alloc_new _ _⟩
      case round =>
        clear h3 hdr hzp hB
        obtain ⟨i, fn, hi, rfl, hfn, hB, hlr, h3, hdr, hzp, hlo, hout⟩ := hrel
        have n3 : wr.cell? ⟨w.heap.size, 3, none⟩ = some (.slice x len cap) := cell_of_row _ _ 3 _ _ _ hdr
        have hl0 : w.heap.size < wr.heap.size := by omega
        by_cases hin : i < L ∧ 0 < len
        · obtain ⟨hin, hlen0⟩ := hin
          rcases hx with hx | ⟨bx, ox, rfl, hbx, hoct⟩
          · omega
          have hmod : Int.tmod (i : Int) (len : Int) = ((i % len : Nat) : Int) := by rw [Int.tmod_eq_emod_of_nonneg (by omega)]; rfl
          have hml : i % len < len := Nat.mod_lt _ hlen0
          obtain ⟨v, hv0, hv1, hv⟩ := hoct (i % len) hml
          have hcx : wr.cell? ⟨bx, ox + i % len, none⟩ = some (.int .u8 v) := (hB.cell (p := ⟨bx, ox + i % len, none⟩) hbx).trans hv
          have hbr : bx < wr.heap.size := by omega
          have hx1 : w.heap.size ≠ wc.heap.size := by omega
          have hx2 : bx ≠ wc.heap.size := by omega
          have hci : wr.cell? ⟨wc.heap.size, i, none⟩ = some (.int .u8 (fn i)) := by rw [cell_of_row _ _ i _ _ _ hout, rowU_get hin]
          have hfi : wr.frozen? ⟨wc.heap.size, i, none⟩ = false := frozen_of_row _ _ i _ _ hout
          go_wp2_with fail
          refine wp_region_ord (.s 0 .p (.s 1 .p (.s 2 .p (.s 3 .l (.s 4 .p (.s 5 .p (.s 6 .l (.s 7 .p (.s 8 .p (.s 9 .p (.s 10 .l (.s 11 .p (.s 12 .p (.s 13 .p (.s 14 .p (.s 15 .e .done)))))))))))))))) (Held wr [wc.heap.size]) (by kernel_rfl) (by kernel_rfl) (fun _ _ _ _ _ h => h) (Held.refl _ _) ?_
          (apply wpOrd_p2 rfl rfl rfl rfl rfl; (intro w' K hK; (first | go_big_move | go_big_op | go_wp2_with fail); exact hK))
          (apply wpOrd_p2 rfl rfl rfl rfl rfl; (intro w' K hK; (first | go_big_move | go_big_op | go_wp2_with fail); exact hK))
          (apply wpOrd_p2 rfl rfl rfl rfl rfl; (intro w' K hK; (first | go_big_move | go_big_op | go_wp2_with fail); exact hK))
          (apply wpOrd_l2 rfl rfl rfl rfl rfl; (intro w' K hS' hK; (have hr' := hS'.cell; simp at hr'; (first | go_big_op | go_wp2_with fail); exact hK)); (first | assumption | exact Held.refl _ _ | exact Held.of_below (by repeat (first | with_reducible exact Below.refl _ _ | with_reducible assumption | ((with_reducible refine Below.alloc ?_ ?hb_ _); (case hb_ => first | omega | (simp; done) | (simp; omega))) | ((with_reducible refine Below.setCell ?_ ?hb_ _); (case hb_ => first | omega | (simp; done) | (simp; omega))) | with_reducible refine Below.drew ?_ | with_reducible refine below_drewN ?_ _))))
          (apply wpOrd_p2 rfl rfl rfl rfl rfl; (intro w' K hK; (first | go_big_move | go_big_op | go_wp2_with fail); exact hK))
          (apply wpOrd_p2 rfl rfl rfl rfl rfl; (intro w' K hK; (first | go_big_move | go_big_op | go_wp2_with fail); exact hK))
          (apply wpOrd_l2 rfl rfl rfl rfl rfl; (intro w' K hS' hK; (have hr' := hS'.cell; simp at hr'; (first | go_big_op | go_wp2_with fail); exact hK)); (first | assumption | exact Held.refl _ _ | exact Held.of_below (by repeat (first | with_reducible exact Below.refl _ _ | with_reducible assumption | ((with_reducible refine Below.alloc ?_ ?hb_ _); (case hb_ => first | omega | (simp; done) | (simp; omega))) | ((with_reducible refine Below.setCell ?_ ?hb_ _); (case hb_ => first | omega | (simp; done) | (simp; omega))) | with_reducible refine Below.drew ?_ | with_reducible refine below_drewN ?_ _))))
          (apply wpOrd_p2 rfl rfl rfl rfl rfl; (intro w' K hK; (first | go_big_move | go_big_op | go_wp2_with fail); exact hK))
          (apply wpOrd_p2 rfl rfl rfl rfl rfl; (intro w' K hK; (first | go_big_move | go_big_op | go_wp2_with fail); exact hK))
          (apply wpOrd_p2 rfl rfl rfl rfl rfl; (intro w' K hK; (first | go_big_move | go_big_op | go_wp2_with fail); exact hK))
          (apply wpOrd_l2 rfl rfl rfl rfl rfl; (intro w' K hS' hK; (have hr' := hS'.cell; simp at hr'; (first | go_big_op | go_wp2_with fail); exact hK)); (first | assumption | exact Held.refl _ _ | exact Held.of_below (by repeat (first | with_reducible exact Below.refl _ _ | with_reducible assumption | ((with_reducible refine Below.alloc ?_ ?hb_ _); (case hb_ => first | omega | (simp; done) | (simp; omega))) | ((with_reducible refine Below.setCell ?_ ?hb_ _); (case hb_ => first | omega | (simp; done) | (simp; omega))) | with_reducible refine Below.drew ?_ | with_reducible refine below_drewN ?_ _))))
          (apply wpOrd_p2 rfl rfl rfl rfl rfl; (intro w' K hK; (first | go_big_move | go_big_op | go_wp2_with fail); exact hK))
          (apply wpOrd_p2 rfl rfl rfl rfl rfl; (intro w' K hK; (first | go_big_move | go_big_op | go_wp2_with fail); exact hK))
          (apply wpOrd_p2 rfl rfl rfl rfl rfl; (intro w' K hK; (first | go_big_move | go_big_op | go_wp2_with fail); exact hK))
          (apply wpOrd_p2 rfl rfl rfl rfl rfl; (intro w' K hK; (first | go_big_move | go_big_op | go_wp2_with fail); exact hK))
          (refine wpOrd_e1 rfl rfl (fun K hK => ?_)); (first | go_big_op | go_wp2_with fail)
          refine hK _ _ (Held.setCell (Held.drew (Held.refl _ _)) _ _ (.inr (by simp))) ?_; clear hK K
          refine wpOrd_nil ?_
          go_wp2_with fail
          go_roundw
          case rel =>
            refine ⟨i + 1, fun j => if j = i then (v + i) % 256 else fn j, by omega, by go_num, ?_, (by repeat (first | with_reducible exact Below.refl _ _ | with_reducible assumption | ((with_reducible refine Below.alloc ?_ ?hb_ _); (case hb_ => first | omega | (simp; done) | (simp; omega))) | ((with_reducible refine Below.setCell ?_ ?hb_ _); (case hb_ => first | omega | (simp; done) | (simp; omega))) | with_reducible refine Below.drew ?_ | with_reducible refine below_drewN ?_ _)), by simp; omega, (heap_setCell_other wr _ _ _ (by simp; omega)).trans h3, (heap_setCell_other wr _ _ _ (by simp; omega)).trans hdr, (heap_setCell_other wr _ _ _ (by simp; omega)).trans hzp, by simp; omega, (heap_setCell_same wr _ _ _ _ _ hout).trans (by rw [rowU_set])⟩
            intro j
            have hj := hfn j
            dsimp only
            split <;> omega
          case measure => simp [intOf]; omega
        · have hin' : L = i ∨ len = 0 := by omega
          have Hok := Lib.hid (show pOk W1 H1 n (strU L fn) A B C D E F from ⟨by omega, by omega, hn, hm, by rw [strU_size]; exact HL.out⟩)
          have Hnear := Lib.hid hnear
          clear hnear
          have hcv := Lib.run_convert_whole (P := Try.prog) wr 22 5 9 Try.underlying22 Try.underlying5 Try.underlying9 wc.heap.size 0 (strU L fn) (strU_bytes hfn hout) L
          rw [strU_size] at hcv
          obtain ⟨p0, p1, p2, p3, p4, p5, p6, p7, p8, p9⟩ := pic10 h3
          obtain ⟨z0, z1, z2, z3, z4, z5, z6, z7, z8, z9⟩ := pic10 hzp
          have q3 := picf10 h3 3
          have y0 := picf10 hzp 0
          have y1 := picf10 hzp 1
          have y2 := picf10 hzp 2
          have y3 := picf10 hzp 3
          have y4 := picf10 hzp 4
          have y5 := picf10 hzp 5
          have y6 := picf10 hzp 6
          have y7 := picf10 hzp 7
          have y8 := picf10 hzp 8
          have y9 := picf10 hzp 9
          have hb1 : w.heap.size + 1 < wr.heap.size := by omega
          have hb2 : w.heap.size + 1 ≠ b3 := by omega
          have hb4 : b3 ≠ w.heap.size + 1 := by omega
          rcases hin' with hq | hq
          all_goals subst hq
          all_goals go_wp2_with fail
          all_goals exact bodyPost_ret (v := .agg #[.int .i64 W1, .int .i64 H1, .int .i64 n, .string (strU L fn), .int .i64 A, .int .i64 B, .int .i64 C, .int .i64 D, .int .i64 E, .int .i64 F]) (by simp [results, Try.results8, go_sem, *]) rfl ⟨⟨W1, H1, n, _, A, B, C, D, E, F, Hok.out, hW2.2, hH2.2, Hnear.out, rfl⟩, (by repeat (first | with_reducible exact Below.refl _ _ | with_reducible assumption | ((with_reducible refine Below.alloc ?_ ?hb_ _); (case hb_ => first | omega | (simp; done) | (simp; omega))) | ((with_reducible refine Below.setCell ?_ ?hb_ _); (case hb_ => first | omega | (simp; done) | (simp; omega))) | with_reducible refine Below.drew ?_ | with_reducible refine below_drewN ?_ _))⟩
end Go.Proofs.Ytkkeahnmmpcceaa.T3
