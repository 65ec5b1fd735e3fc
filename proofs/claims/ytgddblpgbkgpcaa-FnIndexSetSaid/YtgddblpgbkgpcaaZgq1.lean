/- Part of the proof of fnIndexSet_holds. -/
import Derived.Test.YtgddblpgbkgpcaaZgq0
import Derived.Lib.Hide
import Derived.Test.YtgddblpgbkgpcaaZgr0
import Derived.Test.YtgddblpgbkgpcaaZgb0
namespace Go.Proofs.Ytgddblpgbkgpcaa.PR
set_option linter.unusedVariables false
set_option linter.unusedSimpArgs false
open Go.RowKit Go.Proofs.YtgddblpgbkgpcaaW.PrintWords Go.Proofs.YtgddblpgbkgpcaaW.PrintLast Go.Proofs.YtgddblpgbkgpcaaW.PrintMore
set_option linter.unusedVariables false
set_option linter.unusedSimpArgs false
theorem put46 (X : World) (b : Nat) (z0 z1 z2 z3 z4 z5 z6 : Value) (hz : X.heap[b]? = some (.cells #[z0, z1, z2, z3, z4, z5, z6] 46 (0, 0))) (x0 x1 x2 x3 x4 x5 x6 : Value) :
    (((((((X.setCell ⟨b, 0, none⟩ x0).setCell ⟨b, 1, none⟩ x1).setCell ⟨b, 2, none⟩ x2).setCell ⟨b, 3, none⟩ x3).setCell ⟨b, 4, none⟩ x4).setCell ⟨b, 5, none⟩ x5).setCell ⟨b, 6, none⟩ x6).heap[b]? = some (.cells #[x0, x1, x2, x3, x4, x5, x6] 46 (0, 0)) := by
  have q0 : (X.setCell ⟨b, 0, none⟩ x0).heap[b]? = some (.cells #[x0, z1, z2, z3, z4, z5, z6] 46 (0, 0)) := blk_put hz 0 _ rfl
  have q1 : ((X.setCell ⟨b, 0, none⟩ x0).setCell ⟨b, 1, none⟩ x1).heap[b]? = some (.cells #[x0, x1, z2, z3, z4, z5, z6] 46 (0, 0)) := blk_put q0 1 _ rfl
  have q2 : (((X.setCell ⟨b, 0, none⟩ x0).setCell ⟨b, 1, none⟩ x1).setCell ⟨b, 2, none⟩ x2).heap[b]? = some (.cells #[x0, x1, x2, z3, z4, z5, z6] 46 (0, 0)) := blk_put q1 2 _ rfl
  have q3 : ((((X.setCell ⟨b, 0, none⟩ x0).setCell ⟨b, 1, none⟩ x1).setCell ⟨b, 2, none⟩ x2).setCell ⟨b, 3, none⟩ x3).heap[b]? = some (.cells #[x0, x1, x2, x3, z4, z5, z6] 46 (0, 0)) := blk_put q2 3 _ rfl
  have q4 : (((((X.setCell ⟨b, 0, none⟩ x0).setCell ⟨b, 1, none⟩ x1).setCell ⟨b, 2, none⟩ x2).setCell ⟨b, 3, none⟩ x3).setCell ⟨b, 4, none⟩ x4).heap[b]? = some (.cells #[x0, x1, x2, x3, x4, z5, z6] 46 (0, 0)) := blk_put q3 4 _ rfl
  have q5 : ((((((X.setCell ⟨b, 0, none⟩ x0).setCell ⟨b, 1, none⟩ x1).setCell ⟨b, 2, none⟩ x2).setCell ⟨b, 3, none⟩ x3).setCell ⟨b, 4, none⟩ x4).setCell ⟨b, 5, none⟩ x5).heap[b]? = some (.cells #[x0, x1, x2, x3, x4, x5, z6] 46 (0, 0)) := blk_put q4 5 _ rfl
  have q6 : (((((((X.setCell ⟨b, 0, none⟩ x0).setCell ⟨b, 1, none⟩ x1).setCell ⟨b, 2, none⟩ x2).setCell ⟨b, 3, none⟩ x3).setCell ⟨b, 4, none⟩ x4).setCell ⟨b, 5, none⟩ x5).setCell ⟨b, 6, none⟩ x6).heap[b]? = some (.cells #[x0, x1, x2, x3, x4, x5, x6] 46 (0, 0)) := blk_put q5 6 _ rfl
  exact q6
theorem put46d (X : World) (b : Nat) (z0 z1 z2 z3 z4 z5 z6 : Value) (hz : X.heap[b]? = some (.cells #[z0, z1, z2, z3, z4, z5, z6] 46 (0, 0))) (x0 x1 x2 x3 x4 x5 x6 : Value) :
    (((((((X.setCell ⟨b, 0, none⟩ x0).setCell ⟨b, 1, none⟩ x1).setCell ⟨b, 2, none⟩ x2).setCell ⟨b, 3, none⟩ x3).setCell ⟨b, 4, none⟩ x4).setCell ⟨b, 5, none⟩ x5).setCell ⟨b, 6, none⟩ x6).drew.heap[b]? = some (.cells #[x0, x1, x2, x3, x4, x5, x6] 46 (0, 0)) := by
  have h := put46 X b z0 z1 z2 z3 z4 z5 z6 hz x0 x1 x2 x3 x4 x5 x6
  generalize (((((((X.setCell ⟨b, 0, none⟩ x0).setCell ⟨b, 1, none⟩ x1).setCell ⟨b, 2, none⟩ x2).setCell ⟨b, 3, none⟩ x3).setCell ⟨b, 4, none⟩ x4).setCell ⟨b, 5, none⟩ x5).setCell ⟨b, 6, none⟩ x6) = Y at h ⊢
  exact h
theorem set46 {w X : World} {b : Nat} (h : Below w.heap.size w X) (hb : w.heap.size ≤ b) (x0 x1 x2 x3 x4 x5 x6 : Value) : Below w.heap.size w (((((((X.setCell ⟨b, 0, none⟩ x0).setCell ⟨b, 1, none⟩ x1).setCell ⟨b, 2, none⟩ x2).setCell ⟨b, 3, none⟩ x3).setCell ⟨b, 4, none⟩ x4).setCell ⟨b, 5, none⟩ x5).setCell ⟨b, 6, none⟩ x6) := ((((((h.setCell hb _).setCell hb _).setCell hb _).setCell hb _).setCell hb _).setCell hb _).setCell hb _
def Rr (w : World) (g : Nat) (A : Option Addr) (n c : Nat) : Prop := w.heap[g]? = some (.cells #[.slice A n c, .slice none 0 0, .bool false, .int .i64 0, .int .i64 0] 85 (0, 0))
def JPost (w : World) (x0 x1 x2 x3 x4 x5 x6 : Value) (e : Ending) (w' : World) : Prop := e = .returned (.agg #[x0, x1, x2, x3, x4, x5, x6]) ∧ Below w.heap.size w w'
set_option maxRecDepth 100000 in
set_option maxHeartbeats 4000000 in
theorem obj_no (g : Nat) (v : S35) (w : World) (hv : v.f0 ≠ 4) : Calls Try.prog 119 #[.pointer (some ⟨g, 0, none⟩), .agg #[.int .i64 v.f0, .string v.f1, .int .i64 v.f2]] w (JPost w (.int .i64 0) (.string ⟨#[]⟩) (.int .i64 0) (.slice none 0 0) (.slice none 0 0) (.slice none 0 0) (.slice none 0 0)) := by
  obtain ⟨W, hW⟩ : ∃ W : World, W = (w.alloc (.cells #[.int .i64 v.f0, .string v.f1, .int .i64 v.f2] 35)).alloc (.cells #[.int .i64 0, .string ⟨#[]⟩, .int .i64 0, .slice none 0 0, .slice none 0 0, .slice none 0 0, .slice none 0 0] 46) := ⟨_, rfl⟩
  have hwb : Below w.heap.size w W := by rw [hW]; exact bla (bla (Below.refl _ _) _) _
  have e1 := blk_new (w.alloc (.cells #[.int .i64 v.f0, .string v.f1, .int .i64 v.f2] 35)) (.cells #[.int .i64 0, .string ⟨#[]⟩, .int .i64 0, .slice none 0 0, .slice none 0 0, .slice none 0 0, .slice none 0 0] 46)
  rw [World.size_alloc, ← hW] at e1
  have e0 : W.heap[w.heap.size]? = some (.cells #[.int .i64 v.f0, .string v.f1, .int .i64 v.f2] 35 (0, 0)) := by rw [hW]; exact kla (blk_new _ _) _
  have v0 := (kcl e0 0).trans (show _ = some (.int .i64 v.f0) from rfl)
  have v2 := (kcl e0 2).trans (show _ = some (.int .i64 v.f2) from rfl)
  have z0 := (kcl e1 0).trans (show _ = some (.int .i64 0) from rfl)
  have f0 := kfz e1 0
  have z1 := (kcl e1 1).trans (show _ = some (.string ⟨#[]⟩) from rfl)
  have f1 := kfz e1 1
  have z2 := (kcl e1 2).trans (show _ = some (.int .i64 0) from rfl)
  have f2 := kfz e1 2
  have z3 := (kcl e1 3).trans (show _ = some (.slice none 0 0) from rfl)
  have f3 := kfz e1 3
  have z4 := (kcl e1 4).trans (show _ = some (.slice none 0 0) from rfl)
  have f4 := kfz e1 4
  have z5 := (kcl e1 5).trans (show _ = some (.slice none 0 0) from rfl)
  have f5 := kfz e1 5
  have z6 := (kcl e1 6).trans (show _ = some (.slice none 0 0) from rfl)
  have f6 := kfz e1 6
  have E1 := Aside0.mk e1
  have HWB := Aside0.mk hwb
  have HW := Lib.hid hW
  have hv4 : (v.f0 == 4) = false := by simpa using hv
  clear hW hwb e0 e1 hv
  go_enter Try.func119, Try.ntmps119
  go_upto_region 1 with (fail)
  rw [← HW.out]
  go_wp2_with fail
  exact bodyPost_ret (B.res_c rfl _ _ (w.heap.size + 1) 46 _ (0, 0) _ rfl (put46 W _ _ _ _ _ _ _ _ E1.out _ _ _ _ _ _ _) Try.underlying46 rfl (by kernel_rfl)) rfl ⟨rfl, set46 HWB.out (by omega) _ _ _ _ _ _ _⟩
set_option maxRecDepth 100000 in
set_option maxHeartbeats 4000000 in
theorem obj_ref (g : Nat) (ad : Addr) (n c : Nat) (v : S35) (o : S46) (A3 : Option Addr) (c3 : Nat) (A4 : Option Addr) (c4 : Nat) (A5 : Option Addr) (c5 : Nat) (A6 : Option Addr) (c6 : Nat) (w : World) (hg : Rr w g (some ad) n c) (hv : v.f0 = 4) (h0 : 0 ≤ v.f2) (h1 : v.f2 < (n : Int)) (hn : n ≤ 1000) (ho : Oc w ad v.f2.toNat o A3 c3 A4 c4 A5 c5 A6 c6) :
    Calls Try.prog 119 #[.pointer (some ⟨g, 0, none⟩), .agg #[.int .i64 v.f0, .string v.f1, .int .i64 v.f2]] w (JPost w (.int .i64 o.f0) (.string o.f1) (.int .i64 o.f2) (.slice A3 o.f3.length c3) (.slice A4 o.f4.length c4) (.slice A5 o.f5.length c5) (.slice A6 o.f6.length c6)) := by
  obtain ⟨W, hW⟩ : ∃ W : World, W = (w.alloc (.cells #[.int .i64 v.f0, .string v.f1, .int .i64 v.f2] 35)).alloc (.cells #[.int .i64 0, .string ⟨#[]⟩, .int .i64 0, .slice none 0 0, .slice none 0 0, .slice none 0 0, .slice none 0 0] 46) := ⟨_, rfl⟩
  have hwb : Below w.heap.size w W := by rw [hW]; exact bla (bla (Below.refl _ _) _) _
  have e1 := blk_new (w.alloc (.cells #[.int .i64 v.f0, .string v.f1, .int .i64 v.f2] 35)) (.cells #[.int .i64 0, .string ⟨#[]⟩, .int .i64 0, .slice none 0 0, .slice none 0 0, .slice none 0 0, .slice none 0 0] 46)
  rw [World.size_alloc, ← hW] at e1
  have e0 : W.heap[w.heap.size]? = some (.cells #[.int .i64 v.f0, .string v.f1, .int .i64 v.f2] 35 (0, 0)) := by rw [hW]; exact kla (blk_new _ _) _
  have v0 := (kcl e0 0).trans (show _ = some (.int .i64 v.f0) from rfl)
  have v2 := (kcl e0 2).trans (show _ = some (.int .i64 v.f2) from rfl)
  have z0 := (kcl e1 0).trans (show _ = some (.int .i64 0) from rfl)
  have f0 := kfz e1 0
  have z1 := (kcl e1 1).trans (show _ = some (.string ⟨#[]⟩) from rfl)
  have f1 := kfz e1 1
  have z2 := (kcl e1 2).trans (show _ = some (.int .i64 0) from rfl)
  have f2 := kfz e1 2
  have z3 := (kcl e1 3).trans (show _ = some (.slice none 0 0) from rfl)
  have f3 := kfz e1 3
  have z4 := (kcl e1 4).trans (show _ = some (.slice none 0 0) from rfl)
  have f4 := kfz e1 4
  have z5 := (kcl e1 5).trans (show _ = some (.slice none 0 0) from rfl)
  have f5 := kfz e1 5
  have z6 := (kcl e1 6).trans (show _ = some (.slice none 0 0) from rfl)
  have f6 := kfz e1 6
  have E1 := Aside0.mk e1
  have HWB := Aside0.mk hwb
  have HW := Lib.hid hW
  have hv4 : (v.f0 == 4) = true := by simp [hv]
  have r0 := (kcl (kbw hg hwb) 0).trans (show _ = some (.slice (some ad) n c) from rfl)
  obtain ⟨g0, g1, g2, g3, g4, g5, g6, -, -⟩ := ho.below hwb
  clear hW hwb e0 e1 hv ho hg
  go_enter Try.func119, Try.ntmps119
  go_upto_region 1 with (fail)
  rw [← HW.out]
  go_upto_region 2 with (fail)
  go_region
  go_wp2_with fail
  exact bodyPost_ret (B.res_c rfl _ _ (w.heap.size + 1) 46 _ (0, 0) _ rfl (put46d W _ _ _ _ _ _ _ _ E1.out _ _ _ _ _ _ _) Try.underlying46 rfl (by kernel_rfl)) rfl ⟨rfl, below_drew (set46 HWB.out (by omega) _ _ _ _ _ _ _)⟩
end Go.Proofs.Ytgddblpgbkgpcaa.PR
namespace Go.Proofs.Ytgddblpgbkgpcaa.PR
set_option linter.unusedVariables false
set_option linter.unusedSimpArgs false
open Go.RowKit Go.Proofs.YtgddblpgbkgpcaaW.PrintWords Go.Proofs.YtgddblpgbkgpcaaW.PrintLast Go.Proofs.YtgddblpgbkgpcaaW.PrintMore
set_option linter.unusedVariables false
set_option linter.unusedSimpArgs false
theorem inr_w (x n : Int) (b : Bool) (h : b = decide (0 ≤ x ∧ x ≤ n)) (W : World) : Calls Try.prog 103 #[.int .i64 x, .int .i64 0, .int .i64 n] W fun e w' => e = .returned (.bool b) ∧ Drawn0 W w' := by
  refine spec_inRange.calls x 0 n b W ?_
  unfold spec_inRange.f
  by_cases h0 : x ≥ 0
  · rw [if_pos h0, h]; congr 1; exact decide_eq_decide.2 ⟨fun h => ⟨h0, h⟩, fun h => h.2⟩
  · rw [if_neg h0, h]; congr 1; exact (decide_eq_false (by omega)).symm
set_option maxRecDepth 100000 in
set_option maxHeartbeats 4000000 in
theorem indexIn_w (k : Int) (t : ByteArray) (r n : Int) (w : World) (hok : k = 2 → B.intB t = true ∧ t.size ≤ 5) (hn : 0 ≤ n ∧ n ≤ 1000000) (i c : Int) (h : Plc k t n i c) :
    Calls Try.prog 120 #[.agg #[.int .i64 k, .string t, .int .i64 r], .int .i64 n] w (EPost w i c) := by
  have hwb : Below w.heap.size w (w.alloc (.cells #[.int .i64 k, .string t, .int .i64 r] 35)) := bla (Below.refl _ _) _
  have h0 := blk_new w (.cells #[.int .i64 k, .string t, .int .i64 r] 35)
  obtain ⟨W, hW⟩ : ∃ W : World, W = w.alloc (.cells #[.int .i64 k, .string t, .int .i64 r] 35) := ⟨_, rfl⟩
  rw [← hW] at hwb h0
  have k0 := (kcl h0 0).trans (show _ = some (.int .i64 k) from rfl)
  have k1 := (kcl h0 1).trans (show _ = some (.string t) from rfl)
  have HWB := Aside0.mk hwb
  have HW := Lib.hid hW
  clear hW hwb h0
  rcases h with ⟨hk, rfl, rfl⟩ | h
  · have hk2 : (k == 2) = false := by simpa using hk
    clear hok hk
    go_enter Try.func120, Try.ntmps120
    go_upto_region 1 with (fail)
    rw [← HW.out]
    go_wp2_with fail
    go_ret2
    exact ⟨rfl, HWB.out⟩
  · obtain rfl : k = 2 := by rcases h with h | h; exact h.1; exact h.1
    obtain ⟨hi, h5⟩ := hok rfl
    obtain ⟨hdg, hd0⟩ := body_Dg hi h5
    have HS := Aside0.mk (fun (W : World) => ssmall_w (B.body t) W hdg hd0)
    obtain ⟨v0, v9⟩ := dv_small hdg (B.body t).size (Nat.le_refl _)
    have ht0 : 0 < t.size := by
      have h1 := hdg.2.1
      rcases Nat.eq_zero_or_pos t.size with h | h
      · exfalso
        have : (B.body t).size ≤ t.size := by
          unfold B.body
          split
          · rw [ByteArray.size_extract]; omega
          · omega
        omega
      · exact h
    unfold pval at h
    obtain ⟨v, hv⟩ : ∃ v, v = dv (B.body t) (B.body t).size := ⟨_, rfl⟩
    rw [← hv] at h v0 v9 HS
    obtain ⟨n0, n9⟩ := hn
    clear hv hok hi h5 hdg hd0
    cases hdash : B.hasDash t
    · rw [show B.body t = t by simp [B.body, hdash]] at HS
      rw [hdash] at h
      have hq : (((t[0]'ht0).toNat : Int) == 45) = false := by
        simp only [B.hasDash, dif_pos ht0, beq_eq_false_iff_ne] at hdash
        simp only [beq_eq_false_iff_ne]
        exact fun e => hdash (UInt8.toNat_inj.1 (by have : (45 : UInt8).toNat = 45 := rfl; omega))
      simp only [Bool.false_eq_true, if_false, true_and] at h
      clear hdash
      rcases h with ⟨⟨h1, h2⟩, rfl, rfl⟩ | ⟨h1, rfl, rfl⟩
      · have HIR := Aside0.mk (fun (W : World) => inr_w i (n - 1) true (decide_eq_true (by omega)).symm W)
        clear h1 h2
        go_enter Try.func120, Try.ntmps120
        go_upto_region 1 with (fail)
        rw [← HW.out]
        go_wp2_with (first | (go_at_call 147; refine (HS.out _).mono ?_; rintro e w1 ⟨rfl, hB⟩; have HB := Aside0.mk (bst HWB.out hB); clear hB) | (go_at_call 103; refine (HIR.out _).mono ?_; rintro e w2 ⟨rfl, hB2⟩; have HB2 := Aside0.mk (bst HB.out hB2.below); clear hB2))
        go_ret2
        exact ⟨rfl, HB2.out⟩
      · have HIR := Aside0.mk (fun (W : World) => inr_w v (n - 1) false (decide_eq_false (by omega)).symm W)
        clear h1
        go_enter Try.func120, Try.ntmps120
        go_upto_region 1 with (fail)
        rw [← HW.out]
        go_wp2_with (first | (go_at_call 147; refine (HS.out _).mono ?_; rintro e w1 ⟨rfl, hB⟩; have HB := Aside0.mk (bst HWB.out hB); clear hB) | (go_at_call 103; refine (HIR.out _).mono ?_; rintro e w2 ⟨rfl, hB2⟩; have HB2 := Aside0.mk (bst HB.out hB2.below); clear hB2))
        go_ret2
        exact ⟨rfl, HB2.out⟩
    · rw [show B.body t = t.extract 1 t.size by simp [B.body, hdash]] at HS
      rw [hdash] at h
      have hq : (((t[0]'ht0).toNat : Int) == 45) = true := by
        simp only [B.hasDash, dif_pos ht0, beq_iff_eq] at hdash
        rw [hdash]; rfl
      have d0 : decide (0 ≤ v) = true := decide_eq_true v0
      simp only [if_true, true_and] at h
      clear hdash
      rcases h with ⟨⟨h1, h2⟩, rfl, rfl⟩ | ⟨h1, rfl, rfl⟩
      · have HIR := Aside0.mk (fun (W : World) => inr_w (n - v) (n - 1) true (decide_eq_true (by omega)).symm W)
        clear h1 h2
        go_enter Try.func120, Try.ntmps120
        go_upto_region 1 with (fail)
        rw [← HW.out]
        go_wp2_with (first | (go_at_call 147; refine (HS.out _).mono ?_; rintro e w1 ⟨rfl, hB⟩; have HB := Aside0.mk (bst HWB.out hB); clear hB) | (go_at_call 103; refine (HIR.out _).mono ?_; rintro e w2 ⟨rfl, hB2⟩; have HB2 := Aside0.mk (bst HB.out hB2.below); clear hB2))
        go_ret2
        exact ⟨rfl, HB2.out⟩
      · have HIR := Aside0.mk (fun (W : World) => inr_w (n - v) (n - 1) false (decide_eq_false (by omega)).symm W)
        clear h1
        go_enter Try.func120, Try.ntmps120
        go_upto_region 1 with (fail)
        rw [← HW.out]
        go_wp2_with (first | (go_at_call 147; refine (HS.out _).mono ?_; rintro e w1 ⟨rfl, hB⟩; have HB := Aside0.mk (bst HWB.out hB); clear hB) | (go_at_call 103; refine (HIR.out _).mono ?_; rintro e w2 ⟨rfl, hB2⟩; have HB2 := Aside0.mk (bst HB.out hB2.below); clear hB2))
        go_ret2
        exact ⟨rfl, HB2.out⟩
end Go.Proofs.Ytgddblpgbkgpcaa.PR
namespace Go.Proofs.Ytgddblpgbkgpcaa.PR
set_option linter.unusedVariables false
set_option linter.unusedSimpArgs false
open Go.RowKit Go.Proofs.YtgddblpgbkgpcaaW.PrintWords Go.Proofs.YtgddblpgbkgpcaaW.PrintLast Go.Proofs.YtgddblpgbkgpcaaW.PrintMore
set_option linter.unusedVariables false
set_option linter.unusedSimpArgs false
theorem val_in {n : Nat} {x : S35} (h : B.valOk n (tV x) = true) : x.f0 = 4 → 0 ≤ x.f2 ∧ x.f2 < n := by
  intro h4
  unfold B.valOk at h
  simp [tV, h4, B.inR] at h
  omega
def okB (l : List S46) (roots : List S35) : Bool := decide (l.length ≤ 600) && (l.map tO).all (B.objB B.nsOk l.length) && (roots.map tV).all (B.valOk l.length)
end Go.Proofs.Ytgddblpgbkgpcaa.PR
namespace Go.Proofs.Ytgddblpgbkgpcaa.PR
set_option linter.unusedVariables false
set_option linter.unusedSimpArgs false
open Go.RowKit Go.Proofs.YtgddblpgbkgpcaaW.PrintWords Go.Proofs.YtgddblpgbkgpcaaW.PrintLast Go.Proofs.YtgddblpgbkgpcaaW.PrintMore
set_option linter.unusedVariables false
set_option linter.unusedSimpArgs false
def okH (l : List S46) : Bool := decide (l.length ≤ 600) && (l.map tO).all (B.objB B.nsOk l.length)
def okV (n : Nat) (roots : List S35) : Bool := (roots.map tV).all (B.valOk n)
theorem okB_eq (l : List S46) (roots : List S35) : okB l roots = (okH l && okV l.length roots) := rfl
theorem heapOk_k {A : Option Addr} {n : Nat} (c : Nat) {l : List S46} {w : World} (hC : Kd.C k46 w A n l) (ob : ∀ o ∈ l, oB o = true) (hl : l.length ≤ 1000) :
    Calls Try.prog 30 #[.agg #[.slice A n c]] w fun e w' => e = .returned (.bool (okH l)) ∧ Below w.heap.size w w' := by
  have h := B.heapOk_ok A c (l.map tO) w (ro_of hC ob hl)
  rw [List.length_map, hC.1] at h
  rw [show okH l = (decide (n ≤ 600) && (l.map tO).all (B.objB B.nsOk n)) by unfold okH; rw [hC.1]]
  exact h
theorem validHeap_k {A : Option Addr} {n : Nat} (c : Nat) {l : List S46} {w : World} (hC : Kd.C k46 w A n l) (ob : ∀ o ∈ l, oB o = true) (hl : l.length ≤ 1000) :
    Calls Try.prog 55 #[.agg #[.slice A n c]] w fun e w' => e = .returned (.bool (okH l)) ∧ Below w.heap.size w w' := by
  have h := B.validHeap_ok A c (l.map tO) w (ro_of hC ob hl)
  rw [List.length_map, hC.1, all_same ob, Bool.and_comm] at h
  rw [show okH l = (decide (n ≤ 600) && (l.map tO).all (B.objB B.nsOk n)) by unfold okH; rw [hC.1]]
  exact h
theorem valuesOk_k {A : Option Addr} {n : Nat} (c : Nat) (hn : n ≤ 1000) {A1 : Option Addr} {m : Nat} (c1 : Nat) {roots : List S35} {w : World} (hR : Kd.C k35 w A1 m roots) (hs : ∀ x ∈ roots, x.f1.size ≤ 100) (hm : roots.length ≤ 1000) :
    Calls Try.prog 53 #[.agg #[.slice A n c], .slice A1 m c1] w fun e w' => e = .returned (.bool (okV n roots)) ∧ Below w.heap.size w w' := by
  have h := B.valuesOk_n A n c (by omega) A1 c1 (roots.map tV) m (by rw [List.length_map, hR.1]) w (rv_of hR hs hm)
  exact h
end Go.Proofs.Ytgddblpgbkgpcaa.PR
namespace Go.Proofs.Ytgddblpgbkgpcaa.PR
set_option linter.unusedVariables false
set_option linter.unusedSimpArgs false
open Go.RowKit Go.Proofs.YtgddblpgbkgpcaaW.PrintWords Go.Proofs.YtgddblpgbkgpcaaW.PrintLast Go.Proofs.YtgddblpgbkgpcaaW.PrintMore
set_option linter.unusedVariables false
set_option linter.unusedSimpArgs false
theorem C_two (w : World) (v k : S35) : Kd.C k35 (w.alloc (.cells #[.int .i64 v.f0, .string v.f1, .int .i64 v.f2, .int .i64 k.f0, .string k.f1, .int .i64 k.f2] 35)) (some ⟨w.heap.size, 0, none⟩) 2 [v, k] :=
  (Kd.R_reads' (R_fresh w 0 (Nat.zero_le _) [v, k] (by simp))).2.2
theorem C_three (w : World) (v k x : S35) : Kd.C k35 (w.alloc (.cells #[.int .i64 v.f0, .string v.f1, .int .i64 v.f2, .int .i64 k.f0, .string k.f1, .int .i64 k.f2, .int .i64 x.f0, .string x.f1, .int .i64 x.f2] 35)) (some ⟨w.heap.size, 0, none⟩) 3 [v, k, x] :=
  (Kd.R_reads' (R_fresh w 0 (Nat.zero_le _) [v, k, x] (by simp))).2.2
def Di (l : List S46) (v k : S35) (y : S35) (cc : Int) : Prop := (okB l [v, k] = false ∧ y = zV ∧ cc = 10) ∨ (okB l [v, k] = true ∧ Got l v k y cc)
theorem okV_two (n : Nat) (v k : S35) : okV n [v, k] = (B.valOk n (tV v) && B.valOk n (tV k)) := by simp [okV]
theorem val_int {n : Nat} {k : S35} (h : B.valOk n (tV k) = true) : k.f0 = 2 → B.intB k.f1 = true := by
  intro h2
  have e0 : (tV k).k = 2 := h2
  unfold B.valOk at h
  rw [if_neg (by omega), if_neg (by omega), if_pos e0] at h
  simp only [Bool.and_eq_true] at h
  exact h.1
set_option maxRecDepth 100000 in
set_option maxHeartbeats 4000000 in
theorem doIndexI_w (A : Option Addr) (n c : Nat) (l : List S46) (v k : S35) (y : S35) (cc : Int) (w : World) (hC : Kd.C k46 w A n l) (hc : n ≤ c) (hn : n ≤ 1000) (hob : ∀ o ∈ l, oB o = true) (hv5 : v.f1.size ≤ 5) (hk5 : k.f1.size ≤ 5) (h : Di l v k y cc) :
    Calls Try.prog 34 #[.agg #[.slice A n c], .agg #[.int .i64 v.f0, .string v.f1, .int .i64 v.f2], .agg #[.int .i64 k.f0, .string k.f1, .int .i64 k.f2]] w (GPost w y cc) := by
  obtain ⟨W, hW⟩ : ∃ W : World, W = (((w.alloc (.cells #[.slice A n c] 25)).alloc (.cells #[.int .i64 v.f0, .string v.f1, .int .i64 v.f2] 35)).alloc (.cells #[.int .i64 k.f0, .string k.f1, .int .i64 k.f2] 35)).alloc (.cells #[.int .i64 0, .string ⟨#[]⟩, .int .i64 0] 35) := ⟨_, rfl⟩
  have BX := Aside0.mk (bx_new w n c A v k W hW)
  have HC := Aside0.mk (Kd.C_below hC BX.out.bl)
  have hl := hC.1
  have HOB := Aside0.mk hob
  have HOL := Aside0.mk (fun o (ho : o ∈ l) => (show oL o from by obtain ⟨-, h3, h4, h5, h6, -⟩ := oB_facts (hob o ho); exact ⟨by omega, by omega, by omega, by omega⟩))
  have HLL := Aside0.mk (show l.length ≤ 1000 by omega)
  have HL := Aside0.mk hl
  have HVS := Aside0.mk (show ∀ x ∈ [v, k], x.f1.size ≤ 100 by
    intro x hx
    simp only [List.mem_cons, List.not_mem_nil, or_false] at hx
    rcases hx with rfl | rfl <;> omega)
  have HW := Lib.hid hW
  obtain ⟨p0, v0, v1, v2, k0, k1, k2, zb, z0, z1, z2, f0, f1, f2, -⟩ := BX.out
  have HCC := Aside0.mk hc
  clear hW zb hC hc hob
  have h30 := heapOk_k (w := W) c HC.out HOB.out HLL.out
  unfold Di at h
  rw [okB_eq, hl] at h
  cases hH : okH l
  · rw [hH] at h h30
    have HH := Aside0.mk h30
    obtain ⟨rfl, rfl⟩ : y = zV ∧ cc = 10 := by rcases h with h | h; exact h.2; simp at h
    clear hH h30 h
    go_enter Try.func34, Try.ntmps34
    go_upto_region 1 with (fail)
    rw [← HW.out]
    go_wp2_with (first | (go_at_call 30; refine HH.out.mono ?_; rintro e w1 ⟨rfl, hB⟩; replace BX := Aside0.mk (BX.out.below hB); clear p0 v0 v1 v2 k0 k1 k2 z0 z1 z2 f0 f1 f2; obtain ⟨p0, v0, v1, v2, k0, k1, k2, zb, z0, z1, z2, f0, f1, f2, -⟩ := BX.out; clear zb; replace HC := Aside0.mk (Kd.C_below HC.out hB); clear hB))
    refine bodyPost_ret (fin35 rfl _ w1 _ _ _ _ BX.out.zb _ _ _ rfl) rfl ⟨rfl, set35 BX.out.bl (by omega) _ _ _⟩

  · rw [hH, Bool.true_and] at h
    rw [hH] at h30
    have HH := Aside0.mk h30
    clear hH h30
    have HVK := Aside0.mk (fun (X : World) => valuesOk_k (A := A) (n := n) c hn 2 (C_two X v k) HVS.out (by simp))
    cases hV : okV n [v, k]
    · rw [hV] at h HVK
      obtain ⟨rfl, rfl⟩ : y = zV ∧ cc = 10 := by rcases h with h | h; exact h.2; simp at h
      clear hV h
      go_enter Try.func34, Try.ntmps34
      go_upto_region 1 with (fail)
      rw [← HW.out]
      go_wp2_with (first | (go_at_call 30; refine HH.out.mono ?_; rintro e w1 ⟨rfl, hB⟩; replace BX := Aside0.mk (BX.out.below hB); clear p0 v0 v1 v2 k0 k1 k2 z0 z1 z2 f0 f1 f2; obtain ⟨p0, v0, v1, v2, k0, k1, k2, zb, z0, z1, z2, f0, f1, f2, -⟩ := BX.out; clear zb; replace HC := Aside0.mk (Kd.C_below HC.out hB); clear hB) | (go_at_call 53; refine (HVK.out _).mono ?_; rintro e w2 ⟨rfl, hB2⟩; have hB := bst (bla (Below.refl w1.heap.size w1) (.cells #[.int .i64 v.f0, .string v.f1, .int .i64 v.f2, .int .i64 k.f0, .string k.f1, .int .i64 k.f2] 35)) hB2; replace BX := Aside0.mk (BX.out.below hB); clear p0 v0 v1 v2 k0 k1 k2 z0 z1 z2 f0 f1 f2; obtain ⟨p0, v0, v1, v2, k0, k1, k2, zb, z0, z1, z2, f0, f1, f2, -⟩ := BX.out; clear zb; replace HC := Aside0.mk (Kd.C_below HC.out hB); clear hB hB2))
      refine bodyPost_ret (fin35 rfl _ w2 _ _ _ _ BX.out.zb _ _ _ rfl) rfl ⟨rfl, set35 BX.out.bl (by omega) _ _ _⟩

    · rw [hV] at h HVK
      have hGot : Got l v k y cc := by rcases h with h | h; simp at h; exact h.2
      have hki : k.f0 = 2 → B.intB k.f1 = true ∧ k.f1.size ≤ 5 := by
        rw [okV_two, Bool.and_eq_true] at hV
        exact fun h2 => ⟨val_int hV.2 h2, hk5⟩
      have HIN := Aside0.mk (fun (X : World) (hX : Kd.C k46 X A n l) => iindex_w A n c l v k y cc X hX HCC.out hn (by omega) HOL.out hki hGot)
      clear hV h hGot hki
      go_enter Try.func34, Try.ntmps34
      go_upto_region 1 with (fail)
      rw [← HW.out]
      go_wp2_with (first | (go_at_call 30; refine HH.out.mono ?_; rintro e w1 ⟨rfl, hB⟩; replace BX := Aside0.mk (BX.out.below hB); clear p0 v0 v1 v2 k0 k1 k2 z0 z1 z2 f0 f1 f2; obtain ⟨p0, v0, v1, v2, k0, k1, k2, zb, z0, z1, z2, f0, f1, f2, -⟩ := BX.out; clear zb; replace HC := Aside0.mk (Kd.C_below HC.out hB); clear hB) | (go_at_call 53; refine (HVK.out _).mono ?_; rintro e w2 ⟨rfl, hB2⟩; have hB := bst (bla (Below.refl w1.heap.size w1) (.cells #[.int .i64 v.f0, .string v.f1, .int .i64 v.f2, .int .i64 k.f0, .string k.f1, .int .i64 k.f2] 35)) hB2; replace BX := Aside0.mk (BX.out.below hB); clear p0 v0 v1 v2 k0 k1 k2 z0 z1 z2 f0 f1 f2; obtain ⟨p0, v0, v1, v2, k0, k1, k2, zb, z0, z1, z2, f0, f1, f2, -⟩ := BX.out; clear zb; replace HC := Aside0.mk (Kd.C_below HC.out hB); clear hB hB2) | (go_at_call 73; refine (HIN.out _ HC.out).mono ?_; rintro e w3 ⟨rfl, hB⟩; replace BX := Aside0.mk (BX.out.below hB); clear p0 v0 v1 v2 k0 k1 k2 z0 z1 z2 f0 f1 f2; obtain ⟨p0, v0, v1, v2, k0, k1, k2, zb, z0, z1, z2, f0, f1, f2, -⟩ := BX.out; clear zb; replace HC := Aside0.mk (Kd.C_below HC.out hB); clear hB))
      refine bodyPost_ret (fin35 rfl _ w3 _ _ _ _ BX.out.zb _ _ _ rfl) rfl ⟨rfl, set35 BX.out.bl (by omega) _ _ _⟩
end Go.Proofs.Ytgddblpgbkgpcaa.PR
namespace Go.Proofs.Ytgddblpgbkgpcaa.PR
set_option linter.unusedVariables false
set_option linter.unusedSimpArgs false
open Go.RowKit Go.Proofs.YtgddblpgbkgpcaaW.PrintWords Go.Proofs.YtgddblpgbkgpcaaW.PrintLast Go.Proofs.YtgddblpgbkgpcaaW.PrintMore
set_option linter.unusedVariables false
set_option linter.unusedSimpArgs false
theorem add0 (g k : Nat) : (⟨g, 0, none⟩ : Addr).add k = ⟨g, k, none⟩ := by
  rcases Nat.eq_zero_or_pos k with rfl | h
  · rfl
  · simp [Addr.add]; omega
structure Bw (w X : World) (b : Nat) (n c : Nat) (A : Option Addr) (v k x : S35) : Prop where
  p0 : X.cell? ⟨b, 0, none⟩ = some (.slice A n c)
  v0 : X.cell? ⟨b + 1, 0, none⟩ = some (.int .i64 v.f0)
  v1 : X.cell? ⟨b + 1, 1, none⟩ = some (.string v.f1)
  v2 : X.cell? ⟨b + 1, 2, none⟩ = some (.int .i64 v.f2)
  k0 : X.cell? ⟨b + 1 + 1, 0, none⟩ = some (.int .i64 k.f0)
  k1 : X.cell? ⟨b + 1 + 1, 1, none⟩ = some (.string k.f1)
  k2 : X.cell? ⟨b + 1 + 1, 2, none⟩ = some (.int .i64 k.f2)
  x0 : X.cell? ⟨b + 1 + 1 + 1, 0, none⟩ = some (.int .i64 x.f0)
  x1 : X.cell? ⟨b + 1 + 1 + 1, 1, none⟩ = some (.string x.f1)
  x2 : X.cell? ⟨b + 1 + 1 + 1, 2, none⟩ = some (.int .i64 x.f2)
  bl : Below w.heap.size w X
theorem Bw.below {w X Y : World} {b n c : Nat} {A : Option Addr} {v k x : S35} (h : Bw w X b n c A v k x) (hb : Below X.heap.size X Y) : Bw w Y b n c A v k x :=
  ⟨B.cell_keep hb h.p0, B.cell_keep hb h.v0, B.cell_keep hb h.v1, B.cell_keep hb h.v2, B.cell_keep hb h.k0, B.cell_keep hb h.k1, B.cell_keep hb h.k2, B.cell_keep hb h.x0, B.cell_keep hb h.x1, B.cell_keep hb h.x2, bst h.bl hb⟩
theorem bw_new (w : World) (n c : Nat) (A : Option Addr) (v k x : S35) (W : World) (hW : W = (((w.alloc (.cells #[.slice A n c] 25)).alloc (.cells #[.int .i64 v.f0, .string v.f1, .int .i64 v.f2] 35)).alloc (.cells #[.int .i64 k.f0, .string k.f1, .int .i64 k.f2] 35)).alloc (.cells #[.int .i64 x.f0, .string x.f1, .int .i64 x.f2] 35)) : Bw w W w.heap.size n c A v k x := by
  have e1 := blk_new (w.alloc (.cells #[.slice A n c] 25)) (.cells #[.int .i64 v.f0, .string v.f1, .int .i64 v.f2] 35)
  have e2 := blk_new ((w.alloc (.cells #[.slice A n c] 25)).alloc (.cells #[.int .i64 v.f0, .string v.f1, .int .i64 v.f2] 35)) (.cells #[.int .i64 k.f0, .string k.f1, .int .i64 k.f2] 35)
  have e3 := blk_new (((w.alloc (.cells #[.slice A n c] 25)).alloc (.cells #[.int .i64 v.f0, .string v.f1, .int .i64 v.f2] 35)).alloc (.cells #[.int .i64 k.f0, .string k.f1, .int .i64 k.f2] 35)) (.cells #[.int .i64 x.f0, .string x.f1, .int .i64 x.f2] 35)
  rw [World.size_alloc] at e1 e2 e3
  rw [World.size_alloc] at e2 e3
  rw [World.size_alloc] at e3
  have h0 : W.heap[w.heap.size]? = some (.cells #[.slice A n c] 25 (0, 0)) := by rw [hW]; exact kla (kla (kla (blk_new _ _) _) _) _
  have h1 : W.heap[w.heap.size + 1]? = some (.cells #[.int .i64 v.f0, .string v.f1, .int .i64 v.f2] 35 (0, 0)) := by rw [hW]; exact kla (kla e1 _) _
  have h2 : W.heap[w.heap.size + 1 + 1]? = some (.cells #[.int .i64 k.f0, .string k.f1, .int .i64 k.f2] 35 (0, 0)) := by rw [hW]; exact kla e2 _
  have h3 : W.heap[w.heap.size + 1 + 1 + 1]? = some (.cells #[.int .i64 x.f0, .string x.f1, .int .i64 x.f2] 35 (0, 0)) := by rw [hW]; exact e3
  exact ⟨kcl h0 0, kcl h1 0, kcl h1 1, kcl h1 2, kcl h2 0, kcl h2 1, kcl h2 2, kcl h3 0, kcl h3 1, kcl h3 2, by rw [hW]; exact bla (bla (bla (bla (Below.refl _ _) _) _) _) _⟩
end Go.Proofs.Ytgddblpgbkgpcaa.PR
namespace Go.Proofs.Ytgddblpgbkgpcaa.PR
set_option linter.unusedVariables false
set_option linter.unusedSimpArgs false
open Go.RowKit Go.Proofs.YtgddblpgbkgpcaaW.PrintWords Go.Proofs.YtgddblpgbkgpcaaW.PrintLast Go.Proofs.YtgddblpgbkgpcaaW.PrintMore
set_option linter.unusedVariables false
set_option linter.unusedSimpArgs false
def PB (v3 v4 v5 v6 : Value) (k : Nat) : Prop := v3.ownBlock = some k ∨ v4.ownBlock = some k ∨ v5.ownBlock = some k ∨ v6.ownBlock = some k
structure Ot (w : World) (gb n : Nat) (l : List S46) (r : Nat) (P D : Nat → Prop) : Prop where
  len : l.length = n
  big : n ≤ 9223372036854775807
  lt : gb < w.heap.size
  el : ∀ i o, i ≠ r → l[i]? = some o → ∃ cs, cs.length = 7 ∧ k46.M w 0 (fun k => k ≠ gb ∧ ¬ P k ∧ k < w.heap.size ∧ D k) o cs ∧ ∀ j u, cs[j]? = some u → w.cell? ⟨gb, i * 7 + j, none⟩ = some u
theorem Ot.move {w w1 : World} {gb n r : Nat} {l : List S46} {P P' D : Nat → Prop} (h : Ot w gb n l r P D) (hs : w.heap.size ≤ w1.heap.size) (hm : ∀ k, k < w.heap.size → ¬ P k → w1.heap[k]? = w.heap[k]?) (hP : ∀ k, k < w.heap.size → P' k → P k) (hgP : ¬ P gb) : Ot w1 gb n l r P' D := by
  refine ⟨h.len, h.big, by have := h.lt; omega, fun i o hi ho => ?_⟩
  obtain ⟨cs, h7, hM, hc⟩ := h.el i o hi ho
  refine ⟨cs, h7, k46.M_mono (fun k hk => ⟨hk.1, fun hk' => hk.2.1 (hP k hk.2.2.1 hk'), by have := hk.2.2.1; omega, hk.2.2.2⟩) (k46.M_move (fun k hk => hm k hk.2.2.1 hk.2.1) hM), fun j u hu => ?_⟩
  rw [← hc j u hu]
  exact World.cell?_of_block (hm gb h.lt hgP)
theorem Ot.below {w w1 : World} {gb n r : Nat} {l : List S46} {P D : Nat → Prop} (h : Ot w gb n l r P D) (hb : Below w.heap.size w w1) (hgP : ¬ P gb) : Ot w1 gb n l r P D :=
  h.move hb.size (fun k hk _ => hb.block k hk) (fun _ _ hk => hk) hgP
theorem Ot.head {w : World} {gb n r : Nat} {l : List S46} {P D : Nat → Prop} (h : Ot w gb n l r P D) {j : Nat} (hj : j < 7) (u : Value) : Ot (w.setCell ⟨gb, r * 7 + j, none⟩ u) gb n l r P D := by
  refine ⟨h.len, h.big, by rw [World.size_setCell]; exact h.lt, fun i o hi ho => ?_⟩
  obtain ⟨cs, h7, hM, hc⟩ := h.el i o hi ho
  refine ⟨cs, h7, k46.M_mono (fun k hk => ⟨hk.1, hk.2.1, by rw [World.size_setCell]; exact hk.2.2.1, hk.2.2.2⟩) (k46.M_move (fun k hk => Below.heap_setCell w ⟨gb, r * 7 + j, none⟩ u k hk.1) hM), fun j' u' hu => ?_⟩
  rw [← hc j' u' hu]
  have hj' : j' < 7 := by have := (List.getElem?_eq_some_iff.1 hu).1; omega
  refine World.cell?_setCells_out gb [u] (r * 7 + j) w ⟨gb, i * 7 + j', none⟩ (fun _ _ => ?_)
  show i * 7 + j' < r * 7 + j ∨ r * 7 + j + 1 ≤ i * 7 + j'
  omega
theorem Ot.done {w : World} {gb n r : Nat} {l : List S46} {P D : Nat → Prop} (h : Ot w gb n l r P D) {o' : S46} {cs : List Value} (h7 : cs.length = 7) (hK : k46.K w o' cs) (hc : ∀ j u, cs[j]? = some u → w.cell? ⟨gb, r * 7 + j, none⟩ = some u) : Kd.C k46 w (some ⟨gb, 0, none⟩) n (l.set r o') := by
  refine ⟨by rw [List.length_set]; exact h.len, h.big, fun _ => ⟨_, rfl, fun i o ho => ?_⟩⟩
  have e7 : k46.sz = 7 := rfl
  by_cases hi : i = r
  · subst hi
    have hil : i < l.length := by have := (List.getElem?_eq_some_iff.1 ho).1; rw [List.length_set] at this; exact this
    rw [List.getElem?_set_self hil] at ho
    obtain rfl := Option.some.inj ho
    exact ⟨cs, h7, hK, fun j u hu => by rw [add0, e7]; exact hc j u hu⟩
  · rw [List.getElem?_set_ne (Ne.symm hi)] at ho
    obtain ⟨cs', h7', hM, hc'⟩ := h.el i o hi ho
    exact ⟨cs', h7', k46.K_of_M hM, fun j u hu => by rw [add0, e7]; exact hc' j u hu⟩
structure El (w : World) (gb r : Nat) (D : Nat → Prop) (o : S46) (v3 v4 v5 v6 : Value) : Prop where
  r3 : k35.R 35 w 0 (fun k => k ≠ gb ∧ D k) v3 o.f3
  r4 : k35.R 35 w 0 (fun k => k ≠ gb ∧ D k) v4 o.f4
  r5 : Kd.string.R 9 w 0 (fun k => k ≠ gb ∧ D k) v5 o.f5
  r6 : k35.R 35 w 0 (fun k => k ≠ gb ∧ D k) v6 o.f6
  ap : AP4 v3 v4 v5 v6
  ce : ∀ j u, ([.int .i64 o.f0, .string o.f1, .int .i64 o.f2, v3, v4, v5, v6] : List Value)[j]? = some u → w.cell? ⟨gb, r * 7 + j, none⟩ = some u
  fz : ∀ j, w.frozen? ⟨gb, r * 7 + j, none⟩ = false
theorem El.notgb {w : World} {gb r : Nat} {D : Nat → Prop} {o : S46} {v3 v4 v5 v6 : Value} (h : El w gb r D o v3 v4 v5 v6) : ¬ PB v3 v4 v5 v6 gb := by
  rintro (h1 | h1 | h1 | h1)
  · exact (h.r3.1 _ h1).1 rfl
  · exact (h.r4.1 _ h1).1 rfl
  · exact (h.r5.1 _ h1).1 rfl
  · exact (h.r6.1 _ h1).1 rfl
theorem El.below {w w1 : World} {gb r : Nat} {D : Nat → Prop} {o : S46} {v3 v4 v5 v6 : Value} (h : El w gb r D o v3 v4 v5 v6) (hl : gb < w.heap.size) (hb : Below w.heap.size w w1) : El w1 gb r D o v3 v4 v5 v6 :=
  ⟨Kd.R_below h.r3 hb, Kd.R_below h.r4 hb, Kd.R_below h.r5 hb, Kd.R_below h.r6 hb, h.ap, fun j u hu => B.cell_keep hb (h.ce j u hu), fun j => (hb.frozen (p := ⟨gb, r * 7 + j, none⟩) hl).trans (h.fz j)⟩
theorem El.done2 {w w1 : World} {gb r n : Nat} {o : S46} {v3 v4 v5 v6 : Value} {l : List S46} {P D : Nat → Prop} (h : El w gb r D o v3 v4 v5 v6) (ho : Ot w gb n l r P D) (hg : D gb) (hs : w.heap.size ≤ w1.heap.size) (hm : ∀ k, k < w.heap.size → D k → w1.heap[k]? = w.heap[k]?) : Kd.C k46 w1 (some ⟨gb, 0, none⟩) n (l.set r o) := by
  have mv : ∀ {α : Type} {d : Kd α} {e : Nat} {v : Value} {xs : List α}, d.R e w 0 (fun k => k ≠ gb ∧ D k) v xs → d.R e w1 0 (fun _ => True) v xs := fun h => Kd.R_mono (Kd.R_move (Kd.R_bound h) (fun k hk => hm k hk.2.2.1 hk.1.2)) (fun _ _ => trivial)
  have hgm := hm gb ho.lt hg
  have ho2 : Ot w1 gb n l r P D := by
    refine ⟨ho.len, ho.big, by have := ho.lt; omega, fun i o' hi hoi => ?_⟩
    obtain ⟨cs, h7, hM, hc⟩ := ho.el i o' hi hoi
    exact ⟨cs, h7, k46.M_mono (fun k hk => ⟨hk.1, hk.2.1, by have := hk.2.2.1; omega, hk.2.2.2⟩) (k46.M_move (fun k hk => hm k hk.2.2.1 hk.2.2.2) hM), fun j u hu => (World.cell?_of_block hgm).trans (hc j u hu)⟩
  exact ho2.done (cs := [.int .i64 o.f0, .string o.f1, .int .i64 o.f2, v3, v4, v5, v6]) rfl (k46.K_of_M (k46_mkM w1 0 (fun _ => True) o (mv h.r3) (mv h.r4) (mv h.r5) (mv h.r6))) (fun j u hu => (World.cell?_of_block hgm).trans (h.ce j u hu))
theorem ot_start {w : World} {base gb n c r N : Nat} {ok : Nat → Prop} {tl : List (S46 × Nat × Nat)} {l : List S46} {o : S46} (h : k46t.R 46 w base ok (.slice (some ⟨gb, 0, none⟩) n c) tl) (hs : Ris tl N) (hl : tl.map (·.1) = l) (ho : l[r]? = some o) :
    ∃ v3 v4 v5 v6, El w gb r (fun k => (ok k ∧ base ≤ k) ∨ w.heap.size ≤ k) o v3 v4 v5 v6 ∧ Ot w gb n l r (PB v3 v4 v5 v6) (fun k => (ok k ∧ base ≤ k) ∨ w.heap.size ≤ k) ∧ ∀ k, PB v3 v4 v5 v6 k → ok k ∧ base ≤ k := by
  obtain ⟨hn, -, hC⟩ := Kd.R_reads' h
  have hgb : gb < w.heap.size := Kd.R_lt h gb rfl
  have hll : l.length = tl.length := by rw [← hl, List.length_map]
  have hrl : r < tl.length := by have := (List.getElem?_eq_some_iff.1 ho).1; omega
  have e7 : k46t.sz = 7 := rfl
  have elem : ∀ i (hi : i < tl.length), ∃ cs, cs.length = 7 ∧ k46t.M w base (fun k => ok k ∧ k ≠ gb) tl[i] cs ∧ (∀ j u, cs[j]? = some u → w.cell? ⟨gb, i * 7 + j, none⟩ = some u) ∧ ∀ j, w.frozen? ⟨gb, i * 7 + j, none⟩ = false := by
    intro i hi
    obtain ⟨cs, h1, h2, h3, h4⟩ := Kd.R_elem h (z46, 0, 0) (i : Int) (by omega) (by omega)
    rw [show tl.getD (i : Int).toNat (z46, 0, 0) = tl[i] by simp [List.getD_eq_getElem?_getD, hi]] at h2
    rw [e7, show (i : Int).toNat = i from rfl] at h3 h4
    exact ⟨cs, h1, h2, h3, h4⟩
  have hor : tl[r].1 = o := by
    rw [← hl, List.getElem?_map, List.getElem?_eq_getElem hrl] at ho
    exact Option.some.inj ho
  obtain ⟨cs, h7, hM, hc, hf⟩ := elem r hrl
  obtain ⟨hM1, hap⟩ := hM
  rw [hor] at hM1
  obtain ⟨v3, v4, v5, v6, rfl, g3, g4, g5, g6⟩ := k46_openM hM1
  have low : ∀ {α : Type} {d : Kd α} {e : Nat} {v : Value} {xs : List α}, d.R e w base (fun k => (ok k ∧ k ≠ gb) ∧ tl[r].2.1 ≤ k ∧ k < tl[r].2.2) v xs → d.R e w 0 (fun k => k ≠ gb ∧ ((ok k ∧ base ≤ k) ∨ w.heap.size ≤ k)) v xs := fun h => Kd.R_lower (Kd.R_mono (Kd.R_bound h) (fun _ hk => ⟨hk.1.1.2, .inl ⟨hk.1.1.1, hk.2.1⟩⟩)) (Nat.zero_le _)
  have inr : ∀ k, PB v3 v4 v5 v6 k → tl[r].2.1 ≤ k ∧ k < tl[r].2.2 := by
    rintro k (h1 | h1 | h1 | h1)
    · exact (g3.1 k h1).2
    · exact (g4.1 k h1).2
    · exact (g5.1 k h1).2
    · exact (g6.1 k h1).2
  have okb : ∀ k, PB v3 v4 v5 v6 k → ok k ∧ base ≤ k := by
    rintro k (h1 | h1 | h1 | h1)
    · exact ⟨(g3.1 k h1).1.1, Kd.R_base g3 k h1⟩
    · exact ⟨(g4.1 k h1).1.1, Kd.R_base g4 k h1⟩
    · exact ⟨(g5.1 k h1).1.1, Kd.R_base g5 k h1⟩
    · exact ⟨(g6.1 k h1).1.1, Kd.R_base g6 k h1⟩
  refine ⟨v3, v4, v5, v6, ⟨low g3, low g4, low g5, low g6, hap _ _ _ _ _ _ _ rfl, hc, hf⟩, ⟨by omega, ?_, hgb, fun i o' hi ho' => ?_⟩, okb⟩
  · have := hC.2.1; omega
  · have hil : i < tl.length := by have := (List.getElem?_eq_some_iff.1 ho').1; omega
    have hoi : tl[i].1 = o' := by
      rw [← hl, List.getElem?_map, List.getElem?_eq_getElem hil] at ho'
      exact Option.some.inj ho'
    obtain ⟨cs, h7', hM', hc', -⟩ := elem i hil
    obtain ⟨hM2, -⟩ := hM'
    rw [hoi] at hM2
    refine ⟨cs, h7', k46.M_lower (Nat.zero_le _) (k46.M_mono (fun k hk => ⟨hk.1.1.2, fun hp => ?_, hk.2.2.1, .inl ⟨hk.1.1.1, hk.2.1⟩⟩) (k46.M_bound hM2)), hc'⟩
    have h1 := inr k hp
    have h2 := hk.1.2
    have hpw := List.pairwise_iff_getElem.1 hs.2
    rcases Nat.lt_or_gt_of_ne hi with hlt | hgt
    · have := hpw i r hil hrl hlt; omega
    · have := hpw r i hrl hil hgt; omega
end Go.Proofs.Ytgddblpgbkgpcaa.PR
namespace Go.Proofs.Ytgddblpgbkgpcaa.PR
set_option linter.unusedVariables false
set_option linter.unusedSimpArgs false
open Go.RowKit Go.Proofs.YtgddblpgbkgpcaaW.PrintWords Go.Proofs.YtgddblpgbkgpcaaW.PrintLast Go.Proofs.YtgddblpgbkgpcaaW.PrintMore
set_option linter.unusedVariables false
set_option linter.unusedSimpArgs false
section
variable {w w1 : World} {gb r n : Nat} {o : S46} {v3 v4 v5 v6 : Value} {l : List S46} {D : Nat → Prop}
theorem El.setItem {g3 m c3 : Nat} (h : El w gb r D o (.slice (some ⟨g3, 0, none⟩) m c3) v4 v5 v6) (ho : Ot w gb n l r (PB (.slice (some ⟨g3, 0, none⟩) m c3) v4 v5 v6) D) (j : Nat) (hj : j < m) (x : S35) (N : Nat) (hN : ∀ k, some g3 = some k → N ≤ k) {w0 : World} (hb : Below N w0 w) :
    ∀ W : World, W = ((w.setCell ⟨g3, j * 3, none⟩ (.int .i64 x.f0)).setCell ⟨g3, j * 3 + 1, none⟩ (.string x.f1)).setCell ⟨g3, j * 3 + 2, none⟩ (.int .i64 x.f2) →
    El W gb r D { o with f3 := o.f3.set j x } (.slice (some ⟨g3, 0, none⟩) m c3) v4 v5 v6 ∧ Ot W gb n l r (PB (.slice (some ⟨g3, 0, none⟩) m c3) v4 v5 v6) D ∧ Below N w0 W := by
  intro W hW
  obtain ⟨cs, hcl, hM, hcell, -⟩ := Kd.R_elem h.r3 zV (j : Int) (by omega) (by omega)
  have e3 : k35.sz = 3 := rfl
  obtain ⟨hr, hg⟩ := Kd.R_seg (j := 0) (seg := [.int .i64 x.f0, .string x.f1, .int .i64 x.f2]) (x' := x) (okp := fun k => (k ≠ gb ∧ D k) ∧ k ≠ g3) h.r3 (j : Int) (by omega) (by omega) hcl hcell (by rw [e3]; simp) (by
    have := k35_mkM w 0 (fun k => (k ≠ gb ∧ D k) ∧ k ≠ g3) x
    simpa [List.drop_eq_nil_of_le (show cs.length ≤ 3 by omega)] using this) (fun k hk => hk)
  have eW : w.setCells g3 ((j : Int).toNat * k35.sz + 0) [.int .i64 x.f0, .string x.f1, .int .i64 x.f2] = W := by rw [hW, e3]; rfl
  rw [eW] at hr hg
  rw [show (j : Int).toNat = j from rfl] at hr
  have hne : gb ≠ g3 := fun e => (h.r3.1 g3 rfl).1 e.symm
  have hgb : W.heap[gb]? = w.heap[gb]? := hg.block gb ho.lt (fun e => hne (Option.some.inj e))
  refine ⟨⟨hr, R_other h.r4 rfl h.r3 h.ap.1.symm hg, R_other h.r5 rfl h.r3 h.ap.2.1.symm hg, R_other h.r6 rfl h.r3 h.ap.2.2.1.symm hg, h.ap, fun j' u hu => ?_, fun j' => ?_⟩, ho.move hg.size (fun k hk hp => hg.block k hk (fun e => hp (.inl e.symm))) (fun _ _ hk => hk) h.notgb, ?_⟩
  · exact (World.cell?_of_block hgb).trans (h.ce j' u hu)
  · exact (World.frozen?_of_block hgb).trans (h.fz j')
  · rw [hW]
    have := hN g3 rfl
    exact ((hb.setCell this _).setCell this _).setCell this _
theorem hd_cells {v' : Value} {cs cs' : List Value} {q : Nat} (h7 : cs.length = 7) (hc : ∀ j u, cs[j]? = some u → w1.cell? ⟨gb, r * 7 + j, none⟩ = some u) (hq : q < 7) (hcs : cs' = cs.set q v') : ∀ j u, cs'[j]? = some u → (w1.setCell ⟨gb, r * 7 + q, none⟩ v').cell? ⟨gb, r * 7 + j, none⟩ = some u := by
  intro j u hu
  subst hcs
  by_cases hj : j = q
  · subst hj
    rw [List.getElem?_set_self (by omega)] at hu
    obtain rfl := Option.some.inj hu
    exact World.cell?_setCell_same w1 ⟨gb, r * 7 + j, none⟩ v' (hc j cs[j] (List.getElem?_eq_getElem (by omega)))
  · rw [List.getElem?_set_ne (Ne.symm hj)] at hu
    refine (World.cell?_setCell_other w1 ⟨gb, r * 7 + q, none⟩ ⟨gb, r * 7 + j, none⟩ v' ?_).trans (hc j u hu)
    intro e
    injection e with _ e
    omega
theorem El.growKeys (h : El w gb r D o v3 v4 v5 v6) (ho : Ot w gb n l r (PB v3 v4 v5 v6) D) {v : Value} {xs : List S35} (hr : k35.R 35 w1 0 (fun k => k ≠ gb ∧ D k) v xs) (hg : w.grownBy w1 v4.ownBlock) (hat : v.ownBlock = v4.ownBlock ∨ ∃ b, v.ownBlock = some b ∧ w.heap.size ≤ b) :
    El (w1.setCell ⟨gb, r * 7 + 4, none⟩ v) gb r D { o with f4 := xs } v3 v v5 v6 ∧ Ot (w1.setCell ⟨gb, r * 7 + 4, none⟩ v) gb n l r (PB v3 v v5 v6) D := by
  obtain ⟨a34, a35, a36, a45, a46, a56⟩ := h.ap
  have hne : some gb ≠ v4.ownBlock := fun e => (h.r4.1 gb e.symm).1 rfl
  have hgb : w1.heap[gb]? = w.heap[gb]? := hg.block gb ho.lt hne
  have far : ∀ {α : Type} {d : Kd α} {e : Nat} {u : Value} {ys : List α}, d.R e w1 0 (fun k => k ≠ gb ∧ D k) u ys → d.R e (w1.setCell ⟨gb, r * 7 + 4, none⟩ v) 0 (fun k => k ≠ gb ∧ D k) u ys := fun h => Kd.R_far h (fun k hk => hk.1) v
  have hc1 : ∀ j u, ([.int .i64 o.f0, .string o.f1, .int .i64 o.f2, v3, v4, v5, v6] : List Value)[j]? = some u → w1.cell? ⟨gb, r * 7 + j, none⟩ = some u := fun j u hu => (World.cell?_of_block hgb).trans (h.ce j u hu)
  refine ⟨⟨far (R_other h.r3 rfl h.r4 a34 hg), far hr, far (R_other h.r5 rfl h.r4 a45.symm hg), far (R_other h.r6 rfl h.r4 a46.symm hg), ⟨(a34.symm.left (Kd.R_lt h.r3) hat).symm, a35, a36, a45.left (Kd.R_lt h.r5) hat, a46.left (Kd.R_lt h.r6) hat, a56⟩, hd_cells rfl hc1 (by decide) rfl, fun j => ?_⟩, ?_⟩
  · rw [World.frozen?_setCell]
    exact (World.frozen?_of_block hgb).trans (h.fz j)
  · refine Ot.head (ho.move hg.size (fun k hk hp => hg.block k hk (fun e => hp (.inr (.inl e.symm)))) (fun k hk hp => ?_) h.notgb) (by decide) v
    rcases hp with hp | hp | hp | hp
    · exact .inl hp
    · rcases hat with hat | ⟨b, hb, hle⟩
      · exact .inr (.inl (hat ▸ hp))
      · rw [hp] at hb; injection hb with hb; omega
    · exact .inr (.inr (.inl hp))
    · exact .inr (.inr (.inr hp))
theorem El.growItems (h : El w gb r D o v3 v4 v5 v6) (ho : Ot w gb n l r (PB v3 v4 v5 v6) D) {v : Value} {xs : List S35} (hr : k35.R 35 w1 0 (fun k => k ≠ gb ∧ D k) v xs) (hg : w.grownBy w1 v3.ownBlock) (hat : v.ownBlock = v3.ownBlock ∨ ∃ b, v.ownBlock = some b ∧ w.heap.size ≤ b) :
    El (w1.setCell ⟨gb, r * 7 + 3, none⟩ v) gb r D { o with f3 := xs } v v4 v5 v6 ∧ Ot (w1.setCell ⟨gb, r * 7 + 3, none⟩ v) gb n l r (PB v v4 v5 v6) D := by
  obtain ⟨a34, a35, a36, a45, a46, a56⟩ := h.ap
  have hne : some gb ≠ v3.ownBlock := fun e => (h.r3.1 gb e.symm).1 rfl
  have hgb : w1.heap[gb]? = w.heap[gb]? := hg.block gb ho.lt hne
  have far : ∀ {α : Type} {d : Kd α} {e : Nat} {u : Value} {ys : List α}, d.R e w1 0 (fun k => k ≠ gb ∧ D k) u ys → d.R e (w1.setCell ⟨gb, r * 7 + 3, none⟩ v) 0 (fun k => k ≠ gb ∧ D k) u ys := fun h => Kd.R_far h (fun k hk => hk.1) v
  have hc1 : ∀ j u, ([.int .i64 o.f0, .string o.f1, .int .i64 o.f2, v3, v4, v5, v6] : List Value)[j]? = some u → w1.cell? ⟨gb, r * 7 + j, none⟩ = some u := fun j u hu => (World.cell?_of_block hgb).trans (h.ce j u hu)
  refine ⟨⟨far hr, far (R_other h.r4 rfl h.r3 a34.symm hg), far (R_other h.r5 rfl h.r3 a35.symm hg), far (R_other h.r6 rfl h.r3 a36.symm hg), ⟨a34.left (Kd.R_lt h.r4) hat, a35.left (Kd.R_lt h.r5) hat, a36.left (Kd.R_lt h.r6) hat, a45, a46, a56⟩, hd_cells rfl hc1 (by decide) rfl, fun j => ?_⟩, ?_⟩
  · rw [World.frozen?_setCell]
    exact (World.frozen?_of_block hgb).trans (h.fz j)
  · refine Ot.head (ho.move hg.size (fun k hk hp => hg.block k hk (fun e => hp (.inl e.symm))) (fun k hk hp => ?_) h.notgb) (by decide) v
    rcases hp with hp | hp | hp | hp
    · rcases hat with hat | ⟨b, hb, hle⟩
      · exact .inl (hat ▸ hp)
      · rw [hp] at hb; injection hb with hb; omega
    · exact .inr (.inl hp)
    · exact .inr (.inr (.inl hp))
    · exact .inr (.inr (.inr hp))
end
end Go.Proofs.Ytgddblpgbkgpcaa.PR
namespace Go.Proofs.Ytgddblpgbkgpcaa.PR
set_option linter.unusedVariables false
set_option linter.unusedSimpArgs false
open Go.RowKit Go.Proofs.YtgddblpgbkgpcaaW.PrintWords Go.Proofs.YtgddblpgbkgpcaaW.PrintLast Go.Proofs.YtgddblpgbkgpcaaW.PrintMore
set_option linter.unusedVariables false
set_option linter.unusedSimpArgs false
inductive Put (l : List S46) (v k x : S35) : List S46 → Int → Prop
  | le (r : Nat) (o : S46) (i c : Int) : v.f0 = 4 → v.f2 = r → l[r]? = some o → o.f0 = 1 → Plc k.f0 k.f1 o.f3.length i c → c ≠ -1 → Put l v k x l c
  | li (r : Nat) (o : S46) (j : Nat) : v.f0 = 4 → v.f2 = r → l[r]? = some o → o.f0 = 1 → Plc k.f0 k.f1 o.f3.length j (-1) → j < o.f3.length → Put l v k x (l.set r { o with f3 := o.f3.set j x }) (-1)
  | dr (r : Nat) (o : S46) : v.f0 = 4 → v.f2 = r → l[r]? = some o → o.f0 = 2 → k.f0 = 4 → Put l v k x l 1
  | df (r : Nat) (o : S46) (j : Nat) : v.f0 = 4 → v.f2 = r → l[r]? = some o → o.f0 = 2 → k.f0 ≠ 4 → Ix o.f4 k j → j < o.f3.length → Put l v k x (l.set r { o with f3 := o.f3.set j x }) (-1)
  | dn (r : Nat) (o : S46) : v.f0 = 4 → v.f2 = r → l[r]? = some o → o.f0 = 2 → k.f0 ≠ 4 → Ix o.f4 k (-1) → 60 ≤ o.f4.length → Put l v k x l 3
  | da (r : Nat) (o : S46) : v.f0 = 4 → v.f2 = r → l[r]? = some o → o.f0 = 2 → k.f0 ≠ 4 → Ix o.f4 k (-1) → o.f4.length < 60 → Put l v k x (l.set r { o with f3 := o.f3 ++ [x], f4 := o.f4 ++ [k] }) (-1)
  | xo (r : Nat) (o : S46) : v.f0 = 4 → v.f2 = r → l[r]? = some o → o.f0 ≠ 1 → o.f0 ≠ 2 → Put l v k x l 1
  | xv : v.f0 ≠ 4 → Put l v k x l 1
structure Kp (w0 w : World) (Q : Nat → Prop) : Prop where
  os : w.os = w0.os
  tape : w.tape = w0.tape
  output : w.output = w0.output
  size : w0.heap.size ≤ w.heap.size
  block : ∀ k, k < w0.heap.size → ¬ Q k → w.heap[k]? = w0.heap[k]?
theorem Kp.of {w0 w : World} {Q : Nat → Prop} (h : Below w0.heap.size w0 w) : Kp w0 w Q := ⟨h.os, h.tape, h.output, h.size, fun k hk _ => h.block k hk⟩
theorem Kp.below {w0 w w1 : World} {Q : Nat → Prop} (h : Kp w0 w Q) (hb : Below w.heap.size w w1) : Kp w0 w1 Q :=
  ⟨hb.os.trans h.os, hb.tape.trans h.tape, hb.output.trans h.output, Nat.le_trans h.size hb.size, fun k hk hq => (hb.block k (Nat.lt_of_lt_of_le hk h.size)).trans (h.block k hk hq)⟩
theorem Kp.set {w0 w : World} {Q : Nat → Prop} (h : Kp w0 w Q) (p : Addr) (hp : p.block < w0.heap.size → Q p.block) (u : Value) : Kp w0 (w.setCell p u) Q :=
  ⟨h.os, h.tape, h.output, by rw [World.size_setCell]; exact h.size, fun k hk hq => (Below.heap_setCell w p u k (fun e => hq (e ▸ hp (e ▸ hk)))).trans (h.block k hk hq)⟩
theorem Kp.grown {w0 w w1 : World} {Q : Nat → Prop} {row : Option Nat} (h : Kp w0 w Q) (hg : w.grownBy w1 row) (hr : ∀ k, row = some k → k < w0.heap.size → Q k) : Kp w0 w1 Q :=
  ⟨hg.os.trans h.os, hg.tape.trans h.tape, hg.output.trans h.output, Nat.le_trans h.size hg.size, fun k hk hq => (hg.block k (Nat.lt_of_lt_of_le hk h.size) (fun e => hq (hr k e.symm hk))).trans (h.block k hk hq)⟩
theorem Kp.to {w0 w : World} {Q : Nat → Prop} {N : Nat} (h : Kp w0 w Q) (hN : N ≤ w0.heap.size) (hQ : ∀ k, k < N → ¬ Q k) : Below N w0 w := ⟨h.os, h.tape, h.output, h.size, fun k hk => h.block k (Nat.lt_of_lt_of_le hk hN) (hQ k hk)⟩
def PIPost (w : World) (gb n : Nat) (Q : Nat → Prop) (l' : List S46) (cc : Int) (e : Ending) (w' : World) : Prop := e = .returned (.int .i64 cc) ∧ (∀ w1 : World, w'.heap.size ≤ w1.heap.size → (∀ q, q < w'.heap.size → (Q q ∨ w.heap.size ≤ q) → w1.heap[q]? = w'.heap[q]?) → Kd.C k46 w1 (some ⟨gb, 0, none⟩) n l') ∧ Kp w w' Q
theorem same_C {w Y : World} {base gb n c : Nat} {ok : Nat → Prop} {tl : List (S46 × Nat × Nat)} {l : List S46} (hR : k46t.R 46 w base ok (.slice (some ⟨gb, 0, none⟩) n c) tl) (hl : tl.map (·.1) = l) (hY : Below w.heap.size w Y) :
    ∀ w1 : World, Y.heap.size ≤ w1.heap.size → (∀ q, q < Y.heap.size → ((ok q ∧ base ≤ q) ∨ w.heap.size ≤ q) → w1.heap[q]? = Y.heap[q]?) → Kd.C k46 w1 (some ⟨gb, 0, none⟩) n l := by
  intro w1 hs hm
  obtain ⟨e1, -, e3⟩ := Kd.R_reads' (Kd.R_move (w1 := w1) (Kd.R_bound (t_R hR)) (fun k hk => (hm k (Nat.lt_of_lt_of_le hk.2.2.1 hY.size) (.inl ⟨hk.1, hk.2.1⟩)).trans (hY.block k hk.2.2.1)))
  rw [← e1, hl] at e3
  exact e3
set_option maxRecDepth 100000 in
set_option maxHeartbeats 4000000 in
theorem setIndexI_w (gb n c base N : Nat) (ok : Nat → Prop) (tl : List (S46 × Nat × Nat)) (l l' : List S46) (v k x : S35) (cc : Int) (w : World) (hR : k46t.R 46 w base ok (.slice (some ⟨gb, 0, none⟩) n c) tl) (hs : Ris tl N) (hl : tl.map (·.1) = l) (hn : n ≤ 1000) (hol : ∀ o ∈ l, oL o) (hki : k.f0 = 2 → B.intB k.f1 = true ∧ k.f1.size ≤ 5) (h : Put l v k x l' cc) :
    Calls Try.prog 75 #[.agg #[.slice (some ⟨gb, 0, none⟩) n c], .agg #[.int .i64 v.f0, .string v.f1, .int .i64 v.f2], .agg #[.int .i64 k.f0, .string k.f1, .int .i64 k.f2], .agg #[.int .i64 x.f0, .string x.f1, .int .i64 x.f2]] w (PIPost w gb n (fun k => ok k ∧ base ≤ k) l' cc) := by
  obtain ⟨W, hW⟩ : ∃ W : World, W = (((w.alloc (.cells #[.slice (some ⟨gb, 0, none⟩) n c] 25)).alloc (.cells #[.int .i64 v.f0, .string v.f1, .int .i64 v.f2] 35)).alloc (.cells #[.int .i64 k.f0, .string k.f1, .int .i64 k.f2] 35)).alloc (.cells #[.int .i64 x.f0, .string x.f1, .int .i64 x.f2] 35) := ⟨_, rfl⟩
  have BX := Aside0.mk (bw_new w n c (some ⟨gb, 0, none⟩) v k x W hW)
  have hbl := BX.out.bl
  have hc := (Kd.R_reads' hR).2.1
  have hC : Kd.C k46 w (some ⟨gb, 0, none⟩) n l := by
    obtain ⟨e1, -, e2⟩ := Kd.R_reads' (t_R hR)
    rw [← e1, hl] at e2
    exact e2
  have hokg : ok gb ∧ base ≤ gb := ⟨hR.1 gb rfl, Kd.R_base hR gb rfl⟩
  have HOKG := Aside0.mk hokg
  have hgl : gb < w.heap.size := Kd.R_lt hR gb rfl
  have HGL := Lib.hid hgl
  have HSM := Aside0.mk (fun (Y : World) (hY : Below w.heap.size w Y) => same_C hR hl hY)
  have HC := Aside0.mk (Kd.C_below hC hbl)
  have HEL := Aside0.mk (fun (m i c' : Int) (X : World) (hm : 0 ≤ m ∧ m ≤ 1000000) (hp : Plc k.f0 k.f1 m i c') => element_w k.f0 k.f1 k.f2 m X hki hm i c' hp)
  have HW := Lib.hid hW
  obtain ⟨p0, v0, v1, v2, k0, k1, k2, x0, x1, x2, -⟩ := BX.out
  have HL := Aside0.mk hC.1
  have HCC := Aside0.mk hc
  clear hW hC hc hgl hokg
  cases h with
  | le r o i c1 h1 h2 h3 h4 h5 h6 =>
    obtain ⟨w3', w4', v5, v6, hel, hot, hpb⟩ := ot_start hR hs hl h3
    obtain ⟨A3, m3, c3, rfl⟩ := sform hel.r3
    obtain ⟨A4, m4, c4, rfl⟩ := sform hel.r4
    obtain ⟨n3, l3, hC3⟩ := Kd.R_reads' hel.r3
    obtain ⟨n4, l4, hC4⟩ := Kd.R_reads' hel.r4
    have ho3 := (hol o (List.mem_of_getElem? h3)).1
    have ho4 := (hol o (List.mem_of_getElem? h3)).2.1
    have hm3 : m3 ≤ 1000 := by omega
    have hm4 : m4 ≤ 1000000 := by omega
    have HPB := Aside0.mk hpb
    have HK := Aside0.mk (show KkP l v o.f0 from .inr ⟨r, o, h1, h2, h3, rfl⟩)
    have EX := Aside0.mk (hel.below hot.lt hbl)
    have OX := Aside0.mk (hot.below hbl hel.notgb)
    have HC4 := Aside0.mk (show Kd.C k35 W A4 m4 o.f4 from by rw [n4]; exact Kd.C_below hC4 hbl)
    have HN3 := Aside0.mk n3
    have HN4 := Aside0.mk n4
    have hrn : r < n := by have := (List.getElem?_eq_some_iff.1 h3).1; have := hot.len; omega
    obtain rfl : r = v.f2.toNat := by omega
    have h2a : 0 ≤ v.f2 := by omega
    have h2b : v.f2 < (n : Int) := by omega
    have e3 := EX.out.ce 3 _ rfl
    have e4 := EX.out.ce 4 _ rfl
    have hkind : (o.f0 == 1) = true := by simp [h4]
    have hc1 : (cc == -1) = false := by simpa using h6
    rw [← n3] at h5
    have HP := Aside0.mk h5
    clear hel hot hpb hC3 hC4 ho3 ho4 h2 hrn n3 n4 l3 l4 hR hs hl hol hki hbl
    clear h1 h3 h4 h5 h6
    go_enter Try.func75, Try.ntmps75
    go_upto_region 1 with (fail)
    rw [← HW.out]
    go_upto_region 3 with (first | (go_at_call 117; refine (kindOf_w _ _ _ _ _ _ _ HC.out HCC.out HK.out).mono ?_; rintro e w1 ⟨rfl, hB⟩; replace BX := Aside0.mk (BX.out.below hB); clear p0 v0 v1 v2 k0 k1 k2 x0 x1 x2; obtain ⟨p0, v0, v1, v2, k0, k1, k2, x0, x1, x2, -⟩ := BX.out; replace HC := Aside0.mk (Kd.C_below HC.out hB); replace EX := Aside0.mk (EX.out.below OX.out.lt hB); replace OX := Aside0.mk (OX.out.below hB EX.out.notgb); replace HC4 := Aside0.mk (Kd.C_below HC4.out hB); clear e3 e4; have e3 := EX.out.ce 3 _ rfl; have e4 := EX.out.ce 4 _ rfl; clear hB))
    go_wp2_with fail
    have hq0 : Below w1.heap.size w1 w1.drew := below_drew (Below.refl _ _)
    refine start_ (n := 15) (S := fun w' => w'.cell? ⟨w.heap.size + 1 + 1, 0, none⟩ = some (.int .i64 k.f0) ∧ w'.cell? ⟨w.heap.size + 1 + 1, 1, none⟩ = some (.string k.f1) ∧ w'.cell? ⟨w.heap.size + 1 + 1, 2, none⟩ = some (.int .i64 k.f2) ∧ w'.cell? ⟨w.heap.size, 0, none⟩ = some (.slice (some ⟨gb, 0, none⟩) n c) ∧ w'.cell? ⟨w.heap.size + 1, 2, none⟩ = some (.int .i64 v.f2) ∧ w'.cell? ⟨gb, v.f2.toNat * 7 + 3, none⟩ = some (.slice A3 m3 c3)) (ds := []) #[false, false, false, false, false, false, false, false, false, false, false, false, false, false, false] (by kernel_rfl) rfl rfl ⟨B.cell_keep hq0 k0, B.cell_keep hq0 k1, B.cell_keep hq0 k2, B.cell_keep hq0 p0, B.cell_keep hq0 v2, B.cell_keep hq0 e3⟩ (fun hHeld => ?_)
    generalize w1.drew = w10 at hq0 hHeld ⊢
    refine pure_ (i := 1) (N := some 20) (v := ?_) (a' := ?_) #[false, true, false, false, false, false, false, false, false, false, false, false, false, false, false] rfl rfl (by kernel_rfl) (fun _ _ _ h => h) (Or.inl ⟨by rfl, ?_⟩) ?_ ?_
    rotate_left
    · intro w'
      go_simp
      with_reducible rfl
    rotate_left
    · simp only [Act.put, List.setIfInBounds_toArray, List.set_cons_zero, List.set_cons_succ, i64_w, i32_w]
      rfl
    refine pure_ (i := 3) (N := some 22) (v := ?_) (a' := ?_) #[false, true, false, true, false, false, false, false, false, false, false, false, false, false, false] rfl rfl (by kernel_rfl) (fun _ _ _ h => h) (Or.inl ⟨by rfl, ?_⟩) ?_ ?_
    rotate_left
    · intro w'
      go_simp
      with_reducible rfl
    rotate_left
    · simp only [Act.put, List.setIfInBounds_toArray, List.set_cons_zero, List.set_cons_succ, i64_w, i32_w]
      rfl
    refine take_ (i := 0) (N := some 19) (v := ?_) (a' := ?_) #[true, true, false, true, false, false, false, false, false, false, false, false, false, false, false] rfl rfl (by kernel_rfl) (fun _ _ _ h => h) (Or.inl ⟨by rfl, ?_⟩) hHeld ?_ ?_
    rotate_left
    · rintro w' ⟨s0, s1, s2, s3, s4, s5⟩
      go_simp
      with_reducible rfl
    rotate_left
    · simp only [Act.put, List.setIfInBounds_toArray, List.set_cons_zero, List.set_cons_succ, i64_w, i32_w]
      rfl
    refine take_ (i := 2) (N := some 21) (v := ?_) (a' := ?_) #[true, true, true, true, false, false, false, false, false, false, false, false, false, false, false] rfl rfl (by kernel_rfl) (fun _ _ _ h => h) (Or.inl ⟨by rfl, ?_⟩) hHeld ?_ ?_
    rotate_left
    · rintro w' ⟨s0, s1, s2, s3, s4, s5⟩
      go_simp
      with_reducible rfl
    rotate_left
    · simp only [Act.put, List.setIfInBounds_toArray, List.set_cons_zero, List.set_cons_succ, i64_w, i32_w]
      rfl
    refine take_ (i := 4) (N := some 23) (v := ?_) (a' := ?_) #[true, true, true, true, true, false, false, false, false, false, false, false, false, false, false] rfl rfl (by kernel_rfl) (fun _ _ _ h => h) (Or.inl ⟨by rfl, ?_⟩) hHeld ?_ ?_
    rotate_left
    · rintro w' ⟨s0, s1, s2, s3, s4, s5⟩
      go_simp
      with_reducible rfl
    rotate_left
    · simp only [Act.put, List.setIfInBounds_toArray, List.set_cons_zero, List.set_cons_succ, i64_w, i32_w]
      rfl
    refine pure_ (i := 5) (N := some 24) (v := ?_) (a' := ?_) #[true, true, true, true, true, true, false, false, false, false, false, false, false, false, false] rfl rfl (by kernel_rfl) (fun _ _ _ h => h) (Or.inl ⟨by rfl, ?_⟩) ?_ ?_
    rotate_left
    · intro w'
      go_simp
      with_reducible rfl
    rotate_left
    · simp only [Act.put, List.setIfInBounds_toArray, List.set_cons_zero, List.set_cons_succ, i64_w, i32_w]
      rfl
    refine pure_ (i := 6) (N := some 25) (v := ?_) (a' := ?_) #[true, true, true, true, true, true, true, false, false, false, false, false, false, false, false] rfl rfl (by kernel_rfl) (fun _ _ _ h => h) (Or.inl ⟨by rfl, ?_⟩) ?_ ?_
    rotate_left
    · intro w'
      go_simp
      with_reducible rfl
    rotate_left
    · simp only [Act.put, List.setIfInBounds_toArray, List.set_cons_zero, List.set_cons_succ, i64_w, i32_w]
      rfl
    refine take_ (i := 7) (N := some 26) (v := ?_) (a' := ?_) #[true, true, true, true, true, true, true, true, false, false, false, false, false, false, false] rfl rfl (by kernel_rfl) (fun _ _ _ h => h) (Or.inl ⟨by rfl, ?_⟩) hHeld ?_ ?_
    rotate_left
    · rintro w' ⟨s0, s1, s2, s3, s4, s5⟩
      go_simp
      with_reducible rfl
    rotate_left
    · simp only [Act.put, List.setIfInBounds_toArray, List.set_cons_zero, List.set_cons_succ, i64_w, i32_w]
      rfl
    refine pure_ (i := 8) (N := some 27) (v := ?_) (a' := ?_) #[true, true, true, true, true, true, true, true, true, false, false, false, false, false, false] rfl rfl (by kernel_rfl) (fun _ _ _ h => h) (Or.inl ⟨by rfl, ?_⟩) ?_ ?_
    rotate_left
    · intro w'
      go_simp
      with_reducible rfl
    rotate_left
    · simp only [Act.put, List.setIfInBounds_toArray, List.set_cons_zero, List.set_cons_succ, i64_w, i32_w]
      rfl
    refine one_ (i := 9) (N := some 28) #[true, true, true, true, true, true, true, true, true, true, false, false, false, false, false] rfl rfl (by kernel_rfl) (by decide) (fun K hK => ?_)
    refine goes_ Try.func115 (by kernel_rfl) rfl #[.agg #[.int .i64 k.f0, .string k.f1, .int .i64 k.f2], .int .i64 (m3 : Int)] (by rfl) rfl rfl (by simp only [List.map_toArray, List.map_cons, List.map_nil]; rfl) ?_
    with_reducible refine (HEL.out _ _ _ _ (by omega) HP.out).mono ?_
    rintro e y ⟨rfl, hb⟩
    refine ⟨_, rfl, ?_⟩
    have hq1 := bth hq0 hq0.size hb
    refine hK.out _ _ ⟨B.cell_keep hq1 k0, B.cell_keep hq1 k1, B.cell_keep hq1 k2, B.cell_keep hq1 p0, B.cell_keep hq1 v2, B.cell_keep hq1 e3⟩ (fun hHeld => ?_)
    clear hK K
    refine norm_ (a' := ?_) ?_ ?_
    rotate_left
    · show Act.put _ (some 28) _ = _
      simp only [Act.put, List.setIfInBounds_toArray, List.set_cons_zero, List.set_cons_succ, i64_w, i32_w]
      rfl
    refine pure_ (i := 10) (N := some 18) (v := ?_) (a' := ?_) #[true, true, true, true, true, true, true, true, true, true, true, false, false, false, false] rfl rfl (by kernel_rfl) (fun _ _ _ h => h) (Or.inl ⟨by rfl, ?_⟩) ?_ ?_
    rotate_left
    · intro w'
      go_simp
      with_reducible rfl
    rotate_left
    · simp only [Act.put, List.setIfInBounds_toArray, List.set_cons_zero, List.set_cons_succ, i64_w, i32_w]
      rfl
    refine pure_ (i := 11) (N := some 29) (v := ?_) (a' := ?_) #[true, true, true, true, true, true, true, true, true, true, true, true, false, false, false] rfl rfl (by kernel_rfl) (fun _ _ _ h => h) (Or.inl ⟨by rfl, ?_⟩) ?_ ?_
    rotate_left
    · intro w'
      go_simp
      with_reducible rfl
    rotate_left
    · simp only [Act.put, List.setIfInBounds_toArray, List.set_cons_zero, List.set_cons_succ, i64_w, i32_w]
      rfl
    refine pure_ (i := 12) (N := some 30) (v := ?_) (a' := ?_) #[true, true, true, true, true, true, true, true, true, true, true, true, true, false, false] rfl rfl (by kernel_rfl) (fun _ _ _ h => h) (Or.inl ⟨by rfl, ?_⟩) ?_ ?_
    rotate_left
    · intro w'
      go_simp
      with_reducible rfl
    rotate_left
    · simp only [Act.put, List.setIfInBounds_toArray, List.set_cons_zero, List.set_cons_succ, i64_w, i32_w]
      rfl
    refine pure_ (i := 13) (N := some 9) (v := ?_) (a' := ?_) #[true, true, true, true, true, true, true, true, true, true, true, true, true, true, false] rfl rfl (by kernel_rfl) (fun _ _ _ h => h) (Or.inl ⟨by rfl, ?_⟩) ?_ ?_
    rotate_left
    · intro w'
      go_simp
      with_reducible rfl
    rotate_left
    · simp only [Act.put, List.setIfInBounds_toArray, List.set_cons_zero, List.set_cons_succ, i64_w, i32_w]
      rfl
    refine pure_ (i := 14) (N := some 10) (v := ?_) (a' := ?_) #[true, true, true, true, true, true, true, true, true, true, true, true, true, true, true] rfl rfl (by kernel_rfl) (fun _ _ _ h => h) (Or.inl ⟨by rfl, ?_⟩) ?_ ?_
    rotate_left
    · intro w'
      go_simp
      with_reducible rfl
    rotate_left
    · simp only [Act.put, List.setIfInBounds_toArray, List.set_cons_zero, List.set_cons_succ, i64_w, i32_w]
      rfl
    refine done_ (by kernel_rfl) ?_
    have hB : Below w1.heap.size w1 y := hq1
    clear hq1 hq0 hHeld
    replace BX := Aside0.mk (BX.out.below hB)
    clear p0 v0 v1 v2 k0 k1 k2 x0 x1 x2
    obtain ⟨p0, v0, v1, v2, k0, k1, k2, x0, x1, x2, -⟩ := BX.out
    replace HC := Aside0.mk (Kd.C_below HC.out hB)
    replace EX := Aside0.mk (EX.out.below OX.out.lt hB)
    replace OX := Aside0.mk (OX.out.below hB EX.out.notgb)
    replace HC4 := Aside0.mk (Kd.C_below HC4.out hB)
    clear e3 e4
    have e3 := EX.out.ce 3 _ rfl
    have e4 := EX.out.ce 4 _ rfl
    clear hB
    go_wp2_with fail
    go_ret
    exact ⟨rfl, HSM.out _ BX.out.bl, Kp.of BX.out.bl⟩
  | li r o j h1 h2 h3 h4 h5 h6 =>
    obtain ⟨w3', w4', v5, v6, hel, hot, hpb⟩ := ot_start hR hs hl h3
    obtain ⟨A3, m3, c3, rfl⟩ := sform hel.r3
    obtain ⟨A4, m4, c4, rfl⟩ := sform hel.r4
    obtain ⟨n3, l3, hC3⟩ := Kd.R_reads' hel.r3
    obtain ⟨n4, l4, hC4⟩ := Kd.R_reads' hel.r4
    have ho3 := (hol o (List.mem_of_getElem? h3)).1
    have ho4 := (hol o (List.mem_of_getElem? h3)).2.1
    have hm3 : m3 ≤ 1000 := by omega
    have hm4 : m4 ≤ 1000000 := by omega
    have HPB := Aside0.mk hpb
    have HK := Aside0.mk (show KkP l v o.f0 from .inr ⟨r, o, h1, h2, h3, rfl⟩)
    have EX := Aside0.mk (hel.below hot.lt hbl)
    have OX := Aside0.mk (hot.below hbl hel.notgb)
    have HC4 := Aside0.mk (show Kd.C k35 W A4 m4 o.f4 from by rw [n4]; exact Kd.C_below hC4 hbl)
    have HN3 := Aside0.mk n3
    have HN4 := Aside0.mk n4
    have hrn : r < n := by have := (List.getElem?_eq_some_iff.1 h3).1; have := hot.len; omega
    obtain rfl : r = v.f2.toNat := by omega
    have h2a : 0 ≤ v.f2 := by omega
    have h2b : v.f2 < (n : Int) := by omega
    have e3 := EX.out.ce 3 _ rfl
    have e4 := EX.out.ce 4 _ rfl
    have hkind : (o.f0 == 1) = true := by simp [h4]
    obtain ⟨g3, cap3, hA3, -, -, -⟩ := Kd.R_form hel.r3 (by omega)
    injection hA3 with hA3 hA3b hA3c
    subst hA3
    rw [← n3] at h5
    have HP := Aside0.mk h5
    have hjm : j < m3 := by omega
    clear hel hot hpb hC3 hC4 ho3 ho4 h2 hrn n3 n4 l3 l4 hR hs hl hol hki hbl
    clear h1 h3 h4 h5 h6 hA3b hA3c
    go_enter Try.func75, Try.ntmps75
    go_upto_region 1 with (fail)
    rw [← HW.out]
    go_upto_region 3 with (first | (go_at_call 117; refine (kindOf_w _ _ _ _ _ _ _ HC.out HCC.out HK.out).mono ?_; rintro e w1 ⟨rfl, hB⟩; replace BX := Aside0.mk (BX.out.below hB); clear p0 v0 v1 v2 k0 k1 k2 x0 x1 x2; obtain ⟨p0, v0, v1, v2, k0, k1, k2, x0, x1, x2, -⟩ := BX.out; replace HC := Aside0.mk (Kd.C_below HC.out hB); replace EX := Aside0.mk (EX.out.below OX.out.lt hB); replace OX := Aside0.mk (OX.out.below hB EX.out.notgb); replace HC4 := Aside0.mk (Kd.C_below HC4.out hB); clear e3 e4; have e3 := EX.out.ce 3 _ rfl; have e4 := EX.out.ce 4 _ rfl; clear hB))
    go_wp2_with fail
    have hq0 : Below w1.heap.size w1 w1.drew := below_drew (Below.refl _ _)
    refine start_ (n := 15) (S := fun w' => w'.cell? ⟨w.heap.size + 1 + 1, 0, none⟩ = some (.int .i64 k.f0) ∧ w'.cell? ⟨w.heap.size + 1 + 1, 1, none⟩ = some (.string k.f1) ∧ w'.cell? ⟨w.heap.size + 1 + 1, 2, none⟩ = some (.int .i64 k.f2) ∧ w'.cell? ⟨w.heap.size, 0, none⟩ = some (.slice (some ⟨gb, 0, none⟩) n c) ∧ w'.cell? ⟨w.heap.size + 1, 2, none⟩ = some (.int .i64 v.f2) ∧ w'.cell? ⟨gb, v.f2.toNat * 7 + 3, none⟩ = some (.slice (some ⟨g3, 0, none⟩) m3 c3)) (ds := []) #[false, false, false, false, false, false, false, false, false, false, false, false, false, false, false] (by kernel_rfl) rfl rfl ⟨B.cell_keep hq0 k0, B.cell_keep hq0 k1, B.cell_keep hq0 k2, B.cell_keep hq0 p0, B.cell_keep hq0 v2, B.cell_keep hq0 e3⟩ (fun hHeld => ?_)
    generalize w1.drew = w10 at hq0 hHeld ⊢
    refine pure_ (i := 1) (N := some 20) (v := ?_) (a' := ?_) #[false, true, false, false, false, false, false, false, false, false, false, false, false, false, false] rfl rfl (by kernel_rfl) (fun _ _ _ h => h) (Or.inl ⟨by rfl, ?_⟩) ?_ ?_
    rotate_left
    · intro w'
      go_simp
      with_reducible rfl
    rotate_left
    · simp only [Act.put, List.setIfInBounds_toArray, List.set_cons_zero, List.set_cons_succ, i64_w, i32_w]
      rfl
    refine pure_ (i := 3) (N := some 22) (v := ?_) (a' := ?_) #[false, true, false, true, false, false, false, false, false, false, false, false, false, false, false] rfl rfl (by kernel_rfl) (fun _ _ _ h => h) (Or.inl ⟨by rfl, ?_⟩) ?_ ?_
    rotate_left
    · intro w'
      go_simp
      with_reducible rfl
    rotate_left
    · simp only [Act.put, List.setIfInBounds_toArray, List.set_cons_zero, List.set_cons_succ, i64_w, i32_w]
      rfl
    refine take_ (i := 0) (N := some 19) (v := ?_) (a' := ?_) #[true, true, false, true, false, false, false, false, false, false, false, false, false, false, false] rfl rfl (by kernel_rfl) (fun _ _ _ h => h) (Or.inl ⟨by rfl, ?_⟩) hHeld ?_ ?_
    rotate_left
    · rintro w' ⟨s0, s1, s2, s3, s4, s5⟩
      go_simp
      with_reducible rfl
    rotate_left
    · simp only [Act.put, List.setIfInBounds_toArray, List.set_cons_zero, List.set_cons_succ, i64_w, i32_w]
      rfl
    refine take_ (i := 2) (N := some 21) (v := ?_) (a' := ?_) #[true, true, true, true, false, false, false, false, false, false, false, false, false, false, false] rfl rfl (by kernel_rfl) (fun _ _ _ h => h) (Or.inl ⟨by rfl, ?_⟩) hHeld ?_ ?_
    rotate_left
    · rintro w' ⟨s0, s1, s2, s3, s4, s5⟩
      go_simp
      with_reducible rfl
    rotate_left
    · simp only [Act.put, List.setIfInBounds_toArray, List.set_cons_zero, List.set_cons_succ, i64_w, i32_w]
      rfl
    refine take_ (i := 4) (N := some 23) (v := ?_) (a' := ?_) #[true, true, true, true, true, false, false, false, false, false, false, false, false, false, false] rfl rfl (by kernel_rfl) (fun _ _ _ h => h) (Or.inl ⟨by rfl, ?_⟩) hHeld ?_ ?_
    rotate_left
    · rintro w' ⟨s0, s1, s2, s3, s4, s5⟩
      go_simp
      with_reducible rfl
    rotate_left
    · simp only [Act.put, List.setIfInBounds_toArray, List.set_cons_zero, List.set_cons_succ, i64_w, i32_w]
      rfl
    refine pure_ (i := 5) (N := some 24) (v := ?_) (a' := ?_) #[true, true, true, true, true, true, false, false, false, false, false, false, false, false, false] rfl rfl (by kernel_rfl) (fun _ _ _ h => h) (Or.inl ⟨by rfl, ?_⟩) ?_ ?_
    rotate_left
    · intro w'
      go_simp
      with_reducible rfl
    rotate_left
    · simp only [Act.put, List.setIfInBounds_toArray, List.set_cons_zero, List.set_cons_succ, i64_w, i32_w]
      rfl
    refine pure_ (i := 6) (N := some 25) (v := ?_) (a' := ?_) #[true, true, true, true, true, true, true, false, false, false, false, false, false, false, false] rfl rfl (by kernel_rfl) (fun _ _ _ h => h) (Or.inl ⟨by rfl, ?_⟩) ?_ ?_
    rotate_left
    · intro w'
      go_simp
      with_reducible rfl
    rotate_left
    · simp only [Act.put, List.setIfInBounds_toArray, List.set_cons_zero, List.set_cons_succ, i64_w, i32_w]
      rfl
    refine take_ (i := 7) (N := some 26) (v := ?_) (a' := ?_) #[true, true, true, true, true, true, true, true, false, false, false, false, false, false, false] rfl rfl (by kernel_rfl) (fun _ _ _ h => h) (Or.inl ⟨by rfl, ?_⟩) hHeld ?_ ?_
    rotate_left
    · rintro w' ⟨s0, s1, s2, s3, s4, s5⟩
      go_simp
      with_reducible rfl
    rotate_left
    · simp only [Act.put, List.setIfInBounds_toArray, List.set_cons_zero, List.set_cons_succ, i64_w, i32_w]
      rfl
    refine pure_ (i := 8) (N := some 27) (v := ?_) (a' := ?_) #[true, true, true, true, true, true, true, true, true, false, false, false, false, false, false] rfl rfl (by kernel_rfl) (fun _ _ _ h => h) (Or.inl ⟨by rfl, ?_⟩) ?_ ?_
    rotate_left
    · intro w'
      go_simp
      with_reducible rfl
    rotate_left
    · simp only [Act.put, List.setIfInBounds_toArray, List.set_cons_zero, List.set_cons_succ, i64_w, i32_w]
      rfl
    refine one_ (i := 9) (N := some 28) #[true, true, true, true, true, true, true, true, true, true, false, false, false, false, false] rfl rfl (by kernel_rfl) (by decide) (fun K hK => ?_)
    refine goes_ Try.func115 (by kernel_rfl) rfl #[.agg #[.int .i64 k.f0, .string k.f1, .int .i64 k.f2], .int .i64 (m3 : Int)] (by rfl) rfl rfl (by simp only [List.map_toArray, List.map_cons, List.map_nil]; rfl) ?_
    with_reducible refine (HEL.out _ _ _ _ (by omega) HP.out).mono ?_
    rintro e y ⟨rfl, hb⟩
    refine ⟨_, rfl, ?_⟩
    have hq1 := bth hq0 hq0.size hb
    refine hK.out _ _ ⟨B.cell_keep hq1 k0, B.cell_keep hq1 k1, B.cell_keep hq1 k2, B.cell_keep hq1 p0, B.cell_keep hq1 v2, B.cell_keep hq1 e3⟩ (fun hHeld => ?_)
    clear hK K
    refine norm_ (a' := ?_) ?_ ?_
    rotate_left
    · show Act.put _ (some 28) _ = _
      simp only [Act.put, List.setIfInBounds_toArray, List.set_cons_zero, List.set_cons_succ, i64_w, i32_w]
      rfl
    refine pure_ (i := 10) (N := some 18) (v := ?_) (a' := ?_) #[true, true, true, true, true, true, true, true, true, true, true, false, false, false, false] rfl rfl (by kernel_rfl) (fun _ _ _ h => h) (Or.inl ⟨by rfl, ?_⟩) ?_ ?_
    rotate_left
    · intro w'
      go_simp
      with_reducible rfl
    rotate_left
    · simp only [Act.put, List.setIfInBounds_toArray, List.set_cons_zero, List.set_cons_succ, i64_w, i32_w]
      rfl
    refine pure_ (i := 11) (N := some 29) (v := ?_) (a' := ?_) #[true, true, true, true, true, true, true, true, true, true, true, true, false, false, false] rfl rfl (by kernel_rfl) (fun _ _ _ h => h) (Or.inl ⟨by rfl, ?_⟩) ?_ ?_
    rotate_left
    · intro w'
      go_simp
      with_reducible rfl
    rotate_left
    · simp only [Act.put, List.setIfInBounds_toArray, List.set_cons_zero, List.set_cons_succ, i64_w, i32_w]
      rfl
    refine pure_ (i := 12) (N := some 30) (v := ?_) (a' := ?_) #[true, true, true, true, true, true, true, true, true, true, true, true, true, false, false] rfl rfl (by kernel_rfl) (fun _ _ _ h => h) (Or.inl ⟨by rfl, ?_⟩) ?_ ?_
    rotate_left
    · intro w'
      go_simp
      with_reducible rfl
    rotate_left
    · simp only [Act.put, List.setIfInBounds_toArray, List.set_cons_zero, List.set_cons_succ, i64_w, i32_w]
      rfl
    refine pure_ (i := 13) (N := some 9) (v := ?_) (a' := ?_) #[true, true, true, true, true, true, true, true, true, true, true, true, true, true, false] rfl rfl (by kernel_rfl) (fun _ _ _ h => h) (Or.inl ⟨by rfl, ?_⟩) ?_ ?_
    rotate_left
    · intro w'
      go_simp
      with_reducible rfl
    rotate_left
    · simp only [Act.put, List.setIfInBounds_toArray, List.set_cons_zero, List.set_cons_succ, i64_w, i32_w]
      rfl
    refine pure_ (i := 14) (N := some 10) (v := ?_) (a' := ?_) #[true, true, true, true, true, true, true, true, true, true, true, true, true, true, true] rfl rfl (by kernel_rfl) (fun _ _ _ h => h) (Or.inl ⟨by rfl, ?_⟩) ?_ ?_
    rotate_left
    · intro w'
      go_simp
      with_reducible rfl
    rotate_left
    · simp only [Act.put, List.setIfInBounds_toArray, List.set_cons_zero, List.set_cons_succ, i64_w, i32_w]
      rfl
    refine done_ (by kernel_rfl) ?_
    have hB : Below w1.heap.size w1 y := hq1
    clear hq1 hq0 hHeld
    replace BX := Aside0.mk (BX.out.below hB)
    clear p0 v0 v1 v2 k0 k1 k2 x0 x1 x2
    obtain ⟨p0, v0, v1, v2, k0, k1, k2, x0, x1, x2, -⟩ := BX.out
    replace HC := Aside0.mk (Kd.C_below HC.out hB)
    replace EX := Aside0.mk (EX.out.below OX.out.lt hB)
    replace OX := Aside0.mk (OX.out.below hB EX.out.notgb)
    replace HC4 := Aside0.mk (Kd.C_below HC4.out hB)
    clear e3 e4
    have e3 := EX.out.ce 3 _ rfl
    have e4 := EX.out.ce 4 _ rfl
    clear hB
    obtain ⟨cs3, hcl3, hM3, hcell3, hfz3⟩ := Kd.R_elem EX.out.r3 zV (j : Int) (by omega) (by omega)
    have esz : k35.sz = 3 := rfl
    rw [esz, show (j : Int).toNat = j from rfl] at hcell3 hfz3
    rw [esz] at hcl3
    have a0 := hcell3 0 (cs3[0]'(by omega)) (List.getElem?_eq_getElem (by omega))
    have a1 := hcell3 1 (cs3[1]'(by omega)) (List.getElem?_eq_getElem (by omega))
    have a2 := hcell3 2 (cs3[2]'(by omega)) (List.getElem?_eq_getElem (by omega))
    have b0 := hfz3 0
    have b1 := hfz3 1
    have b2 := hfz3 2
    rw [Nat.add_zero] at a0 b0
    clear hcell3 hfz3 hM3 esz
    go_upto_region 5 with (fail)
    have hNB : ∀ k, some g3 = some k → base ≤ k := fun k hk => (HPB.out k (.inl hk)).2
    obtain ⟨hx1, hx2, -⟩ := EX.out.setItem OX.out j hjm x 0 (fun _ _ => Nat.zero_le _) (Below.refl 0 y) _ rfl
    have hQ : (fun k => ok k ∧ base ≤ k) g3 := HPB.out g3 (.inl rfl)
    have hfin := fun (w1 : World) h1 h2 => hx1.done2 (w1 := w1) hx2 (.inl HOKG.out) h1 h2
    have hkp := (((Kp.of BX.out.bl (Q := fun k => ok k ∧ base ≤ k)).set ⟨g3, j * 3, none⟩ (fun _ => hQ) (.int .i64 x.f0)).set ⟨g3, j * 3 + 1, none⟩ (fun _ => hQ) (.string x.f1)).set ⟨g3, j * 3 + 2, none⟩ (fun _ => hQ) (.int .i64 x.f2)
    go_region
    go_wp2_with fail
    go_ret
    clear hx1 hx2
    generalize ((y.setCell ⟨g3, j * 3, none⟩ (.int .i64 x.f0)).setCell ⟨g3, j * 3 + 1, none⟩ (.string x.f1)).setCell ⟨g3, j * 3 + 2, none⟩ (.int .i64 x.f2) = Z at hfin hkp ⊢
    exact ⟨rfl, hfin, hkp.below (below_drew (Below.refl _ _))⟩
  | dr r o h1 h2 h3 h4 h5 =>
    obtain ⟨w3', w4', v5, v6, hel, hot, hpb⟩ := ot_start hR hs hl h3
    obtain ⟨A3, m3, c3, rfl⟩ := sform hel.r3
    obtain ⟨A4, m4, c4, rfl⟩ := sform hel.r4
    obtain ⟨n3, l3, hC3⟩ := Kd.R_reads' hel.r3
    obtain ⟨n4, l4, hC4⟩ := Kd.R_reads' hel.r4
    have ho3 := (hol o (List.mem_of_getElem? h3)).1
    have ho4 := (hol o (List.mem_of_getElem? h3)).2.1
    have hm3 : m3 ≤ 1000 := by omega
    have hm4 : m4 ≤ 1000000 := by omega
    have HPB := Aside0.mk hpb
    have HK := Aside0.mk (show KkP l v o.f0 from .inr ⟨r, o, h1, h2, h3, rfl⟩)
    have EX := Aside0.mk (hel.below hot.lt hbl)
    have OX := Aside0.mk (hot.below hbl hel.notgb)
    have HC4 := Aside0.mk (show Kd.C k35 W A4 m4 o.f4 from by rw [n4]; exact Kd.C_below hC4 hbl)
    have HN3 := Aside0.mk n3
    have HN4 := Aside0.mk n4
    have hrn : r < n := by have := (List.getElem?_eq_some_iff.1 h3).1; have := hot.len; omega
    obtain rfl : r = v.f2.toNat := by omega
    have h2a : 0 ≤ v.f2 := by omega
    have h2b : v.f2 < (n : Int) := by omega
    have e3 := EX.out.ce 3 _ rfl
    have e4 := EX.out.ce 4 _ rfl
    have hkind : (o.f0 == 1) = false := by simp [h4]
    have hkind2 : (o.f0 == 2) = true := by simp [h4]
    have hk4 : (k.f0 == 4) = true := by simp [h5]
    clear hel hot hpb hC3 hC4 ho3 ho4 h2 hrn n3 n4 l3 l4 hR hs hl hol hki hbl
    clear h1 h3 h4 h5
    go_enter Try.func75, Try.ntmps75
    go_upto_region 1 with (fail)
    rw [← HW.out]
    go_wp2_with (first | (go_at_call 117; refine (kindOf_w _ _ _ _ _ _ _ HC.out HCC.out HK.out).mono ?_; rintro e w1 ⟨rfl, hB⟩; replace BX := Aside0.mk (BX.out.below hB); clear p0 v0 v1 v2 k0 k1 k2 x0 x1 x2; obtain ⟨p0, v0, v1, v2, k0, k1, k2, x0, x1, x2, -⟩ := BX.out; replace HC := Aside0.mk (Kd.C_below HC.out hB); replace EX := Aside0.mk (EX.out.below OX.out.lt hB); replace OX := Aside0.mk (OX.out.below hB EX.out.notgb); replace HC4 := Aside0.mk (Kd.C_below HC4.out hB); clear e3 e4; have e3 := EX.out.ce 3 _ rfl; have e4 := EX.out.ce 4 _ rfl; clear hB))
    go_ret
    exact ⟨rfl, HSM.out _ BX.out.bl, Kp.of BX.out.bl⟩
  | df r o j h1 h2 h3 h4 h5 h6 h7 =>
    obtain ⟨w3', w4', v5, v6, hel, hot, hpb⟩ := ot_start hR hs hl h3
    obtain ⟨A3, m3, c3, rfl⟩ := sform hel.r3
    obtain ⟨A4, m4, c4, rfl⟩ := sform hel.r4
    obtain ⟨n3, l3, hC3⟩ := Kd.R_reads' hel.r3
    obtain ⟨n4, l4, hC4⟩ := Kd.R_reads' hel.r4
    have ho3 := (hol o (List.mem_of_getElem? h3)).1
    have ho4 := (hol o (List.mem_of_getElem? h3)).2.1
    have hm3 : m3 ≤ 1000 := by omega
    have hm4 : m4 ≤ 1000000 := by omega
    have HPB := Aside0.mk hpb
    have HK := Aside0.mk (show KkP l v o.f0 from .inr ⟨r, o, h1, h2, h3, rfl⟩)
    have EX := Aside0.mk (hel.below hot.lt hbl)
    have OX := Aside0.mk (hot.below hbl hel.notgb)
    have HC4 := Aside0.mk (show Kd.C k35 W A4 m4 o.f4 from by rw [n4]; exact Kd.C_below hC4 hbl)
    have HN3 := Aside0.mk n3
    have HN4 := Aside0.mk n4
    have hrn : r < n := by have := (List.getElem?_eq_some_iff.1 h3).1; have := hot.len; omega
    obtain rfl : r = v.f2.toNat := by omega
    have h2a : 0 ≤ v.f2 := by omega
    have h2b : v.f2 < (n : Int) := by omega
    have e3 := EX.out.ce 3 _ rfl
    have e4 := EX.out.ce 4 _ rfl
    have hkind : (o.f0 == 1) = false := by simp [h4]
    have hkind2 : (o.f0 == 2) = true := by simp [h4]
    have hk4 : (k.f0 == 4) = false := by simpa using h5
    have HIX := Aside0.mk h6
    obtain ⟨g3, cap3, hA3, -, -, -⟩ := Kd.R_form hel.r3 (by omega)
    injection hA3 with hA3 hA3b hA3c
    subst hA3
    have hjm : j < m3 := by omega
    have hj0 : decide ((0 : Int) ≤ (j : Int)) = true := decide_eq_true (by omega)
    clear hel hot hpb hC3 hC4 ho3 ho4 h2 hrn n3 n4 l3 l4 hR hs hl hol hki hbl
    clear h1 h3 h4 h5 h6 h7 hA3b hA3c
    go_enter Try.func75, Try.ntmps75
    go_upto_region 1 with (fail)
    rw [← HW.out]
    go_upto_region 11 with (first | (go_at_call 117; refine (kindOf_w _ _ _ _ _ _ _ HC.out HCC.out HK.out).mono ?_; rintro e w1 ⟨rfl, hB⟩; replace BX := Aside0.mk (BX.out.below hB); clear p0 v0 v1 v2 k0 k1 k2 x0 x1 x2; obtain ⟨p0, v0, v1, v2, k0, k1, k2, x0, x1, x2, -⟩ := BX.out; replace HC := Aside0.mk (Kd.C_below HC.out hB); replace EX := Aside0.mk (EX.out.below OX.out.lt hB); replace OX := Aside0.mk (OX.out.below hB EX.out.notgb); replace HC4 := Aside0.mk (Kd.C_below HC4.out hB); clear e3 e4; have e3 := EX.out.ce 3 _ rfl; have e4 := EX.out.ce 4 _ rfl; clear hB))
    go_wp2_with fail
    have hq0 : Below w1.heap.size w1 w1.drew := below_drew (Below.refl _ _)
    refine start_ (n := 7) (S := fun w' => w'.cell? ⟨w.heap.size + 1 + 1, 0, none⟩ = some (.int .i64 k.f0) ∧ w'.cell? ⟨w.heap.size + 1 + 1, 1, none⟩ = some (.string k.f1) ∧ w'.cell? ⟨w.heap.size + 1 + 1, 2, none⟩ = some (.int .i64 k.f2) ∧ w'.cell? ⟨gb, v.f2.toNat * 7 + 4, none⟩ = some (.slice A4 m4 c4)) (ds := []) #[false, false, false, false, false, false, false] (by kernel_rfl) rfl rfl ⟨B.cell_keep hq0 k0, B.cell_keep hq0 k1, B.cell_keep hq0 k2, B.cell_keep hq0 e4⟩ (fun hHeld => ?_)
    generalize w1.drew = w10 at hq0 hHeld ⊢
    refine pure_ (i := 0) (N := some 54) (v := ?_) (a' := ?_) #[true, false, false, false, false, false, false] rfl rfl (by kernel_rfl) (fun _ _ _ h => h) (Or.inl ⟨by rfl, ?_⟩) ?_ ?_
    rotate_left
    · intro w'
      go_simp
      with_reducible rfl
    rotate_left
    · simp only [Act.put, List.setIfInBounds_toArray, List.set_cons_zero, List.set_cons_succ, i64_w, i32_w]
      rfl
    refine pure_ (i := 1) (N := some 55) (v := ?_) (a' := ?_) #[true, true, false, false, false, false, false] rfl rfl (by kernel_rfl) (fun _ _ _ h => h) (Or.inl ⟨by rfl, ?_⟩) ?_ ?_
    rotate_left
    · intro w'
      go_simp
      with_reducible rfl
    rotate_left
    · simp only [Act.put, List.setIfInBounds_toArray, List.set_cons_zero, List.set_cons_succ, i64_w, i32_w]
      rfl
    refine pure_ (i := 2) (N := some 56) (v := ?_) (a' := ?_) #[true, true, true, false, false, false, false] rfl rfl (by kernel_rfl) (fun _ _ _ h => h) (Or.inl ⟨by rfl, ?_⟩) ?_ ?_
    rotate_left
    · intro w'
      go_simp
      with_reducible rfl
    rotate_left
    · simp only [Act.put, List.setIfInBounds_toArray, List.set_cons_zero, List.set_cons_succ, i64_w, i32_w]
      rfl
    refine take_ (i := 3) (N := some 57) (v := ?_) (a' := ?_) #[true, true, true, true, false, false, false] rfl rfl (by kernel_rfl) (fun _ _ _ h => h) (Or.inl ⟨by rfl, ?_⟩) hHeld ?_ ?_
    rotate_left
    · rintro w' ⟨s0, s1, s2, s3⟩
      go_simp
      with_reducible rfl
    rotate_left
    · simp only [Act.put, List.setIfInBounds_toArray, List.set_cons_zero, List.set_cons_succ, i64_w, i32_w]
      rfl
    refine take_ (i := 4) (N := some 58) (v := ?_) (a' := ?_) #[true, true, true, true, true, false, false] rfl rfl (by kernel_rfl) (fun _ _ _ h => h) (Or.inl ⟨by rfl, ?_⟩) hHeld ?_ ?_
    rotate_left
    · rintro w' ⟨s0, s1, s2, s3⟩
      go_simp
      with_reducible rfl
    rotate_left
    · simp only [Act.put, List.setIfInBounds_toArray, List.set_cons_zero, List.set_cons_succ, i64_w, i32_w]
      rfl
    refine one_ (i := 5) (N := some 59) #[true, true, true, true, true, true, false] rfl rfl (by kernel_rfl) (by decide) (fun K hK => ?_)
    refine goes_ Try.func118 (by kernel_rfl) rfl #[.slice A4 m4 c4, .agg #[.int .i64 k.f0, .string k.f1, .int .i64 k.f2]] (by rfl) rfl rfl (by simp only [List.map_toArray, List.map_cons, List.map_nil]; rfl) ?_
    with_reducible refine (index_w _ _ _ _ _ _ _ (Kd.C_below HC4.out hq0) hm4 HIX.out).mono ?_
    rintro e y ⟨rfl, hb⟩
    refine ⟨_, rfl, ?_⟩
    have hq1 := bth hq0 hq0.size hb
    refine hK.out _ _ ⟨B.cell_keep hq1 k0, B.cell_keep hq1 k1, B.cell_keep hq1 k2, B.cell_keep hq1 e4⟩ (fun hHeld => ?_)
    clear hK K
    refine norm_ (a' := ?_) ?_ ?_
    rotate_left
    · show Act.put _ (some 59) _ = _
      simp only [Act.put, List.setIfInBounds_toArray, List.set_cons_zero, List.set_cons_succ, i64_w, i32_w]
      rfl
    refine pure_ (i := 6) (N := some 12) (v := ?_) (a' := ?_) #[true, true, true, true, true, true, true] rfl rfl (by kernel_rfl) (fun _ _ _ h => h) (Or.inl ⟨by rfl, ?_⟩) ?_ ?_
    rotate_left
    · intro w'
      go_simp
      with_reducible rfl
    rotate_left
    · simp only [Act.put, List.setIfInBounds_toArray, List.set_cons_zero, List.set_cons_succ, i64_w, i32_w]
      rfl
    refine done_ (by kernel_rfl) ?_
    have hB : Below w1.heap.size w1 y := hq1
    clear hq1 hq0 hHeld
    replace BX := Aside0.mk (BX.out.below hB)
    clear p0 v0 v1 v2 k0 k1 k2 x0 x1 x2
    obtain ⟨p0, v0, v1, v2, k0, k1, k2, x0, x1, x2, -⟩ := BX.out
    replace HC := Aside0.mk (Kd.C_below HC.out hB)
    replace EX := Aside0.mk (EX.out.below OX.out.lt hB)
    replace OX := Aside0.mk (OX.out.below hB EX.out.notgb)
    replace HC4 := Aside0.mk (Kd.C_below HC4.out hB)
    clear e3 e4
    have e3 := EX.out.ce 3 _ rfl
    have e4 := EX.out.ce 4 _ rfl
    clear hB
    obtain ⟨cs3, hcl3, hM3, hcell3, hfz3⟩ := Kd.R_elem EX.out.r3 zV (j : Int) (by omega) (by omega)
    have esz : k35.sz = 3 := rfl
    rw [esz, show (j : Int).toNat = j from rfl] at hcell3 hfz3
    rw [esz] at hcl3
    have a0 := hcell3 0 (cs3[0]'(by omega)) (List.getElem?_eq_getElem (by omega))
    have a1 := hcell3 1 (cs3[1]'(by omega)) (List.getElem?_eq_getElem (by omega))
    have a2 := hcell3 2 (cs3[2]'(by omega)) (List.getElem?_eq_getElem (by omega))
    have b0 := hfz3 0
    have b1 := hfz3 1
    have b2 := hfz3 2
    rw [Nat.add_zero] at a0 b0
    clear hcell3 hfz3 hM3 esz
    go_upto_region 13 with (fail)
    have hNB : ∀ k, some g3 = some k → base ≤ k := fun k hk => (HPB.out k (.inl hk)).2
    obtain ⟨hx1, hx2, -⟩ := EX.out.setItem OX.out j hjm x 0 (fun _ _ => Nat.zero_le _) (Below.refl 0 y) _ rfl
    have hQ : (fun k => ok k ∧ base ≤ k) g3 := HPB.out g3 (.inl rfl)
    have hfin := fun (w1 : World) h1 h2 => hx1.done2 (w1 := w1) hx2 (.inl HOKG.out) h1 h2
    have hkp := (((Kp.of BX.out.bl (Q := fun k => ok k ∧ base ≤ k)).set ⟨g3, j * 3, none⟩ (fun _ => hQ) (.int .i64 x.f0)).set ⟨g3, j * 3 + 1, none⟩ (fun _ => hQ) (.string x.f1)).set ⟨g3, j * 3 + 2, none⟩ (fun _ => hQ) (.int .i64 x.f2)
    go_region
    go_wp2_with fail
    go_ret
    clear hx1 hx2
    generalize ((y.setCell ⟨g3, j * 3, none⟩ (.int .i64 x.f0)).setCell ⟨g3, j * 3 + 1, none⟩ (.string x.f1)).setCell ⟨g3, j * 3 + 2, none⟩ (.int .i64 x.f2) = Z at hfin hkp ⊢
    exact ⟨rfl, hfin, hkp.below (below_drew (Below.refl _ _))⟩
  | dn r o h1 h2 h3 h4 h5 h6 h7 =>
    obtain ⟨w3', w4', v5, v6, hel, hot, hpb⟩ := ot_start hR hs hl h3
    obtain ⟨A3, m3, c3, rfl⟩ := sform hel.r3
    obtain ⟨A4, m4, c4, rfl⟩ := sform hel.r4
    obtain ⟨n3, l3, hC3⟩ := Kd.R_reads' hel.r3
    obtain ⟨n4, l4, hC4⟩ := Kd.R_reads' hel.r4
    have ho3 := (hol o (List.mem_of_getElem? h3)).1
    have ho4 := (hol o (List.mem_of_getElem? h3)).2.1
    have hm3 : m3 ≤ 1000 := by omega
    have hm4 : m4 ≤ 1000000 := by omega
    have HPB := Aside0.mk hpb
    have HK := Aside0.mk (show KkP l v o.f0 from .inr ⟨r, o, h1, h2, h3, rfl⟩)
    have EX := Aside0.mk (hel.below hot.lt hbl)
    have OX := Aside0.mk (hot.below hbl hel.notgb)
    have HC4 := Aside0.mk (show Kd.C k35 W A4 m4 o.f4 from by rw [n4]; exact Kd.C_below hC4 hbl)
    have HN3 := Aside0.mk n3
    have HN4 := Aside0.mk n4
    have hrn : r < n := by have := (List.getElem?_eq_some_iff.1 h3).1; have := hot.len; omega
    obtain rfl : r = v.f2.toNat := by omega
    have h2a : 0 ≤ v.f2 := by omega
    have h2b : v.f2 < (n : Int) := by omega
    have e3 := EX.out.ce 3 _ rfl
    have e4 := EX.out.ce 4 _ rfl
    have hkind : (o.f0 == 1) = false := by simp [h4]
    have hkind2 : (o.f0 == 2) = true := by simp [h4]
    have hk4 : (k.f0 == 4) = false := by simpa using h5
    have HIX := Aside0.mk h6
    have hd60 : decide ((60 : Int) ≤ (m4 : Int)) = true := decide_eq_true (by omega)
    clear hel hot hpb hC3 hC4 ho3 ho4 h2 hrn n3 n4 l3 l4 hR hs hl hol hki hbl
    clear h1 h3 h4 h5 h6 h7
    go_enter Try.func75, Try.ntmps75
    go_upto_region 1 with (fail)
    rw [← HW.out]
    go_upto_region 11 with (first | (go_at_call 117; refine (kindOf_w _ _ _ _ _ _ _ HC.out HCC.out HK.out).mono ?_; rintro e w1 ⟨rfl, hB⟩; replace BX := Aside0.mk (BX.out.below hB); clear p0 v0 v1 v2 k0 k1 k2 x0 x1 x2; obtain ⟨p0, v0, v1, v2, k0, k1, k2, x0, x1, x2, -⟩ := BX.out; replace HC := Aside0.mk (Kd.C_below HC.out hB); replace EX := Aside0.mk (EX.out.below OX.out.lt hB); replace OX := Aside0.mk (OX.out.below hB EX.out.notgb); replace HC4 := Aside0.mk (Kd.C_below HC4.out hB); clear e3 e4; have e3 := EX.out.ce 3 _ rfl; have e4 := EX.out.ce 4 _ rfl; clear hB))
    go_wp2_with fail
    have hq0 : Below w1.heap.size w1 w1.drew := below_drew (Below.refl _ _)
    refine start_ (n := 7) (S := fun w' => w'.cell? ⟨w.heap.size + 1 + 1, 0, none⟩ = some (.int .i64 k.f0) ∧ w'.cell? ⟨w.heap.size + 1 + 1, 1, none⟩ = some (.string k.f1) ∧ w'.cell? ⟨w.heap.size + 1 + 1, 2, none⟩ = some (.int .i64 k.f2) ∧ w'.cell? ⟨gb, v.f2.toNat * 7 + 4, none⟩ = some (.slice A4 m4 c4)) (ds := []) #[false, false, false, false, false, false, false] (by kernel_rfl) rfl rfl ⟨B.cell_keep hq0 k0, B.cell_keep hq0 k1, B.cell_keep hq0 k2, B.cell_keep hq0 e4⟩ (fun hHeld => ?_)
    generalize w1.drew = w10 at hq0 hHeld ⊢
    refine pure_ (i := 0) (N := some 54) (v := ?_) (a' := ?_) #[true, false, false, false, false, false, false] rfl rfl (by kernel_rfl) (fun _ _ _ h => h) (Or.inl ⟨by rfl, ?_⟩) ?_ ?_
    rotate_left
    · intro w'
      go_simp
      with_reducible rfl
    rotate_left
    · simp only [Act.put, List.setIfInBounds_toArray, List.set_cons_zero, List.set_cons_succ, i64_w, i32_w]
      rfl
    refine pure_ (i := 1) (N := some 55) (v := ?_) (a' := ?_) #[true, true, false, false, false, false, false] rfl rfl (by kernel_rfl) (fun _ _ _ h => h) (Or.inl ⟨by rfl, ?_⟩) ?_ ?_
    rotate_left
    · intro w'
      go_simp
      with_reducible rfl
    rotate_left
    · simp only [Act.put, List.setIfInBounds_toArray, List.set_cons_zero, List.set_cons_succ, i64_w, i32_w]
      rfl
    refine pure_ (i := 2) (N := some 56) (v := ?_) (a' := ?_) #[true, true, true, false, false, false, false] rfl rfl (by kernel_rfl) (fun _ _ _ h => h) (Or.inl ⟨by rfl, ?_⟩) ?_ ?_
    rotate_left
    · intro w'
      go_simp
      with_reducible rfl
    rotate_left
    · simp only [Act.put, List.setIfInBounds_toArray, List.set_cons_zero, List.set_cons_succ, i64_w, i32_w]
      rfl
    refine take_ (i := 3) (N := some 57) (v := ?_) (a' := ?_) #[true, true, true, true, false, false, false] rfl rfl (by kernel_rfl) (fun _ _ _ h => h) (Or.inl ⟨by rfl, ?_⟩) hHeld ?_ ?_
    rotate_left
    · rintro w' ⟨s0, s1, s2, s3⟩
      go_simp
      with_reducible rfl
    rotate_left
    · simp only [Act.put, List.setIfInBounds_toArray, List.set_cons_zero, List.set_cons_succ, i64_w, i32_w]
      rfl
    refine take_ (i := 4) (N := some 58) (v := ?_) (a' := ?_) #[true, true, true, true, true, false, false] rfl rfl (by kernel_rfl) (fun _ _ _ h => h) (Or.inl ⟨by rfl, ?_⟩) hHeld ?_ ?_
    rotate_left
    · rintro w' ⟨s0, s1, s2, s3⟩
      go_simp
      with_reducible rfl
    rotate_left
    · simp only [Act.put, List.setIfInBounds_toArray, List.set_cons_zero, List.set_cons_succ, i64_w, i32_w]
      rfl
    refine one_ (i := 5) (N := some 59) #[true, true, true, true, true, true, false] rfl rfl (by kernel_rfl) (by decide) (fun K hK => ?_)
    refine goes_ Try.func118 (by kernel_rfl) rfl #[.slice A4 m4 c4, .agg #[.int .i64 k.f0, .string k.f1, .int .i64 k.f2]] (by rfl) rfl rfl (by simp only [List.map_toArray, List.map_cons, List.map_nil]; rfl) ?_
    with_reducible refine (index_w _ _ _ _ _ _ _ (Kd.C_below HC4.out hq0) hm4 HIX.out).mono ?_
    rintro e y ⟨rfl, hb⟩
    refine ⟨_, rfl, ?_⟩
    have hq1 := bth hq0 hq0.size hb
    refine hK.out _ _ ⟨B.cell_keep hq1 k0, B.cell_keep hq1 k1, B.cell_keep hq1 k2, B.cell_keep hq1 e4⟩ (fun hHeld => ?_)
    clear hK K
    refine norm_ (a' := ?_) ?_ ?_
    rotate_left
    · show Act.put _ (some 59) _ = _
      simp only [Act.put, List.setIfInBounds_toArray, List.set_cons_zero, List.set_cons_succ, i64_w, i32_w]
      rfl
    refine pure_ (i := 6) (N := some 12) (v := ?_) (a' := ?_) #[true, true, true, true, true, true, true] rfl rfl (by kernel_rfl) (fun _ _ _ h => h) (Or.inl ⟨by rfl, ?_⟩) ?_ ?_
    rotate_left
    · intro w'
      go_simp
      with_reducible rfl
    rotate_left
    · simp only [Act.put, List.setIfInBounds_toArray, List.set_cons_zero, List.set_cons_succ, i64_w, i32_w]
      rfl
    refine done_ (by kernel_rfl) ?_
    have hB : Below w1.heap.size w1 y := hq1
    clear hq1 hq0 hHeld
    replace BX := Aside0.mk (BX.out.below hB)
    clear p0 v0 v1 v2 k0 k1 k2 x0 x1 x2
    obtain ⟨p0, v0, v1, v2, k0, k1, k2, x0, x1, x2, -⟩ := BX.out
    replace HC := Aside0.mk (Kd.C_below HC.out hB)
    replace EX := Aside0.mk (EX.out.below OX.out.lt hB)
    replace OX := Aside0.mk (OX.out.below hB EX.out.notgb)
    replace HC4 := Aside0.mk (Kd.C_below HC4.out hB)
    clear e3 e4
    have e3 := EX.out.ce 3 _ rfl
    have e4 := EX.out.ce 4 _ rfl
    clear hB
    go_wp2_with fail
    go_ret
    exact ⟨rfl, HSM.out _ BX.out.bl, Kp.of BX.out.bl⟩
  | da r o h1 h2 h3 h4 h5 h6 h7 =>
    obtain ⟨w3', w4', v5, v6, hel, hot, hpb⟩ := ot_start hR hs hl h3
    obtain ⟨A3, m3, c3, rfl⟩ := sform hel.r3
    obtain ⟨A4, m4, c4, rfl⟩ := sform hel.r4
    obtain ⟨n3, l3, hC3⟩ := Kd.R_reads' hel.r3
    obtain ⟨n4, l4, hC4⟩ := Kd.R_reads' hel.r4
    have ho3 := (hol o (List.mem_of_getElem? h3)).1
    have ho4 := (hol o (List.mem_of_getElem? h3)).2.1
    have hm3 : m3 ≤ 1000 := by omega
    have hm4 : m4 ≤ 1000000 := by omega
    have HPB := Aside0.mk hpb
    have HK := Aside0.mk (show KkP l v o.f0 from .inr ⟨r, o, h1, h2, h3, rfl⟩)
    have EX := Aside0.mk (hel.below hot.lt hbl)
    have OX := Aside0.mk (hot.below hbl hel.notgb)
    have HC4 := Aside0.mk (show Kd.C k35 W A4 m4 o.f4 from by rw [n4]; exact Kd.C_below hC4 hbl)
    have HN3 := Aside0.mk n3
    have HN4 := Aside0.mk n4
    have hrn : r < n := by have := (List.getElem?_eq_some_iff.1 h3).1; have := hot.len; omega
    obtain rfl : r = v.f2.toNat := by omega
    have h2a : 0 ≤ v.f2 := by omega
    have h2b : v.f2 < (n : Int) := by omega
    have e3 := EX.out.ce 3 _ rfl
    have e4 := EX.out.ce 4 _ rfl
    have hkind : (o.f0 == 1) = false := by simp [h4]
    have hkind2 : (o.f0 == 2) = true := by simp [h4]
    have hk4 : (k.f0 == 4) = false := by simpa using h5
    have HIX := Aside0.mk h6
    have hd60 : decide ((60 : Int) ≤ (m4 : Int)) = false := decide_eq_false (by omega)
    have HOWN := Aside0.mk (show ∀ q, (Value.slice A4 m4 c4).ownBlock = some q → q < w.heap.size from fun q hq => Kd.R_lt hel.r4 q hq)
    have HOWN3 := Aside0.mk (show ∀ q, (Value.slice A3 m3 c3).ownBlock = some q → q < w.heap.size from fun q hq => Kd.R_lt hel.r3 q hq)
    clear hel hot hpb hC3 hC4 ho3 ho4 h2 hrn n3 n4 l3 l4 hR hs hl hol hki hbl
    clear h1 h3 h4 h5 h6 h7
    go_enter Try.func75, Try.ntmps75
    go_upto_region 1 with (fail)
    rw [← HW.out]
    go_upto_region 11 with (first | (go_at_call 117; refine (kindOf_w _ _ _ _ _ _ _ HC.out HCC.out HK.out).mono ?_; rintro e w1 ⟨rfl, hB⟩; replace BX := Aside0.mk (BX.out.below hB); clear p0 v0 v1 v2 k0 k1 k2 x0 x1 x2; obtain ⟨p0, v0, v1, v2, k0, k1, k2, x0, x1, x2, -⟩ := BX.out; replace HC := Aside0.mk (Kd.C_below HC.out hB); replace EX := Aside0.mk (EX.out.below OX.out.lt hB); replace OX := Aside0.mk (OX.out.below hB EX.out.notgb); replace HC4 := Aside0.mk (Kd.C_below HC4.out hB); clear e3 e4; have e3 := EX.out.ce 3 _ rfl; have e4 := EX.out.ce 4 _ rfl; clear hB))
    go_wp2_with fail
    have hq0 : Below w1.heap.size w1 w1.drew := below_drew (Below.refl _ _)
    refine start_ (n := 7) (S := fun w' => w'.cell? ⟨w.heap.size + 1 + 1, 0, none⟩ = some (.int .i64 k.f0) ∧ w'.cell? ⟨w.heap.size + 1 + 1, 1, none⟩ = some (.string k.f1) ∧ w'.cell? ⟨w.heap.size + 1 + 1, 2, none⟩ = some (.int .i64 k.f2) ∧ w'.cell? ⟨gb, v.f2.toNat * 7 + 4, none⟩ = some (.slice A4 m4 c4)) (ds := []) #[false, false, false, false, false, false, false] (by kernel_rfl) rfl rfl ⟨B.cell_keep hq0 k0, B.cell_keep hq0 k1, B.cell_keep hq0 k2, B.cell_keep hq0 e4⟩ (fun hHeld => ?_)
    generalize w1.drew = w10 at hq0 hHeld ⊢
    refine pure_ (i := 0) (N := some 54) (v := ?_) (a' := ?_) #[true, false, false, false, false, false, false] rfl rfl (by kernel_rfl) (fun _ _ _ h => h) (Or.inl ⟨by rfl, ?_⟩) ?_ ?_
    rotate_left
    · intro w'
      go_simp
      with_reducible rfl
    rotate_left
    · simp only [Act.put, List.setIfInBounds_toArray, List.set_cons_zero, List.set_cons_succ, i64_w, i32_w]
      rfl
    refine pure_ (i := 1) (N := some 55) (v := ?_) (a' := ?_) #[true, true, false, false, false, false, false] rfl rfl (by kernel_rfl) (fun _ _ _ h => h) (Or.inl ⟨by rfl, ?_⟩) ?_ ?_
    rotate_left
    · intro w'
      go_simp
      with_reducible rfl
    rotate_left
    · simp only [Act.put, List.setIfInBounds_toArray, List.set_cons_zero, List.set_cons_succ, i64_w, i32_w]
      rfl
    refine pure_ (i := 2) (N := some 56) (v := ?_) (a' := ?_) #[true, true, true, false, false, false, false] rfl rfl (by kernel_rfl) (fun _ _ _ h => h) (Or.inl ⟨by rfl, ?_⟩) ?_ ?_
    rotate_left
    · intro w'
      go_simp
      with_reducible rfl
    rotate_left
    · simp only [Act.put, List.setIfInBounds_toArray, List.set_cons_zero, List.set_cons_succ, i64_w, i32_w]
      rfl
    refine take_ (i := 3) (N := some 57) (v := ?_) (a' := ?_) #[true, true, true, true, false, false, false] rfl rfl (by kernel_rfl) (fun _ _ _ h => h) (Or.inl ⟨by rfl, ?_⟩) hHeld ?_ ?_
    rotate_left
    · rintro w' ⟨s0, s1, s2, s3⟩
      go_simp
      with_reducible rfl
    rotate_left
    · simp only [Act.put, List.setIfInBounds_toArray, List.set_cons_zero, List.set_cons_succ, i64_w, i32_w]
      rfl
    refine take_ (i := 4) (N := some 58) (v := ?_) (a' := ?_) #[true, true, true, true, true, false, false] rfl rfl (by kernel_rfl) (fun _ _ _ h => h) (Or.inl ⟨by rfl, ?_⟩) hHeld ?_ ?_
    rotate_left
    · rintro w' ⟨s0, s1, s2, s3⟩
      go_simp
      with_reducible rfl
    rotate_left
    · simp only [Act.put, List.setIfInBounds_toArray, List.set_cons_zero, List.set_cons_succ, i64_w, i32_w]
      rfl
    refine one_ (i := 5) (N := some 59) #[true, true, true, true, true, true, false] rfl rfl (by kernel_rfl) (by decide) (fun K hK => ?_)
    refine goes_ Try.func118 (by kernel_rfl) rfl #[.slice A4 m4 c4, .agg #[.int .i64 k.f0, .string k.f1, .int .i64 k.f2]] (by rfl) rfl rfl (by simp only [List.map_toArray, List.map_cons, List.map_nil]; rfl) ?_
    with_reducible refine (index_w _ _ _ _ _ _ _ (Kd.C_below HC4.out hq0) hm4 HIX.out).mono ?_
    rintro e y ⟨rfl, hb⟩
    refine ⟨_, rfl, ?_⟩
    have hq1 := bth hq0 hq0.size hb
    refine hK.out _ _ ⟨B.cell_keep hq1 k0, B.cell_keep hq1 k1, B.cell_keep hq1 k2, B.cell_keep hq1 e4⟩ (fun hHeld => ?_)
    clear hK K
    refine norm_ (a' := ?_) ?_ ?_
    rotate_left
    · show Act.put _ (some 59) _ = _
      simp only [Act.put, List.setIfInBounds_toArray, List.set_cons_zero, List.set_cons_succ, i64_w, i32_w]
      rfl
    refine pure_ (i := 6) (N := some 12) (v := ?_) (a' := ?_) #[true, true, true, true, true, true, true] rfl rfl (by kernel_rfl) (fun _ _ _ h => h) (Or.inl ⟨by rfl, ?_⟩) ?_ ?_
    rotate_left
    · intro w'
      go_simp
      with_reducible rfl
    rotate_left
    · simp only [Act.put, List.setIfInBounds_toArray, List.set_cons_zero, List.set_cons_succ, i64_w, i32_w]
      rfl
    refine done_ (by kernel_rfl) ?_
    have hB : Below w1.heap.size w1 y := hq1
    clear hq1 hq0 hHeld
    replace BX := Aside0.mk (BX.out.below hB)
    clear p0 v0 v1 v2 k0 k1 k2 x0 x1 x2
    obtain ⟨p0, v0, v1, v2, k0, k1, k2, x0, x1, x2, -⟩ := BX.out
    replace HC := Aside0.mk (Kd.C_below HC.out hB)
    replace EX := Aside0.mk (EX.out.below OX.out.lt hB)
    replace OX := Aside0.mk (OX.out.below hB EX.out.notgb)
    replace HC4 := Aside0.mk (Kd.C_below HC4.out hB)
    clear e3 e4
    have e3 := EX.out.ce 3 _ rfl
    have e4 := EX.out.ce 4 _ rfl
    clear hB
    have HLT := Aside0.mk OX.out.lt
    go_upto_region 17 with (fail)
    go_wp2_with fail
    have hq0 : Below y.heap.size y y.drew := below_drew (Below.refl _ _)
    refine start_ (n := 11) (S := fun w' => w'.cell? ⟨w.heap.size + 1 + 1, 0, none⟩ = some (.int .i64 k.f0) ∧ w'.cell? ⟨w.heap.size + 1 + 1, 1, none⟩ = some (.string k.f1) ∧ w'.cell? ⟨w.heap.size + 1 + 1, 2, none⟩ = some (.int .i64 k.f2) ∧ w'.cell? ⟨gb, v.f2.toNat * 7 + 4, none⟩ = some (.slice A4 m4 c4)) (ds := [7, 10]) #[false, false, false, false, false, false, false, false, false, false, false] (by kernel_rfl) rfl rfl ⟨B.cell_keep hq0 k0, B.cell_keep hq0 k1, B.cell_keep hq0 k2, B.cell_keep hq0 e4⟩ (fun hHeld => ?_)
    generalize y.drew = w10 at hq0 hHeld ⊢
    refine pure_ (i := 0) (N := some 75) (v := ?_) (a' := ?_) #[true, false, false, false, false, false, false, false, false, false, false] rfl rfl (by kernel_rfl) (fun _ _ _ h => h) (Or.inl ⟨by rfl, ?_⟩) ?_ ?_
    rotate_left
    · intro w'
      go_simp
      with_reducible rfl
    rotate_left
    · simp only [Act.put, List.setIfInBounds_toArray, List.set_cons_zero, List.set_cons_succ, i64_w, i32_w]
      rfl
    refine pure_ (i := 1) (N := some 76) (v := ?_) (a' := ?_) #[true, true, false, false, false, false, false, false, false, false, false] rfl rfl (by kernel_rfl) (fun _ _ _ h => h) (Or.inl ⟨by rfl, ?_⟩) ?_ ?_
    rotate_left
    · intro w'
      go_simp
      with_reducible rfl
    rotate_left
    · simp only [Act.put, List.setIfInBounds_toArray, List.set_cons_zero, List.set_cons_succ, i64_w, i32_w]
      rfl
    refine pure_ (i := 2) (N := some 77) (v := ?_) (a' := ?_) #[true, true, true, false, false, false, false, false, false, false, false] rfl rfl (by kernel_rfl) (fun _ _ _ h => h) (Or.inl ⟨by rfl, ?_⟩) ?_ ?_
    rotate_left
    · intro w'
      go_simp
      with_reducible rfl
    rotate_left
    · simp only [Act.put, List.setIfInBounds_toArray, List.set_cons_zero, List.set_cons_succ, i64_w, i32_w]
      rfl
    refine pure_ (i := 3) (N := some 78) (v := ?_) (a' := ?_) #[true, true, true, true, false, false, false, false, false, false, false] rfl rfl (by kernel_rfl) (fun _ _ _ h => h) (Or.inl ⟨by rfl, ?_⟩) ?_ ?_
    rotate_left
    · intro w'
      go_simp
      with_reducible rfl
    rotate_left
    · simp only [Act.put, List.setIfInBounds_toArray, List.set_cons_zero, List.set_cons_succ, i64_w, i32_w]
      rfl
    refine take_ (i := 4) (N := some 79) (v := ?_) (a' := ?_) #[true, true, true, true, true, false, false, false, false, false, false] rfl rfl (by kernel_rfl) (fun _ _ _ h => h) (Or.inl ⟨by rfl, ?_⟩) hHeld ?_ ?_
    rotate_left
    · rintro w' ⟨s0, s1, s2, s3⟩
      go_simp
      with_reducible rfl
    rotate_left
    · simp only [Act.put, List.setIfInBounds_toArray, List.set_cons_zero, List.set_cons_succ, i64_w, i32_w]
      rfl
    refine take_ (i := 5) (N := some 80) (v := ?_) (a' := ?_) #[true, true, true, true, true, true, false, false, false, false, false] rfl rfl (by kernel_rfl) (fun _ _ _ h => h) (Or.inl ⟨by rfl, ?_⟩) hHeld ?_ ?_
    rotate_left
    · rintro w' ⟨s0, s1, s2, s3⟩
      go_simp
      with_reducible rfl
    rotate_left
    · simp only [Act.put, List.setIfInBounds_toArray, List.set_cons_zero, List.set_cons_succ, i64_w, i32_w]
      rfl
    refine one_ (i := 6) (N := some 81) #[true, true, true, true, true, true, true, false, false, false, false] rfl rfl (by kernel_rfl) (by decide) (fun K hK => ?_)
    refine value_ (w1 := ?_) (v := ?_) (by rfl) rfl ?_ ?_
    rotate_left 2
    · go_simp
      constructor
      · rfl
      · rfl
    have hq1 := bth hq0 hq0.size (bla (Below.refl _ _) (.cells #[.int .i64 k.f0, .string k.f1, .int .i64 k.f2] 35))
    refine hK.out _ _ ⟨B.cell_keep hq1 k0, B.cell_keep hq1 k1, B.cell_keep hq1 k2, B.cell_keep hq1 e4⟩ (fun hHeld => ?_)
    clear hK K
    refine norm_ (a' := ?_) ?_ ?_
    rotate_left
    · show Act.put _ (some 81) _ = _
      simp only [Act.put, List.setIfInBounds_toArray, List.set_cons_zero, List.set_cons_succ, i64_w, i32_w]
      rfl
    refine last_ (i := 7) (N := some 82) #[true, true, true, true, true, true, true, true, false, false, false] rfl rfl (by kernel_rfl) (by decide) (fun K hK => ?_)
    refine Kd.R_append_step k35 (w0 := w10) 0 (by rfl) (.tmp 79) (.tmp 81) 26 35 (.agg #[(.int .i64 0), (.string ⟨#[]⟩), (.int .i64 0)]) 32 rfl Try.underlying26 info35 rfl (by decide) (by omega) (.slice A4 m4 c4) o.f4 k [.int .i64 k.f0, .string k.f1, .int .i64 k.f2] (fun q => q ≠ gb ∧ ((ok q ∧ base ≤ q) ∨ w.heap.size ≤ q)) (fun _ => False) rfl rfl ?aP (fun _ hk => hk.elim) ?aF ?aO ?aB ?aS ?aL ?_
    case aP => exact k35_mkM _ _ _ k
    case aF => exact fun q hq => ⟨by have := HLT.out; have := hq0.size; omega, .inr (by have := hq0.size; have := BX.out.bl.size; omega)⟩
    case aO => exact Kd.R_below EX.out.r4 hq0
    case aB => exact Below.refl _ _
    case aS => exact Nat.zero_le _
    case aL => have := HN4.out; omega
    intro v1 w13 ho _ hg hat
    obtain ⟨A5, n5, c5, rfl⟩ := sform ho
    have EX1 := EX.out.below OX.out.lt hq0
    have OX1 := OX.out.below hq0 EX.out.notgb
    have hgne : some gb ≠ (Value.slice A4 m4 c4).ownBlock := fun e => (EX1.r4.1 gb e.symm).1 rfl
    have ec := (World.cell?_of_block (a := ⟨gb, v.f2.toNat * 7 + 4, none⟩) (hg.block gb OX1.lt hgne)).trans (EX1.ce 4 _ rfl)
    have ef := (World.frozen?_of_block (a := ⟨gb, v.f2.toNat * 7 + 4, none⟩) (hg.block gb OX1.lt hgne)).trans (EX1.fz 4)
    refine hK.out _ _ ?_
    clear hK K
    refine norm_ (a' := ?_) ?_ ?_
    rotate_left
    · show Act.put _ (some 82) _ = _
      simp only [Act.put, List.setIfInBounds_toArray, List.set_cons_zero, List.set_cons_succ, i64_w, i32_w]
      rfl
    refine pure_ (i := 8) (N := some 83) (v := ?_) (a' := ?_) #[true, true, true, true, true, true, true, true, true, false, false] rfl rfl (by kernel_rfl) (fun _ _ _ h => h) (Or.inl ⟨by rfl, ?_⟩) ?_ ?_
    rotate_left
    · intro w'
      go_simp
      with_reducible rfl
    rotate_left
    · simp only [Act.put, List.setIfInBounds_toArray, List.set_cons_zero, List.set_cons_succ, i64_w, i32_w]
      rfl
    refine pure_ (i := 9) (N := some 84) (v := ?_) (a' := ?_) #[true, true, true, true, true, true, true, true, true, true, false] rfl rfl (by kernel_rfl) (fun _ _ _ h => h) (Or.inl ⟨by rfl, ?_⟩) ?_ ?_
    rotate_left
    · intro w'
      go_simp
      with_reducible rfl
    rotate_left
    · simp only [Act.put, List.setIfInBounds_toArray, List.set_cons_zero, List.set_cons_succ, i64_w, i32_w]
      rfl
    refine last_ (i := 10) (N := none) #[true, true, true, true, true, true, true, true, true, true, true] rfl rfl (by kernel_rfl) (by decide) (fun K hK => ?_)
    refine skip_ (w1 := ?_) (by rfl) rfl ?_ ?_
    rotate_left
    · go_simp
      rfl
    refine hK.out _ _ ?_
    clear hK K
    refine done_ (by kernel_rfl) ?_
    obtain ⟨hx1, hx2⟩ := EX1.growKeys OX1 ho hg hat
    have hkp := (((Kp.of BX.out.bl (Q := fun q => ok q ∧ base ≤ q)).below hq0).grown hg (fun q hq _ => HPB.out q (.inr (.inl hq)))).set ⟨gb, v.f2.toNat * 7 + 4, none⟩ (fun _ => HOKG.out) (.slice A5 n5 c5)
    have bw : ∀ q, w.heap.size ≤ q → q < y.heap.size → (w13.setCell ⟨gb, v.f2.toNat * 7 + 4, none⟩ (.slice A5 n5 c5)).heap[q]? = y.heap[q]? := fun q hq1' hq2' => by
      rw [Below.heap_setCell _ _ _ _ (by show q ≠ gb; have := HGL.out; omega)]
      exact (hg.block q (Nat.lt_of_lt_of_le hq2' hq0.size) (fun e => by have h2 := (HOWN.out q e.symm); omega)).trans (hq0.block q hq2')
    have hbx : w.heap.size + 1 + 1 + 1 < y.heap.size := World.block_lt_of_cell? y _ x0
    have x0' := (World.cell?_of_block (a := ⟨w.heap.size + 1 + 1 + 1, 0, none⟩) (bw (w.heap.size + 1 + 1 + 1) (by omega) hbx)).trans x0
    have x1' := (World.cell?_of_block (a := ⟨w.heap.size + 1 + 1 + 1, 1, none⟩) (bw (w.heap.size + 1 + 1 + 1) (by omega) hbx)).trans x1
    have x2' := (World.cell?_of_block (a := ⟨w.heap.size + 1 + 1 + 1, 2, none⟩) (bw (w.heap.size + 1 + 1 + 1) (by omega) hbx)).trans x2
    generalize w13.setCell ⟨gb, v.f2.toNat * 7 + 4, none⟩ (.slice A5 n5 c5) = Y2 at hx1 hx2 hkp x0' x1' x2' ⊢
    clear bw hbx EX1 OX1 hgne ec ef ho hg hat hq0 hq1 hHeld p0 v0 v1 v2 k0 k1 k2 x0 x1 x2 e3 e4
    have x0 := x0'
    have x1 := x1'
    have x2 := x2'
    clear x0' x1' x2'
    replace EX := Aside0.mk hx1
    replace OX := Aside0.mk hx2
    have HKP := Aside0.mk hkp
    replace HLT := Aside0.mk OX.out.lt
    have e3 := EX.out.ce 3 _ rfl
    clear hx1 hx2 hkp
    go_upto_region 18 with (fail)
    go_wp2_with fail
    have hq0 : Below Y2.heap.size Y2 Y2.drew := below_drew (Below.refl _ _)
    refine start_ (n := 11) (S := fun w' => w'.cell? ⟨w.heap.size + 1 + 1 + 1, 0, none⟩ = some (.int .i64 x.f0) ∧ w'.cell? ⟨w.heap.size + 1 + 1 + 1, 1, none⟩ = some (.string x.f1) ∧ w'.cell? ⟨w.heap.size + 1 + 1 + 1, 2, none⟩ = some (.int .i64 x.f2) ∧ w'.cell? ⟨gb, v.f2.toNat * 7 + 3, none⟩ = some (.slice A3 m3 c3)) (ds := [7, 10]) #[false, false, false, false, false, false, false, false, false, false, false] (by kernel_rfl) rfl rfl ⟨B.cell_keep hq0 x0, B.cell_keep hq0 x1, B.cell_keep hq0 x2, B.cell_keep hq0 e3⟩ (fun hHeld => ?_)
    generalize Y2.drew = w10 at hq0 hHeld ⊢
    refine pure_ (i := 0) (N := some 85) (v := ?_) (a' := ?_) #[true, false, false, false, false, false, false, false, false, false, false] rfl rfl (by kernel_rfl) (fun _ _ _ h => h) (Or.inl ⟨by rfl, ?_⟩) ?_ ?_
    rotate_left
    · intro w'
      go_simp
      with_reducible rfl
    rotate_left
    · simp only [Act.put, List.setIfInBounds_toArray, List.set_cons_zero, List.set_cons_succ, i64_w, i32_w]
      rfl
    refine pure_ (i := 1) (N := some 86) (v := ?_) (a' := ?_) #[true, true, false, false, false, false, false, false, false, false, false] rfl rfl (by kernel_rfl) (fun _ _ _ h => h) (Or.inl ⟨by rfl, ?_⟩) ?_ ?_
    rotate_left
    · intro w'
      go_simp
      with_reducible rfl
    rotate_left
    · simp only [Act.put, List.setIfInBounds_toArray, List.set_cons_zero, List.set_cons_succ, i64_w, i32_w]
      rfl
    refine pure_ (i := 2) (N := some 87) (v := ?_) (a' := ?_) #[true, true, true, false, false, false, false, false, false, false, false] rfl rfl (by kernel_rfl) (fun _ _ _ h => h) (Or.inl ⟨by rfl, ?_⟩) ?_ ?_
    rotate_left
    · intro w'
      go_simp
      with_reducible rfl
    rotate_left
    · simp only [Act.put, List.setIfInBounds_toArray, List.set_cons_zero, List.set_cons_succ, i64_w, i32_w]
      rfl
    refine pure_ (i := 3) (N := some 88) (v := ?_) (a' := ?_) #[true, true, true, true, false, false, false, false, false, false, false] rfl rfl (by kernel_rfl) (fun _ _ _ h => h) (Or.inl ⟨by rfl, ?_⟩) ?_ ?_
    rotate_left
    · intro w'
      go_simp
      with_reducible rfl
    rotate_left
    · simp only [Act.put, List.setIfInBounds_toArray, List.set_cons_zero, List.set_cons_succ, i64_w, i32_w]
      rfl
    refine take_ (i := 4) (N := some 89) (v := ?_) (a' := ?_) #[true, true, true, true, true, false, false, false, false, false, false] rfl rfl (by kernel_rfl) (fun _ _ _ h => h) (Or.inl ⟨by rfl, ?_⟩) hHeld ?_ ?_
    rotate_left
    · rintro w' ⟨s0, s1, s2, s3⟩
      go_simp
      with_reducible rfl
    rotate_left
    · simp only [Act.put, List.setIfInBounds_toArray, List.set_cons_zero, List.set_cons_succ, i64_w, i32_w]
      rfl
    refine take_ (i := 5) (N := some 90) (v := ?_) (a' := ?_) #[true, true, true, true, true, true, false, false, false, false, false] rfl rfl (by kernel_rfl) (fun _ _ _ h => h) (Or.inl ⟨by rfl, ?_⟩) hHeld ?_ ?_
    rotate_left
    · rintro w' ⟨s0, s1, s2, s3⟩
      go_simp
      with_reducible rfl
    rotate_left
    · simp only [Act.put, List.setIfInBounds_toArray, List.set_cons_zero, List.set_cons_succ, i64_w, i32_w]
      rfl
    refine one_ (i := 6) (N := some 91) #[true, true, true, true, true, true, true, false, false, false, false] rfl rfl (by kernel_rfl) (by decide) (fun K hK => ?_)
    refine value_ (w1 := ?_) (v := ?_) (by rfl) rfl ?_ ?_
    rotate_left 2
    · go_simp
      constructor
      · rfl
      · rfl
    have hq1 := bth hq0 hq0.size (bla (Below.refl _ _) (.cells #[.int .i64 x.f0, .string x.f1, .int .i64 x.f2] 35))
    refine hK.out _ _ ⟨B.cell_keep hq1 x0, B.cell_keep hq1 x1, B.cell_keep hq1 x2, B.cell_keep hq1 e3⟩ (fun hHeld => ?_)
    clear hK K
    refine norm_ (a' := ?_) ?_ ?_
    rotate_left
    · show Act.put _ (some 91) _ = _
      simp only [Act.put, List.setIfInBounds_toArray, List.set_cons_zero, List.set_cons_succ, i64_w, i32_w]
      rfl
    refine last_ (i := 7) (N := some 92) #[true, true, true, true, true, true, true, true, false, false, false] rfl rfl (by kernel_rfl) (by decide) (fun K hK => ?_)
    refine Kd.R_append_step k35 (w0 := w10) 0 (by rfl) (.tmp 89) (.tmp 91) 26 35 (.agg #[(.int .i64 0), (.string ⟨#[]⟩), (.int .i64 0)]) 32 rfl Try.underlying26 info35 rfl (by decide) (by omega) (.slice A3 m3 c3) o.f3 x [.int .i64 x.f0, .string x.f1, .int .i64 x.f2] (fun q => q ≠ gb ∧ ((ok q ∧ base ≤ q) ∨ w.heap.size ≤ q)) (fun _ => False) rfl rfl ?aP (fun _ hk => hk.elim) ?aF ?aO ?aB ?aS ?aL ?_
    case aP => exact k35_mkM _ _ _ x
    case aF => exact fun q hq => ⟨by have := HLT.out; have := hq0.size; omega, .inr (by have := hq0.size; have := HKP.out.size; omega)⟩
    case aO => exact Kd.R_below EX.out.r3 hq0
    case aB => exact Below.refl _ _
    case aS => exact Nat.zero_le _
    case aL => have := HN3.out; omega
    intro v1 w13 ho _ hg hat
    obtain ⟨A5, n5, c5, rfl⟩ := sform ho
    have EX1 := EX.out.below OX.out.lt hq0
    have OX1 := OX.out.below hq0 EX.out.notgb
    have hgne : some gb ≠ (Value.slice A3 m3 c3).ownBlock := fun e => (EX1.r3.1 gb e.symm).1 rfl
    have ec := (World.cell?_of_block (a := ⟨gb, v.f2.toNat * 7 + 3, none⟩) (hg.block gb OX1.lt hgne)).trans (EX1.ce 3 _ rfl)
    have ef := (World.frozen?_of_block (a := ⟨gb, v.f2.toNat * 7 + 3, none⟩) (hg.block gb OX1.lt hgne)).trans (EX1.fz 3)
    refine hK.out _ _ ?_
    clear hK K
    refine norm_ (a' := ?_) ?_ ?_
    rotate_left
    · show Act.put _ (some 92) _ = _
      simp only [Act.put, List.setIfInBounds_toArray, List.set_cons_zero, List.set_cons_succ, i64_w, i32_w]
      rfl
    refine pure_ (i := 8) (N := some 93) (v := ?_) (a' := ?_) #[true, true, true, true, true, true, true, true, true, false, false] rfl rfl (by kernel_rfl) (fun _ _ _ h => h) (Or.inl ⟨by rfl, ?_⟩) ?_ ?_
    rotate_left
    · intro w'
      go_simp
      with_reducible rfl
    rotate_left
    · simp only [Act.put, List.setIfInBounds_toArray, List.set_cons_zero, List.set_cons_succ, i64_w, i32_w]
      rfl
    refine pure_ (i := 9) (N := some 94) (v := ?_) (a' := ?_) #[true, true, true, true, true, true, true, true, true, true, false] rfl rfl (by kernel_rfl) (fun _ _ _ h => h) (Or.inl ⟨by rfl, ?_⟩) ?_ ?_
    rotate_left
    · intro w'
      go_simp
      with_reducible rfl
    rotate_left
    · simp only [Act.put, List.setIfInBounds_toArray, List.set_cons_zero, List.set_cons_succ, i64_w, i32_w]
      rfl
    refine last_ (i := 10) (N := none) #[true, true, true, true, true, true, true, true, true, true, true] rfl rfl (by kernel_rfl) (by decide) (fun K hK => ?_)
    refine skip_ (w1 := ?_) (by rfl) rfl ?_ ?_
    rotate_left
    · go_simp
      rfl
    refine hK.out _ _ ?_
    clear hK K
    refine done_ (by kernel_rfl) ?_
    obtain ⟨hx1, hx2⟩ := EX1.growItems OX1 ho hg hat
    have hkp := ((HKP.out.below hq0).grown hg (fun q hq _ => HPB.out q (.inl hq))).set ⟨gb, v.f2.toNat * 7 + 3, none⟩ (fun _ => HOKG.out) (.slice A5 n5 c5)
    have hfin := fun (w1 : World) h1 h2 => hx1.done2 (w1 := w1) hx2 (.inl HOKG.out) h1 h2
    go_wp2_with fail
    go_ret
    exact ⟨rfl, hfin, hkp⟩
  | xo r o h1 h2 h3 h4 h5 =>
    obtain ⟨w3', w4', v5, v6, hel, hot, hpb⟩ := ot_start hR hs hl h3
    obtain ⟨A3, m3, c3, rfl⟩ := sform hel.r3
    obtain ⟨A4, m4, c4, rfl⟩ := sform hel.r4
    obtain ⟨n3, l3, hC3⟩ := Kd.R_reads' hel.r3
    obtain ⟨n4, l4, hC4⟩ := Kd.R_reads' hel.r4
    have ho3 := (hol o (List.mem_of_getElem? h3)).1
    have ho4 := (hol o (List.mem_of_getElem? h3)).2.1
    have hm3 : m3 ≤ 1000 := by omega
    have hm4 : m4 ≤ 1000000 := by omega
    have HPB := Aside0.mk hpb
    have HK := Aside0.mk (show KkP l v o.f0 from .inr ⟨r, o, h1, h2, h3, rfl⟩)
    have EX := Aside0.mk (hel.below hot.lt hbl)
    have OX := Aside0.mk (hot.below hbl hel.notgb)
    have HC4 := Aside0.mk (show Kd.C k35 W A4 m4 o.f4 from by rw [n4]; exact Kd.C_below hC4 hbl)
    have HN3 := Aside0.mk n3
    have HN4 := Aside0.mk n4
    have hrn : r < n := by have := (List.getElem?_eq_some_iff.1 h3).1; have := hot.len; omega
    obtain rfl : r = v.f2.toNat := by omega
    have h2a : 0 ≤ v.f2 := by omega
    have h2b : v.f2 < (n : Int) := by omega
    have e3 := EX.out.ce 3 _ rfl
    have e4 := EX.out.ce 4 _ rfl
    have hkind : (o.f0 == 1) = false := by simpa using h4
    have hkind2 : (o.f0 == 2) = false := by simpa using h5
    clear hel hot hpb hC3 hC4 ho3 ho4 h2 hrn n3 n4 l3 l4 hR hs hl hol hki hbl
    clear h1 h3 h4 h5
    go_enter Try.func75, Try.ntmps75
    go_upto_region 1 with (fail)
    rw [← HW.out]
    go_wp2_with (first | (go_at_call 117; refine (kindOf_w _ _ _ _ _ _ _ HC.out HCC.out HK.out).mono ?_; rintro e w1 ⟨rfl, hB⟩; replace BX := Aside0.mk (BX.out.below hB); clear p0 v0 v1 v2 k0 k1 k2 x0 x1 x2; obtain ⟨p0, v0, v1, v2, k0, k1, k2, x0, x1, x2, -⟩ := BX.out; replace HC := Aside0.mk (Kd.C_below HC.out hB); replace EX := Aside0.mk (EX.out.below OX.out.lt hB); replace OX := Aside0.mk (OX.out.below hB EX.out.notgb); replace HC4 := Aside0.mk (Kd.C_below HC4.out hB); clear e3 e4; have e3 := EX.out.ce 3 _ rfl; have e4 := EX.out.ce 4 _ rfl; clear hB))
    go_ret
    exact ⟨rfl, HSM.out _ BX.out.bl, Kp.of BX.out.bl⟩
  | xv h1 =>
    have HK := Aside0.mk (show KkP l v (-1) from .inl ⟨h1, rfl⟩)
    clear h1 hR hs hl hol hki hbl
    go_enter Try.func75, Try.ntmps75
    go_upto_region 1 with (fail)
    rw [← HW.out]
    go_wp2_with (first | (go_at_call 117; refine (kindOf_w _ _ _ _ _ _ _ HC.out HCC.out HK.out).mono ?_; rintro e w1 ⟨rfl, hB⟩; replace BX := Aside0.mk (BX.out.below hB); clear p0 v0 v1 v2 k0 k1 k2 x0 x1 x2; obtain ⟨p0, v0, v1, v2, k0, k1, k2, x0, x1, x2, -⟩ := BX.out; replace HC := Aside0.mk (Kd.C_below HC.out hB); clear hB))
    go_ret
    exact ⟨rfl, HSM.out _ BX.out.bl, Kp.of BX.out.bl⟩
end Go.Proofs.Ytgddblpgbkgpcaa.PR
namespace Go.Proofs.Ytgddblpgbkgpcaa.PR
set_option linter.unusedVariables false
set_option linter.unusedSimpArgs false
open Go.RowKit Go.Proofs.YtgddblpgbkgpcaaW.PrintWords Go.Proofs.YtgddblpgbkgpcaaW.PrintLast Go.Proofs.YtgddblpgbkgpcaaW.PrintMore
structure Hp (w0 w wi : World) (g b4 : Nat) (b : Int) (v : Value) (l : List S46) : Prop where
  rn : Rn w0 wi g b
  bl : Below w0.heap.size w0 wi
  kp : KeepBut w wi g none
  c2 : wi.heap[w.heap.size]? = some (.cells #[.slice none 0 0] 25 (0, 0))
  c3 : wi.heap[w.heap.size + 1]? = some (.cells #[.int .i64 0, .string ⟨#[]⟩, .int .i64 0] 35 (0, 0))
  c4 : wi.heap[b4]? = some (.cells #[v] 25 (0, 0))
  gw : g < w.heap.size
  h4 : w.heap.size + 2 ≤ b4
  hl : k46n.R 46 wi (w.heap.size + 2) (fun k => k ≠ b4) v l
section
variable {w0 w wi w1 : World} {g b4 : Nat} {b b' : Int} {v : Value} {l : List S46}
theorem Hp.mono (h : Hp w0 w wi g b4 b v l) (hb : b ≤ b') : Hp w0 w wi g b4 b' v l := ⟨h.rn.mono hb, h.bl, h.kp, h.c2, h.c3, h.c4, h.gw, h.h4, h.hl⟩
theorem Hp.call (h : Hp w0 w wi g b4 b v l) (hR : Rn w0 w1 g b') (hB : Below w0.heap.size w0 w1) (hK : KeepBut wi w1 g none) : Hp w0 w w1 g b4 b' v l := by
  have := h.gw
  have := h.h4
  refine ⟨hR, hB, h.kp.trans hK (.inl rfl), hK.blk h.c2 (by omega) (by simp), hK.blk h.c3 (by omega) (by simp), hK.blk h.c4 (by omega) (by simp), h.gw, h.h4, R_up h.hl (fun k h1 h2 => hK.2 k h2 (by omega) (by simp))⟩
theorem Hp.below (h : Hp w0 w wi g b4 b v l) (hb : Below wi.heap.size wi w1) : Hp w0 w w1 g b4 b v l :=
  h.call (h.rn.below hb) (bth h.bl h.bl.size hb) (KeepBut.of_below hb g none)
theorem Hp.drew (h : Hp w0 w wi g b4 b v l) : Hp w0 w wi.drew g b4 b v l := h.below (below_drew (Below.refl _ _))
theorem Hp.alloc (h : Hp w0 w wi g b4 b v l) (o : Obj) : Hp w0 w (wi.alloc o) g b4 b v l := h.below (bla (Below.refl _ _) o)
theorem Hp.cell (h : Hp w0 w wi g b4 b v l) : wi.cell? ⟨b4, 0, none⟩ = some v := (kcl h.c4 0).trans rfl
theorem Hp.lt4 (h : Hp w0 w wi g b4 b v l) : b4 < wi.heap.size := blk_lt h.c4
theorem Hp.w0w (h : Hp w0 w wi g b4 b v l) : w0.heap.size ≤ g := h.rn.ge
theorem Hp.put (h : Hp w0 w wi g b4 b v l) {v1 : Value} {l1 : List S46} (hl1 : k46n.R 46 w1 (w.heap.size + 2) (fun k => k ≠ b4) v1 l1) (hg : wi.grownBy w1 v.ownBlock) : Hp w0 w (w1.setCell ⟨b4, 0, none⟩ v1) g b4 b v1 l1 := by
  have h1 := h.gw
  have h2 := h.h4
  have h3 := h.w0w
  have hbase := Kd.R_base h.hl
  have hne4 : some b4 ≠ v.ownBlock := fun e => h.hl.1 b4 e.symm rfl
  have ne : ∀ k, k < w.heap.size + 2 → some k ≠ v.ownBlock := fun k hk e => by have := hbase k e.symm; omega
  have hB1 : Below w0.heap.size w0 w1 := pw_below_grown h.bl _ h.bl.size hg (fun k hk => by have := hbase k hk; omega)
  refine ⟨(h.rn.grown hg (ne g (by omega))).far (by simp; omega) _, hB1.setCell (by simp; omega) _, ?_, blk_far (kgr h.c2 hg (ne _ (by omega))) (by simp; omega) _, blk_far (kgr h.c3 hg (ne _ (by omega))) (by simp; omega) _, blk_put (kgr h.c4 hg hne4) 0 v1 rfl, h1, h2, Kd.R_far (p := ⟨b4, 0, none⟩) hl1 (fun k hk => hk) v1⟩
  refine keep_far (KeepBut.trans h.kp (KeepBut.of_grown hg g) ?_) (by simp; omega) _
  cases he : v.ownBlock with
  | none => exact .inl rfl
  | some k => exact .inr ⟨k, rfl, by have := hbase k he; omega⟩
end
theorem one_n (g m : Nat) (A1 : Option Addr) (c1 : Nat) (l : List Int) (hm : m = l.length) (b : Int) (w0 w : World) (hR : Rn w0 w g b) (hB : Below w0.heap.size w0 w) (hb : b ≤ 1000000) (hr : Kd.C (Kd.int .i64) w A1 l.length l) (hc1 : l.length ≤ c1) (hf : ∀ ad, A1 = some ad → 0 < l.length → ad.block ≠ g) (hl : 0 < l.length) (hl' : l.length ≤ 1000) :
    Calls Try.prog 88 #[.pointer (some ⟨g, 0, none⟩), .slice A1 m c1] w fun e w' => ∃ r : Int, e = .returned (.int .i64 r) ∧ r ∈ l ∧ Rn w0 w' g (b + 1) ∧ Below w0.heap.size w0 w' ∧ KeepBut w w' g none := by
  subst hm; exact one_w g A1 c1 l b w0 w hR hB hb hr hc1 hf hl hl'
theorem of_n (g m : Nat) (A1 : Option Addr) (c1 : Nat) (l : List ByteArray) (hm : m = l.length) (b : Int) (w0 w : World) (hR : Rn w0 w g b) (hB : Below w0.heap.size w0 w) (hb : b ≤ 1000000) (hr : Kd.C Kd.string w A1 l.length l) (hc1 : l.length ≤ c1) (hf : ∀ ad, A1 = some ad → 0 < l.length → ad.block ≠ g) (hl : 0 < l.length) (hl' : l.length ≤ 1000) :
    Calls Try.prog 90 #[.pointer (some ⟨g, 0, none⟩), .slice A1 m c1] w fun e w' => ∃ r : ByteArray, e = .returned (.string r) ∧ r ∈ l ∧ Rn w0 w' g (b + 1) ∧ Below w0.heap.size w0 w' ∧ KeepBut w w' g none := by
  subst hm; exact of_w g A1 c1 l b w0 w hR hB hb hr hc1 hf hl hl'
end Go.Proofs.Ytgddblpgbkgpcaa.PR
namespace Go.Proofs.Ytgddblpgbkgpcaa.PR
set_option linter.unusedVariables false
set_option linter.unusedSimpArgs false
open Go.RowKit Go.Proofs.YtgddblpgbkgpcaaW.PrintWords Go.Proofs.YtgddblpgbkgpcaaW.PrintLast Go.Proofs.YtgddblpgbkgpcaaW.PrintMore
structure L2 (m : Nat) (l : List S46) : Prop where
  lo : 19 ≤ l.length
  hi : l.length ≤ 24
  m19 : 19 ≤ m
  ml : m ≤ l.length
  all : ∀ x ∈ l, oB x = true
  rest : ∀ j (h : j < l.length), m ≤ j → un l[j]
theorem L2.next {m : Nat} {l : List S46} (h : L2 m l) (hm : m < l.length) {o : S46} (ho : oB o = true) : L2 (m + 1) (l.set m o) := by
  refine ⟨by simpa using h.lo, by simpa using h.hi, by have := h.m19; omega, by simp; omega, fun x hx => ?_, fun j hj h1 => ?_⟩
  · rcases List.mem_or_eq_of_mem_set hx with hx | rfl
    · exact h.all x hx
    · exact ho
  · rw [List.getElem_set_ne (by omega)]
    exact h.rest j (by simpa using hj) (by omega)
theorem Hp.elem {w0 w wi : World} {g b4 : Nat} {b : Int} {A : Option Addr} {n c : Nat} {l : List S46} (h : Hp w0 w wi g b4 b (.slice A n c) l) (m : Nat) (hm : m < l.length) (hu : un l[m]) :
    ∃ gb q, A = some ⟨gb, 0, none⟩ ∧ n = l.length ∧ n ≤ c ∧ l[m] = ⟨q, ⟨#[]⟩, 0, [], [], [], []⟩ ∧ q ≠ 5 ∧ q ≠ 10 ∧ w.heap.size + 2 ≤ gb ∧ gb < wi.heap.size ∧ gb ≠ b4 ∧
      wi.cell? ⟨gb, m * 7, none⟩ = some (.int .i64 q) ∧ wi.cell? ⟨gb, m * 7 + 1, none⟩ = some (.string ⟨#[]⟩) ∧ wi.cell? ⟨gb, m * 7 + 2, none⟩ = some (.int .i64 0) ∧
      wi.cell? ⟨gb, m * 7 + 3, none⟩ = some (.slice none 0 0) ∧ wi.cell? ⟨gb, m * 7 + 4, none⟩ = some (.slice none 0 0) ∧ wi.cell? ⟨gb, m * 7 + 5, none⟩ = some (.slice none 0 0) ∧ wi.cell? ⟨gb, m * 7 + 6, none⟩ = some (.slice none 0 0) ∧ ∃ cells, wi.heap[gb]? = some (.cells cells 46 (0, 0)) := by
  obtain ⟨hn, hnc, _⟩ := Kd.R_reads' h.hl
  obtain ⟨gb, cap, e, hb, hlt, hcc⟩ := Kd.R_form h.hl (by omega)
  injection e with e1 e2 e3
  subst e1; subst e3
  have hl := h.hl
  obtain ⟨cs, hcl, hM, hc, _⟩ := Kd.R_elem hl z46 (m : Int) (by omega) (by omega)
  have hne : gb ≠ b4 := fun e => hl.1 gb (by simp [Value.ownBlock]) e
  have e7 : k46n.sz = 7 := rfl
  have ex : l.getD (m : Int).toNat z46 = l[m] := by simp [List.getD_eq_getElem?_getD, hm]
  rw [ex] at hM
  obtain ⟨q, q5, q10, hq⟩ := hu
  rw [hq] at hM
  obtain ⟨v3, v4, v5, v6, rfl, _, _, _, _⟩ := k46_openM hM.1
  have hz := (hM.2.resolve_left (by simpa using q5)).resolve_left (by simpa using q10)
  obtain ⟨z3, z4, z5, z6⟩ := hz v3 v4 v5 v6 _ _ _ rfl
  obtain rfl := z3 rfl
  obtain rfl := z4 rfl
  obtain rfl := z5 rfl
  obtain rfl := z6 rfl
  rw [e7] at hc
  exact ⟨gb, q, rfl, hn, hnc, hq, q5, q10, hb, hlt, hne, hc 0 _ rfl, hc 1 _ rfl, hc 2 _ rfl, hc 3 _ rfl, hc 4 _ rfl, hc 5 _ rfl, hc 6 _ rfl, hcc⟩
structure In (w0 wi wr : World) (g : Nat) (b : Int) (q : Int) (j : Nat) (x3 x4 : List S35) (x5 : List ByteArray) (x6 : List S35) (v3 v4 v5 v6 : Value) : Prop where
  rn : Rn w0 wr g b
  bl : Below w0.heap.size w0 wr
  kp : KeepBut wi wr g none
  gi : g < wi.heap.size
  c9 : wr.heap[wi.heap.size]? = some (.cells #[.int .i64 q, .string ⟨#[]⟩, .int .i64 0, v3, v4, v5, v6] 46 (0, 0))
  ob : Ob wr wi.heap.size ⟨q, ⟨#[]⟩, 0, x3, x4, x5, x6⟩ v3 v4 v5 v6
  gd : oG j ⟨q, ⟨#[]⟩, 0, x3, x4, x5, x6⟩
section
variable {w0 wi wr w1 : World} {g : Nat} {b b' : Int} {q : Int} {j : Nat} {x3 x4 x6 : List S35} {x5 : List ByteArray} {v3 v4 v5 v6 : Value}
theorem In.mono (h : In w0 wi wr g b q j x3 x4 x5 x6 v3 v4 v5 v6) (hb : b ≤ b') : In w0 wi wr g b' q j x3 x4 x5 x6 v3 v4 v5 v6 := ⟨h.rn.mono hb, h.bl, h.kp, h.gi, h.c9, h.ob, h.gd⟩
theorem In.call (h : In w0 wi wr g b q j x3 x4 x5 x6 v3 v4 v5 v6) (hR : Rn w0 w1 g b') (hB : Below w0.heap.size w0 w1) (hK : KeepBut wr w1 g none) : In w0 wi w1 g b' q j x3 x4 x5 x6 v3 v4 v5 v6 :=
  ⟨hR, hB, h.kp.trans hK (.inl rfl), h.gi, hK.blk h.c9 (by have := h.gi; omega) (by simp), h.ob.keep hK (by have := h.gi; omega), h.gd⟩
theorem In.below (h : In w0 wi wr g b q j x3 x4 x5 x6 v3 v4 v5 v6) (hb : Below wr.heap.size wr w1) : In w0 wi w1 g b q j x3 x4 x5 x6 v3 v4 v5 v6 :=
  h.call (h.rn.below hb) (bth h.bl h.bl.size hb) (KeepBut.of_below hb g none)
theorem In.alloc (h : In w0 wi wr g b q j x3 x4 x5 x6 v3 v4 v5 v6) (o : Obj) : In w0 wi (wr.alloc o) g b q j x3 x4 x5 x6 v3 v4 v5 v6 := h.below (bla (Below.refl _ _) o)
theorem In.cell (h : In w0 wi wr g b q j x3 x4 x5 x6 v3 v4 v5 v6) (i : Nat) : wr.cell? ⟨wi.heap.size, i, none⟩ = #[Value.int .i64 q, .string ⟨#[]⟩, .int .i64 0, v3, v4, v5, v6][i]? := kcl h.c9 i
theorem In.free (h : In w0 wi wr g b q j x3 x4 x5 x6 v3 v4 v5 v6) (i : Nat) : wr.frozen? ⟨wi.heap.size, i, none⟩ = false := kfz h.c9 i
theorem In.old (h : In w0 wi wr g b q j x3 x4 x5 x6 v3 v4 v5 v6) {a : Addr} {v : Value} (hc : wi.cell? a = some v) (hne : a.block ≠ g) : wr.cell? a = some v := keep_cell h.kp hc hne
theorem In.grown (h : In w0 wi wr g b q j x3 x4 x5 x6 v3 v4 v5 v6) {row : Option Nat} (hg : wr.grownBy w1 row) (hr : ∀ k, row = some k → wi.heap.size + 1 ≤ k) :
    Rn w0 w1 g b ∧ Below w0.heap.size w0 w1 ∧ KeepBut wi w1 g none ∧ w1.heap[wi.heap.size]? = some (.cells #[.int .i64 q, .string ⟨#[]⟩, .int .i64 0, v3, v4, v5, v6] 46 (0, 0)) := by
  have hgi := h.gi
  have h0 := h.rn.ge
  have ne : ∀ k, k ≤ wi.heap.size → some k ≠ row := fun k hk e => by have := hr k e.symm; omega
  refine ⟨h.rn.grown hg (ne g (by omega)), pw_below_grown h.bl _ h.bl.size hg (fun k hk => by have := hr k hk; omega), ?_, kgr h.c9 hg (ne _ (by omega))⟩
  refine KeepBut.trans h.kp (KeepBut.of_grown hg g) ?_
  cases he : row with
  | none => exact .inl rfl
  | some k => exact .inr ⟨k, rfl, by have := hr k he; omega⟩
theorem In.set (hR : Rn w0 w1 g b) (hB : Below w0.heap.size w0 w1) (hK : KeepBut wi w1 g none) (hgi : g < wi.heap.size) (h0 : w0.heap.size ≤ g) (hc : w1.heap[wi.heap.size]? = some (.cells #[.int .i64 q, .string ⟨#[]⟩, .int .i64 0, v3, v4, v5, v6] 46 (0, 0))) (i : Nat) (u : Value) {cs : Array Value} (hcs : (#[Value.int .i64 q, .string ⟨#[]⟩, .int .i64 0, v3, v4, v5, v6]).setIfInBounds i u = cs) :
    Rn w0 (w1.setCell ⟨wi.heap.size, i, none⟩ u) g b ∧ Below w0.heap.size w0 (w1.setCell ⟨wi.heap.size, i, none⟩ u) ∧ KeepBut wi (w1.setCell ⟨wi.heap.size, i, none⟩ u) g none ∧ (w1.setCell ⟨wi.heap.size, i, none⟩ u).heap[wi.heap.size]? = some (.cells cs 46 (0, 0)) :=
  ⟨hR.far (by simp; omega) u, hB.setCell (by simp; omega) u, keep_far hK (by simp) u, blk_put hc i u hcs⟩
theorem In.app3 (h : In w0 wi wr g b q j x3 x4 x5 x6 v3 v4 v5 v6) {v : Value} {x : S35} (hx : VOk x) (hr : k35.R 35 w1 (wi.heap.size + 1) (fun _ => True) v (x3 ++ [x])) (hg : wr.grownBy w1 v3.ownBlock) (hat : v.ownBlock = v3.ownBlock ∨ ∃ b, v.ownBlock = some b ∧ wr.heap.size ≤ b) :
    In w0 wi (w1.setCell ⟨wi.heap.size, 3, none⟩ v) g b q (j + 1) (x3 ++ [x]) x4 x5 x6 v v4 v5 v6 := by
  obtain ⟨a1, a2, a3, a4⟩ := h.grown hg (Kd.R_base h.ob.r3)
  obtain ⟨d1, d2, d3, d4, d5, d6, d7, d8, d9⟩ := h.gd
  obtain ⟨s1, s2, s3, s4⟩ := In.set a1 a2 a3 h.gi h.rn.ge a4 3 v rfl
  refine ⟨s1, s2, s3, h.gi, s4, (h.ob.put3 hr hg hat (nl_app _ _ _)).far (Nat.le_refl _) v, d1, by simp at d2 ⊢; omega, Nat.le_succ_of_le d3, Nat.le_succ_of_le d4, Nat.le_succ_of_le d5, vsz_snoc d6 hx, d7, d8, d9⟩
theorem In.app4 (h : In w0 wi wr g b q j x3 x4 x5 x6 v3 v4 v5 v6) {v : Value} {x : S35} (hx : VOk x) (hr : k35.R 35 w1 (wi.heap.size + 1) (fun _ => True) v (x4 ++ [x])) (hg : wr.grownBy w1 v4.ownBlock) (hat : v.ownBlock = v4.ownBlock ∨ ∃ b, v.ownBlock = some b ∧ wr.heap.size ≤ b) :
    In w0 wi (w1.setCell ⟨wi.heap.size, 4, none⟩ v) g b q (j + 1) x3 (x4 ++ [x]) x5 x6 v3 v v5 v6 := by
  obtain ⟨a1, a2, a3, a4⟩ := h.grown hg (Kd.R_base h.ob.r4)
  obtain ⟨d1, d2, d3, d4, d5, d6, d7, d8, d9⟩ := h.gd
  obtain ⟨s1, s2, s3, s4⟩ := In.set a1 a2 a3 h.gi h.rn.ge a4 4 v rfl
  refine ⟨s1, s2, s3, h.gi, s4, (h.ob.put4 hr hg hat (nl_app _ _ _)).far (Nat.le_refl _) v, d1, Nat.le_succ_of_le d2, by simp at d3 ⊢; omega, Nat.le_succ_of_le d4, Nat.le_succ_of_le d5, d6, vsz_snoc d7 hx, d8, d9⟩
theorem In.app6 (h : In w0 wi wr g b q j x3 x4 x5 x6 v3 v4 v5 v6) {v : Value} {x : S35} (hx : VOk x) (hr : k35.R 35 w1 (wi.heap.size + 1) (fun _ => True) v (x6 ++ [x])) (hg : wr.grownBy w1 v6.ownBlock) (hat : v.ownBlock = v6.ownBlock ∨ ∃ b, v.ownBlock = some b ∧ wr.heap.size ≤ b) :
    In w0 wi (w1.setCell ⟨wi.heap.size, 6, none⟩ v) g b q (j + 1) x3 x4 x5 (x6 ++ [x]) v3 v4 v5 v := by
  obtain ⟨a1, a2, a3, a4⟩ := h.grown hg (Kd.R_base h.ob.r6)
  obtain ⟨d1, d2, d3, d4, d5, d6, d7, d8, d9⟩ := h.gd
  obtain ⟨s1, s2, s3, s4⟩ := In.set a1 a2 a3 h.gi h.rn.ge a4 6 v rfl
  refine ⟨s1, s2, s3, h.gi, s4, (h.ob.put6 hr hg hat (nl_app _ _ _)).far (Nat.le_refl _) v, d1, Nat.le_succ_of_le d2, Nat.le_succ_of_le d3, Nat.le_succ_of_le d4, by simp at d5 ⊢; omega, d6, d7, vsz_snoc d8 hx, d9⟩
theorem In.app5 (h : In w0 wi wr g b q j x3 x4 x5 x6 v3 v4 v5 v6) {v : Value} {s : ByteArray} (hs : s ∈ nm4) (hr : Kd.string.R 9 w1 (wi.heap.size + 1) (fun _ => True) v (x5 ++ [s])) (hg : wr.grownBy w1 v5.ownBlock) :
    In w0 wi (w1.setCell ⟨wi.heap.size, 5, none⟩ v) g b q (j + 1) x3 x4 (x5 ++ [s]) x6 v3 v4 v v6 := by
  obtain ⟨a1, a2, a3, a4⟩ := h.grown hg (Kd.R_base h.ob.r5)
  obtain ⟨d1, d2, d3, d4, d5, d6, d7, d8, d9⟩ := h.gd
  obtain ⟨s1, s2, s3, s4⟩ := In.set a1 a2 a3 h.gi h.rn.ge a4 5 v rfl
  refine ⟨s1, s2, s3, h.gi, s4, (h.ob.put5 hr hg (nl_app _ _ _)).far (Nat.le_refl _) v, d1, Nat.le_succ_of_le d2, Nat.le_succ_of_le d3, by simp at d4 ⊢; omega, Nat.le_succ_of_le d5, d6, d7, d8, fun y hy => ?_⟩
  rcases List.mem_append.1 hy with hy | hy
  · exact d9 y hy
  · rw [List.mem_singleton.1 hy]; exact hs
theorem In.lit3 (h : In w0 wi wr g b q j x3 x4 x5 x6 v3 v4 v5 v6) (xs : List S35) (hl : xs.length ≤ 2) (h1 : 0 < xs.length) (hx : vsz xs) {cs : Array Value} (hcs : cs = (xs.flatMap fun x => [Value.int .i64 x.f0, .string x.f1, .int .i64 x.f2]).toArray) :
    In w0 wi ((wr.alloc (.cells cs 35)).setCell ⟨wi.heap.size, 3, none⟩ (.slice (some ⟨wr.heap.size, 0, none⟩) xs.length xs.length)) g b q (j + 1) xs x4 x5 x6 (.slice (some ⟨wr.heap.size, 0, none⟩) xs.length xs.length) v4 v5 v6 := by
  subst hcs
  have hlt := blk_lt h.c9
  have hr := R_fresh wr (wi.heap.size + 1) (by omega) xs (by omega)
  obtain ⟨a1, a2, a3, a4⟩ := h.grown (World.grownBy_alloc wr (.cells (xs.flatMap fun x => [Value.int .i64 x.f0, .string x.f1, .int .i64 x.f2]).toArray 35) v3.ownBlock) (Kd.R_base h.ob.r3)
  obtain ⟨d1, d2, d3, d4, d5, d6, d7, d8, d9⟩ := h.gd
  obtain ⟨s1, s2, s3, s4⟩ := In.set a1 a2 a3 h.gi h.rn.ge a4 3 (.slice (some ⟨wr.heap.size, 0, none⟩) xs.length xs.length) rfl
  refine ⟨s1, s2, s3, h.gi, s4, (h.ob.put3 hr (World.grownBy_alloc wr _ v3.ownBlock) (.inr ⟨wr.heap.size, by simp [Value.ownBlock], Nat.le_refl _⟩) (fun e => by rw [e] at h1; simp at h1)).far (Nat.le_refl _) _, d1, by simp; omega, Nat.le_succ_of_le d3, Nat.le_succ_of_le d4, Nat.le_succ_of_le d5, hx, d7, d8, d9⟩
theorem oG_mono {m m' : Nat} {o : S46} (h : oG m o) (hm : m ≤ m') : oG m' o := by
  obtain ⟨d1, d2, d3, d4, d5, d6, d7, d8, d9⟩ := h
  exact ⟨d1, by omega, by omega, by omega, by omega, d6, d7, d8, d9⟩
theorem In.more (h : In w0 wi wr g b q j x3 x4 x5 x6 v3 v4 v5 v6) {j' : Nat} (hj : j ≤ j') : In w0 wi wr g b q j' x3 x4 x5 x6 v3 v4 v5 v6 := ⟨h.rn, h.bl, h.kp, h.gi, h.c9, h.ob, oG_mono h.gd hj⟩
theorem Hp.round {w : World} {b4 gb n c m : Nat} {l : List S46} {p : Int} (h : Hp w0 w wi g b4 b (.slice (some ⟨gb, 0, none⟩) n c) l) (hm : m < l.length) (hgb : w.heap.size + 2 ≤ gb) (hgb1 : gb < wi.heap.size) (hgb4 : gb ≠ b4)
    (rn : Rn w0 wr g b') (bl : Below w0.heap.size w0 wr) (kp : KeepBut wi wr g none) (ob : Ob wr wi.heap.size ⟨q, ⟨#[]⟩, p, x3, x4, x5, x6⟩ v3 v4 v5 v6) :
    Hp w0 w (wr.setCells gb (m * 7) [.int .i64 q, .string ⟨#[]⟩, .int .i64 p, v3, v4, v5, v6]) g b4 b' (.slice (some ⟨gb, 0, none⟩) n c) (l.set m ⟨q, ⟨#[]⟩, p, x3, x4, x5, x6⟩) := by
  have hp := h.call rn bl kp
  have h1 := hp.gw
  have h2 := hp.h4
  have h3 := hp.w0w
  have h4 := h.lt4
  obtain ⟨hn, hnc, _⟩ := Kd.R_reads' hp.hl
  obtain ⟨cs, hcl, hM, hc, _⟩ := Kd.R_elem hp.hl z46 (m : Int) (by omega) (by omega)
  have e7 : k46n.sz = 7 := rfl
  rw [e7] at hcl hc
  obtain ⟨hr, hg⟩ := Kd.R_seg (j := 0) (seg := [.int .i64 q, .string ⟨#[]⟩, .int .i64 p, v3, v4, v5, v6]) (x' := ⟨q, ⟨#[]⟩, p, x3, x4, x5, x6⟩) (okp := fun k => wi.heap.size + 1 ≤ k) hp.hl (m : Int) (by omega) (by omega) hcl hc (by simp [e7]) (by
      have := ob.whole (base := w.heap.size + 2) (by omega)
      simpa [List.drop_eq_nil_of_le (show cs.length ≤ 7 by omega)] using this) (fun k hk => ⟨by omega, by omega⟩)
  rw [e7, show (m : Int).toNat = m from rfl, Nat.add_zero] at hr hg
  have hne : ∀ k, k ≠ gb → some k ≠ some gb := fun k hk e => hk (by injection e)
  refine ⟨hp.rn.grown hg (hne g (by omega)), pw_below_grown hp.bl _ hp.bl.size hg (fun k hk => by injection hk with hk; omega), KeepBut.trans hp.kp (KeepBut.of_grown hg g) (.inr ⟨gb, rfl, by omega⟩), kgr hp.c2 hg (hne _ (by omega)), kgr hp.c3 hg (hne _ (by omega)), kgr hp.c4 hg (hne _ (Ne.symm hgb4)), h1, h2, hr⟩
end
end Go.Proofs.Ytgddblpgbkgpcaa.PR
namespace Go.Proofs.Ytgddblpgbkgpcaa.PR
set_option linter.unusedVariables false
set_option linter.unusedSimpArgs false
open Go.RowKit Go.Proofs.YtgddblpgbkgpcaaW.PrintWords Go.Proofs.YtgddblpgbkgpcaaW.PrintLast Go.Proofs.YtgddblpgbkgpcaaW.PrintMore
structure Ht (w0 w wi : World) (g b4 : Nat) (b : Int) (v : Value) (l : List S46) : Prop where
  rn : Rn w0 wi g b
  bl : Below w0.heap.size w0 wi
  kp : KeepBut w wi g none
  c2 : wi.heap[w.heap.size]? = some (.cells #[.slice none 0 0] 25 (0, 0))
  c3 : wi.heap[w.heap.size + 1]? = some (.cells #[.int .i64 0, .string ⟨#[]⟩, .int .i64 0] 35 (0, 0))
  c4 : wi.heap[b4]? = some (.cells #[v] 25 (0, 0))
  gw : g < w.heap.size
  h4 : w.heap.size + 2 ≤ b4
  hl : k46.R 46 wi (w.heap.size + 2) (fun k => k ≠ b4) v l
  lo : 19 ≤ l.length
  hi : l.length ≤ 24
  all : ∀ x ∈ l, oB x = true
theorem Hp.tail {w0 w wi : World} {g b4 m : Nat} {b : Int} {v : Value} {l : List S46} (h : Hp w0 w wi g b4 b v l) (h2 : L2 m l) : Ht w0 w wi g b4 b v l :=
  ⟨h.rn, h.bl, h.kp, h.c2, h.c3, h.c4, h.gw, h.h4, n_R h.hl, h2.lo, h2.hi, h2.all⟩
section
variable {w0 w wi w1 : World} {g b4 : Nat} {b b' : Int} {v : Value} {l : List S46}
theorem Ht.mono (h : Ht w0 w wi g b4 b v l) (hb : b ≤ b') : Ht w0 w wi g b4 b' v l := ⟨h.rn.mono hb, h.bl, h.kp, h.c2, h.c3, h.c4, h.gw, h.h4, h.hl, h.lo, h.hi, h.all⟩
theorem Ht.call (h : Ht w0 w wi g b4 b v l) (hR : Rn w0 w1 g b') (hB : Below w0.heap.size w0 w1) (hK : KeepBut wi w1 g none) : Ht w0 w w1 g b4 b' v l := by
  have := h.gw
  have := h.h4
  refine ⟨hR, hB, h.kp.trans hK (.inl rfl), hK.blk h.c2 (by omega) (by simp), hK.blk h.c3 (by omega) (by simp), hK.blk h.c4 (by omega) (by simp), h.gw, h.h4, R_up h.hl (fun k h1 h2 => hK.2 k h2 (by omega) (by simp)), h.lo, h.hi, h.all⟩
theorem Ht.drew (h : Ht w0 w wi g b4 b v l) : Ht w0 w wi.drew g b4 b v l := h.call h.rn.drew (below_drew h.bl) (KeepBut.of_below (below_drew (Below.refl _ _)) g none)
theorem Ht.cell (h : Ht w0 w wi g b4 b v l) : wi.cell? ⟨b4, 0, none⟩ = some v := (kcl h.c4 0).trans rfl
theorem Ht.row {A : Option Addr} {n c : Nat} (h : Ht w0 w wi g b4 b (.slice A n c) l) : ∃ gb, A = some ⟨gb, 0, none⟩ ∧ n = l.length ∧ n ≤ c ∧ w.heap.size + 2 ≤ gb ∧ gb ≠ b4 := by
  obtain ⟨hn, hnc, _⟩ := Kd.R_reads' h.hl
  obtain ⟨gb, cap, e, hb, hlt, hcc⟩ := Kd.R_form h.hl (by have := h.lo; omega)
  injection e with e1 e2 e3
  subst e1
  exact ⟨gb, rfl, hn, hnc, hb, fun e => h.hl.1 gb (by simp [Value.ownBlock]) e⟩
theorem Ht.elem {gb n c : Nat} (h : Ht w0 w wi g b4 b (.slice (some ⟨gb, 0, none⟩) n c) l) (hgb : w.heap.size + 2 ≤ gb) (hgb4 : gb ≠ b4) (i : Nat) (hi : i < n) :
    (∃ u, wi.cell? ⟨gb, i * 7, none⟩ = some u) ∧ (∃ u, wi.cell? ⟨gb, i * 7 + 2, none⟩ = some u) ∧ wi.frozen? ⟨gb, i * 7, none⟩ = false ∧ wi.frozen? ⟨gb, i * 7 + 2, none⟩ = false ∧
      (∀ r : Int, ∃ l', Ht w0 w (wi.setCell ⟨gb, i * 7, none⟩ (.int .i64 r)) g b4 b (.slice (some ⟨gb, 0, none⟩) n c) l') ∧
      (∀ r : Int, ∃ l', Ht w0 w (wi.setCell ⟨gb, i * 7 + 2, none⟩ (.int .i64 r)) g b4 b (.slice (some ⟨gb, 0, none⟩) n c) l') := by
  have h1 := h.gw
  have h2 := h.h4
  have h3 := h.rn.ge
  obtain ⟨hn, hnc, _⟩ := Kd.R_reads' h.hl
  obtain ⟨cs, hcl, hM, hc, hf⟩ := Kd.R_elem h.hl z46 (i : Int) (by omega) (by omega)
  have e7 : k46.sz = 7 := rfl
  have ex : l.getD (i : Int).toNat z46 = l[i]'(by omega) := by simp [List.getD_eq_getElem?_getD, show i < l.length by omega]
  rw [ex] at hM
  generalize hx : l[i]'(by omega) = x at hM
  have hxB : oB x = true := by rw [← hx]; exact h.all _ (List.getElem_mem _)
  have hcc := hc
  have hll := hcl
  rw [e7, show (i : Int).toNat = i from rfl] at hc hf
  obtain ⟨v3, v4, v5, v6, rfl, g3, g4, g5, g6⟩ := k46_openM hM
  have fin : ∀ (j : Nat) (r : Int) (x' : S46), oB x' = true → j + 1 ≤ 7 → k46.M wi (w.heap.size + 2) (fun k => k ≠ b4 ∧ k ≠ gb) x' (([.int .i64 x.f0, .string x.f1, .int .i64 x.f2, v3, v4, v5, v6] : List Value).take j ++ [.int .i64 r] ++ ([.int .i64 x.f0, .string x.f1, .int .i64 x.f2, v3, v4, v5, v6] : List Value).drop (j + 1)) →
      Ht w0 w (wi.setCell ⟨gb, i * 7 + j, none⟩ (.int .i64 r)) g b4 b (.slice (some ⟨gb, 0, none⟩) n c) (l.set i x') := by
    intro j r x' hB' hj hM'
    obtain ⟨hr, hg⟩ := Kd.R_seg (j := j) (seg := [.int .i64 r]) (x' := x') (okp := fun k => k ≠ b4 ∧ k ≠ gb) h.hl (i : Int) (by omega) (by omega) hll hcc (by rw [e7]; exact hj) hM' (fun k hk => hk)
    rw [e7, show (i : Int).toNat = i from rfl] at hr hg
    have hne : ∀ k, k ≠ gb → some k ≠ some gb := fun k hk e => hk (by injection e)
    refine ⟨h.rn.grown hg (hne g (by omega)), pw_below_grown h.bl _ h.bl.size hg (fun k hk => by injection hk with hk; omega), KeepBut.trans h.kp (KeepBut.of_grown hg g) (.inr ⟨gb, rfl, by omega⟩), kgr h.c2 hg (hne _ (by omega)), kgr h.c3 hg (hne _ (by omega)), kgr h.c4 hg (hne _ (Ne.symm hgb4)), h1, h2, hr, by simpa using h.lo, by simpa using h.hi, fun y hy => ?_⟩
    rcases List.mem_or_eq_of_mem_set hy with hy | rfl
    · exact h.all y hy
    · exact hB'
  refine ⟨⟨_, hc 0 _ rfl⟩, ⟨_, hc 2 _ rfl⟩, hf 0, hf 2, fun r => ⟨_, fin 0 r { x with f0 := r } hxB (by omega) ?_⟩, fun r => ⟨_, fin 2 r { x with f2 := r } hxB (by omega) ?_⟩⟩
  · exact k46_mkM wi _ _ ({ x with f0 := r } : S46) g3 g4 g5 g6
  · exact k46_mkM wi _ _ ({ x with f2 := r } : S46) g3 g4 g5 g6
def HeapPost (w0 w : World) (g : Nat) (e : Ending) (w' : World) : Prop := ∃ (v : Value) (l : List S46) (x : S35), e = .returned (.tuple #[.agg #[v], .agg #[.int .i64 x.f0, .string x.f1, .int .i64 x.f2]]) ∧ VOk x ∧ 19 ≤ l.length ∧ l.length ≤ 24 ∧ (∀ o ∈ l, oB o = true) ∧ k46.R 46 w' w.heap.size (fun _ => True) v l ∧ Rn w0 w' g 10000 ∧ Below w0.heap.size w0 w' ∧ KeepBut w w' g none
theorem Ht.fin (h : Ht w0 w wi g b4 b v l) (hb : b ≤ 10000) {x : S35} (hx : VOk x) {W : World} (hW : W = (((wi.setCell ⟨w.heap.size, 0, none⟩ v).setCell ⟨w.heap.size + 1, 0, none⟩ (.int .i64 x.f0)).setCell ⟨w.heap.size + 1, 1, none⟩ (.string x.f1)).setCell ⟨w.heap.size + 1, 2, none⟩ (.int .i64 x.f2)) :
    W.heap[w.heap.size]? = some (.cells #[v] 25 (0, 0)) ∧ W.heap[w.heap.size + 1]? = some (.cells #[.int .i64 x.f0, .string x.f1, .int .i64 x.f2] 35 (0, 0)) ∧ HeapPost w0 w g (.returned (.tuple #[.agg #[v], .agg #[.int .i64 x.f0, .string x.f1, .int .i64 x.f2]])) W := by
  subst hW
  have h1 := h.gw
  have h2 := h.h4
  have h3 := h.rn.ge
  refine ⟨blk_far (blk_far (blk_far (blk_put h.c2 0 v rfl) (by simp) _) (by simp) _) (by simp) _, blk_put (blk_put (blk_put (blk_far h.c3 (by simp) _) 0 _ rfl) 1 _ rfl) 2 _ rfl, v, l, x, rfl, hx, h.lo, h.hi, h.all, ?_, ?_, ?_, ?_⟩
  · refine Kd.R_mono (Kd.R_lower (R_up h.hl (fun k hk _ => ?_)) (by omega)) (fun _ _ => trivial)
    rw [Below.heap_setCell _ _ _ _ (by simp; omega), Below.heap_setCell _ _ _ _ (by simp; omega), Below.heap_setCell _ _ _ _ (by simp; omega), Below.heap_setCell _ _ _ _ (by simp; omega)]
  · exact ((((h.rn.mono hb).far (by simp; omega) _).far (by simp; omega) _).far (by simp; omega) _).far (by simp; omega) _
  · exact (((h.bl.setCell (by simp; omega) _).setCell (by simp; omega) _).setCell (by simp; omega) _).setCell (by simp; omega) _
  · exact keep_far (keep_far (keep_far (keep_far h.kp (by simp) _) (by simp) _) (by simp) _) (by simp) _
end
end Go.Proofs.Ytgddblpgbkgpcaa.PR
namespace Go.Proofs.Ytgddblpgbkgpcaa.PR
set_option linter.unusedVariables false
set_option linter.unusedSimpArgs false
open Go.RowKit Go.Proofs.YtgddblpgbkgpcaaW.PrintWords Go.Proofs.YtgddblpgbkgpcaaW.PrintLast Go.Proofs.YtgddblpgbkgpcaaW.PrintMore
set_option linter.unusedVariables false
set_option linter.unusedSimpArgs false
theorem new_M (w : World) (base : Nat) (ok : Nat → Prop) (q : Int) : k46n.M w base ok ⟨q, ⟨#[]⟩, 0, [], [], [], []⟩ [.int .i64 q, .string ⟨#[]⟩, .int .i64 0, .slice none 0 0, .slice none 0 0, .slice none 0 0, .slice none 0 0] := by
  refine ⟨k46_mkM w base ok _ (Kd.R_nil _ _ _ _ _) (Kd.R_nil _ _ _ _ _) (Kd.R_nil _ _ _ _ _) (Kd.R_nil _ _ _ _ _), .inr (.inr ?_)⟩
  intro u3 u4 u5 u6 a b c e
  simp only [List.cons.injEq] at e
  obtain ⟨rfl, rfl, rfl, rfl, rfl, rfl, rfl, _⟩ := e
  exact ⟨fun _ => rfl, fun _ => rfl, fun _ => rfl, fun _ => rfl⟩
theorem size_set (w : World) (p : Addr) (v : Value) : (w.setCell p v).heap.size = w.heap.size := by simp
theorem size_alloc (w : World) (o : Obj) : (w.alloc o).heap.size = w.heap.size + 1 := by simp
theorem R_C {α : Type} {d : Kd α} {e base : Nat} {ok : Nat → Prop} {w : World} {A : Option Addr} {n c : Nat} {xs : List α} (h : d.R e w base ok (.slice A n c) xs) : d.C w A n xs := by
  obtain ⟨h1, _, h3⟩ := Kd.R_reads' h
  rw [h1]; exact h3
theorem keyAt_w (A : Option Addr) (n c : Nat) (l : List S35) (y : S35) (w : World) (hC : Kd.C k35 w A n l) (hs : ∀ x ∈ l, x.f1.size ≤ 5) :
    Calls Try.prog 89 #[.slice A n c, .agg #[.int .i64 y.f0, .string y.f1, .int .i64 y.f2]] w fun e w' => ∃ r : Int, e = .returned (.int .i64 r) ∧ Below w.heap.size w w' := by
  have hn : n = (l.map fun x : S35 => (⟨x.f0, x.f1, x.f2⟩ : B.V)).length := by rw [List.length_map]; exact hC.1.symm
  have h2 := hC.2.1
  have hRV : B.RV w A (l.map fun x : S35 => (⟨x.f0, x.f1, x.f2⟩ : B.V)) := by
    refine ⟨by omega, fun h => ?_⟩
    obtain ⟨ad, e, _⟩ := at_T35 hC 0 (by omega) (by omega)
    refine ⟨ad, e, fun i hi => ?_⟩
    obtain ⟨ad', e', h0, h1, h2⟩ := at_T35 hC (i : Int) (by omega) (by omega)
    rw [e] at e'
    injection e' with e'
    subst e'
    have hil : i < l.length := by simpa using hi
    have hx : rd_T35 l (i : Int) = l[i] := by unfold rd_T35; simp [List.getD_eq_getElem?_getD, hil]
    rw [hx] at h0 h1 h2
    simp only [List.getElem_map]
    exact ⟨h0, h1, h2, by have := hs _ (List.getElem_mem hil); omega⟩
  rw [hn]
  refine (B.keyAt_ok A c _ ⟨y.f0, y.f1, y.f2⟩ w hRV).mono ?_
  rintro e w' ⟨rfl, hb⟩
  exact ⟨_, rfl, hb⟩
theorem isOne_w (A : Option Addr) (n c : Nat) (l : List ByteArray) (s : ByteArray) (w : World) (hC : Kd.C Kd.string w A n l) :
    Calls Try.prog 91 #[.slice A n c, .string s] w fun e w' => ∃ b : Bool, e = .returned (.bool b) ∧ w = w' := by
  have hR := Kd.reads_of_C (d := (ByteArray.empty : ByteArray)) hC
  obtain ⟨rfl, h1, h2⟩ := hR
  refine (B.isOne_ok A c l s w ⟨h1, fun h => ?_⟩).mono ?_
  · obtain ⟨ad, e, hc⟩ := h2 h
    refine ⟨ad, e, fun i hi => ?_⟩
    rw [hc i hi, List.getD_eq_getElem?_getD, List.getElem?_eq_getElem hi]
    rfl
  · rintro e w' ⟨rfl, rfl⟩
    exact ⟨_, rfl, rfl⟩
def L1 (k : Nat) (l : List S46) : Prop := l.length = 19 + k ∧ (∀ x ∈ l, oB x = true) ∧ ∀ j (h : j < l.length), 19 ≤ j → un l[j]
theorem L1.snoc {k : Nat} {l : List S46} (h : L1 k l) {q : Int} (hq : q ∈ [1, 1, 2, 6, 4, 7, 8]) : L1 (k + 1) (l ++ [⟨q, ⟨#[]⟩, 0, [], [], [], []⟩]) := by
  have hu : un ⟨q, ⟨#[]⟩, 0, [], [], [], []⟩ := ⟨q, by rintro rfl; simp at hq, by rintro rfl; simp at hq, rfl⟩
  refine ⟨by rw [List.length_append, h.1]; simp; omega, fun x hx => ?_, fun j hj h19 => ?_⟩
  · rcases List.mem_append.1 hx with hx | hx
    · exact h.2.1 x hx
    · rw [List.mem_singleton.1 hx]; exact oG_oB (un_oG hu) (by omega)
  · rw [List.getElem_append]
    split
    · exact h.2.2 j _ h19
    · simpa using hu
theorem in_start {w0 w wi : World} {g b4 : Nat} {b : Int} {v : Value} {l : List S46} (h : Hp w0 w wi g b4 b v l) (q : Int) :
    In w0 wi (wi.alloc (.cells #[.int .i64 q, .string ⟨#[]⟩, .int .i64 0, .slice none 0 0, .slice none 0 0, .slice none 0 0, .slice none 0 0] 46)) g b q 0 [] [] [] [] (.slice none 0 0) (.slice none 0 0) (.slice none 0 0) (.slice none 0 0) :=
  ⟨h.rn.alloc _, bla (h.bl) _, KeepBut.of_below (bla (Below.refl _ _) _) g none, h.rn.lt, blk_new _ _, Ob.new _ _ q _ 0, by simp; decide, by simp, by simp, by simp, by simp, by intro x hx; simp at hx, by intro x hx; simp at hx, by intro x hx; simp at hx, by intro x hx; simp at hx⟩
theorem l2_start {k m : Nat} {l : List S46} (h : L1 k l) (hk : k ≤ 5) (hm : (m : Int) = 19) : L2 m l :=
  ⟨by have := h.1; omega, by have := h.1; omega, by omega, by have := h.1; omega, h.2.1, fun j hj h1 => h.2.2 j hj (by omega)⟩
theorem hp_start {w0 w w1 : World} {g : Nat} {b : Int} {A : Option Addr} {c : Nat} {l : List S46} (hR : Rn w0 w g b) (hB : Below w0.heap.size w0 w)
    (hl : k46.R 46 w1 ((w.alloc (.cells #[.slice none 0 0] 25)).alloc (.cells #[.int .i64 0, .string ⟨#[]⟩, .int .i64 0] 35)).heap.size (fun _ => True) (.slice A l.length c) l) (hlB : l.all oB = true) (hlK : l.all kB = true) (h19 : l.length = 19)
    (hB1 : Below ((w.alloc (.cells #[.slice none 0 0] 25)).alloc (.cells #[.int .i64 0, .string ⟨#[]⟩, .int .i64 0] 35)).heap.size ((w.alloc (.cells #[.slice none 0 0] 25)).alloc (.cells #[.int .i64 0, .string ⟨#[]⟩, .int .i64 0] 35)) w1) :
    Hp w0 w (w1.alloc (.cells #[.slice A l.length c] 25)) g w1.heap.size b (.slice A l.length c) l ∧ L1 0 l := by
  have h0 : ((w.alloc (.cells #[.slice none 0 0] 25)).alloc (.cells #[.int .i64 0, .string ⟨#[]⟩, .int .i64 0] 35)).heap.size = w.heap.size + 2 := by simp
  have hs := hB1.size
  rw [h0] at hs
  have hbw : Below w.heap.size w w1 := bst (bla (bla (Below.refl _ _) _) _) hB1
  have e1 : w1.heap[w.heap.size]? = some (.cells #[.slice none 0 0] 25 (0, 0)) := kbw (kla (blk_new w _) _) hB1
  have e2 : w1.heap[w.heap.size + 1]? = some (.cells #[.int .i64 0, .string ⟨#[]⟩, .int .i64 0] 35 (0, 0)) := by
    have h2 := blk_new (w.alloc (.cells #[.slice none 0 0] 25)) (.cells #[.int .i64 0, .string ⟨#[]⟩, .int .i64 0] 35)
    rw [show (w.alloc (.cells #[.slice none 0 0] 25)).heap.size = w.heap.size + 1 by simp] at h2
    exact kbw h2 hB1
  rw [h0] at hl
  refine ⟨⟨(hR.below hbw).alloc _, bla (bth hB hB.size hbw) _, KeepBut.of_below (bla hbw _) g none, kla e1 _, kla e2 _, blk_new _ _, hR.lt, by omega, R_n (Kd.R_mono (Kd.R_below (Kd.R_elderB hl w1.heap.size (Nat.le_refl _)) (bla (Below.refl _ _) _)) (fun _ hk => hk.2)) (fun x hx => by have := List.all_eq_true.1 hlK x hx; simpa [kB] using this)⟩, by simpa using h19, fun x hx => List.all_eq_true.1 hlB x hx, fun j hj h => by omega⟩
set_option maxRecDepth 100000 in
set_option maxHeartbeats 40000000 in
theorem heap_w (g : Nat) (b : Int) (w0 w : World) (hR : Rn w0 w g b) (hB : Below w0.heap.size w0 w) (hb : b ≤ 10) :
    Calls Try.prog 50 #[.pointer (some ⟨g, 0, none⟩)] w (HeapPost w0 w g) := by
  have hg := hR.lt
  have HR := Aside0.mk hR
  have HB := Aside0.mk hB
  clear hR hB
  go_enter Try.func50, Try.ntmps50
  go_wp2_with (first
    | (go_at_call 87; refine (newHeap_w _).mono ?_; rintro e w1 ⟨v, l, rfl, hl, hl19, hlB, hlK, hB1⟩; obtain ⟨A, c, rfl⟩ := Kd.R_slice hl; have HL := Aside0.mk hl; have HL19 := Lib.hid hl19; have HLB := Lib.hid hlB; have HLK := Lib.hid hlK; have HB1 := Aside0.mk hB1; clear hl hl19 hlB hlK hB1)
    | (go_at_call 51; have HP := Aside0.mk (hp_start HR.out HB.out HL.out HLB.out HLK.out HL19.out HB1.out); refine (pick_w g 6 b w0 _ HP.out.1.rn HP.out.1.bl (by omega) (by omega)).mono ?_; rintro e w2 ⟨r, rfl, hr0, hr6, hR2, hB2, hK2⟩; have HQ := Aside0.mk (show Hp w0 w w2 g w1.heap.size (b + 1) (.slice A l.length c) l ∧ L1 0 l from ⟨HP.out.1.call hR2 hB2 hK2, HP.out.2⟩); clear HP hR2 hB2 hK2))
  obtain ⟨b4, hb4⟩ : ∃ b4, b4 = w1.heap.size := ⟨_, rfl⟩
  rw [← hb4] at HQ ⊢
  clear hb4 HB1 HL
  have h19 : (l.length : Int) = 19 := by have := HL19.out; omega
  have H19 := Lib.hid h19
  clear h19 HLB HLK HL19
  replace hr6 := hr6 (by decide)
  go_loopw [7] (fun i wr => ∃ (k : Nat) (l' : List S46) (A' : Option Addr) (n' c' : Nat), i = .int .i64 k ∧ (k : Int) ≤ r ∧ Aside0 (Hp w0 w wr g b4 (b + 1 + k) (.slice A' n' c') l' ∧ L1 k l' ∧ n' = l'.length)) (fun i _ => (r - intOf i).toNat)
  case atStart => exact ⟨0, l, A, l.length, c, rfl, hr0, ⟨HQ.out.1.mono (by simp), HQ.out.2, rfl⟩⟩
  case round =>
    clear HQ
    obtain ⟨k, l, A, n, c, rfl, hkr, HQ⟩ := hrel
    by_cases hk : (k : Int) < r
    · go_wp2
      have hpd := HQ.out.1.drew
      have hL1 := Aside0.mk HQ.out.2.1
      clear HQ
      have hll : l.length ≤ 100 := by have := hL1.out.1; omega
      refine start_ (n := 10) (S := fun w' => w'.cell? ⟨b4, 0, none⟩ = some (.slice A n c)) (ds := [9]) #[false, false, false, false, false, false, false, false, false, false] (by kernel_rfl) rfl rfl (hpd.cell) (fun hHeld => ?_)
      generalize wr.drew = w10 at hpd hHeld ⊢
      refine pure_ (i := 0) (N := some 26) (v := ?_) (a' := ?_) #[true, false, false, false, false, false, false, false, false, false] rfl rfl (by kernel_rfl) (fun _ _ _ h => h) (Or.inl ⟨by rfl, ?_⟩) ?_ ?_
      rotate_left
      · intro w'
        go_simp
        with_reducible rfl
      rotate_left
      · simp only [Act.put, List.setIfInBounds_toArray, List.set_cons_zero, List.set_cons_succ, i64_w, i32_w]
        rfl
      refine pure_ (i := 2) (N := some 28) (v := ?_) (a' := ?_) #[true, false, true, false, false, false, false, false, false, false] rfl rfl (by kernel_rfl) (fun _ _ _ h => h) (Or.inl ⟨by rfl, ?_⟩) ?_ ?_
      rotate_left
      · intro w'
        go_simp
        with_reducible rfl
      rotate_left
      · simp only [Act.put, List.setIfInBounds_toArray, List.set_cons_zero, List.set_cons_succ, i64_w, i32_w]
        rfl
      refine take_ (i := 1) (N := some 27) (v := ?_) (a' := ?_) #[true, true, true, false, false, false, false, false, false, false] rfl rfl (by kernel_rfl) (fun _ _ _ h => h) (Or.inl ⟨by rfl, ?_⟩) hHeld ?_ ?_
      rotate_left
      · intro w' s0
        go_simp
        with_reducible rfl
      rotate_left
      · simp only [Act.put, List.setIfInBounds_toArray, List.set_cons_zero, List.set_cons_succ, i64_w, i32_w]
        rfl
      refine one_ (i := 3) (N := some 29) #[true, true, true, true, false, false, false, false, false, false] rfl rfl (by kernel_rfl) (by decide) (fun K hK => ?_)
      refine value_ (w1 := ?_) (v := ?_) (by rfl) rfl ?_ ?_
      rotate_left 2
      · go_simp
        constructor
        · rfl
        · rfl
      have hp3 := hpd.alloc (.cells #[.int .i64 1, .int .i64 1, .int .i64 2, .int .i64 6, .int .i64 4, .int .i64 7, .int .i64 8] 3)
      have hC3 : Kd.C (Kd.int .i64) (w10.alloc (.cells #[.int .i64 1, .int .i64 1, .int .i64 2, .int .i64 6, .int .i64 4, .int .i64 7, .int .i64 8] 3)) (some ⟨w10.heap.size, 0, none⟩) [1, 1, 2, 6, 4, 7, 8].length [1, 1, 2, 6, 4, 7, 8] := C_ints w10 [1, 1, 2, 6, 4, 7, 8] (by decide) 3
      refine hK.out _ _ (hp3.cell) (fun hHeld => ?_)
      clear hK K
      refine norm_ (a' := ?_) ?_ ?_
      rotate_left
      · show Act.put _ (some 29) _ = _
        simp only [Act.put, List.setIfInBounds_toArray, List.set_cons_zero, List.set_cons_succ, i64_w, i32_w]
        rfl
      refine one_ (i := 4) (N := some 30) #[true, true, true, true, true, false, false, false, false, false] rfl rfl (by kernel_rfl) (by decide) (fun K hK => ?_)
      refine goes_ Try.func88 (by kernel_rfl) rfl #[.pointer (some ⟨g, 0, none⟩), .slice (some ⟨w10.heap.size, 0, none⟩) 7 7] (by rfl) rfl rfl (by simp only [List.map_toArray, List.map_cons, List.map_nil]; rfl) ?_
      with_reducible refine (one_n g 7 _ 7 [1, 1, 2, 6, 4, 7, 8] rfl _ w0 _ hp3.rn hp3.bl (by omega) hC3 (by decide) (by intro ad e _; injection e with e; subst e; have := hpd.rn.lt; simp; omega) (by decide) (by decide)).mono ?_
      rintro e w11 ⟨q, rfl, hq, hR11, hB11, hK11⟩
      refine ⟨_, rfl, ?_⟩
      have hp4 := hp3.call hR11 hB11 hK11
      refine hK.out _ _ (hp4.cell) (fun hHeld => ?_)
      clear hK K
      refine norm_ (a' := ?_) ?_ ?_
      rotate_left
      · show Act.put _ (some 30) _ = _
        simp only [Act.put, List.setIfInBounds_toArray, List.set_cons_zero, List.set_cons_succ, i64_w, i32_w]
        rfl
      refine pure_ (i := 5) (N := some 31) (v := ?_) (a' := ?_) #[true, true, true, true, true, true, false, false, false, false] rfl rfl (by kernel_rfl) (fun _ _ _ h => h) (Or.inl ⟨by rfl, ?_⟩) ?_ ?_
      rotate_left
      · intro w'
        go_simp
        with_reducible rfl
      rotate_left
      · simp only [Act.put, List.setIfInBounds_toArray, List.set_cons_zero, List.set_cons_succ, i64_w, i32_w]
        rfl
      refine one_ (i := 6) (N := some 32) #[true, true, true, true, true, true, true, false, false, false] rfl rfl (by kernel_rfl) (by decide) (fun K hK => ?_)
      refine value_ (w1 := ?_) (v := ?_) (by rfl) rfl ?_ ?_
      rotate_left 2
      · go_simp
        constructor
        · rfl
        · rfl
      have hp6 := hp4.alloc (.cells #[.int .i64 q, .string ⟨#[]⟩, .int .i64 0, .slice none 0 0, .slice none 0 0, .slice none 0 0, .slice none 0 0] 46)
      refine hK.out _ _ (hp6.cell) (fun hHeld => ?_)
      clear hK K
      refine norm_ (a' := ?_) ?_ ?_
      rotate_left
      · show Act.put _ (some 32) _ = _
        simp only [Act.put, List.setIfInBounds_toArray, List.set_cons_zero, List.set_cons_succ, i64_w, i32_w]
        rfl
      refine one_ (i := 7) (N := some 33) #[true, true, true, true, true, true, true, true, false, false] rfl rfl (by kernel_rfl) (by decide) (fun K hK => ?_)
      refine Kd.R_append_step k46n (w0 := w11) (w.heap.size + 2) (by rfl) (.tmp 27) (.tmp 32) 23 46 (.agg #[(.int .i64 0), (.string ⟨#[]⟩), (.int .i64 0), (.slice none 0 0), (.slice none 0 0), (.slice none 0 0), (.slice none 0 0)]) 128 rfl Try.underlying23 info46 rfl (by decide) (by omega) (.slice A n c) l (⟨q, ⟨#[]⟩, 0, [], [], [], []⟩ : S46) [.int .i64 q, .string ⟨#[]⟩, .int .i64 0, .slice none 0 0, .slice none 0 0, .slice none 0 0, .slice none 0 0] (fun k => k ≠ b4) (fun _ => False) rfl rfl ?aP (fun _ hk => hk.elim) ?aF ?aO ?aB ?aS ?aL ?_
      case aP => exact new_M _ _ _ q
      case aF => exact fun k hk => by have := hp4.lt4; omega
      case aO => exact hp4.hl
      case aB => exact Below.refl _ _
      case aS => have := hp4.lt4; have := hp4.h4; omega
      case aL => omega
      intro v1 w12 ho hb12 hg12 hat12
      obtain ⟨A1, c1, rfl⟩ := Kd.R_slice ho
      obtain ⟨n1, hn1⟩ : ∃ n1, n1 = (l ++ [(⟨q, ⟨#[]⟩, 0, [], [], [], []⟩ : S46)]).length := ⟨_, rfl⟩
      rw [← hn1] at ho ⊢
      have HN1 := Lib.hid hn1
      clear hn1
      have hp7 := hp4.put ho hg12
      have hc4 : w12.cell? ⟨b4, 0, none⟩ = some (.slice A n c) := (kcl (kgr hp4.c4 hg12 (fun e => hp4.hl.1 b4 e.symm rfl)) 0).trans rfl
      have hf4 : w12.frozen? ⟨b4, 0, none⟩ = false := kfz (kgr hp4.c4 hg12 (fun e => hp4.hl.1 b4 e.symm rfl)) 0
      refine hK.out _ _ (hc4) (fun hHeld => ?_)
      clear hK K
      refine norm_ (a' := ?_) ?_ ?_
      rotate_left
      · show Act.put _ (some 33) _ = _
        simp only [Act.put, List.setIfInBounds_toArray, List.set_cons_zero, List.set_cons_succ, i64_w, i32_w]
        rfl
      refine pure_ (i := 8) (N := some 34) (v := ?_) (a' := ?_) #[true, true, true, true, true, true, true, true, true, false] rfl rfl (by kernel_rfl) (fun _ _ _ h => h) (Or.inl ⟨by rfl, ?_⟩) ?_ ?_
      rotate_left
      · intro w'
        go_simp
        with_reducible rfl
      rotate_left
      · simp only [Act.put, List.setIfInBounds_toArray, List.set_cons_zero, List.set_cons_succ, i64_w, i32_w]
        rfl
      refine last_ (i := 9) (N := none) #[true, true, true, true, true, true, true, true, true, true] rfl rfl (by kernel_rfl) (by decide) (fun K hK => ?_)
      refine skip_ (w1 := ?_) (by rfl) rfl ?_ ?_
      rotate_left
      · go_simp
        rfl
      refine hK.out _ _ ?_
      clear hK K
      refine done_ (by kernel_rfl) ?_
      go_wp2
      go_roundw
      case rel =>
        exact ⟨k + 1, l ++ [⟨q, ⟨#[]⟩, 0, [], [], [], []⟩], A1, n1, c1, by go_num, by omega, ⟨hp7.mono (by omega), hL1.out.snoc hq, HN1.out⟩⟩
      case measure => simp [intOf]; omega
    · have H2 := Aside0.mk (l2_start HQ.out.2.1 (by omega) H19.out)
      have HP2 := Aside0.mk HQ.out.1
      have HN2 := Lib.hid HQ.out.2.2
      clear HQ
      go_wp2
      go_loopw [8] (fun i wr => ∃ (m : Nat) (l' : List S46) (A' : Option Addr) (n' c' : Nat), i = .int .i64 m ∧ Aside0 (Hp w0 w wr g b4 (100 * m) (.slice A' n' c') l' ∧ L2 m l' ∧ n' = l'.length)) (fun i _ => (24 - intOf i).toNat)
      case atStart => exact ⟨_, l, A, n, c, rfl, ⟨HP2.out.mono (by have := H19.out; omega), H2.out, HN2.out⟩⟩
      case round =>
        clear HP2 H2 HN2
        obtain ⟨m, l, A, n, c, rfl, HQ⟩ := hrel
        by_cases hm : m < l.length
        · have hu := HQ.out.2.1.rest m hm (Nat.le_refl _)
          obtain ⟨gb, q, rfl, hn, hnc, hlm, q5, q10, hgb, hgb1, hgb4, e0, e1, e2, e3, e4, e5, e6, gcs, hgc⟩ := HQ.out.1.elem m hm hu
          have HU := Lib.hid hlm
          clear hu hlm
          have hmn : (m : Int) < (n : Int) := by omega
          have hm0 : (0 : Int) ≤ (m : Int) := Int.natCast_nonneg _
          have HN := Lib.hid hn
          clear hn
          have hc4 := HQ.out.1.cell
          have hm24 : m ≤ 24 := by have := HQ.out.2.1.hi; omega
          have hn24 : n ≤ 24 := by have := HQ.out.2.1.hi; have := HN.out; omega
          obtain ⟨wo, rfl⟩ : ∃ wo : World, wo = wr := ⟨_, rfl⟩
          have hgo := HQ.out.1.rn.lt
          have hb4g : b4 ≠ g := by have := HQ.out.1.h4; omega
          by_cases hq4 : q = 4
          · subst hq4
            go_wp2_with fail
            have HI := Aside0.mk (in_start HQ.out.1 4)
            refine (pick_w g 4 (100 * m) w0 _ HI.out.rn HI.out.bl (by omega) (by omega)).mono ?_
            rintro e w3 ⟨kk, rfl, hk0, hk4, hR3, hB3, hK3⟩
            replace hk4 := hk4 (by decide)
            have HJ := Aside0.mk (HI.out.call hR3 hB3 hK3)
            clear HI hR3 hB3 hK3
            go_wp2_with fail
            go_loopw [11] (fun i w' => ∃ (j : Nat) (x3 x4 : List S35) (x5 : List ByteArray) (x6 : List S35) (A3 A4 A5 A6 : Option Addr) (n3 c3 n4 c4 n5 c5 n6 c6 : Nat), i = .int .i64 j ∧ (j : Int) ≤ kk ∧ Aside0 (In w0 wo w' g (100 * m + 1 + 30 * j) 4 (2 * j) x3 x4 x5 x6 (.slice A3 n3 c3) (.slice A4 n4 c4) (.slice A5 n5 c5) (.slice A6 n6 c6))) (fun i _ => (kk - intOf i).toNat)
            case atStart => exact ⟨0, [], [], [], [], none, none, none, none, 0, 0, 0, 0, 0, 0, 0, 0, rfl, hk0, ⟨HJ.out.mono (by simp)⟩⟩
            case round =>
              clear HJ
              obtain ⟨j, x3, x4, x5, x6, A3, A4, A5, A6, n3, c3, n4, c4, n5, c5, n6, c6, rfl, hjk, HJ⟩ := hrel
              by_cases hj : (j : Int) < kk
              · have hc4' := HJ.out.old hc4 (by simp; omega)
                go_wp2_with fail
                refine (value_w g n (100 * m + 1 + 30 * j) w0 _ HJ.out.rn HJ.out.bl (by omega) (by omega) (by omega)).mono ?_
                rintro e w5 ⟨x, rfl, hx, hR5, hB5, hK5⟩
                have HK := Aside0.mk (HJ.out.call hR5 hB5 hK5)
                clear HJ hc4' hR5 hB5 hK5
                have hd0 := (HK.out.cell 0).trans (show _ = some (.int .i64 4) from rfl)
                have hd3 := (HK.out.cell 3).trans (show _ = some (.slice A3 n3 c3) from rfl)
                have hf3 := HK.out.free 3
                have HK2 := Aside0.mk (HK.out.alloc (.cells #[.int .i64 x.f0, .string x.f1, .int .i64 x.f2] 35))
                have hlt := blk_lt HK.out.c9
                have HL3 := HK2.out.lit3 [x] (by simp) (by simp) (by intro y hy; simp at hy; rw [hy]; exact hx.1) (cs := #[.int .i64 x.f0, .string x.f1, .int .i64 x.f2]) (by simp)
                rw [size_alloc, World.setCell_alloc_past _ _ _ _ (by rw [size_alloc]; omega), World.setCell_alloc_past _ _ _ _ hlt] at HL3
                replace HL3 := Aside0.mk HL3
                go_wp2_with fail
                go_roundw
                case rel => exact ⟨j + 1, [x], x4, x5, x6, some ⟨w5.heap.size + 1, 0, none⟩, A4, A5, A6, 1, 1, n4, c4, n5, c5, n6, c6, by go_num, by omega, ⟨(HL3.out.more (by omega)).mono (by omega)⟩⟩
                case measure => simp [intOf]; omega
              · have hc4' := HJ.out.old hc4 (by simp; omega)
                have hd0 := (HJ.out.cell 0).trans (show _ = some (.int .i64 4) from rfl)
                have hd1 := (HJ.out.cell 1).trans (show _ = some (.string ⟨#[]⟩) from rfl)
                have hd2 := (HJ.out.cell 2).trans (show _ = some (.int .i64 0) from rfl)
                have hd3 := (HJ.out.cell 3).trans (show _ = some (.slice A3 n3 c3) from rfl)
                have hd4 := (HJ.out.cell 4).trans (show _ = some (.slice A4 n4 c4) from rfl)
                have hd5 := (HJ.out.cell 5).trans (show _ = some (.slice A5 n5 c5) from rfl)
                have hd6 := (HJ.out.cell 6).trans (show _ = some (.slice A6 n6 c6) from rfl)
                have hgc1 := HJ.out.kp.blk hgc (by omega) (by simp)
                have g0 := HJ.out.old e0 (by simp; omega)
                have f0 := kfz hgc1 (m * 7)
                have g1 := HJ.out.old e1 (by simp; omega)
                have f1 := kfz hgc1 (m * 7 + 1)
                have g2 := HJ.out.old e2 (by simp; omega)
                have f2 := kfz hgc1 (m * 7 + 2)
                have g3 := HJ.out.old e3 (by simp; omega)
                have f3 := kfz hgc1 (m * 7 + 3)
                have g4 := HJ.out.old e4 (by simp; omega)
                have f4 := kfz hgc1 (m * 7 + 4)
                have g5 := HJ.out.old e5 (by simp; omega)
                have f5 := kfz hgc1 (m * 7 + 5)
                have g6 := HJ.out.old e6 (by simp; omega)
                have f6 := kfz hgc1 (m * 7 + 6)
                have HGC := Lib.hid hgc1
                clear hgc1
                have hw := blk_lt HJ.out.c9
                go_wp2_with fail
                go_roundw
                case rel => exact ⟨m + 1, l.set m ⟨4, ⟨#[]⟩, 0, x3, x4, x5, x6⟩, some ⟨gb, 0, none⟩, n, c, by go_num, ⟨((HQ.out.1.round hm hgb hgb1 hgb4 HJ.out.rn HJ.out.bl HJ.out.kp HJ.out.ob).mono (by omega)), HQ.out.2.1.next hm (oG_oB HJ.out.gd (by omega)), by simpa using HN.out⟩⟩
                case measure => simp [intOf]; omega
          by_cases hq7 : q = 7
          · subst hq7
            go_wp2_with fail
            have HI := Aside0.mk (in_start HQ.out.1 7)
            refine (pick_w g 4 (100 * m) w0 _ HI.out.rn HI.out.bl (by omega) (by omega)).mono ?_
            rintro e w3 ⟨kk, rfl, hk0, hk4, hR3, hB3, hK3⟩
            replace hk4 := hk4 (by decide)
            have HJ := Aside0.mk (HI.out.call hR3 hB3 hK3)
            clear HI hR3 hB3 hK3
            go_wp2_with fail
            go_loopw [11] (fun i w' => ∃ (j : Nat) (x3 x4 : List S35) (x5 : List ByteArray) (x6 : List S35) (A3 A4 A5 A6 : Option Addr) (n3 c3 n4 c4 n5 c5 n6 c6 : Nat), i = .int .i64 j ∧ (j : Int) ≤ kk ∧ Aside0 (In w0 wo w' g (100 * m + 1 + 30 * j) 7 (2 * j) x3 x4 x5 x6 (.slice A3 n3 c3) (.slice A4 n4 c4) (.slice A5 n5 c5) (.slice A6 n6 c6))) (fun i _ => (kk - intOf i).toNat)
            case atStart => exact ⟨0, [], [], [], [], none, none, none, none, 0, 0, 0, 0, 0, 0, 0, 0, rfl, hk0, ⟨HJ.out.mono (by simp)⟩⟩
            case round =>
              clear HJ
              obtain ⟨j, x3, x4, x5, x6, A3, A4, A5, A6, n3, c3, n4, c4, n5, c5, n6, c6, rfl, hjk, HJ⟩ := hrel
              by_cases hj : (j : Int) < kk
              · have hc4' := HJ.out.old hc4 (by simp; omega)
                go_wp2_with fail
                refine (value_w g n (100 * m + 1 + 30 * j) w0 _ HJ.out.rn HJ.out.bl (by omega) (by omega) (by omega)).mono ?_
                rintro e w5 ⟨x, rfl, hx, hR5, hB5, hK5⟩
                have HK := Aside0.mk (HJ.out.call hR5 hB5 hK5)
                clear HJ hc4' hR5 hB5 hK5
                have hd0 := (HK.out.cell 0).trans (show _ = some (.int .i64 7) from rfl)
                have hd3 := (HK.out.cell 3).trans (show _ = some (.slice A3 n3 c3) from rfl)
                have hf3 := HK.out.free 3
                have HK2 := Aside0.mk (HK.out.alloc (.cells #[.int .i64 x.f0, .string x.f1, .int .i64 x.f2] 35))
                have hlt := blk_lt HK.out.c9
                have HL3 := HK2.out.lit3 [x, x] (by simp) (by simp) (by intro y hy; simp at hy; rw [hy]; exact hx.1) (cs := #[.int .i64 x.f0, .string x.f1, .int .i64 x.f2, .int .i64 x.f0, .string x.f1, .int .i64 x.f2]) (by simp)
                rw [size_alloc, World.setCell_alloc_past _ _ _ _ (by rw [size_alloc]; omega), World.setCell_alloc_past _ _ _ _ hlt] at HL3
                replace HL3 := Aside0.mk HL3
                go_wp2_with fail
                go_roundw
                case rel => exact ⟨j + 1, [x, x], x4, x5, x6, some ⟨w5.heap.size + 1, 0, none⟩, A4, A5, A6, 2, 2, n4, c4, n5, c5, n6, c6, by go_num, by omega, ⟨(HL3.out.more (by omega)).mono (by omega)⟩⟩
                case measure => simp [intOf]; omega
              · have hc4' := HJ.out.old hc4 (by simp; omega)
                have hd0 := (HJ.out.cell 0).trans (show _ = some (.int .i64 7) from rfl)
                have hd1 := (HJ.out.cell 1).trans (show _ = some (.string ⟨#[]⟩) from rfl)
                have hd2 := (HJ.out.cell 2).trans (show _ = some (.int .i64 0) from rfl)
                have hd3 := (HJ.out.cell 3).trans (show _ = some (.slice A3 n3 c3) from rfl)
                have hd4 := (HJ.out.cell 4).trans (show _ = some (.slice A4 n4 c4) from rfl)
                have hd5 := (HJ.out.cell 5).trans (show _ = some (.slice A5 n5 c5) from rfl)
                have hd6 := (HJ.out.cell 6).trans (show _ = some (.slice A6 n6 c6) from rfl)
                have hgc1 := HJ.out.kp.blk hgc (by omega) (by simp)
                have g0 := HJ.out.old e0 (by simp; omega)
                have f0 := kfz hgc1 (m * 7)
                have g1 := HJ.out.old e1 (by simp; omega)
                have f1 := kfz hgc1 (m * 7 + 1)
                have g2 := HJ.out.old e2 (by simp; omega)
                have f2 := kfz hgc1 (m * 7 + 2)
                have g3 := HJ.out.old e3 (by simp; omega)
                have f3 := kfz hgc1 (m * 7 + 3)
                have g4 := HJ.out.old e4 (by simp; omega)
                have f4 := kfz hgc1 (m * 7 + 4)
                have g5 := HJ.out.old e5 (by simp; omega)
                have f5 := kfz hgc1 (m * 7 + 5)
                have g6 := HJ.out.old e6 (by simp; omega)
                have f6 := kfz hgc1 (m * 7 + 6)
                have HGC := Lib.hid hgc1
                clear hgc1
                have hw := blk_lt HJ.out.c9
                go_wp2_with fail
                go_roundw
                case rel => exact ⟨m + 1, l.set m ⟨7, ⟨#[]⟩, 0, x3, x4, x5, x6⟩, some ⟨gb, 0, none⟩, n, c, by go_num, ⟨((HQ.out.1.round hm hgb hgb1 hgb4 HJ.out.rn HJ.out.bl HJ.out.kp HJ.out.ob).mono (by omega)), HQ.out.2.1.next hm (oG_oB HJ.out.gd (by omega)), by simpa using HN.out⟩⟩
                case measure => simp [intOf]; omega
          by_cases hq6 : q = 6
          · subst hq6
            go_wp2_with fail
            have HI := Aside0.mk (in_start HQ.out.1 6)
            refine (pick_w g 4 (100 * m) w0 _ HI.out.rn HI.out.bl (by omega) (by omega)).mono ?_
            rintro e w3 ⟨kk, rfl, hk0, hk4, hR3, hB3, hK3⟩
            replace hk4 := hk4 (by decide)
            have HJ := Aside0.mk (HI.out.call hR3 hB3 hK3)
            clear HI hR3 hB3 hK3
            go_wp2_with fail
            go_loopw [11] (fun i w' => ∃ (j : Nat) (x3 x4 : List S35) (x5 : List ByteArray) (x6 : List S35) (A3 A4 A5 A6 : Option Addr) (n3 c3 n4 c4 n5 c5 n6 c6 : Nat), i = .int .i64 j ∧ (j : Int) ≤ kk ∧ Aside0 (In w0 wo w' g (100 * m + 1 + 30 * j) 6 (2 * j) x3 x4 x5 x6 (.slice A3 n3 c3) (.slice A4 n4 c4) (.slice A5 n5 c5) (.slice A6 n6 c6))) (fun i _ => (kk - intOf i).toNat)
            case atStart => exact ⟨0, [], [], [], [], none, none, none, none, 0, 0, 0, 0, 0, 0, 0, 0, rfl, hk0, ⟨HJ.out.mono (by simp)⟩⟩
            case round =>
              clear HJ
              obtain ⟨j, x3, x4, x5, x6, A3, A4, A5, A6, n3, c3, n4, c4, n5, c5, n6, c6, rfl, hjk, HJ⟩ := hrel
              by_cases hj : (j : Int) < kk
              · have hc4' := HJ.out.old hc4 (by simp; omega)
                go_wp2_with fail
                refine (value_w g n (100 * m + 1 + 30 * j) w0 _ HJ.out.rn HJ.out.bl (by omega) (by omega) (by omega)).mono ?_
                rintro e w5 ⟨x, rfl, hx, hR5, hB5, hK5⟩
                have HK := Aside0.mk (HJ.out.call hR5 hB5 hK5)
                clear HJ hc4' hR5 hB5 hK5
                have hd0 := (HK.out.cell 0).trans (show _ = some (.int .i64 6) from rfl)
                have HK2 := Aside0.mk (HK.out.alloc (.cells #[.int .i64 x.f0, .string x.f1, .int .i64 x.f2] 35))
                have hlt := blk_lt HK.out.c9
                have HR5 := Aside0.mk (Kd.R_lt HK.out.ob.r5)
                clear HK
                have hsz : (w5.alloc (.cells #[.int .i64 x.f0, .string x.f1, .int .i64 x.f2] 35)).heap.size = w5.heap.size + 1 := size_alloc _ _
                have HK3 := Aside0.mk (HK2.out.alloc (.cells #[.string ⟨#[97]⟩, .string ⟨#[98]⟩, .string ⟨#[99]⟩, .string ⟨#[116, 101, 120, 116]⟩] 9))
                have hC4 : Kd.C Kd.string ((w5.alloc (.cells #[.int .i64 x.f0, .string x.f1, .int .i64 x.f2] 35)).alloc (.cells #[.string ⟨#[97]⟩, .string ⟨#[98]⟩, .string ⟨#[99]⟩, .string ⟨#[116, 101, 120, 116]⟩] 9)) (some ⟨w5.heap.size + 1, 0, none⟩) nm4.length nm4 := by
                  have := C_strs (w5.alloc (.cells #[.int .i64 x.f0, .string x.f1, .int .i64 x.f2] 35)) nm4 (by decide) 9
                  rw [hsz] at this
                  exact this
                have HC4 := Aside0.mk hC4
                clear hC4 hsz HK2
                go_wp2_with fail
                refine (of_n g 4 _ 4 nm4 rfl (100 * m + 11 + 30 * j) w0 _ (HK3.out.rn.mono (by omega)) HK3.out.bl (by omega) HC4.out (by decide) (by intro ad e _; injection e with e; subst e; have := HK3.out.gi; simp; omega) (by decide) (by decide)).mono ?_
                rintro e w6 ⟨s, rfl, hs, hR6, hB6, hK6⟩
                have HK := Aside0.mk (HK3.out.call hR6 hB6 hK6)
                have hbx := hK6.blk (kla (blk_new w5 (.cells #[.int .i64 x.f0, .string x.f1, .int .i64 x.f2] 35)) (.cells #[.string ⟨#[97]⟩, .string ⟨#[98]⟩, .string ⟨#[99]⟩, .string ⟨#[116, 101, 120, 116]⟩] 9)) (by have := HK3.out.gi; omega) (by simp)
                have HBX := Aside0.mk hbx
                clear HK3 HC4 hR6 hB6 hK6 hd0 hbx
                have hb0 := (kcl HBX.out 0).trans (show _ = some (.int .i64 x.f0) from rfl)
                have hb1 := (kcl HBX.out 1).trans (show _ = some (.string x.f1) from rfl)
                have hb2 := (kcl HBX.out 2).trans (show _ = some (.int .i64 x.f2) from rfl)
                have hd5 := (HK.out.cell 5).trans (show _ = some (.slice A5 n5 c5) from rfl)
                have hd6 := (HK.out.cell 6).trans (show _ = some (.slice A6 n6 c6) from rfl)
                go_wp2_with fail
                have HC5 := Aside0.mk (show Kd.C Kd.string w6 A5 n5 x5 from R_C HK.out.ob.r5)
                refine (isOne_w A5 n5 c5 x5 s _ HC5.out).mono ?_
                rintro e w7 ⟨b1, rfl, rfl⟩
                clear HC5
                cases b1 with
                | true =>
                  go_wp2
                  go_roundw
                  case rel => exact ⟨j + 1, x3, x4, x5, x6, A3, A4, A5, A6, n3, c3, n4, c4, n5, c5, n6, c6, by go_num, by omega, ⟨(HK.out.more (by omega)).mono (by omega)⟩⟩
                  case measure => simp [intOf]; omega
                | false =>
                  have hltw := blk_lt HK.out.c9
                  go_wp2_with (first | ((with_reducible refine gate_builtin (b := .append) (xs := #[.tmp 100, .tmp 102]) rfl ?_); at_builtin; refine Kd.R_append Kd.string (w0 := _) (wo.heap.size + 1) rfl (.tmp 100) (.tmp 102) 44 9 (.string ⟨#[]⟩) 16 rfl Try.underlying44 info9 rfl (by decide) (by omega) (.slice A5 n5 c5) x5 s [.string s] (fun _ => True) (fun _ => False) rfl (by first | rfl | (rw [size_alloc]; rfl) | (rw [size_set]; rfl)) ?aPs (fun _ hk => hk.elim) (fun _ _ => trivial) ?aOs (Below.refl _ _) ?aSs ?aLs ?_; (case aPs => exact rfl); (case aOs => exact HK.out.ob.r5); (case aSs => have := blk_lt HK.out.c9; omega); (case aLs => have hgd := HK.out.gd; unfold oG at hgd; simp only at hgd; omega); intro v1 w6s ho _ hg hat; obtain ⟨A1s, c1s, rfl⟩ := Kd.R_slice ho; obtain ⟨n1s, hn1⟩ : ∃ n1, n1 = (x5 ++ [s]).length := ⟨_, rfl⟩; rw [← hn1] at ho hat ⊢; have HNs := Aside0.mk (HK.out.app5 hs ho hg); have hss : w6s.heap[wo.heap.size]? = _ := (HK.out.grown hg (Kd.R_base HK.out.ob.r5)).2.2.2; have hscs := (kcl hss 5).trans (show _ = some (.slice A5 n5 c5) from rfl); have hsfs := kfz hss 5; have HBX2 := Aside0.mk (blk_far (p := ⟨wo.heap.size, 5, none⟩) (kgr HBX.out hg (fun e => by have := HR5.out _ e.symm; omega)) (by simp; omega) (.slice A1s n1s c1s)); have hb0s := (kcl HBX2.out 0).trans (show _ = some (.int .i64 x.f0) from rfl); have hb1s := (kcl HBX2.out 1).trans (show _ = some (.string x.f1) from rfl); have hb2s := (kcl HBX2.out 2).trans (show _ = some (.int .i64 x.f2) from rfl); have hd6s := (HNs.out.cell 6).trans (show _ = some (.slice A6 n6 c6) from rfl); clear hn1 ho hg hat hss) | ((with_reducible refine gate_builtin (b := .append) (xs := #[.tmp 106, .tmp 108]) rfl ?_); at_builtin; refine Kd.R_append k35 (w0 := _) (wo.heap.size + 1) rfl (.tmp 106) (.tmp 108) 26 35 (.agg #[(.int .i64 0), (.string ⟨#[]⟩), (.int .i64 0)]) 32 rfl Try.underlying26 info35 rfl (by decide) (by omega) (.slice A6 n6 c6) x6 x [.int .i64 x.f0, .string x.f1, .int .i64 x.f2] (fun _ => True) (fun _ => False) rfl (by first | rfl | (rw [size_alloc]; rfl) | (rw [size_set]; rfl)) ?aPt (fun _ hk => hk.elim) (fun _ _ => trivial) ?aOt (Below.refl _ _) ?aSt ?aLt ?_; (case aPt => exact k35_mkM _ _ _ x); (case aOt => exact HNs.out.ob.r6); (case aSt => have := blk_lt HNs.out.c9; omega); (case aLt => have hgd := HNs.out.gd; unfold oG at hgd; simp only at hgd; omega); intro v1 w6t ho _ hg hat; obtain ⟨A1t, c1t, rfl⟩ := Kd.R_slice ho; obtain ⟨n1t, hn1⟩ : ∃ n1, n1 = (x6 ++ [x]).length := ⟨_, rfl⟩; rw [← hn1] at ho hat ⊢; have HNt := Aside0.mk (HNs.out.app6 hx ho hg hat); have hst : w6t.heap[wo.heap.size]? = _ := (HNs.out.grown hg (Kd.R_base HNs.out.ob.r6)).2.2.2; have hsct := (kcl hst 6).trans (show _ = some (.slice A6 n6 c6) from rfl); have hsft := kfz hst 6; clear hn1 ho hg hat hst))
                  go_wp2
                  go_roundw
                  case rel => exact ⟨j + 1, x3, x4, x5 ++ [s], x6 ++ [x], A3, A4, A1s, A1t, n3, c3, n4, c4, n1s, c1s, n1t, c1t, by go_num, by omega, ⟨(HNt.out.more (by omega)).mono (by omega)⟩⟩
                  case measure => simp [intOf]; omega
              · have hc4' := HJ.out.old hc4 (by simp; omega)
                have hd0 := (HJ.out.cell 0).trans (show _ = some (.int .i64 6) from rfl)
                have hd1 := (HJ.out.cell 1).trans (show _ = some (.string ⟨#[]⟩) from rfl)
                have hd2 := (HJ.out.cell 2).trans (show _ = some (.int .i64 0) from rfl)
                have hd3 := (HJ.out.cell 3).trans (show _ = some (.slice A3 n3 c3) from rfl)
                have hd4 := (HJ.out.cell 4).trans (show _ = some (.slice A4 n4 c4) from rfl)
                have hd5 := (HJ.out.cell 5).trans (show _ = some (.slice A5 n5 c5) from rfl)
                have hd6 := (HJ.out.cell 6).trans (show _ = some (.slice A6 n6 c6) from rfl)
                have hf2 := HJ.out.free 2
                have hgc1 := HJ.out.kp.blk hgc (by omega) (by simp)
                have g0 := HJ.out.old e0 (by simp; omega)
                have f0 := kfz hgc1 (m * 7)
                have g1 := HJ.out.old e1 (by simp; omega)
                have f1 := kfz hgc1 (m * 7 + 1)
                have g2 := HJ.out.old e2 (by simp; omega)
                have f2 := kfz hgc1 (m * 7 + 2)
                have g3 := HJ.out.old e3 (by simp; omega)
                have f3 := kfz hgc1 (m * 7 + 3)
                have g4 := HJ.out.old e4 (by simp; omega)
                have f4 := kfz hgc1 (m * 7 + 4)
                have g5 := HJ.out.old e5 (by simp; omega)
                have f5 := kfz hgc1 (m * 7 + 5)
                have g6 := HJ.out.old e6 (by simp; omega)
                have f6 := kfz hgc1 (m * 7 + 6)
                have HGC := Lib.hid hgc1
                clear hgc1
                have hw := blk_lt HJ.out.c9
                go_wp2_with fail
                refine (pick_w g 13 (100 * m + 1 + 30 * j) w0 _ HJ.out.rn HJ.out.bl (by omega) (by omega)).mono ?_
                rintro e w7 ⟨pp, rfl, hp0, hp13, hR7, hB7, hK7⟩
                have HK := Aside0.mk (HJ.out.call hR7 hB7 hK7)
                clear HJ hR7 hB7 hK7 hd0 hd1 hd2 hd3 hd4 hd5 hd6 hf2 g0 g1 g2 g3 g4 g5 g6 f0 f1 f2 f3 f4 f5 f6 HGC hc4'
                have HS := Aside0.mk (In.set HK.out.rn HK.out.bl HK.out.kp HK.out.gi HK.out.rn.ge HK.out.c9 2 (.int .i64 pp) rfl)
                have HO := Aside0.mk ((HK.out.ob.kind pp).far (p := ⟨wo.heap.size, 2, none⟩) (Nat.le_refl _) (.int .i64 pp))
                have hs2 := (HK.out.cell 2).trans (show _ = some (.int .i64 0) from rfl)
                have hf2 := HK.out.free 2
                have hd0 := (kcl HS.out.2.2.2 0).trans (show _ = some (.int .i64 6) from rfl)
                have hd1 := (kcl HS.out.2.2.2 1).trans (show _ = some (.string ⟨#[]⟩) from rfl)
                have hd2 := (kcl HS.out.2.2.2 2).trans (show _ = some (.int .i64 pp) from rfl)
                have hd3 := (kcl HS.out.2.2.2 3).trans (show _ = some (.slice A3 n3 c3) from rfl)
                have hd4 := (kcl HS.out.2.2.2 4).trans (show _ = some (.slice A4 n4 c4) from rfl)
                have hd5 := (kcl HS.out.2.2.2 5).trans (show _ = some (.slice A5 n5 c5) from rfl)
                have hd6 := (kcl HS.out.2.2.2 6).trans (show _ = some (.slice A6 n6 c6) from rfl)
                have hc4' := keep_cell HS.out.2.2.1 hc4 (by simp; omega)
                have g0 := keep_cell HS.out.2.2.1 e0 (by simp; omega)
                have f0 := kfz (HS.out.2.2.1.blk hgc (by omega) (by simp)) (m * 7)
                have g1 := keep_cell HS.out.2.2.1 e1 (by simp; omega)
                have f1 := kfz (HS.out.2.2.1.blk hgc (by omega) (by simp)) (m * 7 + 1)
                have g2 := keep_cell HS.out.2.2.1 e2 (by simp; omega)
                have f2 := kfz (HS.out.2.2.1.blk hgc (by omega) (by simp)) (m * 7 + 2)
                have g3 := keep_cell HS.out.2.2.1 e3 (by simp; omega)
                have f3 := kfz (HS.out.2.2.1.blk hgc (by omega) (by simp)) (m * 7 + 3)
                have g4 := keep_cell HS.out.2.2.1 e4 (by simp; omega)
                have f4 := kfz (HS.out.2.2.1.blk hgc (by omega) (by simp)) (m * 7 + 4)
                have g5 := keep_cell HS.out.2.2.1 e5 (by simp; omega)
                have f5 := kfz (HS.out.2.2.1.blk hgc (by omega) (by simp)) (m * 7 + 5)
                have g6 := keep_cell HS.out.2.2.1 e6 (by simp; omega)
                have f6 := kfz (HS.out.2.2.1.blk hgc (by omega) (by simp)) (m * 7 + 6)
                have hw := blk_lt HS.out.2.2.2
                go_wp2_with fail
                go_roundw
                case rel => exact ⟨m + 1, l.set m ⟨6, ⟨#[]⟩, pp, x3, x4, x5, x6⟩, some ⟨gb, 0, none⟩, n, c, by go_num, ⟨((HQ.out.1.round hm hgb hgb1 hgb4 HS.out.1 HS.out.2.1 HS.out.2.2.1 HO.out).mono (by omega)), HQ.out.2.1.next hm (oG_oB HK.out.gd (by omega)), by simpa using HN.out⟩⟩
                case measure => simp [intOf]; omega
          by_cases hq2 : q = 2
          · subst hq2
            go_wp2_with fail
            have HI := Aside0.mk (in_start HQ.out.1 2)
            refine (pick_w g 4 (100 * m) w0 _ HI.out.rn HI.out.bl (by omega) (by omega)).mono ?_
            rintro e w3 ⟨kk, rfl, hk0, hk4, hR3, hB3, hK3⟩
            replace hk4 := hk4 (by decide)
            have HJ := Aside0.mk (HI.out.call hR3 hB3 hK3)
            clear HI hR3 hB3 hK3
            go_wp2_with fail
            go_loopw [11] (fun i w' => ∃ (j : Nat) (x3 x4 : List S35) (x5 : List ByteArray) (x6 : List S35) (A3 A4 A5 A6 : Option Addr) (n3 c3 n4 c4 n5 c5 n6 c6 : Nat), i = .int .i64 j ∧ (j : Int) ≤ kk ∧ Aside0 (In w0 wo w' g (100 * m + 1 + 30 * j) 2 (2 * j) x3 x4 x5 x6 (.slice A3 n3 c3) (.slice A4 n4 c4) (.slice A5 n5 c5) (.slice A6 n6 c6))) (fun i _ => (kk - intOf i).toNat)
            case atStart => exact ⟨0, [], [], [], [], none, none, none, none, 0, 0, 0, 0, 0, 0, 0, 0, rfl, hk0, ⟨HJ.out.mono (by simp)⟩⟩
            case round =>
              clear HJ
              obtain ⟨j, x3, x4, x5, x6, A3, A4, A5, A6, n3, c3, n4, c4, n5, c5, n6, c6, rfl, hjk, HJ⟩ := hrel
              by_cases hj : (j : Int) < kk
              · have hc4' := HJ.out.old hc4 (by simp; omega)
                go_wp2_with fail
                refine (value_w g n (100 * m + 1 + 30 * j) w0 _ HJ.out.rn HJ.out.bl (by omega) (by omega) (by omega)).mono ?_
                rintro e w5 ⟨x, rfl, hx, hR5, hB5, hK5⟩
                have HK := Aside0.mk (HJ.out.call hR5 hB5 hK5)
                clear HJ hc4' hR5 hB5 hK5
                have hd0 := (HK.out.cell 0).trans (show _ = some (.int .i64 2) from rfl)
                have HK2 := Aside0.mk (HK.out.alloc (.cells #[.int .i64 x.f0, .string x.f1, .int .i64 x.f2] 35))
                have hlt := blk_lt HK.out.c9
                have HR4 := Aside0.mk (Kd.R_lt HK.out.ob.r4)
                clear HK
                have hbx := blk_new w5 (.cells #[.int .i64 x.f0, .string x.f1, .int .i64 x.f2] 35)
                have HBX := Aside0.mk hbx
                clear hbx
                go_wp2_with fail
                refine (value_w g 0 (100 * m + 11 + 30 * j) w0 _ (HK2.out.rn.mono (by omega)) HK2.out.bl (by omega) (by omega) (by omega)).mono ?_
                rintro e w6 ⟨y, rfl, hy, hR6, hB6, hK6⟩
                have HKb := Aside0.mk (HK2.out.call hR6 hB6 hK6)
                have hbx6 := hK6.blk HBX.out (by have := HK2.out.gi; omega) (by simp)
                clear HBX
                have HBX := Aside0.mk hbx6
                clear hbx6 HK2 hR6 hB6 hK6 hd0
                have hlt6 := blk_lt HKb.out.c9
                have hbl6 := blk_lt HBX.out
                have hd4 := (HKb.out.cell 4).trans (show _ = some (.slice A4 n4 c4) from rfl)
                have HKc := Aside0.mk (HKb.out.alloc (.cells #[.int .i64 y.f0, .string y.f1, .int .i64 y.f2] 35))
                have HC4 := Aside0.mk (show Kd.C k35 (w6.alloc (.cells #[.int .i64 y.f0, .string y.f1, .int .i64 y.f2] 35)) A4 n4 x4 from R_C HKc.out.ob.r4)
                go_wp2_with fail
                refine (keyAt_w A4 n4 c4 x4 y _ HC4.out HKc.out.gd.2.2.2.2.2.2.1).mono ?_
                rintro e w7 ⟨r7, rfl, hb7⟩
                have HKd := Aside0.mk (HKc.out.below hb7)
                have hbx7 := kbw (kla HBX.out _) hb7
                have hby7 := kbw (blk_new w6 (.cells #[.int .i64 y.f0, .string y.f1, .int .i64 y.f2] 35)) hb7
                clear HBX HKb HKc HC4 hd4
                have HBX := Aside0.mk hbx7
                have hy0 := (kcl hby7 0).trans (show _ = some (.int .i64 y.f0) from rfl)
                have hy1 := (kcl hby7 1).trans (show _ = some (.string y.f1) from rfl)
                have hy2 := (kcl hby7 2).trans (show _ = some (.int .i64 y.f2) from rfl)
                clear hbx7 hby7 hb7
                have hd4 := (HKd.out.cell 4).trans (show _ = some (.slice A4 n4 c4) from rfl)
                have hlt7 := blk_lt HKd.out.c9
                by_cases hr7 : r7 < 0
                · go_wp2_with (first | ((with_reducible refine gate_builtin (b := .append) (xs := #[.tmp 78, .tmp 80]) rfl ?_); at_builtin; refine Kd.R_append k35 (w0 := _) (wo.heap.size + 1) rfl (.tmp 78) (.tmp 80) 26 35 (.agg #[(.int .i64 0), (.string ⟨#[]⟩), (.int .i64 0)]) 32 rfl Try.underlying26 info35 rfl (by decide) (by omega) (.slice A4 n4 c4) x4 y [.int .i64 y.f0, .string y.f1, .int .i64 y.f2] (fun _ => True) (fun _ => False) rfl (by first | rfl | (rw [size_alloc]; rfl) | (rw [size_set]; rfl)) ?aPk (fun _ hk => hk.elim) (fun _ _ => trivial) ?aOk (Below.refl _ _) ?aSk ?aLk ?_; (case aPk => exact k35_mkM _ _ _ y); (case aOk => exact HKd.out.ob.r4); (case aSk => have := blk_lt HKd.out.c9; omega); (case aLk => have hgd := HKd.out.gd; unfold oG at hgd; simp only at hgd; omega); intro v1 w6k ho _ hg hat; obtain ⟨A1k, c1k, rfl⟩ := Kd.R_slice ho; obtain ⟨n1k, hn1⟩ : ∃ n1, n1 = (x4 ++ [y]).length := ⟨_, rfl⟩; rw [← hn1] at ho hat ⊢; have HNk := Aside0.mk (HKd.out.app4 hy ho hg hat); have hsk : w6k.heap[wo.heap.size]? = _ := (HKd.out.grown hg (Kd.R_base HKd.out.ob.r4)).2.2.2; have hsck := (kcl hsk 4).trans (show _ = some (.slice A4 n4 c4) from rfl); have hsfk := kfz hsk 4; have HBX2 := Aside0.mk (blk_far (p := ⟨wo.heap.size, 4, none⟩) (kgr HBX.out hg (fun e => by have := HR4.out _ e.symm; omega)) (by simp; omega) (.slice A1k n1k c1k)); have hb0s := (kcl HBX2.out 0).trans (show _ = some (.int .i64 x.f0) from rfl); have hb1s := (kcl HBX2.out 1).trans (show _ = some (.string x.f1) from rfl); have hb2s := (kcl HBX2.out 2).trans (show _ = some (.int .i64 x.f2) from rfl); have hd3s := (HNk.out.cell 3).trans (show _ = some (.slice A3 n3 c3) from rfl); clear hn1 ho hg hat hsk) | ((with_reducible refine gate_builtin (b := .append) (xs := #[.tmp 84, .tmp 86]) rfl ?_); at_builtin; refine Kd.R_append k35 (w0 := _) (wo.heap.size + 1) rfl (.tmp 84) (.tmp 86) 26 35 (.agg #[(.int .i64 0), (.string ⟨#[]⟩), (.int .i64 0)]) 32 rfl Try.underlying26 info35 rfl (by decide) (by omega) (.slice A3 n3 c3) x3 x [.int .i64 x.f0, .string x.f1, .int .i64 x.f2] (fun _ => True) (fun _ => False) rfl (by first | rfl | (rw [size_alloc]; rfl) | (rw [size_set]; rfl)) ?aPl (fun _ hk => hk.elim) (fun _ _ => trivial) ?aOl (Below.refl _ _) ?aSl ?aLl ?_; (case aPl => exact k35_mkM _ _ _ x); (case aOl => exact HNk.out.ob.r3); (case aSl => have := blk_lt HNk.out.c9; omega); (case aLl => have hgd := HNk.out.gd; unfold oG at hgd; simp only at hgd; omega); intro v1 w6l ho _ hg hat; obtain ⟨A1l, c1l, rfl⟩ := Kd.R_slice ho; obtain ⟨n1l, hn1⟩ : ∃ n1, n1 = (x3 ++ [x]).length := ⟨_, rfl⟩; rw [← hn1] at ho hat ⊢; have HNl := Aside0.mk (HNk.out.app3 hx ho hg hat); have hsl : w6l.heap[wo.heap.size]? = _ := (HNk.out.grown hg (Kd.R_base HNk.out.ob.r3)).2.2.2; have hscl := (kcl hsl 3).trans (show _ = some (.slice A3 n3 c3) from rfl); have hsfl := kfz hsl 3; clear hn1 ho hg hat hsl))
                  go_wp2
                  go_roundw
                  case rel => exact ⟨j + 1, x3 ++ [x], x4 ++ [y], x5, x6, A1l, A1k, A5, A6, n1l, c1l, n1k, c1k, n5, c5, n6, c6, by go_num, by omega, ⟨(HNl.out.more (by omega)).mono (by omega)⟩⟩
                  case measure => simp [intOf]; omega
                · go_wp2
                  go_roundw
                  case rel => exact ⟨j + 1, x3, x4, x5, x6, A3, A4, A5, A6, n3, c3, n4, c4, n5, c5, n6, c6, by go_num, by omega, ⟨(HKd.out.more (by omega)).mono (by omega)⟩⟩
                  case measure => simp [intOf]; omega
              · have hc4' := HJ.out.old hc4 (by simp; omega)
                have hd0 := (HJ.out.cell 0).trans (show _ = some (.int .i64 2) from rfl)
                have hd1 := (HJ.out.cell 1).trans (show _ = some (.string ⟨#[]⟩) from rfl)
                have hd2 := (HJ.out.cell 2).trans (show _ = some (.int .i64 0) from rfl)
                have hd3 := (HJ.out.cell 3).trans (show _ = some (.slice A3 n3 c3) from rfl)
                have hd4 := (HJ.out.cell 4).trans (show _ = some (.slice A4 n4 c4) from rfl)
                have hd5 := (HJ.out.cell 5).trans (show _ = some (.slice A5 n5 c5) from rfl)
                have hd6 := (HJ.out.cell 6).trans (show _ = some (.slice A6 n6 c6) from rfl)
                have hgc1 := HJ.out.kp.blk hgc (by omega) (by simp)
                have g0 := HJ.out.old e0 (by simp; omega)
                have f0 := kfz hgc1 (m * 7)
                have g1 := HJ.out.old e1 (by simp; omega)
                have f1 := kfz hgc1 (m * 7 + 1)
                have g2 := HJ.out.old e2 (by simp; omega)
                have f2 := kfz hgc1 (m * 7 + 2)
                have g3 := HJ.out.old e3 (by simp; omega)
                have f3 := kfz hgc1 (m * 7 + 3)
                have g4 := HJ.out.old e4 (by simp; omega)
                have f4 := kfz hgc1 (m * 7 + 4)
                have g5 := HJ.out.old e5 (by simp; omega)
                have f5 := kfz hgc1 (m * 7 + 5)
                have g6 := HJ.out.old e6 (by simp; omega)
                have f6 := kfz hgc1 (m * 7 + 6)
                have HGC := Lib.hid hgc1
                clear hgc1
                have hw := blk_lt HJ.out.c9
                go_wp2_with fail
                go_roundw
                case rel => exact ⟨m + 1, l.set m ⟨2, ⟨#[]⟩, 0, x3, x4, x5, x6⟩, some ⟨gb, 0, none⟩, n, c, by go_num, ⟨((HQ.out.1.round hm hgb hgb1 hgb4 HJ.out.rn HJ.out.bl HJ.out.kp HJ.out.ob).mono (by omega)), HQ.out.2.1.next hm (oG_oB HJ.out.gd (by omega)), by simpa using HN.out⟩⟩
                case measure => simp [intOf]; omega
          have gq2 : (q == 2) = false := by simpa using hq2
          have gq6 : (q == 6) = false := by simpa using hq6
          have gq4 : (q == 4) = false := by simpa using hq4
          have gq7 : (q == 7) = false := by simpa using hq7
          clear hq2 hq4 hq6 hq7
          go_wp2_with fail
          have HI := Aside0.mk (in_start HQ.out.1 q)
          refine (pick_w g 4 (100 * m) w0 _ HI.out.rn HI.out.bl (by omega) (by omega)).mono ?_
          rintro e w3 ⟨kk, rfl, hk0, hk4, hR3, hB3, hK3⟩
          replace hk4 := hk4 (by decide)
          have HJ := Aside0.mk (HI.out.call hR3 hB3 hK3)
          clear HI hR3 hB3 hK3
          go_wp2_with fail
          go_loopw [11] (fun i w' => ∃ (j : Nat) (x3 x4 : List S35) (x5 : List ByteArray) (x6 : List S35) (A3 A4 A5 A6 : Option Addr) (n3 c3 n4 c4 n5 c5 n6 c6 : Nat), i = .int .i64 j ∧ (j : Int) ≤ kk ∧ Aside0 (In w0 wo w' g (100 * m + 1 + 30 * j) q (2 * j) x3 x4 x5 x6 (.slice A3 n3 c3) (.slice A4 n4 c4) (.slice A5 n5 c5) (.slice A6 n6 c6))) (fun i _ => (kk - intOf i).toNat)
          case atStart => exact ⟨0, [], [], [], [], none, none, none, none, 0, 0, 0, 0, 0, 0, 0, 0, rfl, hk0, ⟨HJ.out.mono (by simp)⟩⟩
          case round =>
            clear HJ
            obtain ⟨j, x3, x4, x5, x6, A3, A4, A5, A6, n3, c3, n4, c4, n5, c5, n6, c6, rfl, hjk, HJ⟩ := hrel
            by_cases hj : (j : Int) < kk
            · have hc4' := HJ.out.old hc4 (by simp; omega)
              go_wp2_with fail
              refine (value_w g n (100 * m + 1 + 30 * j) w0 _ HJ.out.rn HJ.out.bl (by omega) (by omega) (by omega)).mono ?_
              rintro e w5 ⟨x, rfl, hx, hR5, hB5, hK5⟩
              have HK := Aside0.mk (HJ.out.call hR5 hB5 hK5)
              clear HJ hc4' hR5 hB5 hK5
              have hd0 := (HK.out.cell 0).trans (show _ = some (.int .i64 q) from rfl)
              have hd3 := (HK.out.cell 3).trans (show _ = some (.slice A3 n3 c3) from rfl)
              have HK2 := Aside0.mk (HK.out.alloc (.cells #[.int .i64 x.f0, .string x.f1, .int .i64 x.f2] 35))
              have hlt := blk_lt HK.out.c9
              go_wp2_with (first | ((with_reducible refine gate_builtin (b := .append) (xs := #[.tmp 63, .tmp 65]) rfl ?_); at_builtin; refine Kd.R_append k35 (w0 := _) (wo.heap.size + 1) rfl (.tmp 63) (.tmp 65) 26 35 (.agg #[(.int .i64 0), (.string ⟨#[]⟩), (.int .i64 0)]) 32 rfl Try.underlying26 info35 rfl (by decide) (by omega) (.slice A3 n3 c3) x3 x [.int .i64 x.f0, .string x.f1, .int .i64 x.f2] (fun _ => True) (fun _ => False) rfl (by first | rfl | (rw [size_alloc]; rfl) | (rw [size_set]; rfl)) ?aPo (fun _ hk => hk.elim) (fun _ _ => trivial) ?aOo (Below.refl _ _) ?aSo ?aLo ?_; (case aPo => exact k35_mkM _ _ _ x); (case aOo => exact HK2.out.ob.r3); (case aSo => have := blk_lt HK2.out.c9; omega); (case aLo => have hgd := HK2.out.gd; unfold oG at hgd; simp only at hgd; omega); intro v1 w6o ho _ hg hat; obtain ⟨A1o, c1o, rfl⟩ := Kd.R_slice ho; obtain ⟨n1o, hn1⟩ : ∃ n1, n1 = (x3 ++ [x]).length := ⟨_, rfl⟩; rw [← hn1] at ho hat ⊢; have HNo := Aside0.mk (HK2.out.app3 hx ho hg hat); have hso : w6o.heap[wo.heap.size]? = _ := (HK2.out.grown hg (Kd.R_base HK2.out.ob.r3)).2.2.2; have hsco := (kcl hso 3).trans (show _ = some (.slice A3 n3 c3) from rfl); have hsfo := kfz hso 3; clear hn1 ho hg hat hso))
              go_wp2
              go_roundw
              case rel => exact ⟨j + 1, x3 ++ [x], x4, x5, x6, A1o, A4, A5, A6, n1o, c1o, n4, c4, n5, c5, n6, c6, by go_num, by omega, ⟨(HNo.out.more (by omega)).mono (by omega)⟩⟩
              case measure => simp [intOf]; omega
            · have hc4' := HJ.out.old hc4 (by simp; omega)
              have hd0 := (HJ.out.cell 0).trans (show _ = some (.int .i64 q) from rfl)
              have hd1 := (HJ.out.cell 1).trans (show _ = some (.string ⟨#[]⟩) from rfl)
              have hd2 := (HJ.out.cell 2).trans (show _ = some (.int .i64 0) from rfl)
              have hd3 := (HJ.out.cell 3).trans (show _ = some (.slice A3 n3 c3) from rfl)
              have hd4 := (HJ.out.cell 4).trans (show _ = some (.slice A4 n4 c4) from rfl)
              have hd5 := (HJ.out.cell 5).trans (show _ = some (.slice A5 n5 c5) from rfl)
              have hd6 := (HJ.out.cell 6).trans (show _ = some (.slice A6 n6 c6) from rfl)
              have hgc1 := HJ.out.kp.blk hgc (by omega) (by simp)
              have g0 := HJ.out.old e0 (by simp; omega)
              have f0 := kfz hgc1 (m * 7)
              have g1 := HJ.out.old e1 (by simp; omega)
              have f1 := kfz hgc1 (m * 7 + 1)
              have g2 := HJ.out.old e2 (by simp; omega)
              have f2 := kfz hgc1 (m * 7 + 2)
              have g3 := HJ.out.old e3 (by simp; omega)
              have f3 := kfz hgc1 (m * 7 + 3)
              have g4 := HJ.out.old e4 (by simp; omega)
              have f4 := kfz hgc1 (m * 7 + 4)
              have g5 := HJ.out.old e5 (by simp; omega)
              have f5 := kfz hgc1 (m * 7 + 5)
              have g6 := HJ.out.old e6 (by simp; omega)
              have f6 := kfz hgc1 (m * 7 + 6)
              have HGC := Lib.hid hgc1
              clear hgc1
              have hw := blk_lt HJ.out.c9
              go_wp2_with fail
              go_roundw
              case rel => exact ⟨m + 1, l.set m ⟨q, ⟨#[]⟩, 0, x3, x4, x5, x6⟩, some ⟨gb, 0, none⟩, n, c, by go_num, ⟨((HQ.out.1.round hm hgb hgb1 hgb4 HJ.out.rn HJ.out.bl HJ.out.kp HJ.out.ob).mono (by omega)), HQ.out.2.1.next hm (oG_oB HJ.out.gd (by omega)), by simpa using HN.out⟩⟩
              case measure => simp [intOf]; omega
        · have HT := Aside0.mk ((HQ.out.1.tail HQ.out.2.1).mono (show 100 * (m : Int) ≤ 3000 by have := HQ.out.2.1.ml; have := HQ.out.2.1.hi; omega))
          have hmn : ¬ (m : Int) < (n : Int) := by have := HQ.out.2.2; omega
          obtain ⟨gb, rfl, hn', hnc, hgb, hgb4⟩ := HT.out.row
          have hn24 : n ≤ 24 := by have := HT.out.hi; omega
          have hn19 : 19 ≤ n := by have := HT.out.lo; omega
          clear hn' HQ hm
          have hc4 := HT.out.cell
          go_wp2_with fail
          refine (pick_w g 14 3000 w0 _ HT.out.rn HT.out.bl (by omega) (by omega)).mono ?_
          rintro e w3 ⟨p, rfl, _, _, hR3, hB3, hK3⟩
          have HT1 := Aside0.mk (HT.out.call hR3 hB3 hK3)
          clear hR3 hB3 hK3 hc4 HT
          by_cases hp : p = 0
          · subst hp
            go_wp2_with fail
            have hpda := (HT1.out.mono (show _ ≤ (3001 : Int) by omega)).drew
            refine start_ (n := 12) (S := fun w' => w'.cell? ⟨b4, 0, none⟩ = some (.slice (some ⟨gb, 0, none⟩) n c)) (ds := [11]) #[false, false, false, false, false, false, false, false, false, false, false, false] (by kernel_rfl) rfl rfl (hpda.cell) (fun hHeld => ?_)
            generalize w3.drew = w10a at hpda hHeld ⊢
            refine pure_ (i := 0) (N := some 136) (v := ?_) (a' := ?_) #[true, false, false, false, false, false, false, false, false, false, false, false] rfl rfl (by kernel_rfl) (fun _ _ _ h => h) (Or.inl ⟨by rfl, ?_⟩) ?_ ?_
            rotate_left
            · intro w'
              go_simp
              with_reducible rfl
            rotate_left
            · simp only [Act.put, List.setIfInBounds_toArray, List.set_cons_zero, List.set_cons_succ, i64_w, i32_w]
              rfl
            refine pure_ (i := 2) (N := some 138) (v := ?_) (a' := ?_) #[true, false, true, false, false, false, false, false, false, false, false, false] rfl rfl (by kernel_rfl) (fun _ _ _ h => h) (Or.inl ⟨by rfl, ?_⟩) ?_ ?_
            rotate_left
            · intro w'
              go_simp
              with_reducible rfl
            rotate_left
            · simp only [Act.put, List.setIfInBounds_toArray, List.set_cons_zero, List.set_cons_succ, i64_w, i32_w]
              rfl
            refine pure_ (i := 3) (N := some 139) (v := ?_) (a' := ?_) #[true, false, true, true, false, false, false, false, false, false, false, false] rfl rfl (by kernel_rfl) (fun _ _ _ h => h) (Or.inl ⟨by rfl, ?_⟩) ?_ ?_
            rotate_left
            · intro w'
              go_simp
              with_reducible rfl
            rotate_left
            · simp only [Act.put, List.setIfInBounds_toArray, List.set_cons_zero, List.set_cons_succ, i64_w, i32_w]
              rfl
            refine pure_ (i := 7) (N := some 143) (v := ?_) (a' := ?_) #[true, false, true, true, false, false, false, true, false, false, false, false] rfl rfl (by kernel_rfl) (fun _ _ _ h => h) (Or.inl ⟨by rfl, ?_⟩) ?_ ?_
            rotate_left
            · intro w'
              go_simp
              with_reducible rfl
            rotate_left
            · simp only [Act.put, List.setIfInBounds_toArray, List.set_cons_zero, List.set_cons_succ, i64_w, i32_w]
              rfl
            refine take_ (i := 1) (N := some 137) (v := ?_) (a' := ?_) #[true, true, true, true, false, false, false, true, false, false, false, false] rfl rfl (by kernel_rfl) (fun _ _ _ h => h) (Or.inl ⟨by rfl, ?_⟩) hHeld ?_ ?_
            rotate_left
            · intro w' s0
              go_simp
              with_reducible rfl
            rotate_left
            · simp only [Act.put, List.setIfInBounds_toArray, List.set_cons_zero, List.set_cons_succ, i64_w, i32_w]
              rfl
            refine take_ (i := 4) (N := some 140) (v := ?_) (a' := ?_) #[true, true, true, true, true, false, false, true, false, false, false, false] rfl rfl (by kernel_rfl) (fun _ _ _ h => h) (Or.inl ⟨by rfl, ?_⟩) hHeld ?_ ?_
            rotate_left
            · intro w' s0
              go_simp
              with_reducible rfl
            rotate_left
            · simp only [Act.put, List.setIfInBounds_toArray, List.set_cons_zero, List.set_cons_succ, i64_w, i32_w]
              rfl
            refine pure_ (i := 5) (N := some 141) (v := ?_) (a' := ?_) #[true, true, true, true, true, true, false, true, false, false, false, false] rfl rfl (by kernel_rfl) (fun _ _ _ h => h) (Or.inl ⟨by rfl, ?_⟩) ?_ ?_
            rotate_left
            · intro w'
              go_simp
              with_reducible rfl
            rotate_left
            · simp only [Act.put, List.setIfInBounds_toArray, List.set_cons_zero, List.set_cons_succ, i64_w, i32_w]
              rfl
            refine one_ (i := 6) (N := some 142) #[true, true, true, true, true, true, true, true, false, false, false, false] rfl rfl (by kernel_rfl) (by decide) (fun K hK => ?_)
            refine goes_ Try.func51 (by kernel_rfl) rfl #[.pointer (some ⟨g, 0, none⟩), .int .i64 (n : Int)] (by rfl) rfl rfl (by simp only [List.map_toArray, List.map_cons, List.map_nil]; rfl) ?_
            with_reducible refine (pick_w g n 3001 w0 _ hpda.rn hpda.bl (by omega) (by omega)).mono ?_
            rintro e w11a ⟨i0, rfl, hi0, hi1, hR11, hB11, hK11⟩
            refine ⟨_, rfl, ?_⟩
            have hp6a := hpda.call hR11 hB11 hK11
            clear hR11 hB11 hK11
            obtain ⟨ia, rfl⟩ := Int.eq_ofNat_of_zero_le hi0
            have hina : (ia : Int) < (n : Int) := hi1 (by omega)
            have hi0a : (0 : Int) ≤ (ia : Int) := Int.natCast_nonneg _
            clear hi0 hi1
            refine hK.out _ _ (hp6a.cell) (fun hHeld => ?_)
            clear hK K
            refine norm_ (a' := ?_) ?_ ?_
            rotate_left
            · show Act.put _ (some 142) _ = _
              simp only [Act.put, List.setIfInBounds_toArray, List.set_cons_zero, List.set_cons_succ, i64_w, i32_w]
              rfl
            refine one_ (i := 8) (N := some 144) #[true, true, true, true, true, true, true, true, true, false, false, false] rfl rfl (by kernel_rfl) (by decide) (fun K hK => ?_)
            refine goes_ Try.func92 (by kernel_rfl) rfl #[.pointer (some ⟨g, 0, none⟩)] (by rfl) rfl rfl (by simp only [List.map_toArray, List.map_cons, List.map_nil]; rfl) ?_
            with_reducible refine (odd_w g 3002 w0 _ hp6a.rn hp6a.bl (by omega)).mono ?_
            rintro e w12a ⟨ra, rfl, _, _, hR12, hB12, hK12⟩
            refine ⟨_, rfl, ?_⟩
            have hp8a := hp6a.call hR12 hB12 hK12
            clear hR12 hB12 hK12
            obtain ⟨_, ⟨u2a, hu2a⟩, _, hfza, _, hset⟩ := hp8a.elem hgb hgb4 ia (by omega)
            obtain ⟨l2a, hl2⟩ := hset ra
            have HTa := Aside0.mk hl2
            clear hset hl2
            refine hK.out _ _ (hp8a.cell) (fun hHeld => ?_)
            clear hK K
            refine norm_ (a' := ?_) ?_ ?_
            rotate_left
            · show Act.put _ (some 144) _ = _
              simp only [Act.put, List.setIfInBounds_toArray, List.set_cons_zero, List.set_cons_succ, i64_w, i32_w]
              rfl
            refine pure_ (i := 9) (N := some 145) (v := ?_) (a' := ?_) #[true, true, true, true, true, true, true, true, true, true, false, false] rfl rfl (by kernel_rfl) (fun _ _ _ h => h) (Or.inl ⟨by rfl, ?_⟩) ?_ ?_
            rotate_left
            · intro w'
              go_simp
              with_reducible rfl
            rotate_left
            · simp only [Act.put, List.setIfInBounds_toArray, List.set_cons_zero, List.set_cons_succ, i64_w, i32_w]
              rfl
            refine pure_ (i := 10) (N := some 146) (v := ?_) (a' := ?_) #[true, true, true, true, true, true, true, true, true, true, true, false] rfl rfl (by kernel_rfl) (fun _ _ _ h => h) (Or.inl ⟨by rfl, ?_⟩) ?_ ?_
            rotate_left
            · intro w'
              go_simp
              with_reducible rfl
            rotate_left
            · simp only [Act.put, List.setIfInBounds_toArray, List.set_cons_zero, List.set_cons_succ, i64_w, i32_w]
              rfl
            refine last_ (i := 11) (N := none) #[true, true, true, true, true, true, true, true, true, true, true, true] rfl rfl (by kernel_rfl) (by decide) (fun K hK => ?_)
            refine skip_ (w1 := ?_) (by rfl) rfl ?_ ?_
            rotate_left
            · go_simp
              rfl
            refine hK.out _ _ ?_
            clear hK K
            refine done_ (by kernel_rfl) ?_
            go_wp2_with fail
            refine (pick_w g 14 3010 w0 _ (HTa.out.rn.mono (by omega)) HTa.out.bl (by omega) (by omega)).mono ?_
            rintro e w4b ⟨p4b, rfl, _, _, hR4, hB4, hK4⟩
            have HTcb := Aside0.mk (HTa.out.call hR4 hB4 hK4)
            clear hR4 hB4 hK4
            by_cases hp4b : p4b = 0
            · subst hp4b
              go_wp2_with fail
              have hpdbk := (HTcb.out.mono (show _ ≤ (3011 : Int) by omega)).drew
              refine start_ (n := 14) (S := fun w' => w'.cell? ⟨b4, 0, none⟩ = some (.slice (some ⟨gb, 0, none⟩) n c)) (ds := [13]) #[false, false, false, false, false, false, false, false, false, false, false, false, false, false] (by kernel_rfl) rfl rfl (hpdbk.cell) (fun hHeld => ?_)
              generalize w4b.drew = w10bk at hpdbk hHeld ⊢
              refine pure_ (i := 0) (N := some 150) (v := ?_) (a' := ?_) #[true, false, false, false, false, false, false, false, false, false, false, false, false, false] rfl rfl (by kernel_rfl) (fun _ _ _ h => h) (Or.inl ⟨by rfl, ?_⟩) ?_ ?_
              rotate_left
              · intro w'
                go_simp
                with_reducible rfl
              rotate_left
              · simp only [Act.put, List.setIfInBounds_toArray, List.set_cons_zero, List.set_cons_succ, i64_w, i32_w]
                rfl
              refine pure_ (i := 2) (N := some 152) (v := ?_) (a' := ?_) #[true, false, true, false, false, false, false, false, false, false, false, false, false, false] rfl rfl (by kernel_rfl) (fun _ _ _ h => h) (Or.inl ⟨by rfl, ?_⟩) ?_ ?_
              rotate_left
              · intro w'
                go_simp
                with_reducible rfl
              rotate_left
              · simp only [Act.put, List.setIfInBounds_toArray, List.set_cons_zero, List.set_cons_succ, i64_w, i32_w]
                rfl
              refine pure_ (i := 3) (N := some 153) (v := ?_) (a' := ?_) #[true, false, true, true, false, false, false, false, false, false, false, false, false, false] rfl rfl (by kernel_rfl) (fun _ _ _ h => h) (Or.inl ⟨by rfl, ?_⟩) ?_ ?_
              rotate_left
              · intro w'
                go_simp
                with_reducible rfl
              rotate_left
              · simp only [Act.put, List.setIfInBounds_toArray, List.set_cons_zero, List.set_cons_succ, i64_w, i32_w]
                rfl
              refine pure_ (i := 7) (N := some 157) (v := ?_) (a' := ?_) #[true, false, true, true, false, false, false, true, false, false, false, false, false, false] rfl rfl (by kernel_rfl) (fun _ _ _ h => h) (Or.inl ⟨by rfl, ?_⟩) ?_ ?_
              rotate_left
              · intro w'
                go_simp
                with_reducible rfl
              rotate_left
              · simp only [Act.put, List.setIfInBounds_toArray, List.set_cons_zero, List.set_cons_succ, i64_w, i32_w]
                rfl
              refine pure_ (i := 8) (N := some 158) (v := ?_) (a' := ?_) #[true, false, true, true, false, false, false, true, true, false, false, false, false, false] rfl rfl (by kernel_rfl) (fun _ _ _ h => h) (Or.inl ⟨by rfl, ?_⟩) ?_ ?_
              rotate_left
              · intro w'
                go_simp
                with_reducible rfl
              rotate_left
              · simp only [Act.put, List.setIfInBounds_toArray, List.set_cons_zero, List.set_cons_succ, i64_w, i32_w]
                rfl
              refine take_ (i := 1) (N := some 151) (v := ?_) (a' := ?_) #[true, true, true, true, false, false, false, true, true, false, false, false, false, false] rfl rfl (by kernel_rfl) (fun _ _ _ h => h) (Or.inl ⟨by rfl, ?_⟩) hHeld ?_ ?_
              rotate_left
              · intro w' s0
                go_simp
                with_reducible rfl
              rotate_left
              · simp only [Act.put, List.setIfInBounds_toArray, List.set_cons_zero, List.set_cons_succ, i64_w, i32_w]
                rfl
              refine take_ (i := 4) (N := some 154) (v := ?_) (a' := ?_) #[true, true, true, true, true, false, false, true, true, false, false, false, false, false] rfl rfl (by kernel_rfl) (fun _ _ _ h => h) (Or.inl ⟨by rfl, ?_⟩) hHeld ?_ ?_
              rotate_left
              · intro w' s0
                go_simp
                with_reducible rfl
              rotate_left
              · simp only [Act.put, List.setIfInBounds_toArray, List.set_cons_zero, List.set_cons_succ, i64_w, i32_w]
                rfl
              refine pure_ (i := 5) (N := some 155) (v := ?_) (a' := ?_) #[true, true, true, true, true, true, false, true, true, false, false, false, false, false] rfl rfl (by kernel_rfl) (fun _ _ _ h => h) (Or.inl ⟨by rfl, ?_⟩) ?_ ?_
              rotate_left
              · intro w'
                go_simp
                with_reducible rfl
              rotate_left
              · simp only [Act.put, List.setIfInBounds_toArray, List.set_cons_zero, List.set_cons_succ, i64_w, i32_w]
                rfl
              refine one_ (i := 6) (N := some 156) #[true, true, true, true, true, true, true, true, true, false, false, false, false, false] rfl rfl (by kernel_rfl) (by decide) (fun K hK => ?_)
              refine goes_ Try.func51 (by kernel_rfl) rfl #[.pointer (some ⟨g, 0, none⟩), .int .i64 (n : Int)] (by rfl) rfl rfl (by simp only [List.map_toArray, List.map_cons, List.map_nil]; rfl) ?_
              with_reducible refine (pick_w g n 3011 w0 _ hpdbk.rn hpdbk.bl (by omega) (by omega)).mono ?_
              rintro e w11bk ⟨i0, rfl, hi0, hi1, hR11, hB11, hK11⟩
              refine ⟨_, rfl, ?_⟩
              have hp6bk := hpdbk.call hR11 hB11 hK11
              clear hR11 hB11 hK11
              obtain ⟨ibk, rfl⟩ := Int.eq_ofNat_of_zero_le hi0
              have hinbk : (ibk : Int) < (n : Int) := hi1 (by omega)
              have hi0bk : (0 : Int) ≤ (ibk : Int) := Int.natCast_nonneg _
              clear hi0 hi1
              refine hK.out _ _ (hp6bk.cell) (fun hHeld => ?_)
              clear hK K
              refine norm_ (a' := ?_) ?_ ?_
              rotate_left
              · show Act.put _ (some 156) _ = _
                simp only [Act.put, List.setIfInBounds_toArray, List.set_cons_zero, List.set_cons_succ, i64_w, i32_w]
                rfl
              refine one_ (i := 9) (N := some 159) #[true, true, true, true, true, true, true, true, true, true, false, false, false, false] rfl rfl (by kernel_rfl) (by decide) (fun K hK => ?_)
              refine goes_ Try.func51 (by kernel_rfl) rfl #[.pointer (some ⟨g, 0, none⟩), .int .i64 12] (by rfl) rfl rfl (by simp only [List.map_toArray, List.map_cons, List.map_nil]; rfl) ?_
              with_reducible refine (pick_w g 12 3012 w0 _ hp6bk.rn hp6bk.bl (by omega) (by omega)).mono ?_
              rintro e w13bk ⟨qbk, rfl, hq0, hq1, hR13, hB13, hK13⟩
              refine ⟨_, rfl, ?_⟩
              have hp9bk := hp6bk.call hR13 hB13 hK13
              clear hR13 hB13 hK13
              replace hq1 := hq1 (by decide)
              refine hK.out _ _ (hp9bk.cell) (fun hHeld => ?_)
              clear hK K
              refine norm_ (a' := ?_) ?_ ?_
              rotate_left
              · show Act.put _ (some 159) _ = _
                simp only [Act.put, List.setIfInBounds_toArray, List.set_cons_zero, List.set_cons_succ, i64_w, i32_w]
                rfl
              refine one_ (i := 10) (N := some 160) #[true, true, true, true, true, true, true, true, true, true, true, false, false, false] rfl rfl (by kernel_rfl) (by decide) (fun K hK => ?_)
              refine goes_ Try.func93 (by kernel_rfl) rfl #[.pointer (some ⟨g, 0, none⟩), .int .i64 qbk] (by rfl) rfl rfl (by simp only [List.map_toArray, List.map_cons, List.map_nil]; rfl) ?_
              with_reducible refine (often_w g qbk 3013 w0 _ hp9bk.rn hp9bk.bl (by omega) (by omega)).mono ?_
              rintro e w12bk ⟨rbk, rfl, _, _, hR12, hB12, hK12⟩
              refine ⟨_, rfl, ?_⟩
              have hp8bk := hp9bk.call hR12 hB12 hK12
              clear hR12 hB12 hK12 hq0 hq1
              obtain ⟨⟨u2bk, hu2bk⟩, _, hfzbk, _, hset, _⟩ := hp8bk.elem hgb hgb4 ibk (by omega)
              obtain ⟨l2bk, hl2⟩ := hset rbk
              have HTbk := Aside0.mk hl2
              clear hset hl2
              refine hK.out _ _ (hp8bk.cell) (fun hHeld => ?_)
              clear hK K
              refine norm_ (a' := ?_) ?_ ?_
              rotate_left
              · show Act.put _ (some 160) _ = _
                simp only [Act.put, List.setIfInBounds_toArray, List.set_cons_zero, List.set_cons_succ, i64_w, i32_w]
                rfl
              refine pure_ (i := 11) (N := some 161) (v := ?_) (a' := ?_) #[true, true, true, true, true, true, true, true, true, true, true, true, false, false] rfl rfl (by kernel_rfl) (fun _ _ _ h => h) (Or.inl ⟨by rfl, ?_⟩) ?_ ?_
              rotate_left
              · intro w'
                go_simp
                with_reducible rfl
              rotate_left
              · simp only [Act.put, List.setIfInBounds_toArray, List.set_cons_zero, List.set_cons_succ, i64_w, i32_w]
                rfl
              refine pure_ (i := 12) (N := some 162) (v := ?_) (a' := ?_) #[true, true, true, true, true, true, true, true, true, true, true, true, true, false] rfl rfl (by kernel_rfl) (fun _ _ _ h => h) (Or.inl ⟨by rfl, ?_⟩) ?_ ?_
              rotate_left
              · intro w'
                go_simp
                with_reducible rfl
              rotate_left
              · simp only [Act.put, List.setIfInBounds_toArray, List.set_cons_zero, List.set_cons_succ, i64_w, i32_w]
                rfl
              refine last_ (i := 13) (N := none) #[true, true, true, true, true, true, true, true, true, true, true, true, true, true] rfl rfl (by kernel_rfl) (by decide) (fun K hK => ?_)
              refine skip_ (w1 := ?_) (by rfl) rfl ?_ ?_
              rotate_left
              · go_simp
                rfl
              refine hK.out _ _ ?_
              clear hK K
              refine done_ (by kernel_rfl) ?_
              go_wp2_with fail
              have hpdbkz := (HTbk.out.mono (show _ ≤ (3015 : Int) by omega)).drew
              refine start_ (n := 8) (S := fun w' => w'.cell? ⟨b4, 0, none⟩ = some (.slice (some ⟨gb, 0, none⟩) n c)) (ds := [7]) #[false, false, false, false, false, false, false, false] (by kernel_rfl) rfl rfl (hpdbkz.cell) (fun hHeld => ?_)
              generalize (w12bk.setCell ⟨gb, ibk * 7, none⟩ (.int .i64 rbk)).drew = w10bkz at hpdbkz hHeld ⊢
              refine pure_ (i := 1) (N := some 164) (v := ?_) (a' := ?_) #[false, true, false, false, false, false, false, false] rfl rfl (by kernel_rfl) (fun _ _ _ h => h) (Or.inl ⟨by rfl, ?_⟩) ?_ ?_
              rotate_left
              · intro w'
                go_simp
                with_reducible rfl
              rotate_left
              · simp only [Act.put, List.setIfInBounds_toArray, List.set_cons_zero, List.set_cons_succ, i64_w, i32_w]
                rfl
              refine pure_ (i := 2) (N := some 165) (v := ?_) (a' := ?_) #[false, true, true, false, false, false, false, false] rfl rfl (by kernel_rfl) (fun _ _ _ h => h) (Or.inl ⟨by rfl, ?_⟩) ?_ ?_
              rotate_left
              · intro w'
                go_simp
                with_reducible rfl
              rotate_left
              · simp only [Act.put, List.setIfInBounds_toArray, List.set_cons_zero, List.set_cons_succ, i64_w, i32_w]
                rfl
              refine take_ (i := 0) (N := some 163) (v := ?_) (a' := ?_) #[true, true, true, false, false, false, false, false] rfl rfl (by kernel_rfl) (fun _ _ _ h => h) (Or.inl ⟨by rfl, ?_⟩) hHeld ?_ ?_
              rotate_left
              · intro w' s0
                go_simp
                with_reducible rfl
              rotate_left
              · simp only [Act.put, List.setIfInBounds_toArray, List.set_cons_zero, List.set_cons_succ, i64_w, i32_w]
                rfl
              refine take_ (i := 3) (N := some 166) (v := ?_) (a' := ?_) #[true, true, true, true, false, false, false, false] rfl rfl (by kernel_rfl) (fun _ _ _ h => h) (Or.inl ⟨by rfl, ?_⟩) hHeld ?_ ?_
              rotate_left
              · intro w' s0
                go_simp
                with_reducible rfl
              rotate_left
              · simp only [Act.put, List.setIfInBounds_toArray, List.set_cons_zero, List.set_cons_succ, i64_w, i32_w]
                rfl
              refine pure_ (i := 4) (N := some 167) (v := ?_) (a' := ?_) #[true, true, true, true, true, false, false, false] rfl rfl (by kernel_rfl) (fun _ _ _ h => h) (Or.inl ⟨by rfl, ?_⟩) ?_ ?_
              rotate_left
              · intro w'
                go_simp
                with_reducible rfl
              rotate_left
              · simp only [Act.put, List.setIfInBounds_toArray, List.set_cons_zero, List.set_cons_succ, i64_w, i32_w]
                rfl
              refine one_ (i := 5) (N := some 168) #[true, true, true, true, true, true, false, false] rfl rfl (by kernel_rfl) (by decide) (fun K hK => ?_)
              refine goes_ Try.func52 (by kernel_rfl) rfl #[.pointer (some ⟨g, 0, none⟩), .int .i64 (n : Int)] (by rfl) rfl rfl (by simp only [List.map_toArray, List.map_cons, List.map_nil]; rfl) ?_
              with_reducible refine (value_w g n 3015 w0 _ hpdbkz.rn hpdbkz.bl (by omega) (by omega) (by omega)).mono ?_
              rintro e w11bkz ⟨xbkz, rfl, hxbkz, hR11, hB11, hK11⟩
              refine ⟨_, rfl, ?_⟩
              have hp6bkz := hpdbkz.call hR11 hB11 hK11
              clear hR11 hB11 hK11
              have hz0bkz := (kcl hp6bkz.c2 0).trans (show _ = some (.slice none 0 0) from rfl)
              have hzfbkz := kfz hp6bkz.c2 0
              have hybkz := blk_far (p := ⟨w.heap.size, 0, none⟩) hp6bkz.c3 (by simp) (.slice (some ⟨gb, 0, none⟩) n c)
              have hy0bkz := (kcl hybkz 0).trans (show _ = some (.int .i64 0) from rfl)
              have hy1bkz := (kcl hybkz 1).trans (show _ = some (.string ⟨#[]⟩) from rfl)
              have hy2bkz := (kcl hybkz 2).trans (show _ = some (.int .i64 0) from rfl)
              have hf0bkz := kfz hybkz 0
              have hf1bkz := kfz hybkz 1
              have hf2bkz := kfz hybkz 2
              have HPbkz := Aside0.mk hp6bkz
              have HYbkz := Aside0.mk hybkz
              clear hybkz
              refine hK.out _ _ (hp6bkz.cell) (fun hHeld => ?_)
              clear hK K
              refine norm_ (a' := ?_) ?_ ?_
              rotate_left
              · show Act.put _ (some 168) _ = _
                simp only [Act.put, List.setIfInBounds_toArray, List.set_cons_zero, List.set_cons_succ, i64_w, i32_w]
                rfl
              refine one_ (i := 6) (N := none) #[true, true, true, true, true, true, true, false] rfl rfl (by kernel_rfl) (by decide) (fun K hK => ?_)
              refine skip_ (w1 := ?_) (by rfl) rfl ?_ ?_
              rotate_left
              · go_simp
                rfl
              refine hK.out _ _ ((kcl (blk_far (p := ⟨w.heap.size, 0, none⟩) HPbkz.out.c4 (by have := HPbkz.out.h4; simp; omega) (.slice (some ⟨gb, 0, none⟩) n c)) 0).trans rfl) (fun hHeld => ?_)
              clear hK K
              refine last_ (i := 7) (N := none) #[true, true, true, true, true, true, true, true] rfl rfl (by kernel_rfl) (by decide) (fun K hK => ?_)
              refine skip_ (w1 := ?_) (by rfl) rfl ?_ ?_
              rotate_left
              · go_simp
                rfl
              refine hK.out _ _ ?_
              clear hK K
              refine done_ (by kernel_rfl) ?_
              go_wp2_with fail
              obtain ⟨o2, o3, hpost⟩ := HPbkz.out.fin (by omega) hxbkz rfl
              refine bodyPost_ret (v := .tuple #[.agg #[(.slice (some ⟨gb, 0, none⟩) n c)], .agg #[.int .i64 xbkz.f0, .string xbkz.f1, .int .i64 xbkz.f2]]) (B.res_cc rfl _ _ w.heap.size (w.heap.size + 1) 25 35 _ _ (0, 0) (0, 0) _ _ rfl o2 Try.underlying25 rfl rfl rfl o3 Try.underlying35 rfl rfl) rfl hpost
            · have hpb4b : (p4b == 0) = false := by simpa using hp4b
              go_wp2_with fail
              have hpdbz := (HTcb.out.mono (show _ ≤ (3011 : Int) by omega)).drew
              refine start_ (n := 8) (S := fun w' => w'.cell? ⟨b4, 0, none⟩ = some (.slice (some ⟨gb, 0, none⟩) n c)) (ds := [7]) #[false, false, false, false, false, false, false, false] (by kernel_rfl) rfl rfl (hpdbz.cell) (fun hHeld => ?_)
              generalize w4b.drew = w10bz at hpdbz hHeld ⊢
              refine pure_ (i := 1) (N := some 164) (v := ?_) (a' := ?_) #[false, true, false, false, false, false, false, false] rfl rfl (by kernel_rfl) (fun _ _ _ h => h) (Or.inl ⟨by rfl, ?_⟩) ?_ ?_
              rotate_left
              · intro w'
                go_simp
                with_reducible rfl
              rotate_left
              · simp only [Act.put, List.setIfInBounds_toArray, List.set_cons_zero, List.set_cons_succ, i64_w, i32_w]
                rfl
              refine pure_ (i := 2) (N := some 165) (v := ?_) (a' := ?_) #[false, true, true, false, false, false, false, false] rfl rfl (by kernel_rfl) (fun _ _ _ h => h) (Or.inl ⟨by rfl, ?_⟩) ?_ ?_
              rotate_left
              · intro w'
                go_simp
                with_reducible rfl
              rotate_left
              · simp only [Act.put, List.setIfInBounds_toArray, List.set_cons_zero, List.set_cons_succ, i64_w, i32_w]
                rfl
              refine take_ (i := 0) (N := some 163) (v := ?_) (a' := ?_) #[true, true, true, false, false, false, false, false] rfl rfl (by kernel_rfl) (fun _ _ _ h => h) (Or.inl ⟨by rfl, ?_⟩) hHeld ?_ ?_
              rotate_left
              · intro w' s0
                go_simp
                with_reducible rfl
              rotate_left
              · simp only [Act.put, List.setIfInBounds_toArray, List.set_cons_zero, List.set_cons_succ, i64_w, i32_w]
                rfl
              refine take_ (i := 3) (N := some 166) (v := ?_) (a' := ?_) #[true, true, true, true, false, false, false, false] rfl rfl (by kernel_rfl) (fun _ _ _ h => h) (Or.inl ⟨by rfl, ?_⟩) hHeld ?_ ?_
              rotate_left
              · intro w' s0
                go_simp
                with_reducible rfl
              rotate_left
              · simp only [Act.put, List.setIfInBounds_toArray, List.set_cons_zero, List.set_cons_succ, i64_w, i32_w]
                rfl
              refine pure_ (i := 4) (N := some 167) (v := ?_) (a' := ?_) #[true, true, true, true, true, false, false, false] rfl rfl (by kernel_rfl) (fun _ _ _ h => h) (Or.inl ⟨by rfl, ?_⟩) ?_ ?_
              rotate_left
              · intro w'
                go_simp
                with_reducible rfl
              rotate_left
              · simp only [Act.put, List.setIfInBounds_toArray, List.set_cons_zero, List.set_cons_succ, i64_w, i32_w]
                rfl
              refine one_ (i := 5) (N := some 168) #[true, true, true, true, true, true, false, false] rfl rfl (by kernel_rfl) (by decide) (fun K hK => ?_)
              refine goes_ Try.func52 (by kernel_rfl) rfl #[.pointer (some ⟨g, 0, none⟩), .int .i64 (n : Int)] (by rfl) rfl rfl (by simp only [List.map_toArray, List.map_cons, List.map_nil]; rfl) ?_
              with_reducible refine (value_w g n 3011 w0 _ hpdbz.rn hpdbz.bl (by omega) (by omega) (by omega)).mono ?_
              rintro e w11bz ⟨xbz, rfl, hxbz, hR11, hB11, hK11⟩
              refine ⟨_, rfl, ?_⟩
              have hp6bz := hpdbz.call hR11 hB11 hK11
              clear hR11 hB11 hK11
              have hz0bz := (kcl hp6bz.c2 0).trans (show _ = some (.slice none 0 0) from rfl)
              have hzfbz := kfz hp6bz.c2 0
              have hybz := blk_far (p := ⟨w.heap.size, 0, none⟩) hp6bz.c3 (by simp) (.slice (some ⟨gb, 0, none⟩) n c)
              have hy0bz := (kcl hybz 0).trans (show _ = some (.int .i64 0) from rfl)
              have hy1bz := (kcl hybz 1).trans (show _ = some (.string ⟨#[]⟩) from rfl)
              have hy2bz := (kcl hybz 2).trans (show _ = some (.int .i64 0) from rfl)
              have hf0bz := kfz hybz 0
              have hf1bz := kfz hybz 1
              have hf2bz := kfz hybz 2
              have HPbz := Aside0.mk hp6bz
              have HYbz := Aside0.mk hybz
              clear hybz
              refine hK.out _ _ (hp6bz.cell) (fun hHeld => ?_)
              clear hK K
              refine norm_ (a' := ?_) ?_ ?_
              rotate_left
              · show Act.put _ (some 168) _ = _
                simp only [Act.put, List.setIfInBounds_toArray, List.set_cons_zero, List.set_cons_succ, i64_w, i32_w]
                rfl
              refine one_ (i := 6) (N := none) #[true, true, true, true, true, true, true, false] rfl rfl (by kernel_rfl) (by decide) (fun K hK => ?_)
              refine skip_ (w1 := ?_) (by rfl) rfl ?_ ?_
              rotate_left
              · go_simp
                rfl
              refine hK.out _ _ ((kcl (blk_far (p := ⟨w.heap.size, 0, none⟩) HPbz.out.c4 (by have := HPbz.out.h4; simp; omega) (.slice (some ⟨gb, 0, none⟩) n c)) 0).trans rfl) (fun hHeld => ?_)
              clear hK K
              refine last_ (i := 7) (N := none) #[true, true, true, true, true, true, true, true] rfl rfl (by kernel_rfl) (by decide) (fun K hK => ?_)
              refine skip_ (w1 := ?_) (by rfl) rfl ?_ ?_
              rotate_left
              · go_simp
                rfl
              refine hK.out _ _ ?_
              clear hK K
              refine done_ (by kernel_rfl) ?_
              go_wp2_with fail
              obtain ⟨o2, o3, hpost⟩ := HPbz.out.fin (by omega) hxbz rfl
              refine bodyPost_ret (v := .tuple #[.agg #[(.slice (some ⟨gb, 0, none⟩) n c)], .agg #[.int .i64 xbz.f0, .string xbz.f1, .int .i64 xbz.f2]]) (B.res_cc rfl _ _ w.heap.size (w.heap.size + 1) 25 35 _ _ (0, 0) (0, 0) _ _ rfl o2 Try.underlying25 rfl rfl rfl o3 Try.underlying35 rfl rfl) rfl hpost
          · have hpb : (p == 0) = false := by simpa using hp
            go_wp2_with fail
            refine (pick_w g 14 3001 w0 _ (HT1.out.rn.mono (by omega)) HT1.out.bl (by omega) (by omega)).mono ?_
            rintro e w4c ⟨p4c, rfl, _, _, hR4, hB4, hK4⟩
            have HTcc := Aside0.mk (HT1.out.call hR4 hB4 hK4)
            clear hR4 hB4 hK4
            by_cases hp4c : p4c = 0
            · subst hp4c
              go_wp2_with fail
              have hpdck := (HTcc.out.mono (show _ ≤ (3002 : Int) by omega)).drew
              refine start_ (n := 14) (S := fun w' => w'.cell? ⟨b4, 0, none⟩ = some (.slice (some ⟨gb, 0, none⟩) n c)) (ds := [13]) #[false, false, false, false, false, false, false, false, false, false, false, false, false, false] (by kernel_rfl) rfl rfl (hpdck.cell) (fun hHeld => ?_)
              generalize w4c.drew = w10ck at hpdck hHeld ⊢
              refine pure_ (i := 0) (N := some 150) (v := ?_) (a' := ?_) #[true, false, false, false, false, false, false, false, false, false, false, false, false, false] rfl rfl (by kernel_rfl) (fun _ _ _ h => h) (Or.inl ⟨by rfl, ?_⟩) ?_ ?_
              rotate_left
              · intro w'
                go_simp
                with_reducible rfl
              rotate_left
              · simp only [Act.put, List.setIfInBounds_toArray, List.set_cons_zero, List.set_cons_succ, i64_w, i32_w]
                rfl
              refine pure_ (i := 2) (N := some 152) (v := ?_) (a' := ?_) #[true, false, true, false, false, false, false, false, false, false, false, false, false, false] rfl rfl (by kernel_rfl) (fun _ _ _ h => h) (Or.inl ⟨by rfl, ?_⟩) ?_ ?_
              rotate_left
              · intro w'
                go_simp
                with_reducible rfl
              rotate_left
              · simp only [Act.put, List.setIfInBounds_toArray, List.set_cons_zero, List.set_cons_succ, i64_w, i32_w]
                rfl
              refine pure_ (i := 3) (N := some 153) (v := ?_) (a' := ?_) #[true, false, true, true, false, false, false, false, false, false, false, false, false, false] rfl rfl (by kernel_rfl) (fun _ _ _ h => h) (Or.inl ⟨by rfl, ?_⟩) ?_ ?_
              rotate_left
              · intro w'
                go_simp
                with_reducible rfl
              rotate_left
              · simp only [Act.put, List.setIfInBounds_toArray, List.set_cons_zero, List.set_cons_succ, i64_w, i32_w]
                rfl
              refine pure_ (i := 7) (N := some 157) (v := ?_) (a' := ?_) #[true, false, true, true, false, false, false, true, false, false, false, false, false, false] rfl rfl (by kernel_rfl) (fun _ _ _ h => h) (Or.inl ⟨by rfl, ?_⟩) ?_ ?_
              rotate_left
              · intro w'
                go_simp
                with_reducible rfl
              rotate_left
              · simp only [Act.put, List.setIfInBounds_toArray, List.set_cons_zero, List.set_cons_succ, i64_w, i32_w]
                rfl
              refine pure_ (i := 8) (N := some 158) (v := ?_) (a' := ?_) #[true, false, true, true, false, false, false, true, true, false, false, false, false, false] rfl rfl (by kernel_rfl) (fun _ _ _ h => h) (Or.inl ⟨by rfl, ?_⟩) ?_ ?_
              rotate_left
              · intro w'
                go_simp
                with_reducible rfl
              rotate_left
              · simp only [Act.put, List.setIfInBounds_toArray, List.set_cons_zero, List.set_cons_succ, i64_w, i32_w]
                rfl
              refine take_ (i := 1) (N := some 151) (v := ?_) (a' := ?_) #[true, true, true, true, false, false, false, true, true, false, false, false, false, false] rfl rfl (by kernel_rfl) (fun _ _ _ h => h) (Or.inl ⟨by rfl, ?_⟩) hHeld ?_ ?_
              rotate_left
              · intro w' s0
                go_simp
                with_reducible rfl
              rotate_left
              · simp only [Act.put, List.setIfInBounds_toArray, List.set_cons_zero, List.set_cons_succ, i64_w, i32_w]
                rfl
              refine take_ (i := 4) (N := some 154) (v := ?_) (a' := ?_) #[true, true, true, true, true, false, false, true, true, false, false, false, false, false] rfl rfl (by kernel_rfl) (fun _ _ _ h => h) (Or.inl ⟨by rfl, ?_⟩) hHeld ?_ ?_
              rotate_left
              · intro w' s0
                go_simp
                with_reducible rfl
              rotate_left
              · simp only [Act.put, List.setIfInBounds_toArray, List.set_cons_zero, List.set_cons_succ, i64_w, i32_w]
                rfl
              refine pure_ (i := 5) (N := some 155) (v := ?_) (a' := ?_) #[true, true, true, true, true, true, false, true, true, false, false, false, false, false] rfl rfl (by kernel_rfl) (fun _ _ _ h => h) (Or.inl ⟨by rfl, ?_⟩) ?_ ?_
              rotate_left
              · intro w'
                go_simp
                with_reducible rfl
              rotate_left
              · simp only [Act.put, List.setIfInBounds_toArray, List.set_cons_zero, List.set_cons_succ, i64_w, i32_w]
                rfl
              refine one_ (i := 6) (N := some 156) #[true, true, true, true, true, true, true, true, true, false, false, false, false, false] rfl rfl (by kernel_rfl) (by decide) (fun K hK => ?_)
              refine goes_ Try.func51 (by kernel_rfl) rfl #[.pointer (some ⟨g, 0, none⟩), .int .i64 (n : Int)] (by rfl) rfl rfl (by simp only [List.map_toArray, List.map_cons, List.map_nil]; rfl) ?_
              with_reducible refine (pick_w g n 3002 w0 _ hpdck.rn hpdck.bl (by omega) (by omega)).mono ?_
              rintro e w11ck ⟨i0, rfl, hi0, hi1, hR11, hB11, hK11⟩
              refine ⟨_, rfl, ?_⟩
              have hp6ck := hpdck.call hR11 hB11 hK11
              clear hR11 hB11 hK11
              obtain ⟨ick, rfl⟩ := Int.eq_ofNat_of_zero_le hi0
              have hinck : (ick : Int) < (n : Int) := hi1 (by omega)
              have hi0ck : (0 : Int) ≤ (ick : Int) := Int.natCast_nonneg _
              clear hi0 hi1
              refine hK.out _ _ (hp6ck.cell) (fun hHeld => ?_)
              clear hK K
              refine norm_ (a' := ?_) ?_ ?_
              rotate_left
              · show Act.put _ (some 156) _ = _
                simp only [Act.put, List.setIfInBounds_toArray, List.set_cons_zero, List.set_cons_succ, i64_w, i32_w]
                rfl
              refine one_ (i := 9) (N := some 159) #[true, true, true, true, true, true, true, true, true, true, false, false, false, false] rfl rfl (by kernel_rfl) (by decide) (fun K hK => ?_)
              refine goes_ Try.func51 (by kernel_rfl) rfl #[.pointer (some ⟨g, 0, none⟩), .int .i64 12] (by rfl) rfl rfl (by simp only [List.map_toArray, List.map_cons, List.map_nil]; rfl) ?_
              with_reducible refine (pick_w g 12 3003 w0 _ hp6ck.rn hp6ck.bl (by omega) (by omega)).mono ?_
              rintro e w13ck ⟨qck, rfl, hq0, hq1, hR13, hB13, hK13⟩
              refine ⟨_, rfl, ?_⟩
              have hp9ck := hp6ck.call hR13 hB13 hK13
              clear hR13 hB13 hK13
              replace hq1 := hq1 (by decide)
              refine hK.out _ _ (hp9ck.cell) (fun hHeld => ?_)
              clear hK K
              refine norm_ (a' := ?_) ?_ ?_
              rotate_left
              · show Act.put _ (some 159) _ = _
                simp only [Act.put, List.setIfInBounds_toArray, List.set_cons_zero, List.set_cons_succ, i64_w, i32_w]
                rfl
              refine one_ (i := 10) (N := some 160) #[true, true, true, true, true, true, true, true, true, true, true, false, false, false] rfl rfl (by kernel_rfl) (by decide) (fun K hK => ?_)
              refine goes_ Try.func93 (by kernel_rfl) rfl #[.pointer (some ⟨g, 0, none⟩), .int .i64 qck] (by rfl) rfl rfl (by simp only [List.map_toArray, List.map_cons, List.map_nil]; rfl) ?_
              with_reducible refine (often_w g qck 3004 w0 _ hp9ck.rn hp9ck.bl (by omega) (by omega)).mono ?_
              rintro e w12ck ⟨rck, rfl, _, _, hR12, hB12, hK12⟩
              refine ⟨_, rfl, ?_⟩
              have hp8ck := hp9ck.call hR12 hB12 hK12
              clear hR12 hB12 hK12 hq0 hq1
              obtain ⟨⟨u2ck, hu2ck⟩, _, hfzck, _, hset, _⟩ := hp8ck.elem hgb hgb4 ick (by omega)
              obtain ⟨l2ck, hl2⟩ := hset rck
              have HTck := Aside0.mk hl2
              clear hset hl2
              refine hK.out _ _ (hp8ck.cell) (fun hHeld => ?_)
              clear hK K
              refine norm_ (a' := ?_) ?_ ?_
              rotate_left
              · show Act.put _ (some 160) _ = _
                simp only [Act.put, List.setIfInBounds_toArray, List.set_cons_zero, List.set_cons_succ, i64_w, i32_w]
                rfl
              refine pure_ (i := 11) (N := some 161) (v := ?_) (a' := ?_) #[true, true, true, true, true, true, true, true, true, true, true, true, false, false] rfl rfl (by kernel_rfl) (fun _ _ _ h => h) (Or.inl ⟨by rfl, ?_⟩) ?_ ?_
              rotate_left
              · intro w'
                go_simp
                with_reducible rfl
              rotate_left
              · simp only [Act.put, List.setIfInBounds_toArray, List.set_cons_zero, List.set_cons_succ, i64_w, i32_w]
                rfl
              refine pure_ (i := 12) (N := some 162) (v := ?_) (a' := ?_) #[true, true, true, true, true, true, true, true, true, true, true, true, true, false] rfl rfl (by kernel_rfl) (fun _ _ _ h => h) (Or.inl ⟨by rfl, ?_⟩) ?_ ?_
              rotate_left
              · intro w'
                go_simp
                with_reducible rfl
              rotate_left
              · simp only [Act.put, List.setIfInBounds_toArray, List.set_cons_zero, List.set_cons_succ, i64_w, i32_w]
                rfl
              refine last_ (i := 13) (N := none) #[true, true, true, true, true, true, true, true, true, true, true, true, true, true] rfl rfl (by kernel_rfl) (by decide) (fun K hK => ?_)
              refine skip_ (w1 := ?_) (by rfl) rfl ?_ ?_
              rotate_left
              · go_simp
                rfl
              refine hK.out _ _ ?_
              clear hK K
              refine done_ (by kernel_rfl) ?_
              go_wp2_with fail
              have hpdckz := (HTck.out.mono (show _ ≤ (3006 : Int) by omega)).drew
              refine start_ (n := 8) (S := fun w' => w'.cell? ⟨b4, 0, none⟩ = some (.slice (some ⟨gb, 0, none⟩) n c)) (ds := [7]) #[false, false, false, false, false, false, false, false] (by kernel_rfl) rfl rfl (hpdckz.cell) (fun hHeld => ?_)
              generalize (w12ck.setCell ⟨gb, ick * 7, none⟩ (.int .i64 rck)).drew = w10ckz at hpdckz hHeld ⊢
              refine pure_ (i := 1) (N := some 164) (v := ?_) (a' := ?_) #[false, true, false, false, false, false, false, false] rfl rfl (by kernel_rfl) (fun _ _ _ h => h) (Or.inl ⟨by rfl, ?_⟩) ?_ ?_
              rotate_left
              · intro w'
                go_simp
                with_reducible rfl
              rotate_left
              · simp only [Act.put, List.setIfInBounds_toArray, List.set_cons_zero, List.set_cons_succ, i64_w, i32_w]
                rfl
              refine pure_ (i := 2) (N := some 165) (v := ?_) (a' := ?_) #[false, true, true, false, false, false, false, false] rfl rfl (by kernel_rfl) (fun _ _ _ h => h) (Or.inl ⟨by rfl, ?_⟩) ?_ ?_
              rotate_left
              · intro w'
                go_simp
                with_reducible rfl
              rotate_left
              · simp only [Act.put, List.setIfInBounds_toArray, List.set_cons_zero, List.set_cons_succ, i64_w, i32_w]
                rfl
              refine take_ (i := 0) (N := some 163) (v := ?_) (a' := ?_) #[true, true, true, false, false, false, false, false] rfl rfl (by kernel_rfl) (fun _ _ _ h => h) (Or.inl ⟨by rfl, ?_⟩) hHeld ?_ ?_
              rotate_left
              · intro w' s0
                go_simp
                with_reducible rfl
              rotate_left
              · simp only [Act.put, List.setIfInBounds_toArray, List.set_cons_zero, List.set_cons_succ, i64_w, i32_w]
                rfl
              refine take_ (i := 3) (N := some 166) (v := ?_) (a' := ?_) #[true, true, true, true, false, false, false, false] rfl rfl (by kernel_rfl) (fun _ _ _ h => h) (Or.inl ⟨by rfl, ?_⟩) hHeld ?_ ?_
              rotate_left
              · intro w' s0
                go_simp
                with_reducible rfl
              rotate_left
              · simp only [Act.put, List.setIfInBounds_toArray, List.set_cons_zero, List.set_cons_succ, i64_w, i32_w]
                rfl
              refine pure_ (i := 4) (N := some 167) (v := ?_) (a' := ?_) #[true, true, true, true, true, false, false, false] rfl rfl (by kernel_rfl) (fun _ _ _ h => h) (Or.inl ⟨by rfl, ?_⟩) ?_ ?_
              rotate_left
              · intro w'
                go_simp
                with_reducible rfl
              rotate_left
              · simp only [Act.put, List.setIfInBounds_toArray, List.set_cons_zero, List.set_cons_succ, i64_w, i32_w]
                rfl
              refine one_ (i := 5) (N := some 168) #[true, true, true, true, true, true, false, false] rfl rfl (by kernel_rfl) (by decide) (fun K hK => ?_)
              refine goes_ Try.func52 (by kernel_rfl) rfl #[.pointer (some ⟨g, 0, none⟩), .int .i64 (n : Int)] (by rfl) rfl rfl (by simp only [List.map_toArray, List.map_cons, List.map_nil]; rfl) ?_
              with_reducible refine (value_w g n 3006 w0 _ hpdckz.rn hpdckz.bl (by omega) (by omega) (by omega)).mono ?_
              rintro e w11ckz ⟨xckz, rfl, hxckz, hR11, hB11, hK11⟩
              refine ⟨_, rfl, ?_⟩
              have hp6ckz := hpdckz.call hR11 hB11 hK11
              clear hR11 hB11 hK11
              have hz0ckz := (kcl hp6ckz.c2 0).trans (show _ = some (.slice none 0 0) from rfl)
              have hzfckz := kfz hp6ckz.c2 0
              have hyckz := blk_far (p := ⟨w.heap.size, 0, none⟩) hp6ckz.c3 (by simp) (.slice (some ⟨gb, 0, none⟩) n c)
              have hy0ckz := (kcl hyckz 0).trans (show _ = some (.int .i64 0) from rfl)
              have hy1ckz := (kcl hyckz 1).trans (show _ = some (.string ⟨#[]⟩) from rfl)
              have hy2ckz := (kcl hyckz 2).trans (show _ = some (.int .i64 0) from rfl)
              have hf0ckz := kfz hyckz 0
              have hf1ckz := kfz hyckz 1
              have hf2ckz := kfz hyckz 2
              have HPckz := Aside0.mk hp6ckz
              have HYckz := Aside0.mk hyckz
              clear hyckz
              refine hK.out _ _ (hp6ckz.cell) (fun hHeld => ?_)
              clear hK K
              refine norm_ (a' := ?_) ?_ ?_
              rotate_left
              · show Act.put _ (some 168) _ = _
                simp only [Act.put, List.setIfInBounds_toArray, List.set_cons_zero, List.set_cons_succ, i64_w, i32_w]
                rfl
              refine one_ (i := 6) (N := none) #[true, true, true, true, true, true, true, false] rfl rfl (by kernel_rfl) (by decide) (fun K hK => ?_)
              refine skip_ (w1 := ?_) (by rfl) rfl ?_ ?_
              rotate_left
              · go_simp
                rfl
              refine hK.out _ _ ((kcl (blk_far (p := ⟨w.heap.size, 0, none⟩) HPckz.out.c4 (by have := HPckz.out.h4; simp; omega) (.slice (some ⟨gb, 0, none⟩) n c)) 0).trans rfl) (fun hHeld => ?_)
              clear hK K
              refine last_ (i := 7) (N := none) #[true, true, true, true, true, true, true, true] rfl rfl (by kernel_rfl) (by decide) (fun K hK => ?_)
              refine skip_ (w1 := ?_) (by rfl) rfl ?_ ?_
              rotate_left
              · go_simp
                rfl
              refine hK.out _ _ ?_
              clear hK K
              refine done_ (by kernel_rfl) ?_
              go_wp2_with fail
              obtain ⟨o2, o3, hpost⟩ := HPckz.out.fin (by omega) hxckz rfl
              refine bodyPost_ret (v := .tuple #[.agg #[(.slice (some ⟨gb, 0, none⟩) n c)], .agg #[.int .i64 xckz.f0, .string xckz.f1, .int .i64 xckz.f2]]) (B.res_cc rfl _ _ w.heap.size (w.heap.size + 1) 25 35 _ _ (0, 0) (0, 0) _ _ rfl o2 Try.underlying25 rfl rfl rfl o3 Try.underlying35 rfl rfl) rfl hpost
            · have hpb4c : (p4c == 0) = false := by simpa using hp4c
              go_wp2_with fail
              have hpdcz := (HTcc.out.mono (show _ ≤ (3002 : Int) by omega)).drew
              refine start_ (n := 8) (S := fun w' => w'.cell? ⟨b4, 0, none⟩ = some (.slice (some ⟨gb, 0, none⟩) n c)) (ds := [7]) #[false, false, false, false, false, false, false, false] (by kernel_rfl) rfl rfl (hpdcz.cell) (fun hHeld => ?_)
              generalize w4c.drew = w10cz at hpdcz hHeld ⊢
              refine pure_ (i := 1) (N := some 164) (v := ?_) (a' := ?_) #[false, true, false, false, false, false, false, false] rfl rfl (by kernel_rfl) (fun _ _ _ h => h) (Or.inl ⟨by rfl, ?_⟩) ?_ ?_
              rotate_left
              · intro w'
                go_simp
                with_reducible rfl
              rotate_left
              · simp only [Act.put, List.setIfInBounds_toArray, List.set_cons_zero, List.set_cons_succ, i64_w, i32_w]
                rfl
              refine pure_ (i := 2) (N := some 165) (v := ?_) (a' := ?_) #[false, true, true, false, false, false, false, false] rfl rfl (by kernel_rfl) (fun _ _ _ h => h) (Or.inl ⟨by rfl, ?_⟩) ?_ ?_
              rotate_left
              · intro w'
                go_simp
                with_reducible rfl
              rotate_left
              · simp only [Act.put, List.setIfInBounds_toArray, List.set_cons_zero, List.set_cons_succ, i64_w, i32_w]
                rfl
              refine take_ (i := 0) (N := some 163) (v := ?_) (a' := ?_) #[true, true, true, false, false, false, false, false] rfl rfl (by kernel_rfl) (fun _ _ _ h => h) (Or.inl ⟨by rfl, ?_⟩) hHeld ?_ ?_
              rotate_left
              · intro w' s0
                go_simp
                with_reducible rfl
              rotate_left
              · simp only [Act.put, List.setIfInBounds_toArray, List.set_cons_zero, List.set_cons_succ, i64_w, i32_w]
                rfl
              refine take_ (i := 3) (N := some 166) (v := ?_) (a' := ?_) #[true, true, true, true, false, false, false, false] rfl rfl (by kernel_rfl) (fun _ _ _ h => h) (Or.inl ⟨by rfl, ?_⟩) hHeld ?_ ?_
              rotate_left
              · intro w' s0
                go_simp
                with_reducible rfl
              rotate_left
              · simp only [Act.put, List.setIfInBounds_toArray, List.set_cons_zero, List.set_cons_succ, i64_w, i32_w]
                rfl
              refine pure_ (i := 4) (N := some 167) (v := ?_) (a' := ?_) #[true, true, true, true, true, false, false, false] rfl rfl (by kernel_rfl) (fun _ _ _ h => h) (Or.inl ⟨by rfl, ?_⟩) ?_ ?_
              rotate_left
              · intro w'
                go_simp
                with_reducible rfl
              rotate_left
              · simp only [Act.put, List.setIfInBounds_toArray, List.set_cons_zero, List.set_cons_succ, i64_w, i32_w]
                rfl
              refine one_ (i := 5) (N := some 168) #[true, true, true, true, true, true, false, false] rfl rfl (by kernel_rfl) (by decide) (fun K hK => ?_)
              refine goes_ Try.func52 (by kernel_rfl) rfl #[.pointer (some ⟨g, 0, none⟩), .int .i64 (n : Int)] (by rfl) rfl rfl (by simp only [List.map_toArray, List.map_cons, List.map_nil]; rfl) ?_
              with_reducible refine (value_w g n 3002 w0 _ hpdcz.rn hpdcz.bl (by omega) (by omega) (by omega)).mono ?_
              rintro e w11cz ⟨xcz, rfl, hxcz, hR11, hB11, hK11⟩
              refine ⟨_, rfl, ?_⟩
              have hp6cz := hpdcz.call hR11 hB11 hK11
              clear hR11 hB11 hK11
              have hz0cz := (kcl hp6cz.c2 0).trans (show _ = some (.slice none 0 0) from rfl)
              have hzfcz := kfz hp6cz.c2 0
              have hycz := blk_far (p := ⟨w.heap.size, 0, none⟩) hp6cz.c3 (by simp) (.slice (some ⟨gb, 0, none⟩) n c)
              have hy0cz := (kcl hycz 0).trans (show _ = some (.int .i64 0) from rfl)
              have hy1cz := (kcl hycz 1).trans (show _ = some (.string ⟨#[]⟩) from rfl)
              have hy2cz := (kcl hycz 2).trans (show _ = some (.int .i64 0) from rfl)
              have hf0cz := kfz hycz 0
              have hf1cz := kfz hycz 1
              have hf2cz := kfz hycz 2
              have HPcz := Aside0.mk hp6cz
              have HYcz := Aside0.mk hycz
              clear hycz
              refine hK.out _ _ (hp6cz.cell) (fun hHeld => ?_)
              clear hK K
              refine norm_ (a' := ?_) ?_ ?_
              rotate_left
              · show Act.put _ (some 168) _ = _
                simp only [Act.put, List.setIfInBounds_toArray, List.set_cons_zero, List.set_cons_succ, i64_w, i32_w]
                rfl
              refine one_ (i := 6) (N := none) #[true, true, true, true, true, true, true, false] rfl rfl (by kernel_rfl) (by decide) (fun K hK => ?_)
              refine skip_ (w1 := ?_) (by rfl) rfl ?_ ?_
              rotate_left
              · go_simp
                rfl
              refine hK.out _ _ ((kcl (blk_far (p := ⟨w.heap.size, 0, none⟩) HPcz.out.c4 (by have := HPcz.out.h4; simp; omega) (.slice (some ⟨gb, 0, none⟩) n c)) 0).trans rfl) (fun hHeld => ?_)
              clear hK K
              refine last_ (i := 7) (N := none) #[true, true, true, true, true, true, true, true] rfl rfl (by kernel_rfl) (by decide) (fun K hK => ?_)
              refine skip_ (w1 := ?_) (by rfl) rfl ?_ ?_
              rotate_left
              · go_simp
                rfl
              refine hK.out _ _ ?_
              clear hK K
              refine done_ (by kernel_rfl) ?_
              go_wp2_with fail
              obtain ⟨o2, o3, hpost⟩ := HPcz.out.fin (by omega) hxcz rfl
              refine bodyPost_ret (v := .tuple #[.agg #[(.slice (some ⟨gb, 0, none⟩) n c)], .agg #[.int .i64 xcz.f0, .string xcz.f1, .int .i64 xcz.f2]]) (B.res_cc rfl _ _ w.heap.size (w.heap.size + 1) 25 35 _ _ (0, 0) (0, 0) _ _ rfl o2 Try.underlying25 rfl rfl rfl o3 Try.underlying35 rfl rfl) rfl hpost
end Go.Proofs.Ytgddblpgbkgpcaa.PR
namespace Go.Proofs.Ytgddblpgbkgpcaa.PR
set_option linter.unusedVariables false
set_option linter.unusedSimpArgs false
open Go.RowKit Go.Proofs.YtgddblpgbkgpcaaW.PrintWords Go.Proofs.YtgddblpgbkgpcaaW.PrintLast Go.Proofs.YtgddblpgbkgpcaaW.PrintMore
set_option linter.unusedVariables false
set_option linter.unusedSimpArgs false
section
variable {w wi w1 : World} {g b5 : Nat} {b b' : Int} {v u : Value} {l : List S46} {roots : List S35}
end
theorem slice_form {w : World} {base : Nat} {ok : Nat → Prop} {v : Value} {l : List S46} (h : k46.R 46 w base ok v l) : ∃ A n c, v = .slice A n c ∧ n = l.length := by
  obtain ⟨A, c, rfl⟩ := Kd.R_slice h
  exact ⟨A, _, c, rfl, rfl⟩
end Go.Proofs.Ytgddblpgbkgpcaa.PR
namespace Go.Proofs.Ytgddblpgbkgpcaa.PR
set_option linter.unusedVariables false
set_option linter.unusedSimpArgs false
open Go.RowKit Go.Proofs.YtgddblpgbkgpcaaW.PrintWords Go.Proofs.YtgddblpgbkgpcaaW.PrintLast Go.Proofs.YtgddblpgbkgpcaaW.PrintMore
set_option linter.unusedVariables false
set_option linter.unusedSimpArgs false
theorem okH_obj {l : List S46} (h : okH l = true) {o : S46} (ho : o ∈ l) : (∀ x ∈ o.f3, B.valOk l.length (tV x) = true) ∧ (o.f0 = 2 → o.f3.length = o.f4.length) := by
  unfold okH at h
  simp only [Bool.and_eq_true, List.all_eq_true] at h
  have h2 := h.2 _ (List.mem_map_of_mem ho)
  unfold B.objB at h2
  simp only [Bool.and_eq_true] at h2
  obtain ⟨⟨⟨hh, -⟩, -⟩, ht⟩ := h2
  unfold B.headB at hh
  simp only [Bool.and_eq_true] at hh
  obtain ⟨⟨⟨⟨⟨⟨⟨⟨-, h1⟩, -⟩, -⟩, -⟩, -⟩, -⟩, -⟩, -⟩ := hh
  refine ⟨fun x hx => ?_, fun h2 => ?_⟩
  · rw [List.all_eq_true] at h1
    exact h1 _ (List.mem_map_of_mem hx)
  · have e : (tO o).k = 2 := h2
    unfold B.tailB at ht
    rw [if_neg (by omega), if_neg (by omega), if_neg (by omega), if_pos e] at ht
    simp only [Bool.and_eq_true, decide_eq_true_eq] at ht
    have := ht.1.2
    simp only [tO, List.length_map] at this
    exact this.symm
end Go.Proofs.Ytgddblpgbkgpcaa.PR
namespace Go.Proofs.Ytgddblpgbkgpcaa.PR
set_option linter.unusedVariables false
set_option linter.unusedSimpArgs false
open Go.RowKit Go.Proofs.YtgddblpgbkgpcaaW.PrintWords Go.Proofs.YtgddblpgbkgpcaaW.PrintLast Go.Proofs.YtgddblpgbkgpcaaW.PrintMore
set_option linter.unusedVariables false
set_option linter.unusedSimpArgs false
def Ds (l : List S46) (v k x : S35) (l' : List S46) (cc : Int) : Prop := (okB l [v, k, x] = false ∧ l' = [] ∧ cc = 10) ∨ (okB l [v, k, x] = true ∧ Put l v k x l' cc)
theorem okV_three (n : Nat) (v k x : S35) : okV n [v, k, x] = (B.valOk n (tV v) && (B.valOk n (tV k) && B.valOk n (tV x))) := by simp [okV]
def DTPost (w : World) (l' : List S46) (cc : Int) (e : Ending) (w' : World) : Prop := ∃ (A : Option Addr) (n c : Nat), e = .returned (.tuple #[.agg #[.slice A n c], .int .i64 cc]) ∧ Kd.C k46 w' A n l' ∧ n ≤ c ∧ Below w.heap.size w w'
set_option maxRecDepth 100000 in
set_option maxHeartbeats 4000000 in
theorem doSetI_w (A : Option Addr) (n c : Nat) (l l' : List S46) (v k x : S35) (cc : Int) (w : World) (hC : Kd.C k46 w A n l) (hc : n ≤ c) (hn : n ≤ 1000) (hn0 : 0 < n) (hob : ∀ o ∈ l, oB o = true) (hv5 : v.f1.size ≤ 5) (hk5 : k.f1.size ≤ 5) (hx5 : x.f1.size ≤ 5) (h : Ds l v k x l' cc) :
    Calls Try.prog 36 #[.agg #[.slice A n c], .agg #[.int .i64 v.f0, .string v.f1, .int .i64 v.f2], .agg #[.int .i64 k.f0, .string k.f1, .int .i64 k.f2], .agg #[.int .i64 x.f0, .string x.f1, .int .i64 x.f2]] w (DTPost w l' cc) := by
  obtain ⟨W, hW⟩ : ∃ W : World, W = ((((w.alloc (.cells #[.slice A n c] 25)).alloc (.cells #[.int .i64 v.f0, .string v.f1, .int .i64 v.f2] 35)).alloc (.cells #[.int .i64 k.f0, .string k.f1, .int .i64 k.f2] 35)).alloc (.cells #[.int .i64 x.f0, .string x.f1, .int .i64 x.f2] 35)).alloc (.cells #[.slice none 0 0] 25) := ⟨_, rfl⟩
  have hb0 : Below ((((w.alloc (.cells #[.slice A n c] 25)).alloc (.cells #[.int .i64 v.f0, .string v.f1, .int .i64 v.f2] 35)).alloc (.cells #[.int .i64 k.f0, .string k.f1, .int .i64 k.f2] 35)).alloc (.cells #[.int .i64 x.f0, .string x.f1, .int .i64 x.f2] 35)).heap.size ((((w.alloc (.cells #[.slice A n c] 25)).alloc (.cells #[.int .i64 v.f0, .string v.f1, .int .i64 v.f2] 35)).alloc (.cells #[.int .i64 k.f0, .string k.f1, .int .i64 k.f2] 35)).alloc (.cells #[.int .i64 x.f0, .string x.f1, .int .i64 x.f2] 35)) W := by rw [hW]; exact bla (Below.refl _ _) _
  have hz := blk_new ((((w.alloc (.cells #[.slice A n c] 25)).alloc (.cells #[.int .i64 v.f0, .string v.f1, .int .i64 v.f2] 35)).alloc (.cells #[.int .i64 k.f0, .string k.f1, .int .i64 k.f2] 35)).alloc (.cells #[.int .i64 x.f0, .string x.f1, .int .i64 x.f2] 35)) (.cells #[.slice none 0 0] 25)
  rw [← hW, World.size_alloc, World.size_alloc, World.size_alloc, World.size_alloc] at hz
  have BX := Aside0.mk ((bw_new w n c A v k x _ rfl).below hb0)
  have BZ := Aside0.mk hz
  have HC := Aside0.mk (Kd.C_below hC BX.out.bl)
  have hl := hC.1
  have HL := Aside0.mk hl
  have hol : ∀ o ∈ l, oL o := fun o ho => (show oL o from by obtain ⟨-, h3, h4, h5, h6, -⟩ := oB_facts (hob o ho); exact ⟨by omega, by omega, by omega, by omega⟩)
  have hVS : ∀ y ∈ [v, k, x], y.f1.size ≤ 100 := by
    intro y hy
    simp only [List.mem_cons, List.not_mem_nil, or_false] at hy
    rcases hy with rfl | rfl | rfl <;> omega
  have h30 := heapOk_k (w := W) c HC.out hob (by omega)
  have hvk := fun (X : World) => valuesOk_k (A := A) (n := n) c hn 3 (C_three X v k x) hVS (by simp)
  have HCL := Aside0.mk (fun (X : World) (hX : Kd.C k46 X A n l) => hcloneT_w A n c l X hX hn hol)
  have HW := Lib.hid hW
  obtain ⟨p0, v0, v1, v2, k0, k1, k2, x0, x1, x2, -⟩ := BX.out
  have zc := (kcl hz 0).trans (show _ = some (.slice none 0 0) from rfl)
  have zf := kfz hz 0
  unfold Ds at h
  rw [okB_eq, hl] at h
  clear hW hb0 hz hC hc hVS
  cases hH : okH l
  · rw [hH] at h h30
    have HH := Aside0.mk h30
    obtain ⟨rfl, rfl⟩ : l' = [] ∧ cc = 10 := by rcases h with h | h; exact h.2; simp at h
    clear hH h30 h hvk
    go_enter Try.func36, Try.ntmps36
    go_upto_region 1 with (fail)
    rw [← HW.out]
    go_wp2_with (first | (go_at_call 30; refine HH.out.mono ?_; rintro e w1 ⟨rfl, hB⟩; replace BX := Aside0.mk (BX.out.below hB); replace BZ := Aside0.mk (kbw BZ.out hB); clear p0 v0 v1 v2 k0 k1 k2 x0 x1 x2 zc zf; obtain ⟨p0, v0, v1, v2, k0, k1, k2, x0, x1, x2, -⟩ := BX.out; have zc := (kcl BZ.out 0).trans (show _ = some (.slice none 0 0) from rfl); have zf := kfz BZ.out 0; replace HC := Aside0.mk (Kd.C_below HC.out hB); clear hB))
    refine bodyPost_ret (B.res_ct rfl _ _ (w.heap.size + 1 + 1 + 1 + 1) 25 _ (0, 0) _ rfl (blk_put BZ.out 0 _ rfl) Try.underlying25 rfl (by kernel_rfl)) rfl ⟨none, 0, 0, rfl, ⟨rfl, by decide, fun h => absurd h (by decide)⟩, Nat.le_refl _, BX.out.bl.setCell (show w.heap.size ≤ w.heap.size + 1 + 1 + 1 + 1 by omega) _⟩
  · rw [hH, Bool.true_and] at h
    rw [hH] at h30
    have HH := Aside0.mk h30
    clear hH h30
    cases hV : okV n [v, k, x]
    · rw [hV] at h
      simp only [hV] at hvk
      have HVK := Aside0.mk hvk
      obtain ⟨rfl, rfl⟩ : l' = [] ∧ cc = 10 := by rcases h with h | h; exact h.2; simp at h
      clear hV h hvk
      go_enter Try.func36, Try.ntmps36
      go_upto_region 1 with (fail)
      rw [← HW.out]
      go_wp2_with (first | (go_at_call 30; refine HH.out.mono ?_; rintro e w1 ⟨rfl, hB⟩; replace BX := Aside0.mk (BX.out.below hB); replace BZ := Aside0.mk (kbw BZ.out hB); clear p0 v0 v1 v2 k0 k1 k2 x0 x1 x2 zc zf; obtain ⟨p0, v0, v1, v2, k0, k1, k2, x0, x1, x2, -⟩ := BX.out; have zc := (kcl BZ.out 0).trans (show _ = some (.slice none 0 0) from rfl); have zf := kfz BZ.out 0; replace HC := Aside0.mk (Kd.C_below HC.out hB); clear hB) | (go_at_call 53; refine (HVK.out _).mono ?_; rintro e w2 ⟨rfl, hB2⟩; have hB := bst (bla (Below.refl w1.heap.size w1) (.cells #[.int .i64 v.f0, .string v.f1, .int .i64 v.f2, .int .i64 k.f0, .string k.f1, .int .i64 k.f2, .int .i64 x.f0, .string x.f1, .int .i64 x.f2] 35)) hB2; replace BX := Aside0.mk (BX.out.below hB); replace BZ := Aside0.mk (kbw BZ.out hB); clear p0 v0 v1 v2 k0 k1 k2 x0 x1 x2 zc zf; obtain ⟨p0, v0, v1, v2, k0, k1, k2, x0, x1, x2, -⟩ := BX.out; have zc := (kcl BZ.out 0).trans (show _ = some (.slice none 0 0) from rfl); have zf := kfz BZ.out 0; replace HC := Aside0.mk (Kd.C_below HC.out hB); clear hB hB2))
      refine bodyPost_ret (B.res_ct rfl _ _ (w.heap.size + 1 + 1 + 1 + 1) 25 _ (0, 0) _ rfl (blk_put BZ.out 0 _ rfl) Try.underlying25 rfl (by kernel_rfl)) rfl ⟨none, 0, 0, rfl, ⟨rfl, by decide, fun h => absurd h (by decide)⟩, Nat.le_refl _, BX.out.bl.setCell (show w.heap.size ≤ w.heap.size + 1 + 1 + 1 + 1 by omega) _⟩
    · rw [hV] at h
      simp only [hV] at hvk
      have HVK := Aside0.mk hvk
      have hput : Put l v k x l' cc := by rcases h with h | h; simp at h; exact h.2
      have hki : k.f0 = 2 → B.intB k.f1 = true ∧ k.f1.size ≤ 5 := by
        rw [okV_three, Bool.and_eq_true, Bool.and_eq_true] at hV
        exact fun h2 => ⟨val_int hV.2.1 h2, hk5⟩
      have HSS0 := Aside0.mk (fun (gb n1 c1 base N : Nat) (ok : Nat → Prop) (tl : List (S46 × Nat × Nat)) (X : World) (hR : k46t.R 46 X base ok (.slice (some ⟨gb, 0, none⟩) n1 c1) tl) (hs : Ris tl N) (htl : tl.map (·.1) = l) (hn1 : n1 ≤ 1000) => setIndexI_w gb n1 c1 base N ok tl l l' v k x cc X hR hs htl hn1 hol hki hput)
      clear hV h hvk hput hki
      go_enter Try.func36, Try.ntmps36
      go_upto_region 1 with (fail)
      rw [← HW.out]
      go_upto_region 4 with (first | (go_at_call 30; refine HH.out.mono ?_; rintro e w1 ⟨rfl, hB⟩; replace BX := Aside0.mk (BX.out.below hB); replace BZ := Aside0.mk (kbw BZ.out hB); clear p0 v0 v1 v2 k0 k1 k2 x0 x1 x2 zc zf; obtain ⟨p0, v0, v1, v2, k0, k1, k2, x0, x1, x2, -⟩ := BX.out; have zc := (kcl BZ.out 0).trans (show _ = some (.slice none 0 0) from rfl); have zf := kfz BZ.out 0; replace HC := Aside0.mk (Kd.C_below HC.out hB); clear hB) | (go_at_call 53; refine (HVK.out _).mono ?_; rintro e w2 ⟨rfl, hB2⟩; have hB := bst (bla (Below.refl w1.heap.size w1) (.cells #[.int .i64 v.f0, .string v.f1, .int .i64 v.f2, .int .i64 k.f0, .string k.f1, .int .i64 k.f2, .int .i64 x.f0, .string x.f1, .int .i64 x.f2] 35)) hB2; replace BX := Aside0.mk (BX.out.below hB); replace BZ := Aside0.mk (kbw BZ.out hB); clear p0 v0 v1 v2 k0 k1 k2 x0 x1 x2 zc zf; obtain ⟨p0, v0, v1, v2, k0, k1, k2, x0, x1, x2, -⟩ := BX.out; have zc := (kcl BZ.out 0).trans (show _ = some (.slice none 0 0) from rfl); have zf := kfz BZ.out 0; replace HC := Aside0.mk (Kd.C_below HC.out hB); clear hB hB2) | (go_at_call 66; refine (HCL.out _ HC.out).mono ?_; rintro e w3 ⟨v3, tl, rfl, hR3, htl, hris, hB⟩; have htn : n = tl.length := (by rw [← HL.out, ← htl, List.length_map]); obtain ⟨gb, c1, rfl, -, -, -⟩ := Kd.R_form hR3 (by omega); obtain ⟨n1, hn1⟩ : ∃ n1, n1 = tl.length := ⟨_, rfl⟩; rw [← hn1] at hR3 ⊢; have HRR := Aside0.mk hR3; have HTL := Lib.hid htl; have HRI := Aside0.mk hris; clear htl hris htn; have HL2 := Lib.hid (show w.heap.size + 1 + 1 + 1 + 1 < w2.heap.size from blk_lt BZ.out); have HN1 := Lib.hid hn1; clear hn1; replace BX := Aside0.mk (BX.out.below hB); replace BZ := Aside0.mk (kbw BZ.out hB); clear p0 v0 v1 v2 k0 k1 k2 x0 x1 x2 zc zf; obtain ⟨p0, v0, v1, v2, k0, k1, k2, x0, x1, x2, -⟩ := BX.out; have zc := (kcl BZ.out 0).trans (show _ = some (.slice none 0 0) from rfl); have zf := kfz BZ.out 0; replace HC := Aside0.mk (Kd.C_below HC.out hB); clear hB hR3))
      obtain ⟨W4, hW4⟩ : ∃ W4 : World, W4 = w3.alloc (.cells #[.slice (some ⟨gb, 0, none⟩) n1 c1] 25) := ⟨_, rfl⟩
      have hB : Below w3.heap.size w3 W4 := by rw [hW4]; exact bla (Below.refl _ _) _
      have hd10 : W4.heap[w3.heap.size]? = some (.cells #[.slice (some ⟨gb, 0, none⟩) n1 c1] 25 (0, 0)) := by rw [hW4]; exact blk_new _ _
      rw [← hW4]
      clear hW4
      replace BX := Aside0.mk (BX.out.below hB)
      replace BZ := Aside0.mk (kbw BZ.out hB)
      clear p0 v0 v1 v2 k0 k1 k2 x0 x1 x2 zc zf
      obtain ⟨p0, v0, v1, v2, k0, k1, k2, x0, x1, x2, -⟩ := BX.out
      have zc := (kcl BZ.out 0).trans (show _ = some (.slice none 0 0) from rfl)
      have zf := kfz BZ.out 0
      replace HC := Aside0.mk (Kd.C_below HC.out hB)
      obtain ⟨b10, hb10⟩ : ∃ b10, b10 = w3.heap.size := ⟨_, rfl⟩
      replace HRR := Aside0.mk (Kd.R_below (Kd.R_mono (ok' := fun k => True ∧ k ≠ b10) (Kd.R_bound HRR.out) (fun k hk => ⟨trivial, by have := hk.2.2.1; omega⟩)) hB)
      clear hB
      rw [← hb10] at hd10 ⊢
      have d10 := (kcl hd10 0).trans (show _ = some (.slice (some ⟨gb, 0, none⟩) n1 c1) from rfl)
      clear hb10 hd10
      have HSS := Aside0.mk (fun (X : World) (hR : k46t.R 46 X w2.heap.size (fun k => True ∧ k ≠ b10) (.slice (some ⟨gb, 0, none⟩) n1 c1) tl) => HSS0.out gb n1 c1 w2.heap.size _ _ tl X hR HRI.out HTL.out (by have e := congrArg List.length HTL.out; rw [List.length_map] at e; have := HN1.out; have := HL.out; omega))
      go_wp2_with fail
      have hq0 : Below W4.heap.size W4 W4.drew := below_drew (Below.refl _ _)
      refine start_ (n := 8) (S := fun w' => w'.cell? ⟨b10, 0, none⟩ = some (.slice (some ⟨gb, 0, none⟩) n1 c1) ∧ w'.cell? ⟨w.heap.size + 1, 0, none⟩ = some (.int .i64 v.f0) ∧ w'.cell? ⟨w.heap.size + 1, 1, none⟩ = some (.string v.f1) ∧ w'.cell? ⟨w.heap.size + 1, 2, none⟩ = some (.int .i64 v.f2) ∧ w'.cell? ⟨w.heap.size + 1 + 1, 0, none⟩ = some (.int .i64 k.f0) ∧ w'.cell? ⟨w.heap.size + 1 + 1, 1, none⟩ = some (.string k.f1) ∧ w'.cell? ⟨w.heap.size + 1 + 1, 2, none⟩ = some (.int .i64 k.f2) ∧ w'.cell? ⟨w.heap.size + 1 + 1 + 1, 0, none⟩ = some (.int .i64 x.f0) ∧ w'.cell? ⟨w.heap.size + 1 + 1 + 1, 1, none⟩ = some (.string x.f1) ∧ w'.cell? ⟨w.heap.size + 1 + 1 + 1, 2, none⟩ = some (.int .i64 x.f2)) (ds := [6]) #[false, false, false, false, false, false, false, false] (by kernel_rfl) rfl rfl ⟨B.cell_keep hq0 d10, B.cell_keep hq0 v0, B.cell_keep hq0 v1, B.cell_keep hq0 v2, B.cell_keep hq0 k0, B.cell_keep hq0 k1, B.cell_keep hq0 k2, B.cell_keep hq0 x0, B.cell_keep hq0 x1, B.cell_keep hq0 x2⟩ (fun hHeld => ?_)
      generalize W4.drew = w10 at hq0 hHeld ⊢
      refine take_ (i := 0) (N := some 26) (v := ?_) (a' := ?_) #[true, false, false, false, false, false, false, false] rfl rfl (by kernel_rfl) (fun _ _ _ h => h) (Or.inl ⟨by rfl, ?_⟩) hHeld ?_ ?_
      rotate_left
      · rintro w' ⟨s0, s1, s2, s3, s4, s5, s6, s7, s8, s9⟩
        go_simp
        with_reducible rfl
      rotate_left
      · simp only [Act.put, List.setIfInBounds_toArray, List.set_cons_zero, List.set_cons_succ, i64_w, i32_w]
        rfl
      refine take_ (i := 1) (N := some 27) (v := ?_) (a' := ?_) #[true, true, false, false, false, false, false, false] rfl rfl (by kernel_rfl) (fun _ _ _ h => h) (Or.inl ⟨by rfl, ?_⟩) hHeld ?_ ?_
      rotate_left
      · rintro w' ⟨s0, s1, s2, s3, s4, s5, s6, s7, s8, s9⟩
        go_simp
        with_reducible rfl
      rotate_left
      · simp only [Act.put, List.setIfInBounds_toArray, List.set_cons_zero, List.set_cons_succ, i64_w, i32_w]
        rfl
      refine take_ (i := 2) (N := some 28) (v := ?_) (a' := ?_) #[true, true, true, false, false, false, false, false] rfl rfl (by kernel_rfl) (fun _ _ _ h => h) (Or.inl ⟨by rfl, ?_⟩) hHeld ?_ ?_
      rotate_left
      · rintro w' ⟨s0, s1, s2, s3, s4, s5, s6, s7, s8, s9⟩
        go_simp
        with_reducible rfl
      rotate_left
      · simp only [Act.put, List.setIfInBounds_toArray, List.set_cons_zero, List.set_cons_succ, i64_w, i32_w]
        rfl
      refine take_ (i := 3) (N := some 29) (v := ?_) (a' := ?_) #[true, true, true, true, false, false, false, false] rfl rfl (by kernel_rfl) (fun _ _ _ h => h) (Or.inl ⟨by rfl, ?_⟩) hHeld ?_ ?_
      rotate_left
      · rintro w' ⟨s0, s1, s2, s3, s4, s5, s6, s7, s8, s9⟩
        go_simp
        with_reducible rfl
      rotate_left
      · simp only [Act.put, List.setIfInBounds_toArray, List.set_cons_zero, List.set_cons_succ, i64_w, i32_w]
        rfl
      refine take_ (i := 4) (N := some 30) (v := ?_) (a' := ?_) #[true, true, true, true, true, false, false, false] rfl rfl (by kernel_rfl) (fun _ _ _ h => h) (Or.inl ⟨by rfl, ?_⟩) hHeld ?_ ?_
      rotate_left
      · rintro w' ⟨s0, s1, s2, s3, s4, s5, s6, s7, s8, s9⟩
        go_simp
        with_reducible rfl
      rotate_left
      · simp only [Act.put, List.setIfInBounds_toArray, List.set_cons_zero, List.set_cons_succ, i64_w, i32_w]
        rfl
      refine one_ (i := 5) (N := some 31) #[true, true, true, true, true, true, false, false] rfl rfl (by kernel_rfl) (by decide) (fun K hK => ?_)
      refine goes_ Try.func75 (by kernel_rfl) rfl #[.agg #[.slice (some ⟨gb, 0, none⟩) n1 c1], .agg #[.int .i64 v.f0, .string v.f1, .int .i64 v.f2], .agg #[.int .i64 k.f0, .string k.f1, .int .i64 k.f2], .agg #[.int .i64 x.f0, .string x.f1, .int .i64 x.f2]] (by rfl) rfl rfl (by simp only [List.map_toArray, List.map_cons, List.map_nil]; rfl) ?_
      with_reducible refine (HSS.out _ (Kd.R_below HRR.out hq0)).mono ?_
      rintro e y ⟨rfl, hfr, hkp⟩
      refine ⟨_, rfl, ?_⟩
      have zb1 := (hkp.block (w.heap.size + 1 + 1 + 1 + 1) (blk_lt (kbw BZ.out hq0)) (fun hq => by have := hq.2; have := HL2.out; omega)).trans (kbw BZ.out hq0)
      have zc1 := (kcl zb1 0).trans (show _ = some (.slice none 0 0) from rfl)
      have zf1 := kfz zb1 0
      refine hK.out _ _ ⟨(World.cell?_of_block (a := ⟨b10, 0, none⟩) (hkp.block b10 (World.block_lt_of_cell? w10 _ (B.cell_keep hq0 d10)) (fun hq => hq.1.2 rfl))).trans (B.cell_keep hq0 d10), (World.cell?_of_block (a := ⟨w.heap.size + 1, 0, none⟩) (hkp.block (w.heap.size + 1) (World.block_lt_of_cell? w10 _ (B.cell_keep hq0 v0)) (fun hq => by have := hq.2; have := HL2.out; omega))).trans (B.cell_keep hq0 v0), (World.cell?_of_block (a := ⟨w.heap.size + 1, 1, none⟩) (hkp.block (w.heap.size + 1) (World.block_lt_of_cell? w10 _ (B.cell_keep hq0 v1)) (fun hq => by have := hq.2; have := HL2.out; omega))).trans (B.cell_keep hq0 v1), (World.cell?_of_block (a := ⟨w.heap.size + 1, 2, none⟩) (hkp.block (w.heap.size + 1) (World.block_lt_of_cell? w10 _ (B.cell_keep hq0 v2)) (fun hq => by have := hq.2; have := HL2.out; omega))).trans (B.cell_keep hq0 v2), (World.cell?_of_block (a := ⟨w.heap.size + 1 + 1, 0, none⟩) (hkp.block (w.heap.size + 1 + 1) (World.block_lt_of_cell? w10 _ (B.cell_keep hq0 k0)) (fun hq => by have := hq.2; have := HL2.out; omega))).trans (B.cell_keep hq0 k0), (World.cell?_of_block (a := ⟨w.heap.size + 1 + 1, 1, none⟩) (hkp.block (w.heap.size + 1 + 1) (World.block_lt_of_cell? w10 _ (B.cell_keep hq0 k1)) (fun hq => by have := hq.2; have := HL2.out; omega))).trans (B.cell_keep hq0 k1), (World.cell?_of_block (a := ⟨w.heap.size + 1 + 1, 2, none⟩) (hkp.block (w.heap.size + 1 + 1) (World.block_lt_of_cell? w10 _ (B.cell_keep hq0 k2)) (fun hq => by have := hq.2; have := HL2.out; omega))).trans (B.cell_keep hq0 k2), (World.cell?_of_block (a := ⟨w.heap.size + 1 + 1 + 1, 0, none⟩) (hkp.block (w.heap.size + 1 + 1 + 1) (World.block_lt_of_cell? w10 _ (B.cell_keep hq0 x0)) (fun hq => by have := hq.2; have := HL2.out; omega))).trans (B.cell_keep hq0 x0), (World.cell?_of_block (a := ⟨w.heap.size + 1 + 1 + 1, 1, none⟩) (hkp.block (w.heap.size + 1 + 1 + 1) (World.block_lt_of_cell? w10 _ (B.cell_keep hq0 x1)) (fun hq => by have := hq.2; have := HL2.out; omega))).trans (B.cell_keep hq0 x1), (World.cell?_of_block (a := ⟨w.heap.size + 1 + 1 + 1, 2, none⟩) (hkp.block (w.heap.size + 1 + 1 + 1) (World.block_lt_of_cell? w10 _ (B.cell_keep hq0 x2)) (fun hq => by have := hq.2; have := HL2.out; omega))).trans (B.cell_keep hq0 x2)⟩ (fun hHeld => ?_)
      clear hK K
      refine norm_ (a' := ?_) ?_ ?_
      rotate_left
      · show Act.put _ (some 31) _ = _
        simp only [Act.put, List.setIfInBounds_toArray, List.set_cons_zero, List.set_cons_succ, i64_w, i32_w]
        rfl
      refine last_ (i := 6) (N := none) #[true, true, true, true, true, true, true, false] rfl rfl (by kernel_rfl) (by decide) (fun K hK => ?_)
      refine skip_ (w1 := ?_) (by rfl) rfl ?_ ?_
      rotate_left
      · go_simp
        rfl
      refine hK.out _ _ ?_
      clear hK K
      refine pure_ (i := 7) (N := some 9) (v := ?_) (a' := ?_) #[true, true, true, true, true, true, true, true] rfl rfl (by kernel_rfl) (fun _ _ _ h => h) (Or.inl ⟨by rfl, ?_⟩) ?_ ?_
      rotate_left
      · intro w'
        go_simp
        with_reducible rfl
      rotate_left
      · simp only [Act.put, List.setIfInBounds_toArray, List.set_cons_zero, List.set_cons_succ, i64_w, i32_w]
        rfl
      refine done_ (by kernel_rfl) ?_
      go_wp2_with fail
      have o1 : (y.setCell ⟨w.heap.size + 1 + 1 + 1 + 1, 0, none⟩ (.slice (some ⟨gb, 0, none⟩) n1 c1)).heap[w.heap.size + 1 + 1 + 1 + 1]? = some (.cells #[.slice (some ⟨gb, 0, none⟩) n1 c1] 25 (0, 0)) := blk_put zb1 0 _ rfl
      have hfin := hfr (y.setCell ⟨w.heap.size + 1 + 1 + 1 + 1, 0, none⟩ (.slice (some ⟨gb, 0, none⟩) n1 c1)) (by rw [World.size_setCell]; exact Nat.le_refl _) (fun q hq hQ => Below.heap_setCell _ _ _ _ (by show q ≠ w.heap.size + 1 + 1 + 1 + 1; have := HL2.out; have := hq0.size; have := blk_lt BZ.out; rcases hQ with hQ | hQ; have := hQ.2; omega; omega))
      have hbl : Below w.heap.size w y := by
        have h1 := BX.out.bl.size
        exact (bst BX.out.bl hq0).trans (hkp.to (by have := hq0.size; omega) (fun k hk hq => by have := hq.2; have := HL2.out; omega))
      have hcc1 := (Kd.R_reads' HRR.out).2.1
      exact bodyPost_ret (B.res_ct rfl _ _ (w.heap.size + 1 + 1 + 1 + 1) 25 _ (0, 0) _ rfl o1 Try.underlying25 rfl (by kernel_rfl)) rfl ⟨_, n1, c1, rfl, hfin, hcc1, hbl.setCell (show w.heap.size ≤ w.heap.size + 1 + 1 + 1 + 1 by omega) _⟩
end Go.Proofs.Ytgddblpgbkgpcaa.PR
namespace Go.Proofs.Ytgddblpgbkgpcaa.PR
set_option linter.unusedVariables false
set_option linter.unusedSimpArgs false
open Go.RowKit Go.Proofs.YtgddblpgbkgpcaaW.PrintWords Go.Proofs.YtgddblpgbkgpcaaW.PrintLast Go.Proofs.YtgddblpgbkgpcaaW.PrintMore
set_option linter.unusedVariables false
set_option linter.unusedSimpArgs false
theorem put_ex (l : List S46) (v k x : S35) (hv : v.f0 = 4 → 0 ≤ v.f2 ∧ v.f2 < l.length) (hd : ∀ o ∈ l, o.f0 = 2 → o.f3.length = o.f4.length) : ∃ l' cc, Put l v k x l' cc := by
  by_cases h4 : v.f0 = 4
  · obtain ⟨h5, h6⟩ := hv h4
    obtain ⟨r, hr⟩ : ∃ r : Nat, v.f2 = r := ⟨v.f2.toNat, by omega⟩
    have hrl : r < l.length := by omega
    have ho : l[r]? = some l[r] := List.getElem?_eq_getElem hrl
    by_cases k1 : l[r].f0 = 1
    · obtain ⟨i, c, h⟩ := plc_ex k.f0 k.f1 l[r].f3.length
      by_cases hc : c = -1
      · subst hc
        obtain ⟨h1, h2⟩ := plc_in h
        obtain ⟨j, rfl⟩ : ∃ j : Nat, i = j := ⟨i.toNat, by omega⟩
        exact ⟨_, _, .li r _ j h4 hr ho k1 h (by omega)⟩
      · exact ⟨_, _, .le r _ i c h4 hr ho k1 h hc⟩
    · by_cases k2 : l[r].f0 = 2
      · by_cases hk : k.f0 = 4
        · exact ⟨_, _, .dr r _ h4 hr ho k2 hk⟩
        · obtain ⟨q, hq⟩ := ix_ex l[r].f4 k
          rcases hq with ⟨rfl, h⟩ | ⟨j, rfl, hj, h⟩
          · by_cases h60 : 60 ≤ l[r].f4.length
            · exact ⟨_, _, .dn r _ h4 hr ho k2 hk (.inl ⟨rfl, h⟩) h60⟩
            · exact ⟨_, _, .da r _ h4 hr ho k2 hk (.inl ⟨rfl, h⟩) (by omega)⟩
          · have := (List.getElem?_eq_some_iff.1 hj).1
            have := hd _ (List.getElem_mem hrl) k2
            exact ⟨_, _, .df r _ j h4 hr ho k2 hk (.inr ⟨j, rfl, hj, h⟩) (by omega)⟩
      · exact ⟨_, _, .xo r _ h4 hr ho k1 k2⟩
  · exact ⟨_, _, .xv h4⟩
theorem ds_ex (l : List S46) (v k x : S35) : ∃ l' cc, Ds l v k x l' cc := by
  cases hok : okB l [v, k, x]
  · exact ⟨[], 10, .inl ⟨hok, rfl, rfl⟩⟩
  · have h1 := hok
    rw [okB_eq, okV_three, Bool.and_eq_true, Bool.and_eq_true] at h1
    obtain ⟨hH, hv, -⟩ := h1
    obtain ⟨l', cc, h⟩ := put_ex l v k x (val_in hv) (fun o ho => (okH_obj hH ho).2)
    exact ⟨l', cc, .inr ⟨hok, h⟩⟩
theorem put_len {l l' : List S46} {v k x : S35} {cc : Int} (h : Put l v k x l' cc) : l'.length = l.length := by
  cases h <;> simp
theorem put_all {l l' : List S46} {v k x : S35} {cc : Int} {p q : S46 → Prop} (h : Put l v k x l' cc) (hp : ∀ o ∈ l, p o) (hpq : ∀ o, p o → q o) (h1 : ∀ o j, p o → q { o with f3 := o.f3.set j x }) (h2 : ∀ o, p o → q { o with f3 := o.f3 ++ [x], f4 := o.f4 ++ [k] }) : ∀ o ∈ l', q o := by
  have hs : ∀ (r : Nat) (o' : S46), q o' → ∀ o ∈ l.set r o', q o := fun r o' hq o ho => by
    rcases List.mem_or_eq_of_mem_set ho with ho | rfl
    · exact hpq o (hp o ho)
    · exact hq
  have h0 : ∀ o ∈ l, q o := fun o ho => hpq o (hp o ho)
  cases h with
  | li r o j a b c => exact hs _ _ (h1 _ _ (hp o (List.mem_of_getElem? c)))
  | df r o j a b c => exact hs _ _ (h1 _ _ (hp o (List.mem_of_getElem? c)))
  | da r o a b c => exact hs _ _ (h2 _ (hp o (List.mem_of_getElem? c)))
  | _ => exact h0
theorem put_oL {l l' : List S46} {v k x : S35} {cc : Int} (h : Put l v k x l' cc) (hob : ∀ o ∈ l, oB o = true) : ∀ o ∈ l', oL o := by
  refine put_all h hob (fun o ho => ?_) (fun o j ho => ?_) (fun o ho => ?_)
  all_goals
    obtain ⟨-, h3, h4, h5, h6, -⟩ := oB_facts ho
    refine ⟨?_, ?_, ?_, ?_⟩ <;> (try simp only [List.length_set, List.length_append, List.length_singleton]) <;> omega
end Go.Proofs.Ytgddblpgbkgpcaa.PR
namespace Go.Proofs.Ytgddblpgbkgpcaa.PR
set_option linter.unusedVariables false
set_option linter.unusedSimpArgs false
open Go.RowKit Go.Proofs.YtgddblpgbkgpcaaW.PrintWords Go.Proofs.YtgddblpgbkgpcaaW.PrintLast Go.Proofs.YtgddblpgbkgpcaaW.PrintMore
set_option linter.unusedVariables false
set_option linter.unusedSimpArgs false
theorem ix_snoc {l : List S35} {x : S35} (h : Ix l x (-1)) : Ix (l ++ [x]) x (l.length : Nat) := by
  have hx : x ∉ l := by
    rcases h with ⟨-, h⟩ | ⟨k, h, -⟩
    · exact h
    · omega
  refine .inr ⟨l.length, rfl, by simp, fun j hj => ?_⟩
  rw [List.getElem?_append_left hj]
  intro e
  exact hx (List.mem_of_getElem? e)
theorem put_got {l l' : List S46} {v k x : S35} (h : Put l v k x l' (-1)) (hd : ∀ o ∈ l, o.f0 = 2 → o.f3.length = o.f4.length) : Got l' v k x (-1) := by
  have at_ : ∀ {r : Nat} {o o' : S46}, l[r]? = some o → (l.set r o')[r]? = some o' := fun {r o o'} h => List.getElem?_set_self (List.getElem?_eq_some_iff.1 h).1
  cases h with
  | le r o i c h1 h2 h3 h4 h5 h6 => exact absurd rfl h6
  | li r o j h1 h2 h3 h4 h5 h6 =>
    refine .li r _ j x h1 h2 (at_ h3) h4 ?_ ?_
    · show Plc _ _ ((o.f3.set j x).length : Int) _ _
      rw [List.length_set]; exact h5
    · exact List.getElem?_set_self h6
  | df r o j h1 h2 h3 h4 h5 h6 h7 => exact .df r _ j x h1 h2 (at_ h3) h4 h5 h6 (List.getElem?_set_self h7)
  | da r o h1 h2 h3 h4 h5 h6 h7 =>
    refine .df r _ o.f4.length x h1 h2 (at_ h3) h4 h5 (ix_snoc h6) ?_
    show (o.f3 ++ [x])[o.f4.length]? = some x
    rw [← hd o (List.mem_of_getElem? h3) h4]
    simp
end Go.Proofs.Ytgddblpgbkgpcaa.PR
