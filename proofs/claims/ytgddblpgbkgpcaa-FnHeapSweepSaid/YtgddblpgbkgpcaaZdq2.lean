/- Part of the proof of fnHeapSweep_holds. -/
import Derived.Test.YtgddblpgbkgpcaaZdq1
namespace Go.Proofs.Ytgddblpgbkgpcaa.PR
set_option linter.unusedVariables false
set_option linter.unusedSimpArgs false
open Go.RowKit Go.Proofs.YtgddblpgbkgpcaaW.PrintWords Go.Proofs.YtgddblpgbkgpcaaW.PrintLast Go.Proofs.YtgddblpgbkgpcaaW.PrintMore
set_option linter.unusedVariables false
set_option linter.unusedSimpArgs false
theorem heapOk_t {A : Option Addr} {n : Nat} (c : Nat) {l : List S46} {w : World} (hC : Kd.C k46 w A n l) (ob : ∀ o ∈ l, oB o = true) (hl : l.length ≤ 1000) (hk : okH l = true) :
    Calls Try.prog 30 #[.agg #[.slice A n c]] w fun e w' => e = .returned (.bool true) ∧ Below w.heap.size w w' := by
  have h := heapOk_k c hC ob hl
  rw [hk] at h
  exact h
set_option maxRecDepth 100000 in
set_option maxHeartbeats 40000000 in
theorem law7_w (a : Option Addr) (c0 : Nat) (l0 : List Int) (w : World) (hr0 : Kd.C (Kd.int .u8) w a l0.length l0) (hc0 : l0.length ≤ c0) (hw0 : ∀ x ∈ l0, 0 ≤ x ∧ x ≤ 255) :
    Calls Try.prog 7 #[.slice a l0.length c0] w fun e w' => e = .returned (.bool true) ∧ Below w.heap.size w w' := by
  have HDR := Aside0.mk (draw25_w a c0 l0 w hr0 hc0 hw0)
  clear hr0 hc0 hw0
  generalize l0.length = q0 at HDR ⊢
  by_cases hq : (1048576 : Int) < (q0 : Int)
  · go_enter Try.func7, Try.ntmps7
    go_wp2
    go_ret
    exact ⟨rfl, Below.refl _ _⟩
  · go_enter Try.func7, Try.ntmps7
    go_wp2_with fail
    refine HDR.out.mono ?_
    rintro e w1 ⟨A, n, c, A1, m, c1, l, roots, rfl, hC, hnc, hR, hmc, hn19, hn24, hob, hvs, hm4, hb1⟩
    have HD := Aside0.mk (show Dd w1 A n c A1 m c1 l roots from ⟨hC, hnc, hR, hmc, hn19, hn24, hob, hvs, hm4⟩)
    obtain ⟨s, out, ht⟩ := swept_ex l roots n hC.1 (by omega) (by have := hR.1; omega) hob
    obtain ⟨s1, o1, ht1⟩ := told_ex l roots n hC.1 (by omega) (by have := hR.1; omega) hob
    have HT := Aside0.mk ht
    have HT1 := Aside0.mk ht1
    have HOB := Aside0.mk (swept_oB ht hob)
    have HOL := Aside0.mk (oB_all HOB.out)
    have HOE := Aside0.mk (swept_le hC.1 hn24 ht)
    have HO1 := Aside0.mk (told_len ht1)
    have HB1 := Aside0.mk hb1
    clear hC hnc hR hmc hn19 hn24 hob hvs ht ht1 hb1 HDR
    go_wp2_with fail
    have q3 := (kcl (blk_new w1 (.cells #[.slice A n c] 25)) 0).trans (show _ = some (Value.slice A n c) from rfl)
    have HX := Aside0.mk (bla (Below.refl w1.heap.size w1) (.cells #[.slice A n c] 25))
    refine ((HD.out.below HX.out).sweepI HT.out).mono ?_
    rintro e w2 hp
    obtain ⟨A5, n5, c5, rfl, e5, hC5, hc5, hb5⟩ := hp.open
    have HN5 := Lib.hid e5
    have hn5 : n5 ≤ 24 := by have := HOE.out; omega
    clear e5
    have HCC5 := Aside0.mk hc5
    have hxa := bla hb5 (.cells #[.slice A5 n5 c5] 25)
    have HX2 := Aside0.mk (bth HX.out HX.out.size hxa)
    replace q3 := B.cell_keep hxa q3
    have hC5' := Kd.C_alloc hC5 (.cells #[.slice A5 n5 c5] 25)
    have q5 := (kcl (blk_new w2 (.cells #[.slice A5 n5 c5] 25)) 0).trans (show _ = some (Value.slice A5 n5 c5) from rfl)
    go_upto_region 5 with (fail)
    obtain ⟨b5, hb5'⟩ : ∃ b5, b5 = w2.heap.size := ⟨_, rfl⟩
    obtain ⟨w3, hw3⟩ : ∃ w3 : World, w3 = w2.alloc (.cells #[.slice A5 n5 c5] 25) := ⟨_, rfl⟩
    rw [← hw3] at HX2 q3 hC5' q5 ⊢
    rw [← hb5'] at q5 ⊢
    have HC5 := Aside0.mk hC5'
    clear HX hp hC5 hC5' hb5 hxa hb5' hw3 hc5
    go_wp2_with fail
    refine ((HD.out.below HX2.out).sweepS HT.out).mono ?_
    rintro e w4 hp
    obtain ⟨A6, n6, c6, rfl, e6, hC6, hc6, hb6⟩ := hp.open
    have e66 : n5 = n6 := by rw [e6, HN5.out]
    subst e66
    clear e6
    have hxa := bla hb6 (.cells #[.slice A6 n5 c6] 25)
    have HX3 := Aside0.mk (bth HX2.out HX2.out.size hxa)
    replace q3 := B.cell_keep hxa q3
    replace q5 := B.cell_keep hxa q5
    replace HC5 := Aside0.mk (Kd.C_below HC5.out hxa)
    have HC6 := Aside0.mk (Kd.C_alloc hC6 (.cells #[.slice A6 n5 c6] 25))
    have q6 := (kcl (blk_new w4 (.cells #[.slice A6 n5 c6] 25)) 0).trans (show _ = some (Value.slice A6 n5 c6) from rfl)
    clear hp hC6 hc6 hb6 hxa HX2
    go_wp2_with fail
    refine (sameHeap_w A5 n5 c5 A6 c6 out _ HC5.out HC6.out (by omega) HOL.out).mono ?_
    rintro e w5 ⟨rfl, hb7⟩
    have HX4 := Aside0.mk (bth HX3.out HX3.out.size hb7)
    replace q3 := B.cell_keep hb7 q3
    replace q5 := B.cell_keep hb7 q5
    replace HC5 := Aside0.mk (Kd.C_below HC5.out hb7)
    clear hb7 q6 HX3 HC6
    by_cases h0 : n5 = 0
    · have hz : ((n5 : Int) == 0) = true := by simp [h0]
      clear h0
      go_wp2
      go_ret
      exact ⟨rfl, bst HB1.out HX4.out⟩
    · have hz : ((n5 : Int) == 0) = false := by simp; omega
      have hk : okB l roots = true := by
        cases hk : okB l roots
        · have h1 := HT.out.2.2.2 hk; have h5 := HN5.out; rw [h1] at h5; exact absurd h5 h0
        · rfl
      have hnn : n5 = n := by rw [HN5.out, HT.out.2.2.1 hk, swk_len]; exact HD.out.hC.1
      have HNN := Lib.hid hnn
      have HK := Lib.hid hk
      have HDO := Aside0.mk (show Dd w5 A5 n5 c5 A1 m c1 out roots from ⟨HC5.out, HCC5.out, (HD.out.below HX4.out).hR, HD.out.hmc, by have := HD.out.n19; omega, hn5, HOB.out, HD.out.vs, HD.out.m4⟩)
      have HTO := Aside0.mk (show Told out roots n5 s1 o1 by rw [hnn]; exact swept_told HT.out hk HT1.out)
      have HTS := Aside0.mk (show Swept out roots n5 s out by rw [hnn]; exact swept_self HD.out.hC.1 HT.out hk)
      clear h0 hk hnn
      go_wp2_with fail
      refine (HDO.out.impl HTO.out).mono ?_
      rintro e w6 hp
      obtain ⟨A8, m8, c8, rfl, e8, hr8, hb8⟩ := hp.open
      have HM8 := Lib.hid e8
      have HR8 := Aside0.mk hr8
      have HX5 := Aside0.mk (bth HX4.out HX4.out.size hb8)
      replace q3 := B.cell_keep hb8 q3
      replace q5 := B.cell_keep hb8 q5
      replace HC5 := Aside0.mk (Kd.C_below HC5.out hb8)
      replace HDO := Aside0.mk (HDO.out.below hb8)
      clear hp e8 hr8 hb8 HX4
      go_wp2_with fail
      refine ((HD.out.below HX5.out).impl HT1.out).mono ?_
      rintro e w7 hp
      obtain ⟨A9, m9, c9, rfl, e9, hr9, hb9⟩ := hp.open
      have e99 : m8 = m9 := by rw [e9, HM8.out]
      subst e99
      have HR9 := Aside0.mk hr9
      have HX6 := Aside0.mk (bth HX5.out HX5.out.size hb9)
      replace q3 := B.cell_keep hb9 q3
      replace q5 := B.cell_keep hb9 q5
      replace HC5 := Aside0.mk (Kd.C_below HC5.out hb9)
      replace HDO := Aside0.mk (HDO.out.below hb9)
      replace HR8 := Aside0.mk (Kd.R_below HR8.out hb9)
      have hm24 : m8 ≤ 24 := by have := HM8.out; have := HO1.out; have := HD.out.n24; omega
      have Q3 := Aside0.mk q3
      have Q5 := Aside0.mk q5
      clear hp e9 hr9 hb9 HX5 q3 q5
      go_wp2_with fail
      obtain ⟨W7, hW7⟩ : ∃ W7 : World, W7 = w7 := ⟨_, rfl⟩
      rw [← hW7] at HX6 HC5 HDO HR8 HR9 Q3 Q5
      have HW7 := Lib.hid hW7
      clear hW7
      go_loopw [10] (fun u10 wr => ∃ k : Nat, u10 = .int .i64 k ∧ k ≤ m8 ∧ Aside0 (Below W7.heap.size W7 wr)) (fun u10 _ => m8 - (intOf u10).toNat)
      case atStart => exact ⟨0, rfl, Nat.zero_le _, ⟨by rw [HW7.out]; exact Below.refl _ _⟩⟩
      case round =>
        obtain ⟨k, rfl, hkm, HQ⟩ := hrel
        by_cases hk : k < m8
        · obtain ⟨g9, cap9, e9, _, _, _⟩ := Kd.R_form HR9.out (by have := HM8.out; omega)
          injection e9 with e91 e92 e93
          subst e91
          clear e92 e93
          have rq0 := (Kd.R_celln 0 (R_lit' HM8.out (Kd.R_below HR9.out HQ.out)) (k : Int) (by omega) (by omega)).1
          rw [show (k : Int).toNat = k from rfl] at rq0
          have hmem := rd_mem (l := o1) (k := k) (by rw [← HM8.out]; exact hk)
          obtain ⟨q, hqn, hqr, hqe⟩ := (told_mem HT1.out HK.out _).1 hmem
          rw [← hqe] at rq0 hmem
          have rq := rq0
          have hsame := swept_same HT.out HK.out HT1.out hmem
          have hqn5 : q < n5 := by have := HNN.out; omega
          have r5 := B.cell_keep HQ.out Q5.out
          have r3 := B.cell_keep HQ.out Q3.out
          obtain ⟨x, ad5, A13, c13, A14, c14, A15, c15, A16, c16, hx, hA, g0, g1, g2, g3, g4, g5, g6, h3, h4, h5, h6⟩ := obj_at (Kd.C_below HC5.out HQ.out) q hqn5
          obtain ⟨y, ad, B3, d3, B4, d4, B5, d5, B6, d6, hy, hB, j0, j1, j2, j3, j4, j5, j6, i3, i4, i5, i6⟩ := obj_at (Kd.C_below (HD.out.below HX6.out).hC HQ.out) q hqn
          rw [hsame, hy] at hx
          injection hx with hx
          subst hx
          subst hA
          subst hB
          have HSO := Aside0.mk (fun (W' : World) (hb : Below wr.heap.size wr W') => sameObj_w y A13 c13 A14 c14 A15 c15 A16 c16 B3 d3 B4 d4 B5 d5 B6 d6 W' (Rows4.below ⟨h3, h4, h5, h6⟩ hb) (Rows4.below ⟨i3, i4, i5, i6⟩ hb) (oB_all HD.out.ob y (List.mem_of_getElem? hy)))
          have hq0i : (0 : Int) ≤ (q : Int) := Int.natCast_nonneg _
          clear hy hsame hmem hqr hqe rq0 h3 h4 h5 h6 i3 i4 i5 i6
          go_wp2_with fail
          have hq0 : Below wr.heap.size wr wr.drew := below_drew (Below.refl _ _)
          refine start_ (n := 18) (S := fun w' => w'.cell? ⟨b5, 0, none⟩ = some (.slice (some ad5) n5 c5) ∧ w'.cell? ⟨w1.heap.size, 0, none⟩ = some (.slice (some ad) n c) ∧ w'.cell? ⟨g9, k, none⟩ = some (.int .i64 (q : Int)) ∧ w'.cell? (ad5.add (q * 7)) = some (.int .i64 y.f0) ∧ w'.cell? ⟨(ad5.add (q * 7)).block, (ad5.add (q * 7)).off + 1, none⟩ = some (.string y.f1) ∧ w'.cell? ⟨(ad5.add (q * 7)).block, (ad5.add (q * 7)).off + 2, none⟩ = some (.int .i64 y.f2) ∧ w'.cell? ⟨(ad5.add (q * 7)).block, (ad5.add (q * 7)).off + 3, none⟩ = some (.slice A13 y.f3.length c13) ∧ w'.cell? ⟨(ad5.add (q * 7)).block, (ad5.add (q * 7)).off + 4, none⟩ = some (.slice A14 y.f4.length c14) ∧ w'.cell? ⟨(ad5.add (q * 7)).block, (ad5.add (q * 7)).off + 5, none⟩ = some (.slice A15 y.f5.length c15) ∧ w'.cell? ⟨(ad5.add (q * 7)).block, (ad5.add (q * 7)).off + 6, none⟩ = some (.slice A16 y.f6.length c16) ∧ w'.cell? (ad.add (q * 7)) = some (.int .i64 y.f0) ∧ w'.cell? ⟨(ad.add (q * 7)).block, (ad.add (q * 7)).off + 1, none⟩ = some (.string y.f1) ∧ w'.cell? ⟨(ad.add (q * 7)).block, (ad.add (q * 7)).off + 2, none⟩ = some (.int .i64 y.f2) ∧ w'.cell? ⟨(ad.add (q * 7)).block, (ad.add (q * 7)).off + 3, none⟩ = some (.slice B3 y.f3.length d3) ∧ w'.cell? ⟨(ad.add (q * 7)).block, (ad.add (q * 7)).off + 4, none⟩ = some (.slice B4 y.f4.length d4) ∧ w'.cell? ⟨(ad.add (q * 7)).block, (ad.add (q * 7)).off + 5, none⟩ = some (.slice B5 y.f5.length d5) ∧ w'.cell? ⟨(ad.add (q * 7)).block, (ad.add (q * 7)).off + 6, none⟩ = some (.slice B6 y.f6.length d6)) (ds := []) #[false, false, false, false, false, false, false, false, false, false, false, false, false, false, false, false, false, false] (by kernel_rfl) rfl rfl ⟨B.cell_keep hq0 r5, B.cell_keep hq0 r3, B.cell_keep hq0 rq, B.cell_keep hq0 g0, B.cell_keep hq0 g1, B.cell_keep hq0 g2, B.cell_keep hq0 g3, B.cell_keep hq0 g4, B.cell_keep hq0 g5, B.cell_keep hq0 g6, B.cell_keep hq0 j0, B.cell_keep hq0 j1, B.cell_keep hq0 j2, B.cell_keep hq0 j3, B.cell_keep hq0 j4, B.cell_keep hq0 j5, B.cell_keep hq0 j6⟩ (fun hHeld => ?_)
          generalize wr.drew = w10 at hq0 hHeld ⊢
          refine pure_ (i := 0) (N := some 49) (v := ?_) (a' := ?_) #[true, false, false, false, false, false, false, false, false, false, false, false, false, false, false, false, false, false] rfl rfl (by kernel_rfl) (fun _ _ _ h => h) (Or.inl ⟨by rfl, ?_⟩) ?_ ?_
          rotate_left
          · intro w'
            go_simp
            with_reducible rfl
          rotate_left
          · simp only [Act.put, List.setIfInBounds_toArray, List.set_cons_zero, List.set_cons_succ, i64_w, i32_w]
            rfl
          refine pure_ (i := 2) (N := some 51) (v := ?_) (a' := ?_) #[true, false, true, false, false, false, false, false, false, false, false, false, false, false, false, false, false, false] rfl rfl (by kernel_rfl) (fun _ _ _ h => h) (Or.inl ⟨by rfl, ?_⟩) ?_ ?_
          rotate_left
          · intro w'
            go_simp
            with_reducible rfl
          rotate_left
          · simp only [Act.put, List.setIfInBounds_toArray, List.set_cons_zero, List.set_cons_succ, i64_w, i32_w]
            rfl
          refine pure_ (i := 3) (N := some 52) (v := ?_) (a' := ?_) #[true, false, true, true, false, false, false, false, false, false, false, false, false, false, false, false, false, false] rfl rfl (by kernel_rfl) (fun _ _ _ h => h) (Or.inl ⟨by rfl, ?_⟩) ?_ ?_
          rotate_left
          · intro w'
            go_simp
            with_reducible rfl
          rotate_left
          · simp only [Act.put, List.setIfInBounds_toArray, List.set_cons_zero, List.set_cons_succ, i64_w, i32_w]
            rfl
          refine pure_ (i := 4) (N := some 53) (v := ?_) (a' := ?_) #[true, false, true, true, true, false, false, false, false, false, false, false, false, false, false, false, false, false] rfl rfl (by kernel_rfl) (fun _ _ _ h => h) (Or.inl ⟨by rfl, ?_⟩) ?_ ?_
          rotate_left
          · intro w'
            go_simp
            with_reducible rfl
          rotate_left
          · simp only [Act.put, List.setIfInBounds_toArray, List.set_cons_zero, List.set_cons_succ, i64_w, i32_w]
            rfl
          refine pure_ (i := 8) (N := some 57) (v := ?_) (a' := ?_) #[true, false, true, true, true, false, false, false, true, false, false, false, false, false, false, false, false, false] rfl rfl (by kernel_rfl) (fun _ _ _ h => h) (Or.inl ⟨by rfl, ?_⟩) ?_ ?_
          rotate_left
          · intro w'
            go_simp
            with_reducible rfl
          rotate_left
          · simp only [Act.put, List.setIfInBounds_toArray, List.set_cons_zero, List.set_cons_succ, i64_w, i32_w]
            rfl
          refine pure_ (i := 10) (N := some 59) (v := ?_) (a' := ?_) #[true, false, true, true, true, false, false, false, true, false, true, false, false, false, false, false, false, false] rfl rfl (by kernel_rfl) (fun _ _ _ h => h) (Or.inl ⟨by rfl, ?_⟩) ?_ ?_
          rotate_left
          · intro w'
            go_simp
            with_reducible rfl
          rotate_left
          · simp only [Act.put, List.setIfInBounds_toArray, List.set_cons_zero, List.set_cons_succ, i64_w, i32_w]
            rfl
          refine pure_ (i := 11) (N := some 60) (v := ?_) (a' := ?_) #[true, false, true, true, true, false, false, false, true, false, true, true, false, false, false, false, false, false] rfl rfl (by kernel_rfl) (fun _ _ _ h => h) (Or.inl ⟨by rfl, ?_⟩) ?_ ?_
          rotate_left
          · intro w'
            go_simp
            with_reducible rfl
          rotate_left
          · simp only [Act.put, List.setIfInBounds_toArray, List.set_cons_zero, List.set_cons_succ, i64_w, i32_w]
            rfl
          refine pure_ (i := 12) (N := some 61) (v := ?_) (a' := ?_) #[true, false, true, true, true, false, false, false, true, false, true, true, true, false, false, false, false, false] rfl rfl (by kernel_rfl) (fun _ _ _ h => h) (Or.inl ⟨by rfl, ?_⟩) ?_ ?_
          rotate_left
          · intro w'
            go_simp
            with_reducible rfl
          rotate_left
          · simp only [Act.put, List.setIfInBounds_toArray, List.set_cons_zero, List.set_cons_succ, i64_w, i32_w]
            rfl
          refine take_ (i := 1) (N := some 50) (v := ?_) (a' := ?_) #[true, true, true, true, true, false, false, false, true, false, true, true, true, false, false, false, false, false] rfl rfl (by kernel_rfl) (fun _ _ _ h => h) (Or.inl ⟨by rfl, ?_⟩) hHeld ?_ ?_
          rotate_left
          · rintro w' ⟨s0, s1, s2, s3, s4, s5, s6, s7, s8, s9, s10, s11, s12, s13, s14, s15, s16⟩
            go_simp
            with_reducible rfl
          rotate_left
          · simp only [Act.put, List.setIfInBounds_toArray, List.set_cons_zero, List.set_cons_succ, i64_w, i32_w]
            rfl
          refine take_ (i := 5) (N := some 54) (v := ?_) (a' := ?_) #[true, true, true, true, true, true, false, false, true, false, true, true, true, false, false, false, false, false] rfl rfl (by kernel_rfl) (fun _ _ _ h => h) (Or.inl ⟨by rfl, ?_⟩) hHeld ?_ ?_
          rotate_left
          · rintro w' ⟨s0, s1, s2, s3, s4, s5, s6, s7, s8, s9, s10, s11, s12, s13, s14, s15, s16⟩
            go_simp
            with_reducible rfl
          rotate_left
          · simp only [Act.put, List.setIfInBounds_toArray, List.set_cons_zero, List.set_cons_succ, i64_w, i32_w]
            rfl
          refine pure_ (i := 6) (N := some 55) (v := ?_) (a' := ?_) #[true, true, true, true, true, true, true, false, true, false, true, true, true, false, false, false, false, false] rfl rfl (by kernel_rfl) (fun _ _ _ h => h) (Or.inl ⟨by rfl, ?_⟩) ?_ ?_
          rotate_left
          · intro w'
            go_simp
            with_reducible rfl
          rotate_left
          · simp only [Act.put, List.setIfInBounds_toArray, List.set_cons_zero, List.set_cons_succ, i64_w, i32_w]
            rfl
          refine take_ (i := 7) (N := some 56) (v := ?_) (a' := ?_) #[true, true, true, true, true, true, true, true, true, false, true, true, true, false, false, false, false, false] rfl rfl (by kernel_rfl) (fun _ _ _ h => h) (Or.inl ⟨by rfl, ?_⟩) hHeld ?_ ?_
          rotate_left
          · rintro w' ⟨s0, s1, s2, s3, s4, s5, s6, s7, s8, s9, s10, s11, s12, s13, s14, s15, s16⟩
            go_simp
            with_reducible rfl
          rotate_left
          · simp only [Act.put, List.setIfInBounds_toArray, List.set_cons_zero, List.set_cons_succ, i64_w, i32_w]
            rfl
          refine take_ (i := 9) (N := some 58) (v := ?_) (a' := ?_) #[true, true, true, true, true, true, true, true, true, true, true, true, true, false, false, false, false, false] rfl rfl (by kernel_rfl) (fun _ _ _ h => h) (Or.inl ⟨by rfl, ?_⟩) hHeld ?_ ?_
          rotate_left
          · rintro w' ⟨s0, s1, s2, s3, s4, s5, s6, s7, s8, s9, s10, s11, s12, s13, s14, s15, s16⟩
            go_simp
            with_reducible rfl
          rotate_left
          · simp only [Act.put, List.setIfInBounds_toArray, List.set_cons_zero, List.set_cons_succ, i64_w, i32_w]
            rfl
          refine take_ (i := 13) (N := some 62) (v := ?_) (a' := ?_) #[true, true, true, true, true, true, true, true, true, true, true, true, true, true, false, false, false, false] rfl rfl (by kernel_rfl) (fun _ _ _ h => h) (Or.inl ⟨by rfl, ?_⟩) hHeld ?_ ?_
          rotate_left
          · rintro w' ⟨s0, s1, s2, s3, s4, s5, s6, s7, s8, s9, s10, s11, s12, s13, s14, s15, s16⟩
            go_simp
            with_reducible rfl
          rotate_left
          · simp only [Act.put, List.setIfInBounds_toArray, List.set_cons_zero, List.set_cons_succ, i64_w, i32_w]
            rfl
          refine pure_ (i := 14) (N := some 63) (v := ?_) (a' := ?_) #[true, true, true, true, true, true, true, true, true, true, true, true, true, true, true, false, false, false] rfl rfl (by kernel_rfl) (fun _ _ _ h => h) (Or.inl ⟨by rfl, ?_⟩) ?_ ?_
          rotate_left
          · intro w'
            go_simp
            with_reducible rfl
          rotate_left
          · simp only [Act.put, List.setIfInBounds_toArray, List.set_cons_zero, List.set_cons_succ, i64_w, i32_w]
            rfl
          refine take_ (i := 15) (N := some 64) (v := ?_) (a' := ?_) #[true, true, true, true, true, true, true, true, true, true, true, true, true, true, true, true, false, false] rfl rfl (by kernel_rfl) (fun _ _ _ h => h) (Or.inl ⟨by rfl, ?_⟩) hHeld ?_ ?_
          rotate_left
          · rintro w' ⟨s0, s1, s2, s3, s4, s5, s6, s7, s8, s9, s10, s11, s12, s13, s14, s15, s16⟩
            go_simp
            with_reducible rfl
          rotate_left
          · simp only [Act.put, List.setIfInBounds_toArray, List.set_cons_zero, List.set_cons_succ, i64_w, i32_w]
            rfl
          refine one_ (i := 16) (N := some 65) #[true, true, true, true, true, true, true, true, true, true, true, true, true, true, true, true, true, false] rfl rfl (by kernel_rfl) (by decide) (fun K hK => ?_)
          refine goes_ Try.func29 (by kernel_rfl) rfl #[.agg #[.int .i64 y.f0, .string y.f1, .int .i64 y.f2, .slice A13 y.f3.length c13, .slice A14 y.f4.length c14, .slice A15 y.f5.length c15, .slice A16 y.f6.length c16], .agg #[.int .i64 y.f0, .string y.f1, .int .i64 y.f2, .slice B3 y.f3.length d3, .slice B4 y.f4.length d4, .slice B5 y.f5.length d5, .slice B6 y.f6.length d6]] (by rfl) rfl rfl (by simp only [List.map_toArray, List.map_cons, List.map_nil]; rfl) ?_
          with_reducible refine (HSO.out _ hq0).mono ?_
          rintro e w12 ⟨rfl, hb⟩
          refine ⟨_, rfl, ?_⟩
          have hq1 := bth hq0 hq0.size hb
          refine hK.out _ _ ⟨B.cell_keep hq1 r5, B.cell_keep hq1 r3, B.cell_keep hq1 rq, B.cell_keep hq1 g0, B.cell_keep hq1 g1, B.cell_keep hq1 g2, B.cell_keep hq1 g3, B.cell_keep hq1 g4, B.cell_keep hq1 g5, B.cell_keep hq1 g6, B.cell_keep hq1 j0, B.cell_keep hq1 j1, B.cell_keep hq1 j2, B.cell_keep hq1 j3, B.cell_keep hq1 j4, B.cell_keep hq1 j5, B.cell_keep hq1 j6⟩ (fun hHeld => ?_)
          clear hK K
          refine norm_ (a' := ?_) ?_ ?_
          rotate_left
          · show Act.put _ (some 65) _ = _
            simp only [Act.put, List.setIfInBounds_toArray, List.set_cons_zero, List.set_cons_succ, i64_w, i32_w]
            rfl
          refine pure_ (i := 17) (N := some 66) (v := ?_) (a' := ?_) #[true, true, true, true, true, true, true, true, true, true, true, true, true, true, true, true, true, true] rfl rfl (by kernel_rfl) (fun _ _ _ h => h) (Or.inl ⟨by rfl, ?_⟩) ?_ ?_
          rotate_left
          · intro w'
            go_simp
            with_reducible rfl
          rotate_left
          · simp only [Act.put, List.setIfInBounds_toArray, List.set_cons_zero, List.set_cons_succ, i64_w, i32_w]
            rfl
          refine done_ (by kernel_rfl) ?_
          go_wp2_with fail
          go_roundw
          case rel => exact ⟨k + 1, by go_num, hk, ⟨bst HQ.out hq1⟩⟩
          case measure => simp [intOf]; omega
        · have r5 := B.cell_keep HQ.out Q5.out
          have HSI := Aside0.mk (fun (W' : World) (hb : Below wr.heap.size wr W') => same_c (R_C (Kd.R_below (Kd.R_below HR8.out HQ.out) hb)) (Kd.R_reads' HR8.out).2.1 (R_C (Kd.R_below (Kd.R_below HR9.out HQ.out) hb)) (Kd.R_reads' HR9.out).2.1 (by have := HM8.out; omega))
          have HOK := Aside0.mk (fun (W' : World) (hb : Below wr.heap.size wr W') => heapOk_t c5 (Kd.C_below (Kd.C_below HC5.out HQ.out) hb) HOB.out (by have := HN5.out; omega) (swept_okH HT.out HK.out))
          have HSW := Aside0.mk (fun (W' : World) (hb : Below wr.heap.size wr W') => ((HDO.out.below HQ.out).below hb).sweepI HTS.out)
          replace HC5 := Aside0.mk (Kd.C_below HC5.out HQ.out)
          go_wp2_with fail
          have hq0 : Below wr.heap.size wr wr.drew := below_drew (Below.refl _ _)
          refine start_ (n := 15) (S := fun w' => w'.cell? ⟨b5, 0, none⟩ = some (.slice A5 n5 c5)) (ds := []) #[false, false, false, false, false, false, false, false, false, false, false, false, false, false, false] (by kernel_rfl) rfl rfl (B.cell_keep hq0 r5) (fun hHeld => ?_)
          generalize wr.drew = w10 at hq0 hHeld ⊢
          refine pure_ (i := 0) (N := some 67) (v := ?_) (a' := ?_) #[true, false, false, false, false, false, false, false, false, false, false, false, false, false, false] rfl rfl (by kernel_rfl) (fun _ _ _ h => h) (Or.inl ⟨by rfl, ?_⟩) ?_ ?_
          rotate_left
          · intro w'
            go_simp
            with_reducible rfl
          rotate_left
          · simp only [Act.put, List.setIfInBounds_toArray, List.set_cons_zero, List.set_cons_succ, i64_w, i32_w]
            rfl
          refine pure_ (i := 1) (N := some 68) (v := ?_) (a' := ?_) #[true, true, false, false, false, false, false, false, false, false, false, false, false, false, false] rfl rfl (by kernel_rfl) (fun _ _ _ h => h) (Or.inl ⟨by rfl, ?_⟩) ?_ ?_
          rotate_left
          · intro w'
            go_simp
            with_reducible rfl
          rotate_left
          · simp only [Act.put, List.setIfInBounds_toArray, List.set_cons_zero, List.set_cons_succ, i64_w, i32_w]
            rfl
          refine one_ (i := 2) (N := some 69) #[true, true, true, false, false, false, false, false, false, false, false, false, false, false, false] rfl rfl (by kernel_rfl) (by decide) (fun K hK => ?_)
          refine goes_ Try.func18 (by kernel_rfl) rfl #[.slice A8 m8 c8, .slice A9 m8 c9] (by rfl) rfl rfl (by simp only [List.map_toArray, List.map_cons, List.map_nil]; rfl) ?_
          with_reducible refine (HSI.out _ hq0).mono ?_
          rintro e w11 ⟨rfl, hb1⟩
          refine ⟨_, rfl, ?_⟩
          have hq1 := bth hq0 hq0.size hb1
          refine hK.out _ _ (B.cell_keep hq1 r5) (fun hHeld => ?_)
          clear hK K
          refine norm_ (a' := ?_) ?_ ?_
          rotate_left
          · show Act.put _ (some 69) _ = _
            simp only [Act.put, List.setIfInBounds_toArray, List.set_cons_zero, List.set_cons_succ, i64_w, i32_w]
            rfl
          refine pure_ (i := 3) (N := some 70) (v := ?_) (a' := ?_) #[true, true, true, true, false, false, false, false, false, false, false, false, false, false, false] rfl rfl (by kernel_rfl) (fun _ _ _ h => h) (Or.inl ⟨by rfl, ?_⟩) ?_ ?_
          rotate_left
          · intro w'
            go_simp
            with_reducible rfl
          rotate_left
          · simp only [Act.put, List.setIfInBounds_toArray, List.set_cons_zero, List.set_cons_succ, i64_w, i32_w]
            rfl
          refine take_ (i := 4) (N := some 71) (v := ?_) (a' := ?_) #[true, true, true, true, true, false, false, false, false, false, false, false, false, false, false] rfl rfl (by kernel_rfl) (fun _ _ _ h => h) (Or.inl ⟨by rfl, ?_⟩) hHeld ?_ ?_
          rotate_left
          · intro w' s0
            go_simp
            with_reducible rfl
          rotate_left
          · simp only [Act.put, List.setIfInBounds_toArray, List.set_cons_zero, List.set_cons_succ, i64_w, i32_w]
            rfl
          refine one_ (i := 5) (N := some 72) #[true, true, true, true, true, true, false, false, false, false, false, false, false, false, false] rfl rfl (by kernel_rfl) (by decide) (fun K hK => ?_)
          refine goes_ Try.func30 (by kernel_rfl) rfl #[.agg #[.slice A5 n5 c5]] (by rfl) rfl rfl (by simp only [List.map_toArray, List.map_cons, List.map_nil]; rfl) ?_
          with_reducible refine (HOK.out _ hq1).mono ?_
          rintro e w12 ⟨rfl, hb2⟩
          refine ⟨_, rfl, ?_⟩
          have hq2 := bth hq1 hq1.size hb2
          refine hK.out _ _ (B.cell_keep hq2 r5) (fun hHeld => ?_)
          clear hK K
          refine norm_ (a' := ?_) ?_ ?_
          rotate_left
          · show Act.put _ (some 72) _ = _
            simp only [Act.put, List.setIfInBounds_toArray, List.set_cons_zero, List.set_cons_succ, i64_w, i32_w]
            rfl
          refine pure_ (i := 6) (N := some 73) (v := ?_) (a' := ?_) #[true, true, true, true, true, true, true, false, false, false, false, false, false, false, false] rfl rfl (by kernel_rfl) (fun _ _ _ h => h) (Or.inl ⟨by rfl, ?_⟩) ?_ ?_
          rotate_left
          · intro w'
            go_simp
            with_reducible rfl
          rotate_left
          · simp only [Act.put, List.setIfInBounds_toArray, List.set_cons_zero, List.set_cons_succ, i64_w, i32_w]
            rfl
          refine pure_ (i := 7) (N := some 74) (v := ?_) (a' := ?_) #[true, true, true, true, true, true, true, true, false, false, false, false, false, false, false] rfl rfl (by kernel_rfl) (fun _ _ _ h => h) (Or.inl ⟨by rfl, ?_⟩) ?_ ?_
          rotate_left
          · intro w'
            go_simp
            with_reducible rfl
          rotate_left
          · simp only [Act.put, List.setIfInBounds_toArray, List.set_cons_zero, List.set_cons_succ, i64_w, i32_w]
            rfl
          refine pure_ (i := 9) (N := some 76) (v := ?_) (a' := ?_) #[true, true, true, true, true, true, true, true, false, true, false, false, false, false, false] rfl rfl (by kernel_rfl) (fun _ _ _ h => h) (Or.inl ⟨by rfl, ?_⟩) ?_ ?_
          rotate_left
          · intro w'
            go_simp
            with_reducible rfl
          rotate_left
          · simp only [Act.put, List.setIfInBounds_toArray, List.set_cons_zero, List.set_cons_succ, i64_w, i32_w]
            rfl
          refine take_ (i := 8) (N := some 75) (v := ?_) (a' := ?_) #[true, true, true, true, true, true, true, true, true, true, false, false, false, false, false] rfl rfl (by kernel_rfl) (fun _ _ _ h => h) (Or.inl ⟨by rfl, ?_⟩) hHeld ?_ ?_
          rotate_left
          · intro w' s0
            go_simp
            with_reducible rfl
          rotate_left
          · simp only [Act.put, List.setIfInBounds_toArray, List.set_cons_zero, List.set_cons_succ, i64_w, i32_w]
            rfl
          refine take_ (i := 11) (N := some 78) (v := ?_) (a' := ?_) #[true, true, true, true, true, true, true, true, true, true, false, true, false, false, false] rfl rfl (by kernel_rfl) (fun _ _ _ h => h) (Or.inl ⟨by rfl, ?_⟩) hHeld ?_ ?_
          rotate_left
          · intro w' s0
            go_simp
            with_reducible rfl
          rotate_left
          · simp only [Act.put, List.setIfInBounds_toArray, List.set_cons_zero, List.set_cons_succ, i64_w, i32_w]
            rfl
          refine one_ (i := 10) (N := some 77) #[true, true, true, true, true, true, true, true, true, true, true, true, false, false, false] rfl rfl (by kernel_rfl) (by decide) (fun K hK => ?_)
          refine goes_ Try.func26 (by kernel_rfl) rfl #[.agg #[.slice A5 n5 c5], .slice A1 m c1] (by rfl) rfl rfl (by simp only [List.map_toArray, List.map_cons, List.map_nil]; rfl) ?_
          with_reducible refine (HSW.out _ hq2).mono ?_
          rintro e w13 hpost
          obtain ⟨A7, n7, c7, rfl, e7, hC7, hc7, hb3⟩ := hpost.open
          have e77 : n5 = n7 := by rw [e7, HN5.out]
          subst e77
          clear e7
          refine ⟨_, rfl, ?_⟩
          have hq3 := bth hq2 hq2.size hb3
          refine hK.out _ _ (B.cell_keep hq3 r5) (fun hHeld => ?_)
          clear hK K
          refine norm_ (a' := ?_) ?_ ?_
          rotate_left
          · show Act.put _ (some 77) _ = _
            simp only [Act.put, List.setIfInBounds_toArray, List.set_cons_zero, List.set_cons_succ, i64_w, i32_w]
            rfl
          refine one_ (i := 12) (N := some 79) #[true, true, true, true, true, true, true, true, true, true, true, true, true, false, false] rfl rfl (by kernel_rfl) (by decide) (fun K hK => ?_)
          refine goes_ Try.func27 (by kernel_rfl) rfl #[.agg #[.slice A7 n5 c7], .agg #[.slice A5 n5 c5]] (by rfl) rfl rfl (by simp only [List.map_toArray, List.map_cons, List.map_nil]; rfl) ?_
          with_reducible refine (sameHeap_w A7 n5 c7 A5 c5 out w13 hC7 (Kd.C_below HC5.out hq3) (by omega) HOL.out).mono ?_
          rintro e w14 ⟨rfl, hb4⟩
          refine ⟨_, rfl, ?_⟩
          have hq4 := bth hq3 hq3.size hb4
          refine hK.out _ _ (B.cell_keep hq4 r5) (fun hHeld => ?_)
          clear hK K
          refine norm_ (a' := ?_) ?_ ?_
          rotate_left
          · show Act.put _ (some 79) _ = _
            simp only [Act.put, List.setIfInBounds_toArray, List.set_cons_zero, List.set_cons_succ, i64_w, i32_w]
            rfl
          refine pure_ (i := 13) (N := some 80) (v := ?_) (a' := ?_) #[true, true, true, true, true, true, true, true, true, true, true, true, true, true, false] rfl rfl (by kernel_rfl) (fun _ _ _ h => h) (Or.inl ⟨by rfl, ?_⟩) ?_ ?_
          rotate_left
          · intro w'
            go_simp
            with_reducible rfl
          rotate_left
          · simp only [Act.put, List.setIfInBounds_toArray, List.set_cons_zero, List.set_cons_succ, i64_w, i32_w]
            rfl
          refine pure_ (i := 14) (N := some 2) (v := ?_) (a' := ?_) #[true, true, true, true, true, true, true, true, true, true, true, true, true, true, true] rfl rfl (by kernel_rfl) (fun _ _ _ h => h) (Or.inl ⟨by rfl, ?_⟩) ?_ ?_
          rotate_left
          · intro w'
            go_simp
            with_reducible rfl
          rotate_left
          · simp only [Act.put, List.setIfInBounds_toArray, List.set_cons_zero, List.set_cons_succ, i64_w, i32_w]
            rfl
          refine done_ (by kernel_rfl) ?_
          go_wp2_with fail
          go_ret
          exact ⟨rfl, bst HB1.out (bth (bth HX6.out HX6.out.size HQ.out) (by have := HX6.out.size; have := HQ.out.size; omega) hq4)⟩
end Go.Proofs.Ytgddblpgbkgpcaa.PR
