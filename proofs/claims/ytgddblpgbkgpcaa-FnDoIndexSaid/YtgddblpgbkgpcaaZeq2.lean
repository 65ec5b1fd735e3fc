/- Part of the proof of fnDoIndex_holds. -/
import Derived.Test.YtgddblpgbkgpcaaZeq0
import Derived.Test.YtgddblpgbkgpcaaZeq1
import Derived.Lib.Hide
namespace Go.Proofs.Ytgddblpgbkgpcaa.PR
set_option linter.unusedVariables false
set_option linter.unusedSimpArgs false
open Go.RowKit Go.Proofs.YtgddblpgbkgpcaaW.PrintWords Go.Proofs.YtgddblpgbkgpcaaW.PrintLast Go.Proofs.YtgddblpgbkgpcaaW.PrintMore
set_option linter.unusedVariables false
set_option linter.unusedSimpArgs false
set_option maxRecDepth 100000 in
set_option maxHeartbeats 40000000 in
theorem sameHeap_w (A : Option Addr) (n c : Nat) (A' : Option Addr) (c' : Nat) (l : List S46) (w : World) (h : Kd.C k46 w A n l) (h' : Kd.C k46 w A' n l) (hn : n ≤ 1000) (ho : ∀ o ∈ l, oL o) :
    Calls Try.prog 27 #[.agg #[.slice A n c], .agg #[.slice A' n c']] w fun e w' => e = .returned (.bool true) ∧ Below w.heap.size w w' := by
  have H := Aside0.mk h
  have H' := Aside0.mk h'
  have HO := Aside0.mk ho
  clear h h' ho
  go_enter Try.func27, Try.ntmps27
  have e1 := blk_new (w.alloc (.cells #[.slice A n c] 25)) (.cells #[.slice A' n c'] 25)
  rw [show (w.alloc (.cells #[.slice A n c] 25)).heap.size = w.heap.size + 1 by simp] at e1
  have HS := Aside0.mk (show Below w.heap.size w ((w.alloc (.cells #[.slice A n c] 25)).alloc (.cells #[.slice A' n c'] 25)) ∧ ((w.alloc (.cells #[.slice A n c] 25)).alloc (.cells #[.slice A' n c'] 25)).heap[w.heap.size]? = some (.cells #[.slice A n c] 25 (0, 0)) ∧ ((w.alloc (.cells #[.slice A n c] 25)).alloc (.cells #[.slice A' n c'] 25)).heap[w.heap.size + 1]? = some (.cells #[.slice A' n c'] 25 (0, 0)) from ⟨bla (bla (Below.refl _ _) _) _, kla (blk_new _ _) _, e1⟩)
  clear e1
  go_wp2_with fail
  go_loopw [5] (fun u5 wr => ∃ k : Nat, u5 = .int .i64 k ∧ k ≤ n ∧ Aside0 (Below w.heap.size w wr ∧ wr.heap[w.heap.size]? = some (.cells #[.slice A n c] 25 (0, 0)) ∧ wr.heap[w.heap.size + 1]? = some (.cells #[.slice A' n c'] 25 (0, 0)))) (fun u5 _ => n - (intOf u5).toNat)
  case atStart => exact ⟨0, rfl, Nat.zero_le _, ⟨HS.out⟩⟩
  case round =>
    clear HS
    obtain ⟨k, rfl, hkn, HQ⟩ := hrel
    have qa := (kcl HQ.out.2.1 0).trans (show _ = some (.slice A n c) from rfl)
    have qb := (kcl HQ.out.2.2 0).trans (show _ = some (.slice A' n c') from rfl)
    by_cases hk : k < n
    · obtain ⟨x, ad, A3, c3, A4, c4, A5, c5, A6, c6, hx, hA, g0, g1, g2, g3, g4, g5, g6, h3, h4, h5, h6⟩ := obj_at (Kd.C_below H.out HQ.out.1) k hk
      obtain ⟨y, ad', B3, d3, B4, d4, B5, d5, B6, d6, hy, hB, j0, j1, j2, j3, j4, j5, j6, i3, i4, i5, i6⟩ := obj_at (Kd.C_below H'.out HQ.out.1) k hk
      rw [hx] at hy
      injection hy with hy
      subst hy
      subst hA
      subst hB
      have HSO := Aside0.mk (fun (W' : World) (hb : Below wr.heap.size wr W') => sameObj_w x A3 c3 A4 c4 A5 c5 A6 c6 B3 d3 B4 d4 B5 d5 B6 d6 W' (Rows4.below ⟨h3, h4, h5, h6⟩ hb) (Rows4.below ⟨i3, i4, i5, i6⟩ hb) (HO.out x (List.mem_of_getElem? hx)))
      clear hx h3 h4 h5 h6 i3 i4 i5 i6
      go_wp2_with fail
      have hq0 : Below wr.heap.size wr wr.drew := below_drew (Below.refl _ _)
      refine start_ (n := 12) (S := fun w' => w'.cell? ⟨w.heap.size, 0, none⟩ = some (.slice (some ad) n c) ∧ w'.cell? ⟨w.heap.size + 1, 0, none⟩ = some (.slice (some ad') n c') ∧ w'.cell? (ad.add (k * 7)) = some (.int .i64 x.f0) ∧ w'.cell? ⟨(ad.add (k * 7)).block, (ad.add (k * 7)).off + 1, none⟩ = some (.string x.f1) ∧ w'.cell? ⟨(ad.add (k * 7)).block, (ad.add (k * 7)).off + 2, none⟩ = some (.int .i64 x.f2) ∧ w'.cell? ⟨(ad.add (k * 7)).block, (ad.add (k * 7)).off + 3, none⟩ = some (.slice A3 x.f3.length c3) ∧ w'.cell? ⟨(ad.add (k * 7)).block, (ad.add (k * 7)).off + 4, none⟩ = some (.slice A4 x.f4.length c4) ∧ w'.cell? ⟨(ad.add (k * 7)).block, (ad.add (k * 7)).off + 5, none⟩ = some (.slice A5 x.f5.length c5) ∧ w'.cell? ⟨(ad.add (k * 7)).block, (ad.add (k * 7)).off + 6, none⟩ = some (.slice A6 x.f6.length c6) ∧ w'.cell? (ad'.add (k * 7)) = some (.int .i64 x.f0) ∧ w'.cell? ⟨(ad'.add (k * 7)).block, (ad'.add (k * 7)).off + 1, none⟩ = some (.string x.f1) ∧ w'.cell? ⟨(ad'.add (k * 7)).block, (ad'.add (k * 7)).off + 2, none⟩ = some (.int .i64 x.f2) ∧ w'.cell? ⟨(ad'.add (k * 7)).block, (ad'.add (k * 7)).off + 3, none⟩ = some (.slice B3 x.f3.length d3) ∧ w'.cell? ⟨(ad'.add (k * 7)).block, (ad'.add (k * 7)).off + 4, none⟩ = some (.slice B4 x.f4.length d4) ∧ w'.cell? ⟨(ad'.add (k * 7)).block, (ad'.add (k * 7)).off + 5, none⟩ = some (.slice B5 x.f5.length d5) ∧ w'.cell? ⟨(ad'.add (k * 7)).block, (ad'.add (k * 7)).off + 6, none⟩ = some (.slice B6 x.f6.length d6)) (ds := []) #[false, false, false, false, false, false, false, false, false, false, false, false] (by kernel_rfl) rfl rfl ⟨B.cell_keep hq0 qa, B.cell_keep hq0 qb, B.cell_keep hq0 g0, B.cell_keep hq0 g1, B.cell_keep hq0 g2, B.cell_keep hq0 g3, B.cell_keep hq0 g4, B.cell_keep hq0 g5, B.cell_keep hq0 g6, B.cell_keep hq0 j0, B.cell_keep hq0 j1, B.cell_keep hq0 j2, B.cell_keep hq0 j3, B.cell_keep hq0 j4, B.cell_keep hq0 j5, B.cell_keep hq0 j6⟩ (fun hHeld => ?_)
      generalize wr.drew = w10 at hq0 hHeld ⊢
      refine pure_ (i := 0) (N := some 20) (v := ?_) (a' := ?_) #[true, false, false, false, false, false, false, false, false, false, false, false] rfl rfl (by kernel_rfl) (fun _ _ _ h => h) (Or.inl ⟨by rfl, ?_⟩) ?_ ?_
      rotate_left
      · intro w'
        go_simp
        with_reducible rfl
      rotate_left
      · simp only [Act.put, List.setIfInBounds_toArray, List.set_cons_zero, List.set_cons_succ, i64_w, i32_w]
        rfl
      refine pure_ (i := 2) (N := some 22) (v := ?_) (a' := ?_) #[true, false, true, false, false, false, false, false, false, false, false, false] rfl rfl (by kernel_rfl) (fun _ _ _ h => h) (Or.inl ⟨by rfl, ?_⟩) ?_ ?_
      rotate_left
      · intro w'
        go_simp
        with_reducible rfl
      rotate_left
      · simp only [Act.put, List.setIfInBounds_toArray, List.set_cons_zero, List.set_cons_succ, i64_w, i32_w]
        rfl
      refine pure_ (i := 5) (N := some 25) (v := ?_) (a' := ?_) #[true, false, true, false, false, true, false, false, false, false, false, false] rfl rfl (by kernel_rfl) (fun _ _ _ h => h) (Or.inl ⟨by rfl, ?_⟩) ?_ ?_
      rotate_left
      · intro w'
        go_simp
        with_reducible rfl
      rotate_left
      · simp only [Act.put, List.setIfInBounds_toArray, List.set_cons_zero, List.set_cons_succ, i64_w, i32_w]
        rfl
      refine pure_ (i := 7) (N := some 27) (v := ?_) (a' := ?_) #[true, false, true, false, false, true, false, true, false, false, false, false] rfl rfl (by kernel_rfl) (fun _ _ _ h => h) (Or.inl ⟨by rfl, ?_⟩) ?_ ?_
      rotate_left
      · intro w'
        go_simp
        with_reducible rfl
      rotate_left
      · simp only [Act.put, List.setIfInBounds_toArray, List.set_cons_zero, List.set_cons_succ, i64_w, i32_w]
        rfl
      refine take_ (i := 1) (N := some 21) (v := ?_) (a' := ?_) #[true, true, true, false, false, true, false, true, false, false, false, false] rfl rfl (by kernel_rfl) (fun _ _ _ h => h) (Or.inl ⟨by rfl, ?_⟩) hHeld ?_ ?_
      rotate_left
      · rintro w' ⟨s0, s1, s2, s3, s4, s5, s6, s7, s8, s9, s10, s11, s12, s13, s14, s15⟩
        go_simp
        with_reducible rfl
      rotate_left
      · simp only [Act.put, List.setIfInBounds_toArray, List.set_cons_zero, List.set_cons_succ, i64_w, i32_w]
        rfl
      refine pure_ (i := 3) (N := some 23) (v := ?_) (a' := ?_) #[true, true, true, true, false, true, false, true, false, false, false, false] rfl rfl (by kernel_rfl) (fun _ _ _ h => h) (Or.inl ⟨by rfl, ?_⟩) ?_ ?_
      rotate_left
      · intro w'
        go_simp
        with_reducible rfl
      rotate_left
      · simp only [Act.put, List.setIfInBounds_toArray, List.set_cons_zero, List.set_cons_succ, i64_w, i32_w]
        rfl
      refine take_ (i := 4) (N := some 24) (v := ?_) (a' := ?_) #[true, true, true, true, true, true, false, true, false, false, false, false] rfl rfl (by kernel_rfl) (fun _ _ _ h => h) (Or.inl ⟨by rfl, ?_⟩) hHeld ?_ ?_
      rotate_left
      · rintro w' ⟨s0, s1, s2, s3, s4, s5, s6, s7, s8, s9, s10, s11, s12, s13, s14, s15⟩
        go_simp
        with_reducible rfl
      rotate_left
      · simp only [Act.put, List.setIfInBounds_toArray, List.set_cons_zero, List.set_cons_succ, i64_w, i32_w]
        rfl
      refine take_ (i := 6) (N := some 26) (v := ?_) (a' := ?_) #[true, true, true, true, true, true, true, true, false, false, false, false] rfl rfl (by kernel_rfl) (fun _ _ _ h => h) (Or.inl ⟨by rfl, ?_⟩) hHeld ?_ ?_
      rotate_left
      · rintro w' ⟨s0, s1, s2, s3, s4, s5, s6, s7, s8, s9, s10, s11, s12, s13, s14, s15⟩
        go_simp
        with_reducible rfl
      rotate_left
      · simp only [Act.put, List.setIfInBounds_toArray, List.set_cons_zero, List.set_cons_succ, i64_w, i32_w]
        rfl
      refine pure_ (i := 8) (N := some 28) (v := ?_) (a' := ?_) #[true, true, true, true, true, true, true, true, true, false, false, false] rfl rfl (by kernel_rfl) (fun _ _ _ h => h) (Or.inl ⟨by rfl, ?_⟩) ?_ ?_
      rotate_left
      · intro w'
        go_simp
        with_reducible rfl
      rotate_left
      · simp only [Act.put, List.setIfInBounds_toArray, List.set_cons_zero, List.set_cons_succ, i64_w, i32_w]
        rfl
      refine take_ (i := 9) (N := some 29) (v := ?_) (a' := ?_) #[true, true, true, true, true, true, true, true, true, true, false, false] rfl rfl (by kernel_rfl) (fun _ _ _ h => h) (Or.inl ⟨by rfl, ?_⟩) hHeld ?_ ?_
      rotate_left
      · rintro w' ⟨s0, s1, s2, s3, s4, s5, s6, s7, s8, s9, s10, s11, s12, s13, s14, s15⟩
        go_simp
        with_reducible rfl
      rotate_left
      · simp only [Act.put, List.setIfInBounds_toArray, List.set_cons_zero, List.set_cons_succ, i64_w, i32_w]
        rfl
      refine one_ (i := 10) (N := some 30) #[true, true, true, true, true, true, true, true, true, true, true, false] rfl rfl (by kernel_rfl) (by decide) (fun K hK => ?_)
      refine goes_ Try.func29 (by kernel_rfl) rfl #[.agg #[.int .i64 x.f0, .string x.f1, .int .i64 x.f2, .slice A3 x.f3.length c3, .slice A4 x.f4.length c4, .slice A5 x.f5.length c5, .slice A6 x.f6.length c6], .agg #[.int .i64 x.f0, .string x.f1, .int .i64 x.f2, .slice B3 x.f3.length d3, .slice B4 x.f4.length d4, .slice B5 x.f5.length d5, .slice B6 x.f6.length d6]] (by rfl) rfl rfl (by simp only [List.map_toArray, List.map_cons, List.map_nil]; rfl) ?_
      with_reducible refine (HSO.out _ hq0).mono ?_
      rintro e w12 ⟨rfl, hb⟩
      refine ⟨_, rfl, ?_⟩
      have hq1 := bth hq0 hq0.size hb
      refine hK.out _ _ ⟨B.cell_keep hq1 qa, B.cell_keep hq1 qb, B.cell_keep hq1 g0, B.cell_keep hq1 g1, B.cell_keep hq1 g2, B.cell_keep hq1 g3, B.cell_keep hq1 g4, B.cell_keep hq1 g5, B.cell_keep hq1 g6, B.cell_keep hq1 j0, B.cell_keep hq1 j1, B.cell_keep hq1 j2, B.cell_keep hq1 j3, B.cell_keep hq1 j4, B.cell_keep hq1 j5, B.cell_keep hq1 j6⟩ (fun hHeld => ?_)
      clear hK K
      refine norm_ (a' := ?_) ?_ ?_
      rotate_left
      · show Act.put _ (some 30) _ = _
        simp only [Act.put, List.setIfInBounds_toArray, List.set_cons_zero, List.set_cons_succ, i64_w, i32_w]
        rfl
      refine pure_ (i := 11) (N := some 31) (v := ?_) (a' := ?_) #[true, true, true, true, true, true, true, true, true, true, true, true] rfl rfl (by kernel_rfl) (fun _ _ _ h => h) (Or.inl ⟨by rfl, ?_⟩) ?_ ?_
      rotate_left
      · intro w'
        go_simp
        with_reducible rfl
      rotate_left
      · simp only [Act.put, List.setIfInBounds_toArray, List.set_cons_zero, List.set_cons_succ, i64_w, i32_w]
        rfl
      refine done_ (by kernel_rfl) ?_
      go_wp2_with fail
      go_roundw
      case rel => exact ⟨k + 1, by go_num, hk, ⟨bst HQ.out.1 hq1, kbw HQ.out.2.1 hq1, kbw HQ.out.2.2 hq1⟩⟩
      case measure => simp [intOf]; omega
    · go_wp2_with fail
      go_ret
      exact ⟨rfl, HQ.out.1⟩
end Go.Proofs.Ytgddblpgbkgpcaa.PR
namespace Go.Proofs.Ytgddblpgbkgpcaa.PR
set_option linter.unusedVariables false
set_option linter.unusedSimpArgs false
open Go.RowKit Go.Proofs.YtgddblpgbkgpcaaW.PrintWords Go.Proofs.YtgddblpgbkgpcaaW.PrintLast Go.Proofs.YtgddblpgbkgpcaaW.PrintMore
set_option linter.unusedVariables false
set_option linter.unusedSimpArgs false
structure Lx (w X : World) (b : Nat) (n c : Nat) (A : Option Addr) (v k : S35) : Prop where
  p0 : X.cell? ⟨b, 0, none⟩ = some (.slice A n c)
  v0 : X.cell? ⟨b + 1, 0, none⟩ = some (.int .i64 v.f0)
  v1 : X.cell? ⟨b + 1, 1, none⟩ = some (.string v.f1)
  v2 : X.cell? ⟨b + 1, 2, none⟩ = some (.int .i64 v.f2)
  k0 : X.cell? ⟨b + 1 + 1, 0, none⟩ = some (.int .i64 k.f0)
  k1 : X.cell? ⟨b + 1 + 1, 1, none⟩ = some (.string k.f1)
  k2 : X.cell? ⟨b + 1 + 1, 2, none⟩ = some (.int .i64 k.f2)
  bl : Below w.heap.size w X
theorem Lx.below {w X Y : World} {b n c : Nat} {A : Option Addr} {v k : S35} (h : Lx w X b n c A v k) (hb : Below X.heap.size X Y) : Lx w Y b n c A v k :=
  ⟨B.cell_keep hb h.p0, B.cell_keep hb h.v0, B.cell_keep hb h.v1, B.cell_keep hb h.v2, B.cell_keep hb h.k0, B.cell_keep hb h.k1, B.cell_keep hb h.k2, bst h.bl hb⟩
theorem lx_new (w : World) (n c : Nat) (A : Option Addr) (v k : S35) (W : World) (hW : W = ((w.alloc (.cells #[.slice A n c] 25)).alloc (.cells #[.int .i64 v.f0, .string v.f1, .int .i64 v.f2] 35)).alloc (.cells #[.int .i64 k.f0, .string k.f1, .int .i64 k.f2] 35)) : Lx w W w.heap.size n c A v k := by
  have e1 := blk_new (w.alloc (.cells #[.slice A n c] 25)) (.cells #[.int .i64 v.f0, .string v.f1, .int .i64 v.f2] 35)
  have e2 := blk_new ((w.alloc (.cells #[.slice A n c] 25)).alloc (.cells #[.int .i64 v.f0, .string v.f1, .int .i64 v.f2] 35)) (.cells #[.int .i64 k.f0, .string k.f1, .int .i64 k.f2] 35)
  rw [World.size_alloc] at e1 e2
  rw [World.size_alloc] at e2
  have h0 : W.heap[w.heap.size]? = some (.cells #[.slice A n c] 25 (0, 0)) := by rw [hW]; exact kla (kla (blk_new _ _) _) _
  have h1 : W.heap[w.heap.size + 1]? = some (.cells #[.int .i64 v.f0, .string v.f1, .int .i64 v.f2] 35 (0, 0)) := by rw [hW]; exact kla e1 _
  have h2 : W.heap[w.heap.size + 1 + 1]? = some (.cells #[.int .i64 k.f0, .string k.f1, .int .i64 k.f2] 35 (0, 0)) := by rw [hW]; exact e2
  exact ⟨kcl h0 0, kcl h1 0, kcl h1 1, kcl h1 2, kcl h2 0, kcl h2 1, kcl h2 2, by rw [hW]; exact bla (bla (bla (Below.refl _ _) _) _) _⟩
structure Yx (X : World) (b : Nat) (y : S35) : Prop where
  y0 : X.cell? ⟨b, 0, none⟩ = some (.int .i64 y.f0)
  y1 : X.cell? ⟨b, 1, none⟩ = some (.string y.f1)
  y2 : X.cell? ⟨b, 2, none⟩ = some (.int .i64 y.f2)
theorem Yx.below {X Y : World} {b : Nat} {y : S35} (h : Yx X b y) (hb : Below X.heap.size X Y) : Yx Y b y := ⟨B.cell_keep hb h.y0, B.cell_keep hb h.y1, B.cell_keep hb h.y2⟩
theorem yx_new (w : World) (y : S35) (W : World) (hW : W = w.alloc (.cells #[.int .i64 y.f0, .string y.f1, .int .i64 y.f2] 35)) : Yx W w.heap.size y := by
  have h1 : W.heap[w.heap.size]? = some (.cells #[.int .i64 y.f0, .string y.f1, .int .i64 y.f2] 35 (0, 0)) := by rw [hW]; exact blk_new _ _
  exact ⟨kcl h1 0, kcl h1 1, kcl h1 2⟩
theorem ob_ol {l : List S46} (hob : ∀ o ∈ l, oB o = true) : ∀ o ∈ l, oL o := fun o ho => (show oL o from by obtain ⟨-, h3, h4, h5, h6, -⟩ := oB_facts (hob o ho); exact ⟨by omega, by omega, by omega, by omega⟩)
theorem got_one {l : List S46} {v k y : S35} (hv : v.f0 = 3) (h : Got l v k y (-1)) : y.f1.size = 1 := by
  cases h with
  | te i c h1 h2 h3 => exact absurd rfl h3
  | ti j h1 h2 h3 =>
    show (v.f1.extract j (j + 1)).size = 1
    rw [ByteArray.size_extract]; omega
  | le r o i c h1 h2 h3 h4 h5 h6 => exact absurd rfl h6
  | li r o j _ h1 h2 h3 h4 h5 h6 => omega
  | df r o j _ h1 h2 h3 h4 h5 h6 h7 => omega
theorem got_four {l : List S46} {v k y : S35} (hv : v.f0 ≠ 3) (h : Got l v k y (-1)) : v.f0 = 4 := by
  cases h with
  | te i c h1 h2 h3 => exact absurd rfl h3
  | ti j h1 h2 h3 => exact absurd h1 hv
  | le r o i c h1 h2 h3 h4 h5 h6 => exact absurd rfl h6
  | li r o j _ h1 h2 h3 h4 h5 h6 => exact h1
  | df r o j _ h1 h2 h3 h4 h5 h6 h7 => exact h1
theorem got_size {l : List S46} {v k y : S35} {cc : Int} (hob : ∀ o ∈ l, oB o = true) (hv : v.f1.size ≤ 5) (h : Got l v k y cc) : y.f1.size ≤ 5 := by
  cases h with
  | ti j h1 h2 h3 =>
    show (v.f1.extract j (j + 1)).size ≤ 5
    rw [ByteArray.size_extract]; omega
  | li r o j _ h1 h2 h3 h4 h5 h6 => exact (oB_facts (hob o (List.mem_of_getElem? h3))).2.2.2.2.2.1 _ (List.mem_of_getElem? h6)
  | df r o j _ h1 h2 h3 h4 h5 h6 h7 => exact (oB_facts (hob o (List.mem_of_getElem? h3))).2.2.2.2.2.1 _ (List.mem_of_getElem? h7)
  | _ => exact Nat.zero_le _
set_option maxRecDepth 100000 in
set_option maxHeartbeats 4000000 in
theorem law9_w (a : Option Addr) (c0 : Nat) (l0 : List Int) (w : World) (hr0 : Kd.C (Kd.int .u8) w a l0.length l0) (hc0 : l0.length ≤ c0) (hw0 : ∀ x ∈ l0, 0 ≤ x ∧ x ≤ 255) :
    Calls Try.prog 9 #[.slice a l0.length c0] w fun e w' => e = .returned (.bool true) ∧ Below w.heap.size w w' := by
  have HDR := Aside0.mk (draw33_w a c0 l0 w hr0 hc0 hw0)
  clear hr0 hc0 hw0
  generalize l0.length = q0 at HDR ⊢
  by_cases hq : (1048576 : Int) < (q0 : Int)
  · go_enter Try.func9, Try.ntmps9
    go_wp2
    go_ret
    exact ⟨rfl, Below.refl _ _⟩
  · go_enter Try.func9, Try.ntmps9
    go_upto_region 4 with (first | (go_at_call 33; refine HDR.out.mono ?_; rintro e w1 ⟨A, n, c, l, v, k, rfl, hC, hnc, hn24, hob, hv, hk, hb1⟩; have HC := Aside0.mk hC; have HB1 := Aside0.mk hb1; have HF := Aside0.mk (show n ≤ c ∧ (∀ o ∈ l, oB o = true) ∧ v.f1.size ≤ 5 ∧ k.f1.size ≤ 5 from ⟨hnc, hob, hv.1, hk.1⟩); clear hC hnc hob hv hk hb1))
    obtain ⟨W1, hW1⟩ : ∃ W1 : World, W1 = ((w1.alloc (.cells #[.slice A n c] 25)).alloc (.cells #[.int .i64 v.f0, .string v.f1, .int .i64 v.f2] 35)).alloc (.cells #[.int .i64 k.f0, .string k.f1, .int .i64 k.f2] 35) := ⟨_, rfl⟩
    rw [← hW1]
    have BX := Aside0.mk (lx_new w1 n c A v k W1 hW1)
    replace HC := Aside0.mk (Kd.C_below HC.out BX.out.bl)
    obtain ⟨p0, v0, v1, v2, k0, k1, k2, -⟩ := BX.out
    clear hW1
    obtain ⟨b1, hb1⟩ : ∃ b1, b1 = w1.heap.size := ⟨_, rfl⟩
    rw [← hb1] at BX p0 v0 v1 v2 k0 k1 k2 ⊢
    clear hb1
    obtain ⟨y, cc, hdi⟩ := di_ex l v k
    have HDI := Aside0.mk hdi
    have HOL := Aside0.mk (ob_ol HF.out.2.1)
    have HI := Aside0.mk (fun (X : World) (hX : Kd.C k46 X A n l) => doIndexI_w A n c l v k y cc X hX HF.out.1 (by omega) HF.out.2.1 HF.out.2.2.1 HF.out.2.2.2 HDI.out)
    have HS := Aside0.mk (fun (X : World) (hX : Kd.C k46 X A n l) => doIndexS_w A n c l v k y cc X hX HF.out.1 (by omega) HF.out.2.1 HF.out.2.2.1 HF.out.2.2.2 HDI.out)
    clear hdi
    go_upto_region 5 with (first | (go_at_call 34; refine (HI.out _ HC.out).mono ?_; rintro e w2 ⟨rfl, hB⟩; replace BX := Aside0.mk (BX.out.below hB); clear p0 v0 v1 v2 k0 k1 k2; obtain ⟨p0, v0, v1, v2, k0, k1, k2, -⟩ := BX.out; replace HC := Aside0.mk (Kd.C_below HC.out hB); clear hB))
    obtain ⟨W2, hW2⟩ : ∃ W2 : World, W2 = w2.alloc (.cells #[.int .i64 y.f0, .string y.f1, .int .i64 y.f2] 35) := ⟨_, rfl⟩
    have hB : Below w2.heap.size w2 W2 := by rw [hW2]; exact bla (Below.refl _ _) _
    have Y6 := Aside0.mk (yx_new w2 y W2 hW2)
    rw [← hW2]
    obtain ⟨b6, hb6⟩ : ∃ b6, b6 = w2.heap.size := ⟨_, rfl⟩
    rw [← hb6] at Y6 ⊢
    clear hW2 hb6
    obtain ⟨y60, y61, y62⟩ := Y6.out
    replace BX := Aside0.mk (BX.out.below hB)
    clear p0 v0 v1 v2 k0 k1 k2
    obtain ⟨p0, v0, v1, v2, k0, k1, k2, -⟩ := BX.out
    replace HC := Aside0.mk (Kd.C_below HC.out hB)
    clear hB

    go_upto_region 6 with (first | (go_at_call 35; refine (HS.out _ HC.out).mono ?_; rintro e w3 ⟨rfl, hB⟩; replace BX := Aside0.mk (BX.out.below hB); clear p0 v0 v1 v2 k0 k1 k2; obtain ⟨p0, v0, v1, v2, k0, k1, k2, -⟩ := BX.out; replace HC := Aside0.mk (Kd.C_below HC.out hB); replace Y6 := Aside0.mk (Y6.out.below hB); clear y60 y61 y62; obtain ⟨y60, y61, y62⟩ := Y6.out; clear hB))
    obtain ⟨W3, hW3⟩ : ∃ W3 : World, W3 = w3.alloc (.cells #[.int .i64 y.f0, .string y.f1, .int .i64 y.f2] 35) := ⟨_, rfl⟩
    have hB : Below w3.heap.size w3 W3 := by rw [hW3]; exact bla (Below.refl _ _) _
    have Y8 := Aside0.mk (yx_new w3 y W3 hW3)
    rw [← hW3]
    obtain ⟨b8, hb8⟩ : ∃ b8, b8 = w3.heap.size := ⟨_, rfl⟩
    rw [← hb8] at Y8 ⊢
    clear hW3 hb8
    obtain ⟨y80, y81, y82⟩ := Y8.out
    replace BX := Aside0.mk (BX.out.below hB)
    clear p0 v0 v1 v2 k0 k1 k2
    obtain ⟨p0, v0, v1, v2, k0, k1, k2, -⟩ := BX.out
    replace HC := Aside0.mk (Kd.C_below HC.out hB)
    replace Y6 := Aside0.mk (Y6.out.below hB)
    clear y60 y61 y62
    obtain ⟨y60, y61, y62⟩ := Y6.out
    clear hB

    by_cases hcc : cc = -1
    · subst hcc
      have hg : okB l [v, k] = true ∧ Got l v k y (-1) := by
        rcases HDI.out with ⟨_, _, h⟩ | h
        · exact absurd h (by decide)
        · exact h
      by_cases hv3 : v.f0 = 3
      · have h1 := got_one hv3 hg.2
        have hv3b : (v.f0 == 3) = true := by simp [hv3]
        have hy1 : (((y.f1.size : Int)) == 1) = true := by simp [h1]
        clear hg h1 hv3
        go_wp2_with fail
        go_ret
        exact ⟨B.ret_bool (by first | rfl | (simp [*]; done)), bst HB1.out BX.out.bl⟩
      · have hv4 := got_four hv3 hg.2
        have hv3b : (v.f0 == 3) = false := by simpa using hv3
        have hy5 := got_size HF.out.2.1 HF.out.2.2.1 hg.2
        have HDS := Aside0.mk (fun (X : World) (hX : Kd.C k46 X A n l) => doSetSame_w A n c l v k y X hX HF.out.1 (by omega) HF.out.2.1 HF.out.2.2.1 HF.out.2.2.2 hy5 hg.1 hv4 hg.2)
        have HNL := Aside0.mk (show l.length = n from HC.out.1)
        clear hg hv4 hv3 hy5
        go_upto_region 12 with (first | (go_at_call 36; refine (HDS.out _ HC.out).mono ?_; rintro e w4 ⟨A4, n4, c4, rfl, hC4, hc4, hB⟩; have HC4 := Aside0.mk hC4; have HQ4 := Lib.hid (show n4 = n from hC4.1.symm.trans HNL.out); replace BX := Aside0.mk (BX.out.below hB); clear p0 v0 v1 v2 k0 k1 k2; obtain ⟨p0, v0, v1, v2, k0, k1, k2, -⟩ := BX.out; replace HC := Aside0.mk (Kd.C_below HC.out hB); replace Y6 := Aside0.mk (Y6.out.below hB); clear y60 y61 y62; obtain ⟨y60, y61, y62⟩ := Y6.out; replace Y8 := Aside0.mk (Y8.out.below hB); clear y80 y81 y82; obtain ⟨y80, y81, y82⟩ := Y8.out; clear hB hC4 hc4))
        obtain ⟨W4, hW4⟩ : ∃ W4 : World, W4 = w4.alloc (.cells #[.slice A4 n4 c4] 25) := ⟨_, rfl⟩
        have hB : Below w4.heap.size w4 W4 := by rw [hW4]; exact bla (Below.refl _ _) _
        have hd : W4.heap[w4.heap.size]? = some (.cells #[.slice A4 n4 c4] 25 (0, 0)) := by rw [hW4]; exact blk_new _ _
        rw [← hW4]
        have d4 := (kcl hd 0).trans (show _ = some (.slice A4 n4 c4) from rfl)
        obtain ⟨b11, hb11⟩ : ∃ b11, b11 = w4.heap.size := ⟨_, rfl⟩
        rw [← hb11] at d4 ⊢
        clear hW4 hd hb11
        replace HC4 := Aside0.mk (Kd.C_below HC4.out hB)
        replace BX := Aside0.mk (BX.out.below hB)
        clear p0 v0 v1 v2 k0 k1 k2
        obtain ⟨p0, v0, v1, v2, k0, k1, k2, -⟩ := BX.out
        replace HC := Aside0.mk (Kd.C_below HC.out hB)
        replace Y6 := Aside0.mk (Y6.out.below hB)
        clear y60 y61 y62
        obtain ⟨y60, y61, y62⟩ := Y6.out
        replace Y8 := Aside0.mk (Y8.out.below hB)
        clear y80 y81 y82
        obtain ⟨y80, y81, y82⟩ := Y8.out
        clear hB
        have e4 := HQ4.out
        subst e4
        have HSM := Aside0.mk (sameHeap_w A4 n4 c4 A c l W4 HC4.out HC.out (by omega) HOL.out)
        go_wp2_with (first | (go_at_call 27; refine HSM.out.mono ?_; rintro e w5 ⟨rfl, hB⟩; have HB5 := Aside0.mk (bst BX.out.bl hB); clear hB))
        go_ret
        exact ⟨rfl, bst HB1.out HB5.out⟩
    · have hccb : (cc == -1) = false := by simpa using hcc
      clear hcc
      go_wp2_with fail
      go_ret
      exact ⟨rfl, bst HB1.out BX.out.bl⟩
end Go.Proofs.Ytgddblpgbkgpcaa.PR
