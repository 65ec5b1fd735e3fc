/- Part of the proof of fnHeapSweep_holds. -/
import Derived.Test.YtgddblpgbkgpcaaZdb0
import Derived.Test.YtgddblpgbkgpcaaZdq0
import Derived.Test.YtgddblpgbkgpcaaZdr0
import Derived.BigQuiet
import Derived.Deep.QuietTactic
import Derived.Lib.Hide
import Derived.WalkSpells
import Derived.Deep.Light
namespace Go.Proofs.Ytgddblpgbkgpcaa.PR
set_option linter.unusedVariables false
set_option linter.unusedSimpArgs false
open Go.RowKit Go.Proofs.YtgddblpgbkgpcaaW.PrintWords Go.Proofs.YtgddblpgbkgpcaaW.PrintLast Go.Proofs.YtgddblpgbkgpcaaW.PrintMore
set_option linter.unusedVariables false
set_option linter.unusedSimpArgs false
theorem new_M (w : World) (base : Nat) (ok : Nat → Prop) (q : Int) : k46n.M w base ok ⟨q, ⟨#[]⟩, 0, [], [], [], []⟩ [.int .i64 q, .string ⟨#[]⟩, .int .i64 0, .slice none 0 0, .slice none 0 0, .slice none 0 0, .slice none 0 0] := by
  refine ⟨k46_mkM w base ok _ (Kd.R_nil _ _ _ _ _) (Kd.R_nil _ _ _ _ _) (Kd.R_nil _ _ _ _ _) (Kd.R_nil _ _ _ _ _), .inr (.inr ?_)⟩
  intro u3 u4 u5 u6 a b c e
  simp only [List.cons.injEq] at e
  obtain ⟨rfl, rfl, rfl, rfl, rfl, rfl, rfl, _⟩ := e
  exact ⟨fun _ => rfl, fun _ => rfl, fun _ => rfl, fun _ => rfl⟩
theorem size_set (w : World) (p : Addr) (v : Value) : (w.setCell p v).heap.size = w.heap.size := by simp
theorem size_alloc (w : World) (o : Obj) : (w.alloc o).heap.size = w.heap.size + 1 := by simp
theorem R_C {α : Type} {d : Kd α} {e base : Nat} {ok : Nat → Prop} {w : World} {A : Option Addr} {n c : Nat} {xs : List α} (h : d.R e w base ok (.slice A n c) xs) : d.C w A n xs := by
  obtain ⟨h1, _, h3⟩ := Kd.R_reads' h
  rw [h1]; exact h3
theorem keyAt_w (A : Option Addr) (n c : Nat) (l : List S35) (y : S35) (w : World) (hC : Kd.C k35 w A n l) (hs : ∀ x ∈ l, x.f1.size ≤ 5) :
    Calls Try.prog 89 #[.slice A n c, .agg #[.int .i64 y.f0, .string y.f1, .int .i64 y.f2]] w fun e w' => ∃ r : Int, e = .returned (.int .i64 r) ∧ Below w.heap.size w w' := by
  have hn : n = (l.map fun x : S35 => (⟨x.f0, x.f1, x.f2⟩ : B.V)).length := by rw [List.length_map]; exact hC.1.symm
  have h2 := hC.2.1
  have hRV : B.RV w A (l.map fun x : S35 => (⟨x.f0, x.f1, x.f2⟩ : B.V)) := by
    refine ⟨by omega, fun h => ?_⟩
    obtain ⟨ad, e, _⟩ := at_T35 hC 0 (by omega) (by omega)
    refine ⟨ad, e, fun i hi => ?_⟩
    obtain ⟨ad', e', h0, h1, h2⟩ := at_T35 hC (i : Int) (by omega) (by omega)
    rw [e] at e'
    injection e' with e'
    subst e'
    have hil : i < l.length := by simpa using hi
    have hx : rd_T35 l (i : Int) = l[i] := by unfold rd_T35; simp [List.getD_eq_getElem?_getD, hil]
    rw [hx] at h0 h1 h2
    simp only [List.getElem_map]
    exact ⟨h0, h1, h2, by have := hs _ (List.getElem_mem hil); omega⟩
  rw [hn]
  refine (B.keyAt_ok A c _ ⟨y.f0, y.f1, y.f2⟩ w hRV).mono ?_
  rintro e w' ⟨rfl, hb⟩
  exact ⟨_, rfl, hb⟩
theorem isOne_w (A : Option Addr) (n c : Nat) (l : List ByteArray) (s : ByteArray) (w : World) (hC : Kd.C Kd.string w A n l) :
    Calls Try.prog 91 #[.slice A n c, .string s] w fun e w' => ∃ b : Bool, e = .returned (.bool b) ∧ w = w' := by
  have hR := Kd.reads_of_C (d := (ByteArray.empty : ByteArray)) hC
  obtain ⟨rfl, h1, h2⟩ := hR
  refine (B.isOne_ok A c l s w ⟨h1, fun h => ?_⟩).mono ?_
  · obtain ⟨ad, e, hc⟩ := h2 h
    refine ⟨ad, e, fun i hi => ?_⟩
    rw [hc i hi, List.getD_eq_getElem?_getD, List.getElem?_eq_getElem hi]
    rfl
  · rintro e w' ⟨rfl, rfl⟩
    exact ⟨_, rfl, rfl⟩
def L1 (k : Nat) (l : List S46) : Prop := l.length = 19 + k ∧ (∀ x ∈ l, oB x = true) ∧ ∀ j (h : j < l.length), 19 ≤ j → un l[j]
theorem L1.snoc {k : Nat} {l : List S46} (h : L1 k l) {q : Int} (hq : q ∈ [1, 1, 2, 6, 4, 7, 8]) : L1 (k + 1) (l ++ [⟨q, ⟨#[]⟩, 0, [], [], [], []⟩]) := by
  have hu : un ⟨q, ⟨#[]⟩, 0, [], [], [], []⟩ := ⟨q, by rintro rfl; simp at hq, by rintro rfl; simp at hq, rfl⟩
  refine ⟨by rw [List.length_append, h.1]; simp; omega, fun x hx => ?_, fun j hj h19 => ?_⟩
  · rcases List.mem_append.1 hx with hx | hx
    · exact h.2.1 x hx
    · rw [List.mem_singleton.1 hx]; exact oG_oB (un_oG hu) (by omega)
  · rw [List.getElem_append]
    split
    · exact h.2.2 j _ h19
    · simpa using hu
theorem in_start {w0 w wi : World} {g b4 : Nat} {b : Int} {v : Value} {l : List S46} (h : Hp w0 w wi g b4 b v l) (q : Int) :
    In w0 wi (wi.alloc (.cells #[.int .i64 q, .string ⟨#[]⟩, .int .i64 0, .slice none 0 0, .slice none 0 0, .slice none 0 0, .slice none 0 0] 46)) g b q 0 [] [] [] [] (.slice none 0 0) (.slice none 0 0) (.slice none 0 0) (.slice none 0 0) :=
  ⟨h.rn.alloc _, bla (h.bl) _, KeepBut.of_below (bla (Below.refl _ _) _) g none, h.rn.lt, blk_new _ _, Ob.new _ _ q _ 0, by simp; decide, by simp, by simp, by simp, by simp, by intro x hx; simp at hx, by intro x hx; simp at hx, by intro x hx; simp at hx, by intro x hx; simp at hx⟩
theorem l2_start {k m : Nat} {l : List S46} (h : L1 k l) (hk : k ≤ 5) (hm : (m : Int) = 19) : L2 m l :=
  ⟨by have := h.1; omega, by have := h.1; omega, by omega, by have := h.1; omega, h.2.1, fun j hj h1 => h.2.2 j hj (by omega)⟩
theorem hp_start {w0 w w1 : World} {g : Nat} {b : Int} {A : Option Addr} {c : Nat} {l : List S46} (hR : Rn w0 w g b) (hB : Below w0.heap.size w0 w)
    (hl : k46.R 46 w1 ((w.alloc (.cells #[.slice none 0 0] 25)).alloc (.cells #[.int .i64 0, .string ⟨#[]⟩, .int .i64 0] 35)).heap.size (fun _ => True) (.slice A l.length c) l) (hlB : l.all oB = true) (hlK : l.all kB = true) (h19 : l.length = 19)
    (hB1 : Below ((w.alloc (.cells #[.slice none 0 0] 25)).alloc (.cells #[.int .i64 0, .string ⟨#[]⟩, .int .i64 0] 35)).heap.size ((w.alloc (.cells #[.slice none 0 0] 25)).alloc (.cells #[.int .i64 0, .string ⟨#[]⟩, .int .i64 0] 35)) w1) :
    Hp w0 w (w1.alloc (.cells #[.slice A l.length c] 25)) g w1.heap.size b (.slice A l.length c) l ∧ L1 0 l := by
  have h0 : ((w.alloc (.cells #[.slice none 0 0] 25)).alloc (.cells #[.int .i64 0, .string ⟨#[]⟩, .int .i64 0] 35)).heap.size = w.heap.size + 2 := by simp
  have hs := hB1.size
  rw [h0] at hs
  have hbw : Below w.heap.size w w1 := bst (bla (bla (Below.refl _ _) _) _) hB1
  have e1 : w1.heap[w.heap.size]? = some (.cells #[.slice none 0 0] 25 (0, 0)) := kbw (kla (blk_new w _) _) hB1
  have e2 : w1.heap[w.heap.size + 1]? = some (.cells #[.int .i64 0, .string ⟨#[]⟩, .int .i64 0] 35 (0, 0)) := by
    have h2 := blk_new (w.alloc (.cells #[.slice none 0 0] 25)) (.cells #[.int .i64 0, .string ⟨#[]⟩, .int .i64 0] 35)
    rw [show (w.alloc (.cells #[.slice none 0 0] 25)).heap.size = w.heap.size + 1 by simp] at h2
    exact kbw h2 hB1
  rw [h0] at hl
  refine ⟨⟨(hR.below hbw).alloc _, bla (bth hB hB.size hbw) _, KeepBut.of_below (bla hbw _) g none, kla e1 _, kla e2 _, blk_new _ _, hR.lt, by omega, R_n (Kd.R_mono (Kd.R_below (Kd.R_elderB hl w1.heap.size (Nat.le_refl _)) (bla (Below.refl _ _) _)) (fun _ hk => hk.2)) (fun x hx => by have := List.all_eq_true.1 hlK x hx; simpa [kB] using this)⟩, by simpa using h19, fun x hx => List.all_eq_true.1 hlB x hx, fun j hj h => by omega⟩
set_option maxRecDepth 100000 in
set_option maxHeartbeats 40000000 in
theorem heap_w (g : Nat) (b : Int) (w0 w : World) (hR : Rn w0 w g b) (hB : Below w0.heap.size w0 w) (hb : b ≤ 10) :
    Calls Try.prog 50 #[.pointer (some ⟨g, 0, none⟩)] w (HeapPost w0 w g) := by
  have hg := hR.lt
  have HR := Aside0.mk hR
  have HB := Aside0.mk hB
  clear hR hB
  go_enter Try.func50, Try.ntmps50
  go_wp2_with (first
    | (go_at_call 87; refine (newHeap_w _).mono ?_; rintro e w1 ⟨v, l, rfl, hl, hl19, hlB, hlK, hB1⟩; obtain ⟨A, c, rfl⟩ := Kd.R_slice hl; have HL := Aside0.mk hl; have HL19 := Lib.hid hl19; have HLB := Lib.hid hlB; have HLK := Lib.hid hlK; have HB1 := Aside0.mk hB1; clear hl hl19 hlB hlK hB1)
    | (go_at_call 51; have HP := Aside0.mk (hp_start HR.out HB.out HL.out HLB.out HLK.out HL19.out HB1.out); refine (pick_w g 6 b w0 _ HP.out.1.rn HP.out.1.bl (by omega) (by omega)).mono ?_; rintro e w2 ⟨r, rfl, hr0, hr6, hR2, hB2, hK2⟩; have HQ := Aside0.mk (show Hp w0 w w2 g w1.heap.size (b + 1) (.slice A l.length c) l ∧ L1 0 l from ⟨HP.out.1.call hR2 hB2 hK2, HP.out.2⟩); clear HP hR2 hB2 hK2))
  obtain ⟨b4, hb4⟩ : ∃ b4, b4 = w1.heap.size := ⟨_, rfl⟩
  rw [← hb4] at HQ ⊢
  clear hb4 HB1 HL
  have h19 : (l.length : Int) = 19 := by have := HL19.out; omega
  have H19 := Lib.hid h19
  clear h19 HLB HLK HL19
  replace hr6 := hr6 (by decide)
  go_loopw [7] (fun i wr => ∃ (k : Nat) (l' : List S46) (A' : Option Addr) (n' c' : Nat), i = .int .i64 k ∧ (k : Int) ≤ r ∧ Aside0 (Hp w0 w wr g b4 (b + 1 + k) (.slice A' n' c') l' ∧ L1 k l' ∧ n' = l'.length)) (fun i _ => (r - intOf i).toNat)
  case atStart => exact ⟨0, l, A, l.length, c, rfl, hr0, ⟨HQ.out.1.mono (by simp), HQ.out.2, rfl⟩⟩
  case round =>
    clear HQ
    obtain ⟨k, l, A, n, c, rfl, hkr, HQ⟩ := hrel
    by_cases hk : (k : Int) < r
    · go_wp2
      have hpd := HQ.out.1.drew
      have hL1 := Aside0.mk HQ.out.2.1
      clear HQ
      have hll : l.length ≤ 100 := by have := hL1.out.1; omega
      refine start_ (n := 10) (S := fun w' => w'.cell? ⟨b4, 0, none⟩ = some (.slice A n c)) (ds := [9]) #[false, false, false, false, false, false, false, false, false, false] (by kernel_rfl) rfl rfl (hpd.cell) (fun hHeld => ?_)
      generalize wr.drew = w10 at hpd hHeld ⊢
      refine pure_ (i := 0) (N := some 26) (v := ?_) (a' := ?_) #[true, false, false, false, false, false, false, false, false, false] rfl rfl (by kernel_rfl) (fun _ _ _ h => h) (Or.inl ⟨by rfl, ?_⟩) ?_ ?_
      rotate_left
      · intro w'
        go_simp
        with_reducible rfl
      rotate_left
      · simp only [Act.put, List.setIfInBounds_toArray, List.set_cons_zero, List.set_cons_succ, i64_w, i32_w]
        rfl
      refine pure_ (i := 2) (N := some 28) (v := ?_) (a' := ?_) #[true, false, true, false, false, false, false, false, false, false] rfl rfl (by kernel_rfl) (fun _ _ _ h => h) (Or.inl ⟨by rfl, ?_⟩) ?_ ?_
      rotate_left
      · intro w'
        go_simp
        with_reducible rfl
      rotate_left
      · simp only [Act.put, List.setIfInBounds_toArray, List.set_cons_zero, List.set_cons_succ, i64_w, i32_w]
        rfl
      refine take_ (i := 1) (N := some 27) (v := ?_) (a' := ?_) #[true, true, true, false, false, false, false, false, false, false] rfl rfl (by kernel_rfl) (fun _ _ _ h => h) (Or.inl ⟨by rfl, ?_⟩) hHeld ?_ ?_
      rotate_left
      · intro w' s0
        go_simp
        with_reducible rfl
      rotate_left
      · simp only [Act.put, List.setIfInBounds_toArray, List.set_cons_zero, List.set_cons_succ, i64_w, i32_w]
        rfl
      refine one_ (i := 3) (N := some 29) #[true, true, true, true, false, false, false, false, false, false] rfl rfl (by kernel_rfl) (by decide) (fun K hK => ?_)
      refine value_ (w1 := ?_) (v := ?_) (by rfl) rfl ?_ ?_
      rotate_left 2
      · go_simp
        constructor
        · rfl
        · rfl
      have hp3 := hpd.alloc (.cells #[.int .i64 1, .int .i64 1, .int .i64 2, .int .i64 6, .int .i64 4, .int .i64 7, .int .i64 8] 3)
      have hC3 : Kd.C (Kd.int .i64) (w10.alloc (.cells #[.int .i64 1, .int .i64 1, .int .i64 2, .int .i64 6, .int .i64 4, .int .i64 7, .int .i64 8] 3)) (some ⟨w10.heap.size, 0, none⟩) [1, 1, 2, 6, 4, 7, 8].length [1, 1, 2, 6, 4, 7, 8] := C_ints w10 [1, 1, 2, 6, 4, 7, 8] (by decide) 3
      refine hK.out _ _ (hp3.cell) (fun hHeld => ?_)
      clear hK K
      refine norm_ (a' := ?_) ?_ ?_
      rotate_left
      · show Act.put _ (some 29) _ = _
        simp only [Act.put, List.setIfInBounds_toArray, List.set_cons_zero, List.set_cons_succ, i64_w, i32_w]
        rfl
      refine one_ (i := 4) (N := some 30) #[true, true, true, true, true, false, false, false, false, false] rfl rfl (by kernel_rfl) (by decide) (fun K hK => ?_)
      refine goes_ Try.func88 (by kernel_rfl) rfl #[.pointer (some ⟨g, 0, none⟩), .slice (some ⟨w10.heap.size, 0, none⟩) 7 7] (by rfl) rfl rfl (by simp only [List.map_toArray, List.map_cons, List.map_nil]; rfl) ?_
      with_reducible refine (one_n g 7 _ 7 [1, 1, 2, 6, 4, 7, 8] rfl _ w0 _ hp3.rn hp3.bl (by omega) hC3 (by decide) (by intro ad e _; injection e with e; subst e; have := hpd.rn.lt; simp; omega) (by decide) (by decide)).mono ?_
      rintro e w11 ⟨q, rfl, hq, hR11, hB11, hK11⟩
      refine ⟨_, rfl, ?_⟩
      have hp4 := hp3.call hR11 hB11 hK11
      refine hK.out _ _ (hp4.cell) (fun hHeld => ?_)
      clear hK K
      refine norm_ (a' := ?_) ?_ ?_
      rotate_left
      · show Act.put _ (some 30) _ = _
        simp only [Act.put, List.setIfInBounds_toArray, List.set_cons_zero, List.set_cons_succ, i64_w, i32_w]
        rfl
      refine pure_ (i := 5) (N := some 31) (v := ?_) (a' := ?_) #[true, true, true, true, true, true, false, false, false, false] rfl rfl (by kernel_rfl) (fun _ _ _ h => h) (Or.inl ⟨by rfl, ?_⟩) ?_ ?_
      rotate_left
      · intro w'
        go_simp
        with_reducible rfl
      rotate_left
      · simp only [Act.put, List.setIfInBounds_toArray, List.set_cons_zero, List.set_cons_succ, i64_w, i32_w]
        rfl
      refine one_ (i := 6) (N := some 32) #[true, true, true, true, true, true, true, false, false, false] rfl rfl (by kernel_rfl) (by decide) (fun K hK => ?_)
      refine value_ (w1 := ?_) (v := ?_) (by rfl) rfl ?_ ?_
      rotate_left 2
      · go_simp
        constructor
        · rfl
        · rfl
      have hp6 := hp4.alloc (.cells #[.int .i64 q, .string ⟨#[]⟩, .int .i64 0, .slice none 0 0, .slice none 0 0, .slice none 0 0, .slice none 0 0] 46)
      refine hK.out _ _ (hp6.cell) (fun hHeld => ?_)
      clear hK K
      refine norm_ (a' := ?_) ?_ ?_
      rotate_left
      · show Act.put _ (some 32) _ = _
        simp only [Act.put, List.setIfInBounds_toArray, List.set_cons_zero, List.set_cons_succ, i64_w, i32_w]
        rfl
      refine one_ (i := 7) (N := some 33) #[true, true, true, true, true, true, true, true, false, false] rfl rfl (by kernel_rfl) (by decide) (fun K hK => ?_)
      refine Kd.R_append_step k46n (w0 := w11) (w.heap.size + 2) (by rfl) (.tmp 27) (.tmp 32) 23 46 (.agg #[(.int .i64 0), (.string ⟨#[]⟩), (.int .i64 0), (.slice none 0 0), (.slice none 0 0), (.slice none 0 0), (.slice none 0 0)]) 128 rfl Try.underlying23 info46 rfl (by decide) (by omega) (.slice A n c) l (⟨q, ⟨#[]⟩, 0, [], [], [], []⟩ : S46) [.int .i64 q, .string ⟨#[]⟩, .int .i64 0, .slice none 0 0, .slice none 0 0, .slice none 0 0, .slice none 0 0] (fun k => k ≠ b4) (fun _ => False) rfl rfl ?aP (fun _ hk => hk.elim) ?aF ?aO ?aB ?aS ?aL ?_
      case aP => exact new_M _ _ _ q
      case aF => exact fun k hk => by have := hp4.lt4; omega
      case aO => exact hp4.hl
      case aB => exact Below.refl _ _
      case aS => have := hp4.lt4; have := hp4.h4; omega
      case aL => omega
      intro v1 w12 ho hb12 hg12 hat12
      obtain ⟨A1, c1, rfl⟩ := Kd.R_slice ho
      obtain ⟨n1, hn1⟩ : ∃ n1, n1 = (l ++ [(⟨q, ⟨#[]⟩, 0, [], [], [], []⟩ : S46)]).length := ⟨_, rfl⟩
      rw [← hn1] at ho ⊢
      have HN1 := Lib.hid hn1
      clear hn1
      have hp7 := hp4.put ho hg12
      have hc4 : w12.cell? ⟨b4, 0, none⟩ = some (.slice A n c) := (kcl (kgr hp4.c4 hg12 (fun e => hp4.hl.1 b4 e.symm rfl)) 0).trans rfl
      have hf4 : w12.frozen? ⟨b4, 0, none⟩ = false := kfz (kgr hp4.c4 hg12 (fun e => hp4.hl.1 b4 e.symm rfl)) 0
      refine hK.out _ _ (hc4) (fun hHeld => ?_)
      clear hK K
      refine norm_ (a' := ?_) ?_ ?_
      rotate_left
      · show Act.put _ (some 33) _ = _
        simp only [Act.put, List.setIfInBounds_toArray, List.set_cons_zero, List.set_cons_succ, i64_w, i32_w]
        rfl
      refine pure_ (i := 8) (N := some 34) (v := ?_) (a' := ?_) #[true, true, true, true, true, true, true, true, true, false] rfl rfl (by kernel_rfl) (fun _ _ _ h => h) (Or.inl ⟨by rfl, ?_⟩) ?_ ?_
      rotate_left
      · intro w'
        go_simp
        with_reducible rfl
      rotate_left
      · simp only [Act.put, List.setIfInBounds_toArray, List.set_cons_zero, List.set_cons_succ, i64_w, i32_w]
        rfl
      refine last_ (i := 9) (N := none) #[true, true, true, true, true, true, true, true, true, true] rfl rfl (by kernel_rfl) (by decide) (fun K hK => ?_)
      refine skip_ (w1 := ?_) (by rfl) rfl ?_ ?_
      rotate_left
      · go_simp
        rfl
      refine hK.out _ _ ?_
      clear hK K
      refine done_ (by kernel_rfl) ?_
      go_wp2
      go_roundw
      case rel =>
        exact ⟨k + 1, l ++ [⟨q, ⟨#[]⟩, 0, [], [], [], []⟩], A1, n1, c1, by go_num, by omega, ⟨hp7.mono (by omega), hL1.out.snoc hq, HN1.out⟩⟩
      case measure => simp [intOf]; omega
    · have H2 := Aside0.mk (l2_start HQ.out.2.1 (by omega) H19.out)
      have HP2 := Aside0.mk HQ.out.1
      have HN2 := Lib.hid HQ.out.2.2
      clear HQ
      go_wp2
      go_loopw [8] (fun i wr => ∃ (m : Nat) (l' : List S46) (A' : Option Addr) (n' c' : Nat), i = .int .i64 m ∧ Aside0 (Hp w0 w wr g b4 (100 * m) (.slice A' n' c') l' ∧ L2 m l' ∧ n' = l'.length)) (fun i _ => (24 - intOf i).toNat)
      case atStart => exact ⟨_, l, A, n, c, rfl, ⟨HP2.out.mono (by have := H19.out; omega), H2.out, HN2.out⟩⟩
      case round =>
        clear HP2 H2 HN2
        obtain ⟨m, l, A, n, c, rfl, HQ⟩ := hrel
        by_cases hm : m < l.length
        · have hu := HQ.out.2.1.rest m hm (Nat.le_refl _)
          obtain ⟨gb, q, rfl, hn, hnc, hlm, q5, q10, hgb, hgb1, hgb4, e0, e1, e2, e3, e4, e5, e6, gcs, hgc⟩ := HQ.out.1.elem m hm hu
          have HU := Lib.hid hlm
          clear hu hlm
          have hmn : (m : Int) < (n : Int) := by omega
          have hm0 : (0 : Int) ≤ (m : Int) := Int.natCast_nonneg _
          have HN := Lib.hid hn
          clear hn
          have hc4 := HQ.out.1.cell
          have hm24 : m ≤ 24 := by have := HQ.out.2.1.hi; omega
          have hn24 : n ≤ 24 := by have := HQ.out.2.1.hi; have := HN.out; omega
          obtain ⟨wo, rfl⟩ : ∃ wo : World, wo = wr := ⟨_, rfl⟩
          have hgo := HQ.out.1.rn.lt
          have hb4g : b4 ≠ g := by have := HQ.out.1.h4; omega
          by_cases hq4 : q = 4
          · subst hq4
            go_wp2_with fail
            have HI := Aside0.mk (in_start HQ.out.1 4)
            refine (pick_w g 4 (100 * m) w0 _ HI.out.rn HI.out.bl (by omega) (by omega)).mono ?_
            rintro e w3 ⟨kk, rfl, hk0, hk4, hR3, hB3, hK3⟩
            replace hk4 := hk4 (by decide)
            have HJ := Aside0.mk (HI.out.call hR3 hB3 hK3)
            clear HI hR3 hB3 hK3
            go_wp2_with fail
            go_loopw [11] (fun i w' => ∃ (j : Nat) (x3 x4 : List S35) (x5 : List ByteArray) (x6 : List S35) (A3 A4 A5 A6 : Option Addr) (n3 c3 n4 c4 n5 c5 n6 c6 : Nat), i = .int .i64 j ∧ (j : Int) ≤ kk ∧ Aside0 (In w0 wo w' g (100 * m + 1 + 30 * j) 4 (2 * j) x3 x4 x5 x6 (.slice A3 n3 c3) (.slice A4 n4 c4) (.slice A5 n5 c5) (.slice A6 n6 c6))) (fun i _ => (kk - intOf i).toNat)
            case atStart => exact ⟨0, [], [], [], [], none, none, none, none, 0, 0, 0, 0, 0, 0, 0, 0, rfl, hk0, ⟨HJ.out.mono (by simp)⟩⟩
            case round =>
              clear HJ
              obtain ⟨j, x3, x4, x5, x6, A3, A4, A5, A6, n3, c3, n4, c4, n5, c5, n6, c6, rfl, hjk, HJ⟩ := hrel
              by_cases hj : (j : Int) < kk
              · have hc4' := HJ.out.old hc4 (by simp; omega)
                go_wp2_with fail
                refine (value_w g n (100 * m + 1 + 30 * j) w0 _ HJ.out.rn HJ.out.bl (by omega) (by omega) (by omega)).mono ?_
                rintro e w5 ⟨x, rfl, hx, hR5, hB5, hK5⟩
                have HK := Aside0.mk (HJ.out.call hR5 hB5 hK5)
                clear HJ hc4' hR5 hB5 hK5
                have hd0 := (HK.out.cell 0).trans (show _ = some (.int .i64 4) from rfl)
                have hd3 := (HK.out.cell 3).trans (show _ = some (.slice A3 n3 c3) from rfl)
                have hf3 := HK.out.free 3
                have HK2 := Aside0.mk (HK.out.alloc (.cells #[.int .i64 x.f0, .string x.f1, .int .i64 x.f2] 35))
                have hlt := blk_lt HK.out.c9
                have HL3 := HK2.out.lit3 [x] (by simp) (by simp) (by intro y hy; simp at hy; rw [hy]; exact hx.1) (cs := #[.int .i64 x.f0, .string x.f1, .int .i64 x.f2]) (by simp)
                rw [size_alloc, World.setCell_alloc_past _ _ _ _ (by rw [size_alloc]; omega), World.setCell_alloc_past _ _ _ _ hlt] at HL3
                replace HL3 := Aside0.mk HL3
                go_wp2_with fail
                go_roundw
                case rel => exact ⟨j + 1, [x], x4, x5, x6, some ⟨w5.heap.size + 1, 0, none⟩, A4, A5, A6, 1, 1, n4, c4, n5, c5, n6, c6, by go_num, by omega, ⟨(HL3.out.more (by omega)).mono (by omega)⟩⟩
                case measure => simp [intOf]; omega
              · have hc4' := HJ.out.old hc4 (by simp; omega)
                have hd0 := (HJ.out.cell 0).trans (show _ = some (.int .i64 4) from rfl)
                have hd1 := (HJ.out.cell 1).trans (show _ = some (.string ⟨#[]⟩) from rfl)
                have hd2 := (HJ.out.cell 2).trans (show _ = some (.int .i64 0) from rfl)
                have hd3 := (HJ.out.cell 3).trans (show _ = some (.slice A3 n3 c3) from rfl)
                have hd4 := (HJ.out.cell 4).trans (show _ = some (.slice A4 n4 c4) from rfl)
                have hd5 := (HJ.out.cell 5).trans (show _ = some (.slice A5 n5 c5) from rfl)
                have hd6 := (HJ.out.cell 6).trans (show _ = some (.slice A6 n6 c6) from rfl)
                have hgc1 := HJ.out.kp.blk hgc (by omega) (by simp)
                have g0 := HJ.out.old e0 (by simp; omega)
                have f0 := kfz hgc1 (m * 7)
                have g1 := HJ.out.old e1 (by simp; omega)
                have f1 := kfz hgc1 (m * 7 + 1)
                have g2 := HJ.out.old e2 (by simp; omega)
                have f2 := kfz hgc1 (m * 7 + 2)
                have g3 := HJ.out.old e3 (by simp; omega)
                have f3 := kfz hgc1 (m * 7 + 3)
                have g4 := HJ.out.old e4 (by simp; omega)
                have f4 := kfz hgc1 (m * 7 + 4)
                have g5 := HJ.out.old e5 (by simp; omega)
                have f5 := kfz hgc1 (m * 7 + 5)
                have g6 := HJ.out.old e6 (by simp; omega)
                have f6 := kfz hgc1 (m * 7 + 6)
                have HGC := Lib.hid hgc1
                clear hgc1
                have hw := blk_lt HJ.out.c9
                go_wp2_with fail
                go_roundw
                case rel => exact ⟨m + 1, l.set m ⟨4, ⟨#[]⟩, 0, x3, x4, x5, x6⟩, some ⟨gb, 0, none⟩, n, c, by go_num, ⟨((HQ.out.1.round hm hgb hgb1 hgb4 HJ.out.rn HJ.out.bl HJ.out.kp HJ.out.ob).mono (by omega)), HQ.out.2.1.next hm (oG_oB HJ.out.gd (by omega)), by simpa using HN.out⟩⟩
                case measure => simp [intOf]; omega
          by_cases hq7 : q = 7
          · subst hq7
            go_wp2_with fail
            have HI := Aside0.mk (in_start HQ.out.1 7)
            refine (pick_w g 4 (100 * m) w0 _ HI.out.rn HI.out.bl (by omega) (by omega)).mono ?_
            rintro e w3 ⟨kk, rfl, hk0, hk4, hR3, hB3, hK3⟩
            replace hk4 := hk4 (by decide)
            have HJ := Aside0.mk (HI.out.call hR3 hB3 hK3)
            clear HI hR3 hB3 hK3
            go_wp2_with fail
            go_loopw [11] (fun i w' => ∃ (j : Nat) (x3 x4 : List S35) (x5 : List ByteArray) (x6 : List S35) (A3 A4 A5 A6 : Option Addr) (n3 c3 n4 c4 n5 c5 n6 c6 : Nat), i = .int .i64 j ∧ (j : Int) ≤ kk ∧ Aside0 (In w0 wo w' g (100 * m + 1 + 30 * j) 7 (2 * j) x3 x4 x5 x6 (.slice A3 n3 c3) (.slice A4 n4 c4) (.slice A5 n5 c5) (.slice A6 n6 c6))) (fun i _ => (kk - intOf i).toNat)
            case atStart => exact ⟨0, [], [], [], [], none, none, none, none, 0, 0, 0, 0, 0, 0, 0, 0, rfl, hk0, ⟨HJ.out.mono (by simp)⟩⟩
            case round =>
              clear HJ
              obtain ⟨j, x3, x4, x5, x6, A3, A4, A5, A6, n3, c3, n4, c4, n5, c5, n6, c6, rfl, hjk, HJ⟩ := hrel
              by_cases hj : (j : Int) < kk
              · have hc4' := HJ.out.old hc4 (by simp; omega)
                go_wp2_with fail
                refine (value_w g n (100 * m + 1 + 30 * j) w0 _ HJ.out.rn HJ.out.bl (by omega) (by omega) (by omega)).mono ?_
                rintro e w5 ⟨x, rfl, hx, hR5, hB5, hK5⟩
                have HK := Aside0.mk (HJ.out.call hR5 hB5 hK5)
                clear HJ hc4' hR5 hB5 hK5
                have hd0 := (HK.out.cell 0).trans (show _ = some (.int .i64 7) from rfl)
                have hd3 := (HK.out.cell 3).trans (show _ = some (.slice A3 n3 c3) from rfl)
                have hf3 := HK.out.free 3
                have HK2 := Aside0.mk (HK.out.alloc (.cells #[.int .i64 x.f0, .string x.f1, .int .i64 x.f2] 35))
                have hlt := blk_lt HK.out.c9
                have HL3 := HK2.out.lit3 [x, x] (by simp) (by simp) (by intro y hy; simp at hy; rw [hy]; exact hx.1) (cs := #[.int .i64 x.f0, .string x.f1, .int .i64 x.f2, .int .i64 x.f0, .string x.f1, .int .i64 x.f2]) (by simp)
                rw [size_alloc, World.setCell_alloc_past _ _ _ _ (by rw [size_alloc]; omega), World.setCell_alloc_past _ _ _ _ hlt] at HL3
                replace HL3 := Aside0.mk HL3
                go_wp2_with fail
                go_roundw
                case rel => exact ⟨j + 1, [x, x], x4, x5, x6, some ⟨w5.heap.size + 1, 0, none⟩, A4, A5, A6, 2, 2, n4, c4, n5, c5, n6, c6, by go_num, by omega, ⟨(HL3.out.more (by omega)).mono (by omega)⟩⟩
                case measure => simp [intOf]; omega
              · have hc4' := HJ.out.old hc4 (by simp; omega)
                have hd0 := (HJ.out.cell 0).trans (show _ = some (.int .i64 7) from rfl)
                have hd1 := (HJ.out.cell 1).trans (show _ = some (.string ⟨#[]⟩) from rfl)
                have hd2 := (HJ.out.cell 2).trans (show _ = some (.int .i64 0) from rfl)
                have hd3 := (HJ.out.cell 3).trans (show _ = some (.slice A3 n3 c3) from rfl)
                have hd4 := (HJ.out.cell 4).trans (show _ = some (.slice A4 n4 c4) from rfl)
                have hd5 := (HJ.out.cell 5).trans (show _ = some (.slice A5 n5 c5) from rfl)
                have hd6 := (HJ.out.cell 6).trans (show _ = some (.slice A6 n6 c6) from rfl)
                have hgc1 := HJ.out.kp.blk hgc (by omega) (by simp)
                have g0 := HJ.out.old e0 (by simp; omega)
                have f0 := kfz hgc1 (m * 7)
                have g1 := HJ.out.old e1 (by simp; omega)
                have f1 := kfz hgc1 (m * 7 + 1)
                have g2 := HJ.out.old e2 (by simp; omega)
                have f2 := kfz hgc1 (m * 7 + 2)
                have g3 := HJ.out.old e3 (by simp; omega)
                have f3 := kfz hgc1 (m * 7 + 3)
                have g4 := HJ.out.old e4 (by simp; omega)
                have f4 := kfz hgc1 (m * 7 + 4)
                have g5 := HJ.out.old e5 (by simp; omega)
                have f5 := kfz hgc1 (m * 7 + 5)
                have g6 := HJ.out.old e6 (by simp; omega)
                have f6 := kfz hgc1 (m * 7 + 6)
                have HGC := Lib.hid hgc1
                clear hgc1
                have hw := blk_lt HJ.out.c9
                go_wp2_with fail
                go_roundw
                case rel => exact ⟨m + 1, l.set m ⟨7, ⟨#[]⟩, 0, x3, x4, x5, x6⟩, some ⟨gb, 0, none⟩, n, c, by go_num, ⟨((HQ.out.1.round hm hgb hgb1 hgb4 HJ.out.rn HJ.out.bl HJ.out.kp HJ.out.ob).mono (by omega)), HQ.out.2.1.next hm (oG_oB HJ.out.gd (by omega)), by simpa using HN.out⟩⟩
                case measure => simp [intOf]; omega
          by_cases hq6 : q = 6
          · subst hq6
            go_wp2_with fail
            have HI := Aside0.mk (in_start HQ.out.1 6)
            refine (pick_w g 4 (100 * m) w0 _ HI.out.rn HI.out.bl (by omega) (by omega)).mono ?_
            rintro e w3 ⟨kk, rfl, hk0, hk4, hR3, hB3, hK3⟩
            replace hk4 := hk4 (by decide)
            have HJ := Aside0.mk (HI.out.call hR3 hB3 hK3)
            clear HI hR3 hB3 hK3
            go_wp2_with fail
            go_loopw [11] (fun i w' => ∃ (j : Nat) (x3 x4 : List S35) (x5 : List ByteArray) (x6 : List S35) (A3 A4 A5 A6 : Option Addr) (n3 c3 n4 c4 n5 c5 n6 c6 : Nat), i = .int .i64 j ∧ (j : Int) ≤ kk ∧ Aside0 (In w0 wo w' g (100 * m + 1 + 30 * j) 6 (2 * j) x3 x4 x5 x6 (.slice A3 n3 c3) (.slice A4 n4 c4) (.slice A5 n5 c5) (.slice A6 n6 c6))) (fun i _ => (kk - intOf i).toNat)
            case atStart => exact ⟨0, [], [], [], [], none, none, none, none, 0, 0, 0, 0, 0, 0, 0, 0, rfl, hk0, ⟨HJ.out.mono (by simp)⟩⟩
            case round =>
              clear HJ
              obtain ⟨j, x3, x4, x5, x6, A3, A4, A5, A6, n3, c3, n4, c4, n5, c5, n6, c6, rfl, hjk, HJ⟩ := hrel
              by_cases hj : (j : Int) < kk
              · have hc4' := HJ.out.old hc4 (by simp; omega)
                go_wp2_with fail
                refine (value_w g n (100 * m + 1 + 30 * j) w0 _ HJ.out.rn HJ.out.bl (by omega) (by omega) (by omega)).mono ?_
                rintro e w5 ⟨x, rfl, hx, hR5, hB5, hK5⟩
                have HK := Aside0.mk (HJ.out.call hR5 hB5 hK5)
                clear HJ hc4' hR5 hB5 hK5
                have hd0 := (HK.out.cell 0).trans (show _ = some (.int .i64 6) from rfl)
                have HK2 := Aside0.mk (HK.out.alloc (.cells #[.int .i64 x.f0, .string x.f1, .int .i64 x.f2] 35))
                have hlt := blk_lt HK.out.c9
                have HR5 := Aside0.mk (Kd.R_lt HK.out.ob.r5)
                clear HK
                have hsz : (w5.alloc (.cells #[.int .i64 x.f0, .string x.f1, .int .i64 x.f2] 35)).heap.size = w5.heap.size + 1 := size_alloc _ _
                have HK3 := Aside0.mk (HK2.out.alloc (.cells #[.string ⟨#[97]⟩, .string ⟨#[98]⟩, .string ⟨#[99]⟩, .string ⟨#[116, 101, 120, 116]⟩] 9))
                have hC4 : Kd.C Kd.string ((w5.alloc (.cells #[.int .i64 x.f0, .string x.f1, .int .i64 x.f2] 35)).alloc (.cells #[.string ⟨#[97]⟩, .string ⟨#[98]⟩, .string ⟨#[99]⟩, .string ⟨#[116, 101, 120, 116]⟩] 9)) (some ⟨w5.heap.size + 1, 0, none⟩) nm4.length nm4 := by
                  have := C_strs (w5.alloc (.cells #[.int .i64 x.f0, .string x.f1, .int .i64 x.f2] 35)) nm4 (by decide) 9
                  rw [hsz] at this
                  exact this
                have HC4 := Aside0.mk hC4
                clear hC4 hsz HK2
                go_wp2_with fail
                refine (of_n g 4 _ 4 nm4 rfl (100 * m + 11 + 30 * j) w0 _ (HK3.out.rn.mono (by omega)) HK3.out.bl (by omega) HC4.out (by decide) (by intro ad e _; injection e with e; subst e; have := HK3.out.gi; simp; omega) (by decide) (by decide)).mono ?_
                rintro e w6 ⟨s, rfl, hs, hR6, hB6, hK6⟩
                have HK := Aside0.mk (HK3.out.call hR6 hB6 hK6)
                have hbx := hK6.blk (kla (blk_new w5 (.cells #[.int .i64 x.f0, .string x.f1, .int .i64 x.f2] 35)) (.cells #[.string ⟨#[97]⟩, .string ⟨#[98]⟩, .string ⟨#[99]⟩, .string ⟨#[116, 101, 120, 116]⟩] 9)) (by have := HK3.out.gi; omega) (by simp)
                have HBX := Aside0.mk hbx
                clear HK3 HC4 hR6 hB6 hK6 hd0 hbx
                have hb0 := (kcl HBX.out 0).trans (show _ = some (.int .i64 x.f0) from rfl)
                have hb1 := (kcl HBX.out 1).trans (show _ = some (.string x.f1) from rfl)
                have hb2 := (kcl HBX.out 2).trans (show _ = some (.int .i64 x.f2) from rfl)
                have hd5 := (HK.out.cell 5).trans (show _ = some (.slice A5 n5 c5) from rfl)
                have hd6 := (HK.out.cell 6).trans (show _ = some (.slice A6 n6 c6) from rfl)
                go_wp2_with fail
                have HC5 := Aside0.mk (show Kd.C Kd.string w6 A5 n5 x5 from R_C HK.out.ob.r5)
                refine (isOne_w A5 n5 c5 x5 s _ HC5.out).mono ?_
                rintro e w7 ⟨b1, rfl, rfl⟩
                clear HC5
                cases b1 with
                | true =>
                  go_wp2
                  go_roundw
                  case rel => exact ⟨j + 1, x3, x4, x5, x6, A3, A4, A5, A6, n3, c3, n4, c4, n5, c5, n6, c6, by go_num, by omega, ⟨(HK.out.more (by omega)).mono (by omega)⟩⟩
                  case measure => simp [intOf]; omega
                | false =>
                  have hltw := blk_lt HK.out.c9
                  go_wp2_with (first | ((with_reducible refine gate_builtin (b := .append) (xs := #[.tmp 100, .tmp 102]) rfl ?_); at_builtin; refine Kd.R_append Kd.string (w0 := _) (wo.heap.size + 1) rfl (.tmp 100) (.tmp 102) 44 9 (.string ⟨#[]⟩) 16 rfl Try.underlying44 info9 rfl (by decide) (by omega) (.slice A5 n5 c5) x5 s [.string s] (fun _ => True) (fun _ => False) rfl (by first | rfl | (rw [size_alloc]; rfl) | (rw [size_set]; rfl)) ?aPs (fun _ hk => hk.elim) (fun _ _ => trivial) ?aOs (Below.refl _ _) ?aSs ?aLs ?_; (case aPs => exact rfl); (case aOs => exact HK.out.ob.r5); (case aSs => have := blk_lt HK.out.c9; omega); (case aLs => have hgd := HK.out.gd; unfold oG at hgd; simp only at hgd; omega); intro v1 w6s ho _ hg hat; obtain ⟨A1s, c1s, rfl⟩ := Kd.R_slice ho; obtain ⟨n1s, hn1⟩ : ∃ n1, n1 = (x5 ++ [s]).length := ⟨_, rfl⟩; rw [← hn1] at ho hat ⊢; have HNs := Aside0.mk (HK.out.app5 hs ho hg); have hss : w6s.heap[wo.heap.size]? = _ := (HK.out.grown hg (Kd.R_base HK.out.ob.r5)).2.2.2; have hscs := (kcl hss 5).trans (show _ = some (.slice A5 n5 c5) from rfl); have hsfs := kfz hss 5; have HBX2 := Aside0.mk (blk_far (p := ⟨wo.heap.size, 5, none⟩) (kgr HBX.out hg (fun e => by have := HR5.out _ e.symm; omega)) (by simp; omega) (.slice A1s n1s c1s)); have hb0s := (kcl HBX2.out 0).trans (show _ = some (.int .i64 x.f0) from rfl); have hb1s := (kcl HBX2.out 1).trans (show _ = some (.string x.f1) from rfl); have hb2s := (kcl HBX2.out 2).trans (show _ = some (.int .i64 x.f2) from rfl); have hd6s := (HNs.out.cell 6).trans (show _ = some (.slice A6 n6 c6) from rfl); clear hn1 ho hg hat hss) | ((with_reducible refine gate_builtin (b := .append) (xs := #[.tmp 106, .tmp 108]) rfl ?_); at_builtin; refine Kd.R_append k35 (w0 := _) (wo.heap.size + 1) rfl (.tmp 106) (.tmp 108) 26 35 (.agg #[(.int .i64 0), (.string ⟨#[]⟩), (.int .i64 0)]) 32 rfl Try.underlying26 info35 rfl (by decide) (by omega) (.slice A6 n6 c6) x6 x [.int .i64 x.f0, .string x.f1, .int .i64 x.f2] (fun _ => True) (fun _ => False) rfl (by first | rfl | (rw [size_alloc]; rfl) | (rw [size_set]; rfl)) ?aPt (fun _ hk => hk.elim) (fun _ _ => trivial) ?aOt (Below.refl _ _) ?aSt ?aLt ?_; (case aPt => exact k35_mkM _ _ _ x); (case aOt => exact HNs.out.ob.r6); (case aSt => have := blk_lt HNs.out.c9; omega); (case aLt => have hgd := HNs.out.gd; unfold oG at hgd; simp only at hgd; omega); intro v1 w6t ho _ hg hat; obtain ⟨A1t, c1t, rfl⟩ := Kd.R_slice ho; obtain ⟨n1t, hn1⟩ : ∃ n1, n1 = (x6 ++ [x]).length := ⟨_, rfl⟩; rw [← hn1] at ho hat ⊢; have HNt := Aside0.mk (HNs.out.app6 hx ho hg hat); have hst : w6t.heap[wo.heap.size]? = _ := (HNs.out.grown hg (Kd.R_base HNs.out.ob.r6)).2.2.2; have hsct := (kcl hst 6).trans (show _ = some (.slice A6 n6 c6) from rfl); have hsft := kfz hst 6; clear hn1 ho hg hat hst))
                  go_wp2
                  go_roundw
                  case rel => exact ⟨j + 1, x3, x4, x5 ++ [s], x6 ++ [x], A3, A4, A1s, A1t, n3, c3, n4, c4, n1s, c1s, n1t, c1t, by go_num, by omega, ⟨(HNt.out.more (by omega)).mono (by omega)⟩⟩
                  case measure => simp [intOf]; omega
              · have hc4' := HJ.out.old hc4 (by simp; omega)
                have hd0 := (HJ.out.cell 0).trans (show _ = some (.int .i64 6) from rfl)
                have hd1 := (HJ.out.cell 1).trans (show _ = some (.string ⟨#[]⟩) from rfl)
                have hd2 := (HJ.out.cell 2).trans (show _ = some (.int .i64 0) from rfl)
                have hd3 := (HJ.out.cell 3).trans (show _ = some (.slice A3 n3 c3) from rfl)
                have hd4 := (HJ.out.cell 4).trans (show _ = some (.slice A4 n4 c4) from rfl)
                have hd5 := (HJ.out.cell 5).trans (show _ = some (.slice A5 n5 c5) from rfl)
                have hd6 := (HJ.out.cell 6).trans (show _ = some (.slice A6 n6 c6) from rfl)
                have hf2 := HJ.out.free 2
                have hgc1 := HJ.out.kp.blk hgc (by omega) (by simp)
                have g0 := HJ.out.old e0 (by simp; omega)
                have f0 := kfz hgc1 (m * 7)
                have g1 := HJ.out.old e1 (by simp; omega)
                have f1 := kfz hgc1 (m * 7 + 1)
                have g2 := HJ.out.old e2 (by simp; omega)
                have f2 := kfz hgc1 (m * 7 + 2)
                have g3 := HJ.out.old e3 (by simp; omega)
                have f3 := kfz hgc1 (m * 7 + 3)
                have g4 := HJ.out.old e4 (by simp; omega)
                have f4 := kfz hgc1 (m * 7 + 4)
                have g5 := HJ.out.old e5 (by simp; omega)
                have f5 := kfz hgc1 (m * 7 + 5)
                have g6 := HJ.out.old e6 (by simp; omega)
                have f6 := kfz hgc1 (m * 7 + 6)
                have HGC := Lib.hid hgc1
                clear hgc1
                have hw := blk_lt HJ.out.c9
                go_wp2_with fail
                refine (pick_w g 13 (100 * m + 1 + 30 * j) w0 _ HJ.out.rn HJ.out.bl (by omega) (by omega)).mono ?_
                rintro e w7 ⟨pp, rfl, hp0, hp13, hR7, hB7, hK7⟩
                have HK := Aside0.mk (HJ.out.call hR7 hB7 hK7)
                clear HJ hR7 hB7 hK7 hd0 hd1 hd2 hd3 hd4 hd5 hd6 hf2 g0 g1 g2 g3 g4 g5 g6 f0 f1 f2 f3 f4 f5 f6 HGC hc4'
                have HS := Aside0.mk (In.set HK.out.rn HK.out.bl HK.out.kp HK.out.gi HK.out.rn.ge HK.out.c9 2 (.int .i64 pp) rfl)
                have HO := Aside0.mk ((HK.out.ob.kind pp).far (p := ⟨wo.heap.size, 2, none⟩) (Nat.le_refl _) (.int .i64 pp))
                have hs2 := (HK.out.cell 2).trans (show _ = some (.int .i64 0) from rfl)
                have hf2 := HK.out.free 2
                have hd0 := (kcl HS.out.2.2.2 0).trans (show _ = some (.int .i64 6) from rfl)
                have hd1 := (kcl HS.out.2.2.2 1).trans (show _ = some (.string ⟨#[]⟩) from rfl)
                have hd2 := (kcl HS.out.2.2.2 2).trans (show _ = some (.int .i64 pp) from rfl)
                have hd3 := (kcl HS.out.2.2.2 3).trans (show _ = some (.slice A3 n3 c3) from rfl)
                have hd4 := (kcl HS.out.2.2.2 4).trans (show _ = some (.slice A4 n4 c4) from rfl)
                have hd5 := (kcl HS.out.2.2.2 5).trans (show _ = some (.slice A5 n5 c5) from rfl)
                have hd6 := (kcl HS.out.2.2.2 6).trans (show _ = some (.slice A6 n6 c6) from rfl)
                have hc4' := keep_cell HS.out.2.2.1 hc4 (by simp; omega)
                have g0 := keep_cell HS.out.2.2.1 e0 (by simp; omega)
                have f0 := kfz (HS.out.2.2.1.blk hgc (by omega) (by simp)) (m * 7)
                have g1 := keep_cell HS.out.2.2.1 e1 (by simp; omega)
                have f1 := kfz (HS.out.2.2.1.blk hgc (by omega) (by simp)) (m * 7 + 1)
                have g2 := keep_cell HS.out.2.2.1 e2 (by simp; omega)
                have f2 := kfz (HS.out.2.2.1.blk hgc (by omega) (by simp)) (m * 7 + 2)
                have g3 := keep_cell HS.out.2.2.1 e3 (by simp; omega)
                have f3 := kfz (HS.out.2.2.1.blk hgc (by omega) (by simp)) (m * 7 + 3)
                have g4 := keep_cell HS.out.2.2.1 e4 (by simp; omega)
                have f4 := kfz (HS.out.2.2.1.blk hgc (by omega) (by simp)) (m * 7 + 4)
                have g5 := keep_cell HS.out.2.2.1 e5 (by simp; omega)
                have f5 := kfz (HS.out.2.2.1.blk hgc (by omega) (by simp)) (m * 7 + 5)
                have g6 := keep_cell HS.out.2.2.1 e6 (by simp; omega)
                have f6 := kfz (HS.out.2.2.1.blk hgc (by omega) (by simp)) (m * 7 + 6)
                have hw := blk_lt HS.out.2.2.2
                go_wp2_with fail
                go_roundw
                case rel => exact ⟨m + 1, l.set m ⟨6, ⟨#[]⟩, pp, x3, x4, x5, x6⟩, some ⟨gb, 0, none⟩, n, c, by go_num, ⟨((HQ.out.1.round hm hgb hgb1 hgb4 HS.out.1 HS.out.2.1 HS.out.2.2.1 HO.out).mono (by omega)), HQ.out.2.1.next hm (oG_oB HK.out.gd (by omega)), by simpa using HN.out⟩⟩
                case measure => simp [intOf]; omega
          by_cases hq2 : q = 2
          · subst hq2
            go_wp2_with fail
            have HI := Aside0.mk (in_start HQ.out.1 2)
            refine (pick_w g 4 (100 * m) w0 _ HI.out.rn HI.out.bl (by omega) (by omega)).mono ?_
            rintro e w3 ⟨kk, rfl, hk0, hk4, hR3, hB3, hK3⟩
            replace hk4 := hk4 (by decide)
            have HJ := Aside0.mk (HI.out.call hR3 hB3 hK3)
            clear HI hR3 hB3 hK3
            go_wp2_with fail
            go_loopw [11] (fun i w' => ∃ (j : Nat) (x3 x4 : List S35) (x5 : List ByteArray) (x6 : List S35) (A3 A4 A5 A6 : Option Addr) (n3 c3 n4 c4 n5 c5 n6 c6 : Nat), i = .int .i64 j ∧ (j : Int) ≤ kk ∧ Aside0 (In w0 wo w' g (100 * m + 1 + 30 * j) 2 (2 * j) x3 x4 x5 x6 (.slice A3 n3 c3) (.slice A4 n4 c4) (.slice A5 n5 c5) (.slice A6 n6 c6))) (fun i _ => (kk - intOf i).toNat)
            case atStart => exact ⟨0, [], [], [], [], none, none, none, none, 0, 0, 0, 0, 0, 0, 0, 0, rfl, hk0, ⟨HJ.out.mono (by simp)⟩⟩
            case round =>
              clear HJ
              obtain ⟨j, x3, x4, x5, x6, A3, A4, A5, A6, n3, c3, n4, c4, n5, c5, n6, c6, rfl, hjk, HJ⟩ := hrel
              by_cases hj : (j : Int) < kk
              · have hc4' := HJ.out.old hc4 (by simp; omega)
                go_wp2_with fail
                refine (value_w g n (100 * m + 1 + 30 * j) w0 _ HJ.out.rn HJ.out.bl (by omega) (by omega) (by omega)).mono ?_
                rintro e w5 ⟨x, rfl, hx, hR5, hB5, hK5⟩
                have HK := Aside0.mk (HJ.out.call hR5 hB5 hK5)
                clear HJ hc4' hR5 hB5 hK5
                have hd0 := (HK.out.cell 0).trans (show _ = some (.int .i64 2) from rfl)
                have HK2 := Aside0.mk (HK.out.alloc (.cells #[.int .i64 x.f0, .string x.f1, .int .i64 x.f2] 35))
                have hlt := blk_lt HK.out.c9
                have HR4 := Aside0.mk (Kd.R_lt HK.out.ob.r4)
                clear HK
                have hbx := blk_new w5 (.cells #[.int .i64 x.f0, .string x.f1, .int .i64 x.f2] 35)
                have HBX := Aside0.mk hbx
                clear hbx
                go_wp2_with fail
                refine (value_w g 0 (100 * m + 11 + 30 * j) w0 _ (HK2.out.rn.mono (by omega)) HK2.out.bl (by omega) (by omega) (by omega)).mono ?_
                rintro e w6 ⟨y, rfl, hy, hR6, hB6, hK6⟩
                have HKb := Aside0.mk (HK2.out.call hR6 hB6 hK6)
                have hbx6 := hK6.blk HBX.out (by have := HK2.out.gi; omega) (by simp)
                clear HBX
                have HBX := Aside0.mk hbx6
                clear hbx6 HK2 hR6 hB6 hK6 hd0
                have hlt6 := blk_lt HKb.out.c9
                have hbl6 := blk_lt HBX.out
                have hd4 := (HKb.out.cell 4).trans (show _ = some (.slice A4 n4 c4) from rfl)
                have HKc := Aside0.mk (HKb.out.alloc (.cells #[.int .i64 y.f0, .string y.f1, .int .i64 y.f2] 35))
                have HC4 := Aside0.mk (show Kd.C k35 (w6.alloc (.cells #[.int .i64 y.f0, .string y.f1, .int .i64 y.f2] 35)) A4 n4 x4 from R_C HKc.out.ob.r4)
                go_wp2_with fail
                refine (keyAt_w A4 n4 c4 x4 y _ HC4.out HKc.out.gd.2.2.2.2.2.2.1).mono ?_
                rintro e w7 ⟨r7, rfl, hb7⟩
                have HKd := Aside0.mk (HKc.out.below hb7)
                have hbx7 := kbw (kla HBX.out _) hb7
                have hby7 := kbw (blk_new w6 (.cells #[.int .i64 y.f0, .string y.f1, .int .i64 y.f2] 35)) hb7
                clear HBX HKb HKc HC4 hd4
                have HBX := Aside0.mk hbx7
                have hy0 := (kcl hby7 0).trans (show _ = some (.int .i64 y.f0) from rfl)
                have hy1 := (kcl hby7 1).trans (show _ = some (.string y.f1) from rfl)
                have hy2 := (kcl hby7 2).trans (show _ = some (.int .i64 y.f2) from rfl)
                clear hbx7 hby7 hb7
                have hd4 := (HKd.out.cell 4).trans (show _ = some (.slice A4 n4 c4) from rfl)
                have hlt7 := blk_lt HKd.out.c9
                by_cases hr7 : r7 < 0
                · go_wp2_with (first | ((with_reducible refine gate_builtin (b := .append) (xs := #[.tmp 78, .tmp 80]) rfl ?_); at_builtin; refine Kd.R_append k35 (w0 := _) (wo.heap.size + 1) rfl (.tmp 78) (.tmp 80) 26 35 (.agg #[(.int .i64 0), (.string ⟨#[]⟩), (.int .i64 0)]) 32 rfl Try.underlying26 info35 rfl (by decide) (by omega) (.slice A4 n4 c4) x4 y [.int .i64 y.f0, .string y.f1, .int .i64 y.f2] (fun _ => True) (fun _ => False) rfl (by first | rfl | (rw [size_alloc]; rfl) | (rw [size_set]; rfl)) ?aPk (fun _ hk => hk.elim) (fun _ _ => trivial) ?aOk (Below.refl _ _) ?aSk ?aLk ?_; (case aPk => exact k35_mkM _ _ _ y); (case aOk => exact HKd.out.ob.r4); (case aSk => have := blk_lt HKd.out.c9; omega); (case aLk => have hgd := HKd.out.gd; unfold oG at hgd; simp only at hgd; omega); intro v1 w6k ho _ hg hat; obtain ⟨A1k, c1k, rfl⟩ := Kd.R_slice ho; obtain ⟨n1k, hn1⟩ : ∃ n1, n1 = (x4 ++ [y]).length := ⟨_, rfl⟩; rw [← hn1] at ho hat ⊢; have HNk := Aside0.mk (HKd.out.app4 hy ho hg hat); have hsk : w6k.heap[wo.heap.size]? = _ := (HKd.out.grown hg (Kd.R_base HKd.out.ob.r4)).2.2.2; have hsck := (kcl hsk 4).trans (show _ = some (.slice A4 n4 c4) from rfl); have hsfk := kfz hsk 4; have HBX2 := Aside0.mk (blk_far (p := ⟨wo.heap.size, 4, none⟩) (kgr HBX.out hg (fun e => by have := HR4.out _ e.symm; omega)) (by simp; omega) (.slice A1k n1k c1k)); have hb0s := (kcl HBX2.out 0).trans (show _ = some (.int .i64 x.f0) from rfl); have hb1s := (kcl HBX2.out 1).trans (show _ = some (.string x.f1) from rfl); have hb2s := (kcl HBX2.out 2).trans (show _ = some (.int .i64 x.f2) from rfl); have hd3s := (HNk.out.cell 3).trans (show _ = some (.slice A3 n3 c3) from rfl); clear hn1 ho hg hat hsk) | ((with_reducible refine gate_builtin (b := .append) (xs := #[.tmp 84, .tmp 86]) rfl ?_); at_builtin; refine Kd.R_append k35 (w0 := _) (wo.heap.size + 1) rfl (.tmp 84) (.tmp 86) 26 35 (.agg #[(.int .i64 0), (.string ⟨#[]⟩), (.int .i64 0)]) 32 rfl Try.underlying26 info35 rfl (by decide) (by omega) (.slice A3 n3 c3) x3 x [.int .i64 x.f0, .string x.f1, .int .i64 x.f2] (fun _ => True) (fun _ => False) rfl (by first | rfl | (rw [size_alloc]; rfl) | (rw [size_set]; rfl)) ?aPl (fun _ hk => hk.elim) (fun _ _ => trivial) ?aOl (Below.refl _ _) ?aSl ?aLl ?_; (case aPl => exact k35_mkM _ _ _ x); (case aOl => exact HNk.out.ob.r3); (case aSl => have := blk_lt HNk.out.c9; omega); (case aLl => have hgd := HNk.out.gd; unfold oG at hgd; simp only at hgd; omega); intro v1 w6l ho _ hg hat; obtain ⟨A1l, c1l, rfl⟩ := Kd.R_slice ho; obtain ⟨n1l, hn1⟩ : ∃ n1, n1 = (x3 ++ [x]).length := ⟨_, rfl⟩; rw [← hn1] at ho hat ⊢; have HNl := Aside0.mk (HNk.out.app3 hx ho hg hat); have hsl : w6l.heap[wo.heap.size]? = _ := (HNk.out.grown hg (Kd.R_base HNk.out.ob.r3)).2.2.2; have hscl := (kcl hsl 3).trans (show _ = some (.slice A3 n3 c3) from rfl); have hsfl := kfz hsl 3; clear hn1 ho hg hat hsl))
                  go_wp2
                  go_roundw
                  case rel => exact ⟨j + 1, x3 ++ [x], x4 ++ [y], x5, x6, A1l, A1k, A5, A6, n1l, c1l, n1k, c1k, n5, c5, n6, c6, by go_num, by omega, ⟨(HNl.out.more (by omega)).mono (by omega)⟩⟩
                  case measure => simp [intOf]; omega
                · go_wp2
                  go_roundw
                  case rel => exact ⟨j + 1, x3, x4, x5, x6, A3, A4, A5, A6, n3, c3, n4, c4, n5, c5, n6, c6, by go_num, by omega, ⟨(HKd.out.more (by omega)).mono (by omega)⟩⟩
                  case measure => simp [intOf]; omega
              · have hc4' := HJ.out.old hc4 (by simp; omega)
                have hd0 := (HJ.out.cell 0).trans (show _ = some (.int .i64 2) from rfl)
                have hd1 := (HJ.out.cell 1).trans (show _ = some (.string ⟨#[]⟩) from rfl)
                have hd2 := (HJ.out.cell 2).trans (show _ = some (.int .i64 0) from rfl)
                have hd3 := (HJ.out.cell 3).trans (show _ = some (.slice A3 n3 c3) from rfl)
                have hd4 := (HJ.out.cell 4).trans (show _ = some (.slice A4 n4 c4) from rfl)
                have hd5 := (HJ.out.cell 5).trans (show _ = some (.slice A5 n5 c5) from rfl)
                have hd6 := (HJ.out.cell 6).trans (show _ = some (.slice A6 n6 c6) from rfl)
                have hgc1 := HJ.out.kp.blk hgc (by omega) (by simp)
                have g0 := HJ.out.old e0 (by simp; omega)
                have f0 := kfz hgc1 (m * 7)
                have g1 := HJ.out.old e1 (by simp; omega)
                have f1 := kfz hgc1 (m * 7 + 1)
                have g2 := HJ.out.old e2 (by simp; omega)
                have f2 := kfz hgc1 (m * 7 + 2)
                have g3 := HJ.out.old e3 (by simp; omega)
                have f3 := kfz hgc1 (m * 7 + 3)
                have g4 := HJ.out.old e4 (by simp; omega)
                have f4 := kfz hgc1 (m * 7 + 4)
                have g5 := HJ.out.old e5 (by simp; omega)
                have f5 := kfz hgc1 (m * 7 + 5)
                have g6 := HJ.out.old e6 (by simp; omega)
                have f6 := kfz hgc1 (m * 7 + 6)
                have HGC := Lib.hid hgc1
                clear hgc1
                have hw := blk_lt HJ.out.c9
                go_wp2_with fail
                go_roundw
                case rel => exact ⟨m + 1, l.set m ⟨2, ⟨#[]⟩, 0, x3, x4, x5, x6⟩, some ⟨gb, 0, none⟩, n, c, by go_num, ⟨((HQ.out.1.round hm hgb hgb1 hgb4 HJ.out.rn HJ.out.bl HJ.out.kp HJ.out.ob).mono (by omega)), HQ.out.2.1.next hm (oG_oB HJ.out.gd (by omega)), by simpa using HN.out⟩⟩
                case measure => simp [intOf]; omega
          have gq2 : (q == 2) = false := by simpa using hq2
          have gq6 : (q == 6) = false := by simpa using hq6
          have gq4 : (q == 4) = false := by simpa using hq4
          have gq7 : (q == 7) = false := by simpa using hq7
          clear hq2 hq4 hq6 hq7
          go_wp2_with fail
          have HI := Aside0.mk (in_start HQ.out.1 q)
          refine (pick_w g 4 (100 * m) w0 _ HI.out.rn HI.out.bl (by omega) (by omega)).mono ?_
          rintro e w3 ⟨kk, rfl, hk0, hk4, hR3, hB3, hK3⟩
          replace hk4 := hk4 (by decide)
          have HJ := Aside0.mk (HI.out.call hR3 hB3 hK3)
          clear HI hR3 hB3 hK3
          go_wp2_with fail
          go_loopw [11] (fun i w' => ∃ (j : Nat) (x3 x4 : List S35) (x5 : List ByteArray) (x6 : List S35) (A3 A4 A5 A6 : Option Addr) (n3 c3 n4 c4 n5 c5 n6 c6 : Nat), i = .int .i64 j ∧ (j : Int) ≤ kk ∧ Aside0 (In w0 wo w' g (100 * m + 1 + 30 * j) q (2 * j) x3 x4 x5 x6 (.slice A3 n3 c3) (.slice A4 n4 c4) (.slice A5 n5 c5) (.slice A6 n6 c6))) (fun i _ => (kk - intOf i).toNat)
          case atStart => exact ⟨0, [], [], [], [], none, none, none, none, 0, 0, 0, 0, 0, 0, 0, 0, rfl, hk0, ⟨HJ.out.mono (by simp)⟩⟩
          case round =>
            clear HJ
            obtain ⟨j, x3, x4, x5, x6, A3, A4, A5, A6, n3, c3, n4, c4, n5, c5, n6, c6, rfl, hjk, HJ⟩ := hrel
            by_cases hj : (j : Int) < kk
            · have hc4' := HJ.out.old hc4 (by simp; omega)
              go_wp2_with fail
              refine (value_w g n (100 * m + 1 + 30 * j) w0 _ HJ.out.rn HJ.out.bl (by omega) (by omega) (by omega)).mono ?_
              rintro e w5 ⟨x, rfl, hx, hR5, hB5, hK5⟩
              have HK := Aside0.mk (HJ.out.call hR5 hB5 hK5)
              clear HJ hc4' hR5 hB5 hK5
              have hd0 := (HK.out.cell 0).trans (show _ = some (.int .i64 q) from rfl)
              have hd3 := (HK.out.cell 3).trans (show _ = some (.slice A3 n3 c3) from rfl)
              have HK2 := Aside0.mk (HK.out.alloc (.cells #[.int .i64 x.f0, .string x.f1, .int .i64 x.f2] 35))
              have hlt := blk_lt HK.out.c9
              go_wp2_with (first | ((with_reducible refine gate_builtin (b := .append) (xs := #[.tmp 63, .tmp 65]) rfl ?_); at_builtin; refine Kd.R_append k35 (w0 := _) (wo.heap.size + 1) rfl (.tmp 63) (.tmp 65) 26 35 (.agg #[(.int .i64 0), (.string ⟨#[]⟩), (.int .i64 0)]) 32 rfl Try.underlying26 info35 rfl (by decide) (by omega) (.slice A3 n3 c3) x3 x [.int .i64 x.f0, .string x.f1, .int .i64 x.f2] (fun _ => True) (fun _ => False) rfl (by first | rfl | (rw [size_alloc]; rfl) | (rw [size_set]; rfl)) ?aPo (fun _ hk => hk.elim) (fun _ _ => trivial) ?aOo (Below.refl _ _) ?aSo ?aLo ?_; (case aPo => exact k35_mkM _ _ _ x); (case aOo => exact HK2.out.ob.r3); (case aSo => have := blk_lt HK2.out.c9; omega); (case aLo => have hgd := HK2.out.gd; unfold oG at hgd; simp only at hgd; omega); intro v1 w6o ho _ hg hat; obtain ⟨A1o, c1o, rfl⟩ := Kd.R_slice ho; obtain ⟨n1o, hn1⟩ : ∃ n1, n1 = (x3 ++ [x]).length := ⟨_, rfl⟩; rw [← hn1] at ho hat ⊢; have HNo := Aside0.mk (HK2.out.app3 hx ho hg hat); have hso : w6o.heap[wo.heap.size]? = _ := (HK2.out.grown hg (Kd.R_base HK2.out.ob.r3)).2.2.2; have hsco := (kcl hso 3).trans (show _ = some (.slice A3 n3 c3) from rfl); have hsfo := kfz hso 3; clear hn1 ho hg hat hso))
              go_wp2
              go_roundw
              case rel => exact ⟨j + 1, x3 ++ [x], x4, x5, x6, A1o, A4, A5, A6, n1o, c1o, n4, c4, n5, c5, n6, c6, by go_num, by omega, ⟨(HNo.out.more (by omega)).mono (by omega)⟩⟩
              case measure => simp [intOf]; omega
            · have hc4' := HJ.out.old hc4 (by simp; omega)
              have hd0 := (HJ.out.cell 0).trans (show _ = some (.int .i64 q) from rfl)
              have hd1 := (HJ.out.cell 1).trans (show _ = some (.string ⟨#[]⟩) from rfl)
              have hd2 := (HJ.out.cell 2).trans (show _ = some (.int .i64 0) from rfl)
              have hd3 := (HJ.out.cell 3).trans (show _ = some (.slice A3 n3 c3) from rfl)
              have hd4 := (HJ.out.cell 4).trans (show _ = some (.slice A4 n4 c4) from rfl)
              have hd5 := (HJ.out.cell 5).trans (show _ = some (.slice A5 n5 c5) from rfl)
              have hd6 := (HJ.out.cell 6).trans (show _ = some (.slice A6 n6 c6) from rfl)
              have hgc1 := HJ.out.kp.blk hgc (by omega) (by simp)
              have g0 := HJ.out.old e0 (by simp; omega)
              have f0 := kfz hgc1 (m * 7)
              have g1 := HJ.out.old e1 (by simp; omega)
              have f1 := kfz hgc1 (m * 7 + 1)
              have g2 := HJ.out.old e2 (by simp; omega)
              have f2 := kfz hgc1 (m * 7 + 2)
              have g3 := HJ.out.old e3 (by simp; omega)
              have f3 := kfz hgc1 (m * 7 + 3)
              have g4 := HJ.out.old e4 (by simp; omega)
              have f4 := kfz hgc1 (m * 7 + 4)
              have g5 := HJ.out.old e5 (by simp; omega)
              have f5 := kfz hgc1 (m * 7 + 5)
              have g6 := HJ.out.old e6 (by simp; omega)
              have f6 := kfz hgc1 (m * 7 + 6)
              have HGC := Lib.hid hgc1
              clear hgc1
              have hw := blk_lt HJ.out.c9
              go_wp2_with fail
              go_roundw
              case rel => exact ⟨m + 1, l.set m ⟨q, ⟨#[]⟩, 0, x3, x4, x5, x6⟩, some ⟨gb, 0, none⟩, n, c, by go_num, ⟨((HQ.out.1.round hm hgb hgb1 hgb4 HJ.out.rn HJ.out.bl HJ.out.kp HJ.out.ob).mono (by omega)), HQ.out.2.1.next hm (oG_oB HJ.out.gd (by omega)), by simpa using HN.out⟩⟩
              case measure => simp [intOf]; omega
        · have HT := Aside0.mk ((HQ.out.1.tail HQ.out.2.1).mono (show 100 * (m : Int) ≤ 3000 by have := HQ.out.2.1.ml; have := HQ.out.2.1.hi; omega))
          have hmn : ¬ (m : Int) < (n : Int) := by have := HQ.out.2.2; omega
          obtain ⟨gb, rfl, hn', hnc, hgb, hgb4⟩ := HT.out.row
          have hn24 : n ≤ 24 := by have := HT.out.hi; omega
          have hn19 : 19 ≤ n := by have := HT.out.lo; omega
          clear hn' HQ hm
          have hc4 := HT.out.cell
          go_wp2_with fail
          refine (pick_w g 14 3000 w0 _ HT.out.rn HT.out.bl (by omega) (by omega)).mono ?_
          rintro e w3 ⟨p, rfl, _, _, hR3, hB3, hK3⟩
          have HT1 := Aside0.mk (HT.out.call hR3 hB3 hK3)
          clear hR3 hB3 hK3 hc4 HT
          by_cases hp : p = 0
          · subst hp
            go_wp2_with fail
            have hpda := (HT1.out.mono (show _ ≤ (3001 : Int) by omega)).drew
            refine start_ (n := 12) (S := fun w' => w'.cell? ⟨b4, 0, none⟩ = some (.slice (some ⟨gb, 0, none⟩) n c)) (ds := [11]) #[false, false, false, false, false, false, false, false, false, false, false, false] (by kernel_rfl) rfl rfl (hpda.cell) (fun hHeld => ?_)
            generalize w3.drew = w10a at hpda hHeld ⊢
            refine pure_ (i := 0) (N := some 136) (v := ?_) (a' := ?_) #[true, false, false, false, false, false, false, false, false, false, false, false] rfl rfl (by kernel_rfl) (fun _ _ _ h => h) (Or.inl ⟨by rfl, ?_⟩) ?_ ?_
            rotate_left
            · intro w'
              go_simp
              with_reducible rfl
            rotate_left
            · simp only [Act.put, List.setIfInBounds_toArray, List.set_cons_zero, List.set_cons_succ, i64_w, i32_w]
              rfl
            refine pure_ (i := 2) (N := some 138) (v := ?_) (a' := ?_) #[true, false, true, false, false, false, false, false, false, false, false, false] rfl rfl (by kernel_rfl) (fun _ _ _ h => h) (Or.inl ⟨by rfl, ?_⟩) ?_ ?_
            rotate_left
            · intro w'
              go_simp
              with_reducible rfl
            rotate_left
            · simp only [Act.put, List.setIfInBounds_toArray, List.set_cons_zero, List.set_cons_succ, i64_w, i32_w]
              rfl
            refine pure_ (i := 3) (N := some 139) (v := ?_) (a' := ?_) #[true, false, true, true, false, false, false, false, false, false, false, false] rfl rfl (by kernel_rfl) (fun _ _ _ h => h) (Or.inl ⟨by rfl, ?_⟩) ?_ ?_
            rotate_left
            · intro w'
              go_simp
              with_reducible rfl
            rotate_left
            · simp only [Act.put, List.setIfInBounds_toArray, List.set_cons_zero, List.set_cons_succ, i64_w, i32_w]
              rfl
            refine pure_ (i := 7) (N := some 143) (v := ?_) (a' := ?_) #[true, false, true, true, false, false, false, true, false, false, false, false] rfl rfl (by kernel_rfl) (fun _ _ _ h => h) (Or.inl ⟨by rfl, ?_⟩) ?_ ?_
            rotate_left
            · intro w'
              go_simp
              with_reducible rfl
            rotate_left
            · simp only [Act.put, List.setIfInBounds_toArray, List.set_cons_zero, List.set_cons_succ, i64_w, i32_w]
              rfl
            refine take_ (i := 1) (N := some 137) (v := ?_) (a' := ?_) #[true, true, true, true, false, false, false, true, false, false, false, false] rfl rfl (by kernel_rfl) (fun _ _ _ h => h) (Or.inl ⟨by rfl, ?_⟩) hHeld ?_ ?_
            rotate_left
            · intro w' s0
              go_simp
              with_reducible rfl
            rotate_left
            · simp only [Act.put, List.setIfInBounds_toArray, List.set_cons_zero, List.set_cons_succ, i64_w, i32_w]
              rfl
            refine take_ (i := 4) (N := some 140) (v := ?_) (a' := ?_) #[true, true, true, true, true, false, false, true, false, false, false, false] rfl rfl (by kernel_rfl) (fun _ _ _ h => h) (Or.inl ⟨by rfl, ?_⟩) hHeld ?_ ?_
            rotate_left
            · intro w' s0
              go_simp
              with_reducible rfl
            rotate_left
            · simp only [Act.put, List.setIfInBounds_toArray, List.set_cons_zero, List.set_cons_succ, i64_w, i32_w]
              rfl
            refine pure_ (i := 5) (N := some 141) (v := ?_) (a' := ?_) #[true, true, true, true, true, true, false, true, false, false, false, false] rfl rfl (by kernel_rfl) (fun _ _ _ h => h) (Or.inl ⟨by rfl, ?_⟩) ?_ ?_
            rotate_left
            · intro w'
              go_simp
              with_reducible rfl
            rotate_left
            · simp only [Act.put, List.setIfInBounds_toArray, List.set_cons_zero, List.set_cons_succ, i64_w, i32_w]
              rfl
            refine one_ (i := 6) (N := some 142) #[true, true, true, true, true, true, true, true, false, false, false, false] rfl rfl (by kernel_rfl) (by decide) (fun K hK => ?_)
            refine goes_ Try.func51 (by kernel_rfl) rfl #[.pointer (some ⟨g, 0, none⟩), .int .i64 (n : Int)] (by rfl) rfl rfl (by simp only [List.map_toArray, List.map_cons, List.map_nil]; rfl) ?_
            with_reducible refine (pick_w g n 3001 w0 _ hpda.rn hpda.bl (by omega) (by omega)).mono ?_
            rintro e w11a ⟨i0, rfl, hi0, hi1, hR11, hB11, hK11⟩
            refine ⟨_, rfl, ?_⟩
            have hp6a := hpda.call hR11 hB11 hK11
            clear hR11 hB11 hK11
            obtain ⟨ia, rfl⟩ := Int.eq_ofNat_of_zero_le hi0
            have hina : (ia : Int) < (n : Int) := hi1 (by omega)
            have hi0a : (0 : Int) ≤ (ia : Int) := Int.natCast_nonneg _
            clear hi0 hi1
            refine hK.out _ _ (hp6a.cell) (fun hHeld => ?_)
            clear hK K
            refine norm_ (a' := ?_) ?_ ?_
            rotate_left
            · show Act.put _ (some 142) _ = _
              simp only [Act.put, List.setIfInBounds_toArray, List.set_cons_zero, List.set_cons_succ, i64_w, i32_w]
              rfl
            refine one_ (i := 8) (N := some 144) #[true, true, true, true, true, true, true, true, true, false, false, false] rfl rfl (by kernel_rfl) (by decide) (fun K hK => ?_)
            refine goes_ Try.func92 (by kernel_rfl) rfl #[.pointer (some ⟨g, 0, none⟩)] (by rfl) rfl rfl (by simp only [List.map_toArray, List.map_cons, List.map_nil]; rfl) ?_
            with_reducible refine (odd_w g 3002 w0 _ hp6a.rn hp6a.bl (by omega)).mono ?_
            rintro e w12a ⟨ra, rfl, _, _, hR12, hB12, hK12⟩
            refine ⟨_, rfl, ?_⟩
            have hp8a := hp6a.call hR12 hB12 hK12
            clear hR12 hB12 hK12
            obtain ⟨_, ⟨u2a, hu2a⟩, _, hfza, _, hset⟩ := hp8a.elem hgb hgb4 ia (by omega)
            obtain ⟨l2a, hl2⟩ := hset ra
            have HTa := Aside0.mk hl2
            clear hset hl2
            refine hK.out _ _ (hp8a.cell) (fun hHeld => ?_)
            clear hK K
            refine norm_ (a' := ?_) ?_ ?_
            rotate_left
            · show Act.put _ (some 144) _ = _
              simp only [Act.put, List.setIfInBounds_toArray, List.set_cons_zero, List.set_cons_succ, i64_w, i32_w]
              rfl
            refine pure_ (i := 9) (N := some 145) (v := ?_) (a' := ?_) #[true, true, true, true, true, true, true, true, true, true, false, false] rfl rfl (by kernel_rfl) (fun _ _ _ h => h) (Or.inl ⟨by rfl, ?_⟩) ?_ ?_
            rotate_left
            · intro w'
              go_simp
              with_reducible rfl
            rotate_left
            · simp only [Act.put, List.setIfInBounds_toArray, List.set_cons_zero, List.set_cons_succ, i64_w, i32_w]
              rfl
            refine pure_ (i := 10) (N := some 146) (v := ?_) (a' := ?_) #[true, true, true, true, true, true, true, true, true, true, true, false] rfl rfl (by kernel_rfl) (fun _ _ _ h => h) (Or.inl ⟨by rfl, ?_⟩) ?_ ?_
            rotate_left
            · intro w'
              go_simp
              with_reducible rfl
            rotate_left
            · simp only [Act.put, List.setIfInBounds_toArray, List.set_cons_zero, List.set_cons_succ, i64_w, i32_w]
              rfl
            refine last_ (i := 11) (N := none) #[true, true, true, true, true, true, true, true, true, true, true, true] rfl rfl (by kernel_rfl) (by decide) (fun K hK => ?_)
            refine skip_ (w1 := ?_) (by rfl) rfl ?_ ?_
            rotate_left
            · go_simp
              rfl
            refine hK.out _ _ ?_
            clear hK K
            refine done_ (by kernel_rfl) ?_
            go_wp2_with fail
            refine (pick_w g 14 3010 w0 _ (HTa.out.rn.mono (by omega)) HTa.out.bl (by omega) (by omega)).mono ?_
            rintro e w4b ⟨p4b, rfl, _, _, hR4, hB4, hK4⟩
            have HTcb := Aside0.mk (HTa.out.call hR4 hB4 hK4)
            clear hR4 hB4 hK4
            by_cases hp4b : p4b = 0
            · subst hp4b
              go_wp2_with fail
              have hpdbk := (HTcb.out.mono (show _ ≤ (3011 : Int) by omega)).drew
              refine start_ (n := 14) (S := fun w' => w'.cell? ⟨b4, 0, none⟩ = some (.slice (some ⟨gb, 0, none⟩) n c)) (ds := [13]) #[false, false, false, false, false, false, false, false, false, false, false, false, false, false] (by kernel_rfl) rfl rfl (hpdbk.cell) (fun hHeld => ?_)
              generalize w4b.drew = w10bk at hpdbk hHeld ⊢
              refine pure_ (i := 0) (N := some 150) (v := ?_) (a' := ?_) #[true, false, false, false, false, false, false, false, false, false, false, false, false, false] rfl rfl (by kernel_rfl) (fun _ _ _ h => h) (Or.inl ⟨by rfl, ?_⟩) ?_ ?_
              rotate_left
              · intro w'
                go_simp
                with_reducible rfl
              rotate_left
              · simp only [Act.put, List.setIfInBounds_toArray, List.set_cons_zero, List.set_cons_succ, i64_w, i32_w]
                rfl
              refine pure_ (i := 2) (N := some 152) (v := ?_) (a' := ?_) #[true, false, true, false, false, false, false, false, false, false, false, false, false, false] rfl rfl (by kernel_rfl) (fun _ _ _ h => h) (Or.inl ⟨by rfl, ?_⟩) ?_ ?_
              rotate_left
              · intro w'
                go_simp
                with_reducible rfl
              rotate_left
              · simp only [Act.put, List.setIfInBounds_toArray, List.set_cons_zero, List.set_cons_succ, i64_w, i32_w]
                rfl
              refine pure_ (i := 3) (N := some 153) (v := ?_) (a' := ?_) #[true, false, true, true, false, false, false, false, false, false, false, false, false, false] rfl rfl (by kernel_rfl) (fun _ _ _ h => h) (Or.inl ⟨by rfl, ?_⟩) ?_ ?_
              rotate_left
              · intro w'
                go_simp
                with_reducible rfl
              rotate_left
              · simp only [Act.put, List.setIfInBounds_toArray, List.set_cons_zero, List.set_cons_succ, i64_w, i32_w]
                rfl
              refine pure_ (i := 7) (N := some 157) (v := ?_) (a' := ?_) #[true, false, true, true, false, false, false, true, false, false, false, false, false, false] rfl rfl (by kernel_rfl) (fun _ _ _ h => h) (Or.inl ⟨by rfl, ?_⟩) ?_ ?_
              rotate_left
              · intro w'
                go_simp
                with_reducible rfl
              rotate_left
              · simp only [Act.put, List.setIfInBounds_toArray, List.set_cons_zero, List.set_cons_succ, i64_w, i32_w]
                rfl
              refine pure_ (i := 8) (N := some 158) (v := ?_) (a' := ?_) #[true, false, true, true, false, false, false, true, true, false, false, false, false, false] rfl rfl (by kernel_rfl) (fun _ _ _ h => h) (Or.inl ⟨by rfl, ?_⟩) ?_ ?_
              rotate_left
              · intro w'
                go_simp
                with_reducible rfl
              rotate_left
              · simp only [Act.put, List.setIfInBounds_toArray, List.set_cons_zero, List.set_cons_succ, i64_w, i32_w]
                rfl
              refine take_ (i := 1) (N := some 151) (v := ?_) (a' := ?_) #[true, true, true, true, false, false, false, true, true, false, false, false, false, false] rfl rfl (by kernel_rfl) (fun _ _ _ h => h) (Or.inl ⟨by rfl, ?_⟩) hHeld ?_ ?_
              rotate_left
              · intro w' s0
                go_simp
                with_reducible rfl
              rotate_left
              · simp only [Act.put, List.setIfInBounds_toArray, List.set_cons_zero, List.set_cons_succ, i64_w, i32_w]
                rfl
              refine take_ (i := 4) (N := some 154) (v := ?_) (a' := ?_) #[true, true, true, true, true, false, false, true, true, false, false, false, false, false] rfl rfl (by kernel_rfl) (fun _ _ _ h => h) (Or.inl ⟨by rfl, ?_⟩) hHeld ?_ ?_
              rotate_left
              · intro w' s0
                go_simp
                with_reducible rfl
              rotate_left
              · simp only [Act.put, List.setIfInBounds_toArray, List.set_cons_zero, List.set_cons_succ, i64_w, i32_w]
                rfl
              refine pure_ (i := 5) (N := some 155) (v := ?_) (a' := ?_) #[true, true, true, true, true, true, false, true, true, false, false, false, false, false] rfl rfl (by kernel_rfl) (fun _ _ _ h => h) (Or.inl ⟨by rfl, ?_⟩) ?_ ?_
              rotate_left
              · intro w'
                go_simp
                with_reducible rfl
              rotate_left
              · simp only [Act.put, List.setIfInBounds_toArray, List.set_cons_zero, List.set_cons_succ, i64_w, i32_w]
                rfl
              refine one_ (i := 6) (N := some 156) #[true, true, true, true, true, true, true, true, true, false, false, false, false, false] rfl rfl (by kernel_rfl) (by decide) (fun K hK => ?_)
              refine goes_ Try.func51 (by kernel_rfl) rfl #[.pointer (some ⟨g, 0, none⟩), .int .i64 (n : Int)] (by rfl) rfl rfl (by simp only [List.map_toArray, List.map_cons, List.map_nil]; rfl) ?_
              with_reducible refine (pick_w g n 3011 w0 _ hpdbk.rn hpdbk.bl (by omega) (by omega)).mono ?_
              rintro e w11bk ⟨i0, rfl, hi0, hi1, hR11, hB11, hK11⟩
              refine ⟨_, rfl, ?_⟩
              have hp6bk := hpdbk.call hR11 hB11 hK11
              clear hR11 hB11 hK11
              obtain ⟨ibk, rfl⟩ := Int.eq_ofNat_of_zero_le hi0
              have hinbk : (ibk : Int) < (n : Int) := hi1 (by omega)
              have hi0bk : (0 : Int) ≤ (ibk : Int) := Int.natCast_nonneg _
              clear hi0 hi1
              refine hK.out _ _ (hp6bk.cell) (fun hHeld => ?_)
              clear hK K
              refine norm_ (a' := ?_) ?_ ?_
              rotate_left
              · show Act.put _ (some 156) _ = _
                simp only [Act.put, List.setIfInBounds_toArray, List.set_cons_zero, List.set_cons_succ, i64_w, i32_w]
                rfl
              refine one_ (i := 9) (N := some 159) #[true, true, true, true, true, true, true, true, true, true, false, false, false, false] rfl rfl (by kernel_rfl) (by decide) (fun K hK => ?_)
              refine goes_ Try.func51 (by kernel_rfl) rfl #[.pointer (some ⟨g, 0, none⟩), .int .i64 12] (by rfl) rfl rfl (by simp only [List.map_toArray, List.map_cons, List.map_nil]; rfl) ?_
              with_reducible refine (pick_w g 12 3012 w0 _ hp6bk.rn hp6bk.bl (by omega) (by omega)).mono ?_
              rintro e w13bk ⟨qbk, rfl, hq0, hq1, hR13, hB13, hK13⟩
              refine ⟨_, rfl, ?_⟩
              have hp9bk := hp6bk.call hR13 hB13 hK13
              clear hR13 hB13 hK13
              replace hq1 := hq1 (by decide)
              refine hK.out _ _ (hp9bk.cell) (fun hHeld => ?_)
              clear hK K
              refine norm_ (a' := ?_) ?_ ?_
              rotate_left
              · show Act.put _ (some 159) _ = _
                simp only [Act.put, List.setIfInBounds_toArray, List.set_cons_zero, List.set_cons_succ, i64_w, i32_w]
                rfl
              refine one_ (i := 10) (N := some 160) #[true, true, true, true, true, true, true, true, true, true, true, false, false, false] rfl rfl (by kernel_rfl) (by decide) (fun K hK => ?_)
              refine goes_ Try.func93 (by kernel_rfl) rfl #[.pointer (some ⟨g, 0, none⟩), .int .i64 qbk] (by rfl) rfl rfl (by simp only [List.map_toArray, List.map_cons, List.map_nil]; rfl) ?_
              with_reducible refine (often_w g qbk 3013 w0 _ hp9bk.rn hp9bk.bl (by omega) (by omega)).mono ?_
              rintro e w12bk ⟨rbk, rfl, _, _, hR12, hB12, hK12⟩
              refine ⟨_, rfl, ?_⟩
              have hp8bk := hp9bk.call hR12 hB12 hK12
              clear hR12 hB12 hK12 hq0 hq1
              obtain ⟨⟨u2bk, hu2bk⟩, _, hfzbk, _, hset, _⟩ := hp8bk.elem hgb hgb4 ibk (by omega)
              obtain ⟨l2bk, hl2⟩ := hset rbk
              have HTbk := Aside0.mk hl2
              clear hset hl2
              refine hK.out _ _ (hp8bk.cell) (fun hHeld => ?_)
              clear hK K
              refine norm_ (a' := ?_) ?_ ?_
              rotate_left
              · show Act.put _ (some 160) _ = _
                simp only [Act.put, List.setIfInBounds_toArray, List.set_cons_zero, List.set_cons_succ, i64_w, i32_w]
                rfl
              refine pure_ (i := 11) (N := some 161) (v := ?_) (a' := ?_) #[true, true, true, true, true, true, true, true, true, true, true, true, false, false] rfl rfl (by kernel_rfl) (fun _ _ _ h => h) (Or.inl ⟨by rfl, ?_⟩) ?_ ?_
              rotate_left
              · intro w'
                go_simp
                with_reducible rfl
              rotate_left
              · simp only [Act.put, List.setIfInBounds_toArray, List.set_cons_zero, List.set_cons_succ, i64_w, i32_w]
                rfl
              refine pure_ (i := 12) (N := some 162) (v := ?_) (a' := ?_) #[true, true, true, true, true, true, true, true, true, true, true, true, true, false] rfl rfl (by kernel_rfl) (fun _ _ _ h => h) (Or.inl ⟨by rfl, ?_⟩) ?_ ?_
              rotate_left
              · intro w'
                go_simp
                with_reducible rfl
              rotate_left
              · simp only [Act.put, List.setIfInBounds_toArray, List.set_cons_zero, List.set_cons_succ, i64_w, i32_w]
                rfl
              refine last_ (i := 13) (N := none) #[true, true, true, true, true, true, true, true, true, true, true, true, true, true] rfl rfl (by kernel_rfl) (by decide) (fun K hK => ?_)
              refine skip_ (w1 := ?_) (by rfl) rfl ?_ ?_
              rotate_left
              · go_simp
                rfl
              refine hK.out _ _ ?_
              clear hK K
              refine done_ (by kernel_rfl) ?_
              go_wp2_with fail
              have hpdbkz := (HTbk.out.mono (show _ ≤ (3015 : Int) by omega)).drew
              refine start_ (n := 8) (S := fun w' => w'.cell? ⟨b4, 0, none⟩ = some (.slice (some ⟨gb, 0, none⟩) n c)) (ds := [7]) #[false, false, false, false, false, false, false, false] (by kernel_rfl) rfl rfl (hpdbkz.cell) (fun hHeld => ?_)
              generalize (w12bk.setCell ⟨gb, ibk * 7, none⟩ (.int .i64 rbk)).drew = w10bkz at hpdbkz hHeld ⊢
              refine pure_ (i := 1) (N := some 164) (v := ?_) (a' := ?_) #[false, true, false, false, false, false, false, false] rfl rfl (by kernel_rfl) (fun _ _ _ h => h) (Or.inl ⟨by rfl, ?_⟩) ?_ ?_
              rotate_left
              · intro w'
                go_simp
                with_reducible rfl
              rotate_left
              · simp only [Act.put, List.setIfInBounds_toArray, List.set_cons_zero, List.set_cons_succ, i64_w, i32_w]
                rfl
              refine pure_ (i := 2) (N := some 165) (v := ?_) (a' := ?_) #[false, true, true, false, false, false, false, false] rfl rfl (by kernel_rfl) (fun _ _ _ h => h) (Or.inl ⟨by rfl, ?_⟩) ?_ ?_
              rotate_left
              · intro w'
                go_simp
                with_reducible rfl
              rotate_left
              · simp only [Act.put, List.setIfInBounds_toArray, List.set_cons_zero, List.set_cons_succ, i64_w, i32_w]
                rfl
              refine take_ (i := 0) (N := some 163) (v := ?_) (a' := ?_) #[true, true, true, false, false, false, false, false] rfl rfl (by kernel_rfl) (fun _ _ _ h => h) (Or.inl ⟨by rfl, ?_⟩) hHeld ?_ ?_
              rotate_left
              · intro w' s0
                go_simp
                with_reducible rfl
              rotate_left
              · simp only [Act.put, List.setIfInBounds_toArray, List.set_cons_zero, List.set_cons_succ, i64_w, i32_w]
                rfl
              refine take_ (i := 3) (N := some 166) (v := ?_) (a' := ?_) #[true, true, true, true, false, false, false, false] rfl rfl (by kernel_rfl) (fun _ _ _ h => h) (Or.inl ⟨by rfl, ?_⟩) hHeld ?_ ?_
              rotate_left
              · intro w' s0
                go_simp
                with_reducible rfl
              rotate_left
              · simp only [Act.put, List.setIfInBounds_toArray, List.set_cons_zero, List.set_cons_succ, i64_w, i32_w]
                rfl
              refine pure_ (i := 4) (N := some 167) (v := ?_) (a' := ?_) #[true, true, true, true, true, false, false, false] rfl rfl (by kernel_rfl) (fun _ _ _ h => h) (Or.inl ⟨by rfl, ?_⟩) ?_ ?_
              rotate_left
              · intro w'
                go_simp
                with_reducible rfl
              rotate_left
              · simp only [Act.put, List.setIfInBounds_toArray, List.set_cons_zero, List.set_cons_succ, i64_w, i32_w]
                rfl
              refine one_ (i := 5) (N := some 168) #[true, true, true, true, true, true, false, false] rfl rfl (by kernel_rfl) (by decide) (fun K hK => ?_)
              refine goes_ Try.func52 (by kernel_rfl) rfl #[.pointer (some ⟨g, 0, none⟩), .int .i64 (n : Int)] (by rfl) rfl rfl (by simp only [List.map_toArray, List.map_cons, List.map_nil]; rfl) ?_
              with_reducible refine (value_w g n 3015 w0 _ hpdbkz.rn hpdbkz.bl (by omega) (by omega) (by omega)).mono ?_
              rintro e w11bkz ⟨xbkz, rfl, hxbkz, hR11, hB11, hK11⟩
              refine ⟨_, rfl, ?_⟩
              have hp6bkz := hpdbkz.call hR11 hB11 hK11
              clear hR11 hB11 hK11
              have hz0bkz := (kcl hp6bkz.c2 0).trans (show _ = some (.slice none 0 0) from rfl)
              have hzfbkz := kfz hp6bkz.c2 0
              have hybkz := blk_far (p := ⟨w.heap.size, 0, none⟩) hp6bkz.c3 (by simp) (.slice (some ⟨gb, 0, none⟩) n c)
              have hy0bkz := (kcl hybkz 0).trans (show _ = some (.int .i64 0) from rfl)
              have hy1bkz := (kcl hybkz 1).trans (show _ = some (.string ⟨#[]⟩) from rfl)
              have hy2bkz := (kcl hybkz 2).trans (show _ = some (.int .i64 0) from rfl)
              have hf0bkz := kfz hybkz 0
              have hf1bkz := kfz hybkz 1
              have hf2bkz := kfz hybkz 2
              have HPbkz := Aside0.mk hp6bkz
              have HYbkz := Aside0.mk hybkz
              clear hybkz
              refine hK.out _ _ (hp6bkz.cell) (fun hHeld => ?_)
              clear hK K
              refine norm_ (a' := ?_) ?_ ?_
              rotate_left
              · show Act.put _ (some 168) _ = _
                simp only [Act.put, List.setIfInBounds_toArray, List.set_cons_zero, List.set_cons_succ, i64_w, i32_w]
                rfl
              refine one_ (i := 6) (N := none) #[true, true, true, true, true, true, true, false] rfl rfl (by kernel_rfl) (by decide) (fun K hK => ?_)
              refine skip_ (w1 := ?_) (by rfl) rfl ?_ ?_
              rotate_left
              · go_simp
                rfl
              refine hK.out _ _ ((kcl (blk_far (p := ⟨w.heap.size, 0, none⟩) HPbkz.out.c4 (by have := HPbkz.out.h4; simp; omega) (.slice (some ⟨gb, 0, none⟩) n c)) 0).trans rfl) (fun hHeld => ?_)
              clear hK K
              refine last_ (i := 7) (N := none) #[true, true, true, true, true, true, true, true] rfl rfl (by kernel_rfl) (by decide) (fun K hK => ?_)
              refine skip_ (w1 := ?_) (by rfl) rfl ?_ ?_
              rotate_left
              · go_simp
                rfl
              refine hK.out _ _ ?_
              clear hK K
              refine done_ (by kernel_rfl) ?_
              go_wp2_with fail
              obtain ⟨o2, o3, hpost⟩ := HPbkz.out.fin (by omega) hxbkz rfl
              refine bodyPost_ret (v := .tuple #[.agg #[(.slice (some ⟨gb, 0, none⟩) n c)], .agg #[.int .i64 xbkz.f0, .string xbkz.f1, .int .i64 xbkz.f2]]) (B.res_cc rfl _ _ w.heap.size (w.heap.size + 1) 25 35 _ _ (0, 0) (0, 0) _ _ rfl o2 Try.underlying25 rfl rfl rfl o3 Try.underlying35 rfl rfl) rfl hpost
            · have hpb4b : (p4b == 0) = false := by simpa using hp4b
              go_wp2_with fail
              have hpdbz := (HTcb.out.mono (show _ ≤ (3011 : Int) by omega)).drew
              refine start_ (n := 8) (S := fun w' => w'.cell? ⟨b4, 0, none⟩ = some (.slice (some ⟨gb, 0, none⟩) n c)) (ds := [7]) #[false, false, false, false, false, false, false, false] (by kernel_rfl) rfl rfl (hpdbz.cell) (fun hHeld => ?_)
              generalize w4b.drew = w10bz at hpdbz hHeld ⊢
              refine pure_ (i := 1) (N := some 164) (v := ?_) (a' := ?_) #[false, true, false, false, false, false, false, false] rfl rfl (by kernel_rfl) (fun _ _ _ h => h) (Or.inl ⟨by rfl, ?_⟩) ?_ ?_
              rotate_left
              · intro w'
                go_simp
                with_reducible rfl
              rotate_left
              · simp only [Act.put, List.setIfInBounds_toArray, List.set_cons_zero, List.set_cons_succ, i64_w, i32_w]
                rfl
              refine pure_ (i := 2) (N := some 165) (v := ?_) (a' := ?_) #[false, true, true, false, false, false, false, false] rfl rfl (by kernel_rfl) (fun _ _ _ h => h) (Or.inl ⟨by rfl, ?_⟩) ?_ ?_
              rotate_left
              · intro w'
                go_simp
                with_reducible rfl
              rotate_left
              · simp only [Act.put, List.setIfInBounds_toArray, List.set_cons_zero, List.set_cons_succ, i64_w, i32_w]
                rfl
              refine take_ (i := 0) (N := some 163) (v := ?_) (a' := ?_) #[true, true, true, false, false, false, false, false] rfl rfl (by kernel_rfl) (fun _ _ _ h => h) (Or.inl ⟨by rfl, ?_⟩) hHeld ?_ ?_
              rotate_left
              · intro w' s0
                go_simp
                with_reducible rfl
              rotate_left
              · simp only [Act.put, List.setIfInBounds_toArray, List.set_cons_zero, List.set_cons_succ, i64_w, i32_w]
                rfl
              refine take_ (i := 3) (N := some 166) (v := ?_) (a' := ?_) #[true, true, true, true, false, false, false, false] rfl rfl (by kernel_rfl) (fun _ _ _ h => h) (Or.inl ⟨by rfl, ?_⟩) hHeld ?_ ?_
              rotate_left
              · intro w' s0
                go_simp
                with_reducible rfl
              rotate_left
              · simp only [Act.put, List.setIfInBounds_toArray, List.set_cons_zero, List.set_cons_succ, i64_w, i32_w]
                rfl
              refine pure_ (i := 4) (N := some 167) (v := ?_) (a' := ?_) #[true, true, true, true, true, false, false, false] rfl rfl (by kernel_rfl) (fun _ _ _ h => h) (Or.inl ⟨by rfl, ?_⟩) ?_ ?_
              rotate_left
              · intro w'
                go_simp
                with_reducible rfl
              rotate_left
              · simp only [Act.put, List.setIfInBounds_toArray, List.set_cons_zero, List.set_cons_succ, i64_w, i32_w]
                rfl
              refine one_ (i := 5) (N := some 168) #[true, true, true, true, true, true, false, false] rfl rfl (by kernel_rfl) (by decide) (fun K hK => ?_)
              refine goes_ Try.func52 (by kernel_rfl) rfl #[.pointer (some ⟨g, 0, none⟩), .int .i64 (n : Int)] (by rfl) rfl rfl (by simp only [List.map_toArray, List.map_cons, List.map_nil]; rfl) ?_
              with_reducible refine (value_w g n 3011 w0 _ hpdbz.rn hpdbz.bl (by omega) (by omega) (by omega)).mono ?_
              rintro e w11bz ⟨xbz, rfl, hxbz, hR11, hB11, hK11⟩
              refine ⟨_, rfl, ?_⟩
              have hp6bz := hpdbz.call hR11 hB11 hK11
              clear hR11 hB11 hK11
              have hz0bz := (kcl hp6bz.c2 0).trans (show _ = some (.slice none 0 0) from rfl)
              have hzfbz := kfz hp6bz.c2 0
              have hybz := blk_far (p := ⟨w.heap.size, 0, none⟩) hp6bz.c3 (by simp) (.slice (some ⟨gb, 0, none⟩) n c)
              have hy0bz := (kcl hybz 0).trans (show _ = some (.int .i64 0) from rfl)
              have hy1bz := (kcl hybz 1).trans (show _ = some (.string ⟨#[]⟩) from rfl)
              have hy2bz := (kcl hybz 2).trans (show _ = some (.int .i64 0) from rfl)
              have hf0bz := kfz hybz 0
              have hf1bz := kfz hybz 1
              have hf2bz := kfz hybz 2
              have HPbz := Aside0.mk hp6bz
              have HYbz := Aside0.mk hybz
              clear hybz
              refine hK.out _ _ (hp6bz.cell) (fun hHeld => ?_)
              clear hK K
              refine norm_ (a' := ?_) ?_ ?_
              rotate_left
              · show Act.put _ (some 168) _ = _
                simp only [Act.put, List.setIfInBounds_toArray, List.set_cons_zero, List.set_cons_succ, i64_w, i32_w]
                rfl
              refine one_ (i := 6) (N := none) #[true, true, true, true, true, true, true, false] rfl rfl (by kernel_rfl) (by decide) (fun K hK => ?_)
              refine skip_ (w1 := ?_) (by rfl) rfl ?_ ?_
              rotate_left
              · go_simp
                rfl
              refine hK.out _ _ ((kcl (blk_far (p := ⟨w.heap.size, 0, none⟩) HPbz.out.c4 (by have := HPbz.out.h4; simp; omega) (.slice (some ⟨gb, 0, none⟩) n c)) 0).trans rfl) (fun hHeld => ?_)
              clear hK K
              refine last_ (i := 7) (N := none) #[true, true, true, true, true, true, true, true] rfl rfl (by kernel_rfl) (by decide) (fun K hK => ?_)
              refine skip_ (w1 := ?_) (by rfl) rfl ?_ ?_
              rotate_left
              · go_simp
                rfl
              refine hK.out _ _ ?_
              clear hK K
              refine done_ (by kernel_rfl) ?_
              go_wp2_with fail
              obtain ⟨o2, o3, hpost⟩ := HPbz.out.fin (by omega) hxbz rfl
              refine bodyPost_ret (v := .tuple #[.agg #[(.slice (some ⟨gb, 0, none⟩) n c)], .agg #[.int .i64 xbz.f0, .string xbz.f1, .int .i64 xbz.f2]]) (B.res_cc rfl _ _ w.heap.size (w.heap.size + 1) 25 35 _ _ (0, 0) (0, 0) _ _ rfl o2 Try.underlying25 rfl rfl rfl o3 Try.underlying35 rfl rfl) rfl hpost
          · have hpb : (p == 0) = false := by simpa using hp
            go_wp2_with fail
            refine (pick_w g 14 3001 w0 _ (HT1.out.rn.mono (by omega)) HT1.out.bl (by omega) (by omega)).mono ?_
            rintro e w4c ⟨p4c, rfl, _, _, hR4, hB4, hK4⟩
            have HTcc := Aside0.mk (HT1.out.call hR4 hB4 hK4)
            clear hR4 hB4 hK4
            by_cases hp4c : p4c = 0
            · subst hp4c
              go_wp2_with fail
              have hpdck := (HTcc.out.mono (show _ ≤ (3002 : Int) by omega)).drew
              refine start_ (n := 14) (S := fun w' => w'.cell? ⟨b4, 0, none⟩ = some (.slice (some ⟨gb, 0, none⟩) n c)) (ds := [13]) #[false, false, false, false, false, false, false, false, false, false, false, false, false, false] (by kernel_rfl) rfl rfl (hpdck.cell) (fun hHeld => ?_)
              generalize w4c.drew = w10ck at hpdck hHeld ⊢
              refine pure_ (i := 0) (N := some 150) (v := ?_) (a' := ?_) #[true, false, false, false, false, false, false, false, false, false, false, false, false, false] rfl rfl (by kernel_rfl) (fun _ _ _ h => h) (Or.inl ⟨by rfl, ?_⟩) ?_ ?_
              rotate_left
              · intro w'
                go_simp
                with_reducible rfl
              rotate_left
              · simp only [Act.put, List.setIfInBounds_toArray, List.set_cons_zero, List.set_cons_succ, i64_w, i32_w]
                rfl
              refine pure_ (i := 2) (N := some 152) (v := ?_) (a' := ?_) #[true, false, true, false, false, false, false, false, false, false, false, false, false, false] rfl rfl (by kernel_rfl) (fun _ _ _ h => h) (Or.inl ⟨by rfl, ?_⟩) ?_ ?_
              rotate_left
              · intro w'
                go_simp
                with_reducible rfl
              rotate_left
              · simp only [Act.put, List.setIfInBounds_toArray, List.set_cons_zero, List.set_cons_succ, i64_w, i32_w]
                rfl
              refine pure_ (i := 3) (N := some 153) (v := ?_) (a' := ?_) #[true, false, true, true, false, false, false, false, false, false, false, false, false, false] rfl rfl (by kernel_rfl) (fun _ _ _ h => h) (Or.inl ⟨by rfl, ?_⟩) ?_ ?_
              rotate_left
              · intro w'
                go_simp
                with_reducible rfl
              rotate_left
              · simp only [Act.put, List.setIfInBounds_toArray, List.set_cons_zero, List.set_cons_succ, i64_w, i32_w]
                rfl
              refine pure_ (i := 7) (N := some 157) (v := ?_) (a' := ?_) #[true, false, true, true, false, false, false, true, false, false, false, false, false, false] rfl rfl (by kernel_rfl) (fun _ _ _ h => h) (Or.inl ⟨by rfl, ?_⟩) ?_ ?_
              rotate_left
              · intro w'
                go_simp
                with_reducible rfl
              rotate_left
              · simp only [Act.put, List.setIfInBounds_toArray, List.set_cons_zero, List.set_cons_succ, i64_w, i32_w]
                rfl
              refine pure_ (i := 8) (N := some 158) (v := ?_) (a' := ?_) #[true, false, true, true, false, false, false, true, true, false, false, false, false, false] rfl rfl (by kernel_rfl) (fun _ _ _ h => h) (Or.inl ⟨by rfl, ?_⟩) ?_ ?_
              rotate_left
              · intro w'
                go_simp
                with_reducible rfl
              rotate_left
              · simp only [Act.put, List.setIfInBounds_toArray, List.set_cons_zero, List.set_cons_succ, i64_w, i32_w]
                rfl
              refine take_ (i := 1) (N := some 151) (v := ?_) (a' := ?_) #[true, true, true, true, false, false, false, true, true, false, false, false, false, false] rfl rfl (by kernel_rfl) (fun _ _ _ h => h) (Or.inl ⟨by rfl, ?_⟩) hHeld ?_ ?_
              rotate_left
              · intro w' s0
                go_simp
                with_reducible rfl
              rotate_left
              · simp only [Act.put, List.setIfInBounds_toArray, List.set_cons_zero, List.set_cons_succ, i64_w, i32_w]
                rfl
              refine take_ (i := 4) (N := some 154) (v := ?_) (a' := ?_) #[true, true, true, true, true, false, false, true, true, false, false, false, false, false] rfl rfl (by kernel_rfl) (fun _ _ _ h => h) (Or.inl ⟨by rfl, ?_⟩) hHeld ?_ ?_
              rotate_left
              · intro w' s0
                go_simp
                with_reducible rfl
              rotate_left
              · simp only [Act.put, List.setIfInBounds_toArray, List.set_cons_zero, List.set_cons_succ, i64_w, i32_w]
                rfl
              refine pure_ (i := 5) (N := some 155) (v := ?_) (a' := ?_) #[true, true, true, true, true, true, false, true, true, false, false, false, false, false] rfl rfl (by kernel_rfl) (fun _ _ _ h => h) (Or.inl ⟨by rfl, ?_⟩) ?_ ?_
              rotate_left
              · intro w'
                go_simp
                with_reducible rfl
              rotate_left
              · simp only [Act.put, List.setIfInBounds_toArray, List.set_cons_zero, List.set_cons_succ, i64_w, i32_w]
                rfl
              refine one_ (i := 6) (N := some 156) #[true, true, true, true, true, true, true, true, true, false, false, false, false, false] rfl rfl (by kernel_rfl) (by decide) (fun K hK => ?_)
              refine goes_ Try.func51 (by kernel_rfl) rfl #[.pointer (some ⟨g, 0, none⟩), .int .i64 (n : Int)] (by rfl) rfl rfl (by simp only [List.map_toArray, List.map_cons, List.map_nil]; rfl) ?_
              with_reducible refine (pick_w g n 3002 w0 _ hpdck.rn hpdck.bl (by omega) (by omega)).mono ?_
              rintro e w11ck ⟨i0, rfl, hi0, hi1, hR11, hB11, hK11⟩
              refine ⟨_, rfl, ?_⟩
              have hp6ck := hpdck.call hR11 hB11 hK11
              clear hR11 hB11 hK11
              obtain ⟨ick, rfl⟩ := Int.eq_ofNat_of_zero_le hi0
              have hinck : (ick : Int) < (n : Int) := hi1 (by omega)
              have hi0ck : (0 : Int) ≤ (ick : Int) := Int.natCast_nonneg _
              clear hi0 hi1
              refine hK.out _ _ (hp6ck.cell) (fun hHeld => ?_)
              clear hK K
              refine norm_ (a' := ?_) ?_ ?_
              rotate_left
              · show Act.put _ (some 156) _ = _
                simp only [Act.put, List.setIfInBounds_toArray, List.set_cons_zero, List.set_cons_succ, i64_w, i32_w]
                rfl
              refine one_ (i := 9) (N := some 159) #[true, true, true, true, true, true, true, true, true, true, false, false, false, false] rfl rfl (by kernel_rfl) (by decide) (fun K hK => ?_)
              refine goes_ Try.func51 (by kernel_rfl) rfl #[.pointer (some ⟨g, 0, none⟩), .int .i64 12] (by rfl) rfl rfl (by simp only [List.map_toArray, List.map_cons, List.map_nil]; rfl) ?_
              with_reducible refine (pick_w g 12 3003 w0 _ hp6ck.rn hp6ck.bl (by omega) (by omega)).mono ?_
              rintro e w13ck ⟨qck, rfl, hq0, hq1, hR13, hB13, hK13⟩
              refine ⟨_, rfl, ?_⟩
              have hp9ck := hp6ck.call hR13 hB13 hK13
              clear hR13 hB13 hK13
              replace hq1 := hq1 (by decide)
              refine hK.out _ _ (hp9ck.cell) (fun hHeld => ?_)
              clear hK K
              refine norm_ (a' := ?_) ?_ ?_
              rotate_left
              · show Act.put _ (some 159) _ = _
                simp only [Act.put, List.setIfInBounds_toArray, List.set_cons_zero, List.set_cons_succ, i64_w, i32_w]
                rfl
              refine one_ (i := 10) (N := some 160) #[true, true, true, true, true, true, true, true, true, true, true, false, false, false] rfl rfl (by kernel_rfl) (by decide) (fun K hK => ?_)
              refine goes_ Try.func93 (by kernel_rfl) rfl #[.pointer (some ⟨g, 0, none⟩), .int .i64 qck] (by rfl) rfl rfl (by simp only [List.map_toArray, List.map_cons, List.map_nil]; rfl) ?_
              with_reducible refine (often_w g qck 3004 w0 _ hp9ck.rn hp9ck.bl (by omega) (by omega)).mono ?_
              rintro e w12ck ⟨rck, rfl, _, _, hR12, hB12, hK12⟩
              refine ⟨_, rfl, ?_⟩
              have hp8ck := hp9ck.call hR12 hB12 hK12
              clear hR12 hB12 hK12 hq0 hq1
              obtain ⟨⟨u2ck, hu2ck⟩, _, hfzck, _, hset, _⟩ := hp8ck.elem hgb hgb4 ick (by omega)
              obtain ⟨l2ck, hl2⟩ := hset rck
              have HTck := Aside0.mk hl2
              clear hset hl2
              refine hK.out _ _ (hp8ck.cell) (fun hHeld => ?_)
              clear hK K
              refine norm_ (a' := ?_) ?_ ?_
              rotate_left
              · show Act.put _ (some 160) _ = _
                simp only [Act.put, List.setIfInBounds_toArray, List.set_cons_zero, List.set_cons_succ, i64_w, i32_w]
                rfl
              refine pure_ (i := 11) (N := some 161) (v := ?_) (a' := ?_) #[true, true, true, true, true, true, true, true, true, true, true, true, false, false] rfl rfl (by kernel_rfl) (fun _ _ _ h => h) (Or.inl ⟨by rfl, ?_⟩) ?_ ?_
              rotate_left
              · intro w'
                go_simp
                with_reducible rfl
              rotate_left
              · simp only [Act.put, List.setIfInBounds_toArray, List.set_cons_zero, List.set_cons_succ, i64_w, i32_w]
                rfl
              refine pure_ (i := 12) (N := some 162) (v := ?_) (a' := ?_) #[true, true, true, true, true, true, true, true, true, true, true, true, true, false] rfl rfl (by kernel_rfl) (fun _ _ _ h => h) (Or.inl ⟨by rfl, ?_⟩) ?_ ?_
              rotate_left
              · intro w'
                go_simp
                with_reducible rfl
              rotate_left
              · simp only [Act.put, List.setIfInBounds_toArray, List.set_cons_zero, List.set_cons_succ, i64_w, i32_w]
                rfl
              refine last_ (i := 13) (N := none) #[true, true, true, true, true, true, true, true, true, true, true, true, true, true] rfl rfl (by kernel_rfl) (by decide) (fun K hK => ?_)
              refine skip_ (w1 := ?_) (by rfl) rfl ?_ ?_
              rotate_left
              · go_simp
                rfl
              refine hK.out _ _ ?_
              clear hK K
              refine done_ (by kernel_rfl) ?_
              go_wp2_with fail
              have hpdckz := (HTck.out.mono (show _ ≤ (3006 : Int) by omega)).drew
              refine start_ (n := 8) (S := fun w' => w'.cell? ⟨b4, 0, none⟩ = some (.slice (some ⟨gb, 0, none⟩) n c)) (ds := [7]) #[false, false, false, false, false, false, false, false] (by kernel_rfl) rfl rfl (hpdckz.cell) (fun hHeld => ?_)
              generalize (w12ck.setCell ⟨gb, ick * 7, none⟩ (.int .i64 rck)).drew = w10ckz at hpdckz hHeld ⊢
              refine pure_ (i := 1) (N := some 164) (v := ?_) (a' := ?_) #[false, true, false, false, false, false, false, false] rfl rfl (by kernel_rfl) (fun _ _ _ h => h) (Or.inl ⟨by rfl, ?_⟩) ?_ ?_
              rotate_left
              · intro w'
                go_simp
                with_reducible rfl
              rotate_left
              · simp only [Act.put, List.setIfInBounds_toArray, List.set_cons_zero, List.set_cons_succ, i64_w, i32_w]
                rfl
              refine pure_ (i := 2) (N := some 165) (v := ?_) (a' := ?_) #[false, true, true, false, false, false, false, false] rfl rfl (by kernel_rfl) (fun _ _ _ h => h) (Or.inl ⟨by rfl, ?_⟩) ?_ ?_
              rotate_left
              · intro w'
                go_simp
                with_reducible rfl
              rotate_left
              · simp only [Act.put, List.setIfInBounds_toArray, List.set_cons_zero, List.set_cons_succ, i64_w, i32_w]
                rfl
              refine take_ (i := 0) (N := some 163) (v := ?_) (a' := ?_) #[true, true, true, false, false, false, false, false] rfl rfl (by kernel_rfl) (fun _ _ _ h => h) (Or.inl ⟨by rfl, ?_⟩) hHeld ?_ ?_
              rotate_left
              · intro w' s0
                go_simp
                with_reducible rfl
              rotate_left
              · simp only [Act.put, List.setIfInBounds_toArray, List.set_cons_zero, List.set_cons_succ, i64_w, i32_w]
                rfl
              refine take_ (i := 3) (N := some 166) (v := ?_) (a' := ?_) #[true, true, true, true, false, false, false, false] rfl rfl (by kernel_rfl) (fun _ _ _ h => h) (Or.inl ⟨by rfl, ?_⟩) hHeld ?_ ?_
              rotate_left
              · intro w' s0
                go_simp
                with_reducible rfl
              rotate_left
              · simp only [Act.put, List.setIfInBounds_toArray, List.set_cons_zero, List.set_cons_succ, i64_w, i32_w]
                rfl
              refine pure_ (i := 4) (N := some 167) (v := ?_) (a' := ?_) #[true, true, true, true, true, false, false, false] rfl rfl (by kernel_rfl) (fun _ _ _ h => h) (Or.inl ⟨by rfl, ?_⟩) ?_ ?_
              rotate_left
              · intro w'
                go_simp
                with_reducible rfl
              rotate_left
              · simp only [Act.put, List.setIfInBounds_toArray, List.set_cons_zero, List.set_cons_succ, i64_w, i32_w]
                rfl
              refine one_ (i := 5) (N := some 168) #[true, true, true, true, true, true, false, false] rfl rfl (by kernel_rfl) (by decide) (fun K hK => ?_)
              refine goes_ Try.func52 (by kernel_rfl) rfl #[.pointer (some ⟨g, 0, none⟩), .int .i64 (n : Int)] (by rfl) rfl rfl (by simp only [List.map_toArray, List.map_cons, List.map_nil]; rfl) ?_
              with_reducible refine (value_w g n 3006 w0 _ hpdckz.rn hpdckz.bl (by omega) (by omega) (by omega)).mono ?_
              rintro e w11ckz ⟨xckz, rfl, hxckz, hR11, hB11, hK11⟩
              refine ⟨_, rfl, ?_⟩
              have hp6ckz := hpdckz.call hR11 hB11 hK11
              clear hR11 hB11 hK11
              have hz0ckz := (kcl hp6ckz.c2 0).trans (show _ = some (.slice none 0 0) from rfl)
              have hzfckz := kfz hp6ckz.c2 0
              have hyckz := blk_far (p := ⟨w.heap.size, 0, none⟩) hp6ckz.c3 (by simp) (.slice (some ⟨gb, 0, none⟩) n c)
              have hy0ckz := (kcl hyckz 0).trans (show _ = some (.int .i64 0) from rfl)
              have hy1ckz := (kcl hyckz 1).trans (show _ = some (.string ⟨#[]⟩) from rfl)
              have hy2ckz := (kcl hyckz 2).trans (show _ = some (.int .i64 0) from rfl)
              have hf0ckz := kfz hyckz 0
              have hf1ckz := kfz hyckz 1
              have hf2ckz := kfz hyckz 2
              have HPckz := Aside0.mk hp6ckz
              have HYckz := Aside0.mk hyckz
              clear hyckz
              refine hK.out _ _ (hp6ckz.cell) (fun hHeld => ?_)
              clear hK K
              refine norm_ (a' := ?_) ?_ ?_
              rotate_left
              · show Act.put _ (some 168) _ = _
                simp only [Act.put, List.setIfInBounds_toArray, List.set_cons_zero, List.set_cons_succ, i64_w, i32_w]
                rfl
              refine one_ (i := 6) (N := none) #[true, true, true, true, true, true, true, false] rfl rfl (by kernel_rfl) (by decide) (fun K hK => ?_)
              refine skip_ (w1 := ?_) (by rfl) rfl ?_ ?_
              rotate_left
              · go_simp
                rfl
              refine hK.out _ _ ((kcl (blk_far (p := ⟨w.heap.size, 0, none⟩) HPckz.out.c4 (by have := HPckz.out.h4; simp; omega) (.slice (some ⟨gb, 0, none⟩) n c)) 0).trans rfl) (fun hHeld => ?_)
              clear hK K
              refine last_ (i := 7) (N := none) #[true, true, true, true, true, true, true, true] rfl rfl (by kernel_rfl) (by decide) (fun K hK => ?_)
              refine skip_ (w1 := ?_) (by rfl) rfl ?_ ?_
              rotate_left
              · go_simp
                rfl
              refine hK.out _ _ ?_
              clear hK K
              refine done_ (by kernel_rfl) ?_
              go_wp2_with fail
              obtain ⟨o2, o3, hpost⟩ := HPckz.out.fin (by omega) hxckz rfl
              refine bodyPost_ret (v := .tuple #[.agg #[(.slice (some ⟨gb, 0, none⟩) n c)], .agg #[.int .i64 xckz.f0, .string xckz.f1, .int .i64 xckz.f2]]) (B.res_cc rfl _ _ w.heap.size (w.heap.size + 1) 25 35 _ _ (0, 0) (0, 0) _ _ rfl o2 Try.underlying25 rfl rfl rfl o3 Try.underlying35 rfl rfl) rfl hpost
            · have hpb4c : (p4c == 0) = false := by simpa using hp4c
              go_wp2_with fail
              have hpdcz := (HTcc.out.mono (show _ ≤ (3002 : Int) by omega)).drew
              refine start_ (n := 8) (S := fun w' => w'.cell? ⟨b4, 0, none⟩ = some (.slice (some ⟨gb, 0, none⟩) n c)) (ds := [7]) #[false, false, false, false, false, false, false, false] (by kernel_rfl) rfl rfl (hpdcz.cell) (fun hHeld => ?_)
              generalize w4c.drew = w10cz at hpdcz hHeld ⊢
              refine pure_ (i := 1) (N := some 164) (v := ?_) (a' := ?_) #[false, true, false, false, false, false, false, false] rfl rfl (by kernel_rfl) (fun _ _ _ h => h) (Or.inl ⟨by rfl, ?_⟩) ?_ ?_
              rotate_left
              · intro w'
                go_simp
                with_reducible rfl
              rotate_left
              · simp only [Act.put, List.setIfInBounds_toArray, List.set_cons_zero, List.set_cons_succ, i64_w, i32_w]
                rfl
              refine pure_ (i := 2) (N := some 165) (v := ?_) (a' := ?_) #[false, true, true, false, false, false, false, false] rfl rfl (by kernel_rfl) (fun _ _ _ h => h) (Or.inl ⟨by rfl, ?_⟩) ?_ ?_
              rotate_left
              · intro w'
                go_simp
                with_reducible rfl
              rotate_left
              · simp only [Act.put, List.setIfInBounds_toArray, List.set_cons_zero, List.set_cons_succ, i64_w, i32_w]
                rfl
              refine take_ (i := 0) (N := some 163) (v := ?_) (a' := ?_) #[true, true, true, false, false, false, false, false] rfl rfl (by kernel_rfl) (fun _ _ _ h => h) (Or.inl ⟨by rfl, ?_⟩) hHeld ?_ ?_
              rotate_left
              · intro w' s0
                go_simp
                with_reducible rfl
              rotate_left
              · simp only [Act.put, List.setIfInBounds_toArray, List.set_cons_zero, List.set_cons_succ, i64_w, i32_w]
                rfl
              refine take_ (i := 3) (N := some 166) (v := ?_) (a' := ?_) #[true, true, true, true, false, false, false, false] rfl rfl (by kernel_rfl) (fun _ _ _ h => h) (Or.inl ⟨by rfl, ?_⟩) hHeld ?_ ?_
              rotate_left
              · intro w' s0
                go_simp
                with_reducible rfl
              rotate_left
              · simp only [Act.put, List.setIfInBounds_toArray, List.set_cons_zero, List.set_cons_succ, i64_w, i32_w]
                rfl
              refine pure_ (i := 4) (N := some 167) (v := ?_) (a' := ?_) #[true, true, true, true, true, false, false, false] rfl rfl (by kernel_rfl) (fun _ _ _ h => h) (Or.inl ⟨by rfl, ?_⟩) ?_ ?_
              rotate_left
              · intro w'
                go_simp
                with_reducible rfl
              rotate_left
              · simp only [Act.put, List.setIfInBounds_toArray, List.set_cons_zero, List.set_cons_succ, i64_w, i32_w]
                rfl
              refine one_ (i := 5) (N := some 168) #[true, true, true, true, true, true, false, false] rfl rfl (by kernel_rfl) (by decide) (fun K hK => ?_)
              refine goes_ Try.func52 (by kernel_rfl) rfl #[.pointer (some ⟨g, 0, none⟩), .int .i64 (n : Int)] (by rfl) rfl rfl (by simp only [List.map_toArray, List.map_cons, List.map_nil]; rfl) ?_
              with_reducible refine (value_w g n 3002 w0 _ hpdcz.rn hpdcz.bl (by omega) (by omega) (by omega)).mono ?_
              rintro e w11cz ⟨xcz, rfl, hxcz, hR11, hB11, hK11⟩
              refine ⟨_, rfl, ?_⟩
              have hp6cz := hpdcz.call hR11 hB11 hK11
              clear hR11 hB11 hK11
              have hz0cz := (kcl hp6cz.c2 0).trans (show _ = some (.slice none 0 0) from rfl)
              have hzfcz := kfz hp6cz.c2 0
              have hycz := blk_far (p := ⟨w.heap.size, 0, none⟩) hp6cz.c3 (by simp) (.slice (some ⟨gb, 0, none⟩) n c)
              have hy0cz := (kcl hycz 0).trans (show _ = some (.int .i64 0) from rfl)
              have hy1cz := (kcl hycz 1).trans (show _ = some (.string ⟨#[]⟩) from rfl)
              have hy2cz := (kcl hycz 2).trans (show _ = some (.int .i64 0) from rfl)
              have hf0cz := kfz hycz 0
              have hf1cz := kfz hycz 1
              have hf2cz := kfz hycz 2
              have HPcz := Aside0.mk hp6cz
              have HYcz := Aside0.mk hycz
              clear hycz
              refine hK.out _ _ (hp6cz.cell) (fun hHeld => ?_)
              clear hK K
              refine norm_ (a' := ?_) ?_ ?_
              rotate_left
              · show Act.put _ (some 168) _ = _
                simp only [Act.put, List.setIfInBounds_toArray, List.set_cons_zero, List.set_cons_succ, i64_w, i32_w]
                rfl
              refine one_ (i := 6) (N := none) #[true, true, true, true, true, true, true, false] rfl rfl (by kernel_rfl) (by decide) (fun K hK => ?_)
              refine skip_ (w1 := ?_) (by rfl) rfl ?_ ?_
              rotate_left
              · go_simp
                rfl
              refine hK.out _ _ ((kcl (blk_far (p := ⟨w.heap.size, 0, none⟩) HPcz.out.c4 (by have := HPcz.out.h4; simp; omega) (.slice (some ⟨gb, 0, none⟩) n c)) 0).trans rfl) (fun hHeld => ?_)
              clear hK K
              refine last_ (i := 7) (N := none) #[true, true, true, true, true, true, true, true] rfl rfl (by kernel_rfl) (by decide) (fun K hK => ?_)
              refine skip_ (w1 := ?_) (by rfl) rfl ?_ ?_
              rotate_left
              · go_simp
                rfl
              refine hK.out _ _ ?_
              clear hK K
              refine done_ (by kernel_rfl) ?_
              go_wp2_with fail
              obtain ⟨o2, o3, hpost⟩ := HPcz.out.fin (by omega) hxcz rfl
              refine bodyPost_ret (v := .tuple #[.agg #[(.slice (some ⟨gb, 0, none⟩) n c)], .agg #[.int .i64 xcz.f0, .string xcz.f1, .int .i64 xcz.f2]]) (B.res_cc rfl _ _ w.heap.size (w.heap.size + 1) 25 35 _ _ (0, 0) (0, 0) _ _ rfl o2 Try.underlying25 rfl rfl rfl o3 Try.underlying35 rfl rfl) rfl hpost
end Go.Proofs.Ytgddblpgbkgpcaa.PR
namespace Go.Proofs.Ytgddblpgbkgpcaa.PR
set_option linter.unusedVariables false
set_option linter.unusedSimpArgs false
open Go.RowKit Go.Proofs.YtgddblpgbkgpcaaW.PrintWords Go.Proofs.YtgddblpgbkgpcaaW.PrintLast Go.Proofs.YtgddblpgbkgpcaaW.PrintMore
set_option linter.unusedVariables false
set_option linter.unusedSimpArgs false
structure Dr (w wi : World) (g b5 : Nat) (b : Int) (v : Value) (l : List S46) (u : Value) (roots : List S35) : Prop where
  rn : Rn w wi g b
  bl : Below w.heap.size w wi
  c2 : wi.heap[w.heap.size]? = some (.cells #[.slice none 0 0] 25 (0, 0))
  c5 : wi.heap[b5]? = some (.cells #[v] 25 (0, 0))
  g2 : w.heap.size < g
  gB : g < b5
  hl : k46.R 46 wi w.heap.size (fun k => k ≠ w.heap.size ∧ k ≠ g ∧ k < b5) v l
  hr : k35.R 35 wi (b5 + 1) (fun _ => True) u roots
  lo : 19 ≤ l.length
  hi : l.length ≤ 24
  all : ∀ x ∈ l, oB x = true
  vs : ∀ x ∈ roots, VOk x
section
variable {w wi w1 : World} {g b5 : Nat} {b b' : Int} {v u : Value} {l : List S46} {roots : List S35}
theorem Dr.mono (h : Dr w wi g b5 b v l u roots) (hb : b ≤ b') : Dr w wi g b5 b' v l u roots := ⟨h.rn.mono hb, h.bl, h.c2, h.c5, h.g2, h.gB, h.hl, h.hr, h.lo, h.hi, h.all, h.vs⟩
theorem Dr.call (h : Dr w wi g b5 b v l u roots) (hR : Rn w w1 g b') (hB : Below w.heap.size w w1) (hK : KeepBut wi w1 g none) : Dr w w1 g b5 b' v l u roots := by
  have h1 := h.g2
  have h2 := h.gB
  exact ⟨hR, hB, hK.blk h.c2 (by omega) (by simp), hK.blk h.c5 (by omega) (by simp), h1, h2, Kd.R_keep h.hl hK (fun k hk => hk.2.1), Kd.R_mono (Kd.R_step (Kd.R_bound h.hr) (fun k hk hlt => hK.2 k hlt (by have := hk.2.1; omega) (by simp))) (fun _ _ => trivial), h.lo, h.hi, h.all, h.vs⟩
theorem Dr.drew (h : Dr w wi g b5 b v l u roots) : Dr w wi.drew g b5 b v l u roots := h.call h.rn.drew (below_drew h.bl) (KeepBut.of_below (below_drew (Below.refl _ _)) g none)
theorem Dr.cell (h : Dr w wi g b5 b v l u roots) : wi.cell? ⟨b5, 0, none⟩ = some v := (kcl h.c5 0).trans rfl
theorem Dr.lt5 (h : Dr w wi g b5 b v l u roots) : b5 < wi.heap.size := blk_lt h.c5
theorem Dr.grow (h : Dr w wi g b5 b v l u roots) {u1 : Value} {x : S35} (hg : wi.grownBy w1 u.ownBlock) (hr : k35.R 35 w1 (b5 + 1) (fun _ => True) u1 (roots ++ [x])) (hx : VOk x) : Dr w w1 g b5 b v l u1 (roots ++ [x]) := by
  have h1 := h.g2
  have h2 := h.gB
  have hub := Kd.R_base h.hr
  have ne : ∀ k, k ≤ b5 → some k ≠ u.ownBlock := fun k hk e => by have := hub k e.symm; omega
  refine ⟨h.rn.grown hg (ne g (by omega)), pw_below_grown h.bl _ h.bl.size hg (fun k hk => by have := hub k hk; omega), kgr h.c2 hg (ne _ (by omega)), kgr h.c5 hg (ne _ (Nat.le_refl _)), h1, h2, Kd.R_grown h.hl hg (fun k hk => ne k (by omega)), hr, h.lo, h.hi, h.all, fun y hy => ?_⟩
  rcases List.mem_append.1 hy with hy | hy
  · exact h.vs y hy
  · rw [List.mem_singleton.1 hy]; exact hx
theorem Dr.rowlen {A1 : Option Addr} {m c1 : Nat} (h : Dr w wi g b5 b v l (.slice A1 m c1) roots) : m ≤ c1 ∧ m = roots.length := by
  obtain ⟨a, b, _⟩ := Kd.R_reads' h.hr
  exact ⟨b, a⟩
theorem Dr.start {w2 w3 : World} (hR0 : Rn w w2 g b) (hB0 : Below w.heap.size w w2) (hc2 : w2.heap[w.heap.size]? = some (.cells #[.slice none 0 0] 25 (0, 0))) (hg2 : w.heap.size < g)
    (hl : k46.R 46 w3 w2.heap.size (fun _ => True) v l) (hR : Rn w w3 g b') (hB : Below w.heap.size w w3) (hK : KeepBut w2 w3 g none) (lo : 19 ≤ l.length) (hi : l.length ≤ 24) (all : ∀ o ∈ l, oB o = true) {x : S35} (hx : VOk x) :
    Dr w (((w3.alloc (.cells #[v] 25)).alloc (.cells #[.int .i64 x.f0, .string x.f1, .int .i64 x.f2] 35)).alloc (.cells #[.int .i64 x.f0, .string x.f1, .int .i64 x.f2] 35)) g w3.heap.size b' v l (.slice (some ⟨w3.heap.size + 2, 0, none⟩) 1 1) [x] := by
  have hs := hK.1
  have hs2 := blk_lt hc2
  have hgl := hR0.lt
  have e3 : ((w3.alloc (.cells #[v] 25)).alloc (.cells #[.int .i64 x.f0, .string x.f1, .int .i64 x.f2] 35)).heap.size = w3.heap.size + 2 := by simp
  have hl2 : k46.R 46 w3 w.heap.size (fun k => k ≠ w.heap.size ∧ k ≠ g ∧ k < w3.heap.size) v l := Kd.R_lower (Kd.R_mono (Kd.R_bound hl) (fun k hk => by have := hk.2.1; have := hk.2.2.1; refine ⟨?_, ?_, ?_⟩ <;> omega)) (by omega)
  refine ⟨((hR.alloc _).alloc _).alloc _, bla (bla (bla hB _) _) _, kla (kla (kla (hK.blk hc2 (by omega) (by simp)) _) _) _, kla (kla (blk_new _ _) _) _, hg2, by omega, Kd.R_alloc (Kd.R_alloc (Kd.R_alloc hl2 _) _) _, ?_, lo, hi, all, fun y hy => ?_⟩
  · have := R_fresh ((w3.alloc (.cells #[v] 25)).alloc (.cells #[.int .i64 x.f0, .string x.f1, .int .i64 x.f2] 35)) (w3.heap.size + 1) (by simp) [x] (by simp)
    rw [e3] at this
    exact this
  · rw [List.mem_singleton.1 hy]; exact hx
end
theorem slice_form {w : World} {base : Nat} {ok : Nat → Prop} {v : Value} {l : List S46} (h : k46.R 46 w base ok v l) : ∃ A n c, v = .slice A n c ∧ n = l.length := by
  obtain ⟨A, c, rfl⟩ := Kd.R_slice h
  exact ⟨A, _, c, rfl, rfl⟩
theorem s102_gt {w w2 : World} {g : Nat} {f0 : List Int} {f1 : Int} (hI : IsS102 w w2 g f0 f1) (h2 : w2.heap[w.heap.size]? = some (.cells #[.slice none 0 0] 25 (0, 0))) : w.heap.size < g := by
  obtain ⟨_, _, hgc, hge, _⟩ := hI
  rcases Nat.lt_or_ge w.heap.size g with h | h
  · exact h
  · exfalso
    have e : g = w.heap.size := by omega
    subst e
    rw [h2] at hgc
    injection hgc with hgc
    injection hgc with _ hgc
    exact absurd hgc (by decide)
def DPost (w : World) (e : Ending) (w' : World) : Prop :=
  ∃ (A : Option Addr) (n c : Nat) (A1 : Option Addr) (m c1 : Nat) (l : List S46) (roots : List S35), e = .returned (.tuple #[.agg #[.slice A n c], .slice A1 m c1]) ∧ Kd.C k46 w' A n l ∧ n ≤ c ∧ Kd.C k35 w' A1 m roots ∧ m ≤ c1 ∧ 19 ≤ n ∧ n ≤ 24 ∧ (∀ o ∈ l, oB o = true) ∧ (∀ x ∈ roots, VOk x) ∧ m ≤ 4 ∧ Below w.heap.size w w'
theorem Dr.fin {w w1 : World} {g b5 : Nat} {b : Int} {l : List S46} {roots : List S35} {A A1 : Option Addr} {n c m c1 i : Nat} (h : Dr w w1 g b5 b (.slice A n c) l (.slice A1 m c1) roots) (hi : i ≤ m) (hm : m ≤ 4) :
    (w1.setCell ⟨w.heap.size, 0, none⟩ (.slice A n c)).heap[w.heap.size]? = some (.cells #[.slice A n c] 25 (0, 0)) ∧ DPost w (.returned (.tuple #[.agg #[.slice A n c], .slice A1 i c1])) (w1.setCell ⟨w.heap.size, 0, none⟩ (.slice A n c)) := by
  have h1 := h.g2
  have h2 := h.gB
  obtain ⟨hm1, hm2⟩ := h.rowlen
  have hl := Kd.R_far h.hl (p := ⟨w.heap.size, 0, none⟩) (fun k hk => hk.1) (.slice A n c)
  have hr := Kd.R_far (Kd.R_bound h.hr) (p := ⟨w.heap.size, 0, none⟩) (fun k hk => by have := hk.2.1; simp; omega) (.slice A n c)
  obtain ⟨e1, e2, e3⟩ := Kd.R_reads' hl
  have ht := R_C (Kd.R_take hr (m := i) (by omega))
  rw [← e1] at e3
  exact ⟨blk_put h.c2 0 _ rfl, A, n, c, A1, i, c1, l, roots.take i, rfl, e3, e2, ht, by omega, by have := h.lo; omega, by have := h.hi; omega, h.all, fun x hx => h.vs x (List.mem_of_mem_take hx), by omega, h.bl.setCell (Nat.le_refl _) _⟩
end Go.Proofs.Ytgddblpgbkgpcaa.PR
namespace Go.Proofs.Ytgddblpgbkgpcaa.PR
set_option linter.unusedVariables false
set_option linter.unusedSimpArgs false
open Go.RowKit Go.Proofs.YtgddblpgbkgpcaaW.PrintWords Go.Proofs.YtgddblpgbkgpcaaW.PrintLast Go.Proofs.YtgddblpgbkgpcaaW.PrintMore
set_option linter.unusedVariables false
set_option linter.unusedSimpArgs false
theorem sameNums_l0 (l : List Int) (hl : l.length ≤ 1000000) : ∀ (d j : Nat), l.length = j + d → spec_sameNums.l0 (d + 1) l l (j : Int) = some true
  | 0, j, h => by rw [spec_sameNums.l0, if_neg (by omega)]
  | d + 1, j, h => by
    rw [spec_sameNums.l0, if_pos (by omega), if_pos (by omega), if_pos (by omega), if_pos rfl, show wrap64 ((j : Int) + 1) = ((j + 1 : Nat) : Int) by unfold wrap64; omega]
    exact sameNums_l0 l hl d (j + 1) (by omega)
theorem same_self (l : List Int) (hl : l.length ≤ 1000000) : spec_SameInts.f (l.length + 1) l l = some true := by
  unfold spec_SameInts.f spec_sameNums.f
  rw [if_pos rfl]
  have := sameNums_l0 l hl l.length 0 (by omega)
  rw [show (0 : Int) = ((0 : Nat) : Int) from rfl, this]
  rfl
def Told (l : List S46) (roots : List S35) (n : Nat) (s : List Bool) (out : List Int) : Prop :=
  s.length = n ∧ (okB l roots = true → ∀ i : Nat, s[i]? = some true ↔ Rc l roots i) ∧ (okB l roots = true → out = idx s n) ∧ (okB l roots = false → out = [])
theorem told_ex (l : List S46) (roots : List S35) (n : Nat) (hn : l.length = n) (hn' : n ≤ 200) (hr : roots.length ≤ 1000) (ob : ∀ o ∈ l, oB o = true) : ∃ s out, Told l roots n s out := by
  cases h : okB l roots
  · exact ⟨List.replicate n false, [], by simp, by rw [h]; simp, by rw [h]; simp, fun _ => rfl⟩
  · have HI := okB_in h
    obtain ⟨K, s, _, h1, h2⟩ := reached_f (l := l) (roots := roots) (by omega) hr (fun o ho => by have := oB_facts (ob o ho); omega) HI.1 HI.2
    exact ⟨s, idx s n, by omega, fun _ => h2, fun _ => rfl, by rw [h]; simp⟩
theorem told_len {l : List S46} {roots : List S35} {n : Nat} {s : List Bool} {out : List Int} (h : Told l roots n s out) : out.length ≤ n := by
  cases hk : okB l roots
  · rw [h.2.2.2 hk]; simp
  · rw [h.2.2.1 hk]; exact idx_len s n
theorem told_mem {l : List S46} {roots : List S35} {n : Nat} {s : List Bool} {out : List Int} (h : Told l roots n s out) (hk : okB l roots = true) (e : Int) : e ∈ out ↔ ∃ q : Nat, q < n ∧ Rc l roots q ∧ (q : Int) = e := by
  rw [h.2.2.1 hk, idx_mem]
  constructor
  · rintro ⟨q, hq, hs, e⟩; exact ⟨q, hq, (h.2.1 hk q).1 hs, e⟩
  · rintro ⟨q, hq, hs, e⟩; exact ⟨q, hq, (h.2.1 hk q).2 hs, e⟩
theorem rc_mono {l : List S46} {r1 r2 : List S35} (h : ∀ x ∈ r1, x.f0 = 4 → Rc l r2 x.f2.toNat) {i : Nat} (hi : Rc l r1 i) : Rc l r2 i := by
  induction hi with
  | root x hx h4 => exact h x hx h4
  | step i o x _ ho hx h4 ih => exact .step i o x ih ho hx h4
end Go.Proofs.Ytgddblpgbkgpcaa.PR
namespace Go.Proofs.Ytgddblpgbkgpcaa.PR
set_option linter.unusedVariables false
set_option linter.unusedSimpArgs false
open Go.RowKit Go.Proofs.YtgddblpgbkgpcaaW.PrintWords Go.Proofs.YtgddblpgbkgpcaaW.PrintLast Go.Proofs.YtgddblpgbkgpcaaW.PrintMore
set_option linter.unusedVariables false
set_option linter.unusedSimpArgs false
structure Dd (w1 : World) (A : Option Addr) (n c : Nat) (A1 : Option Addr) (m c1 : Nat) (l : List S46) (roots : List S35) : Prop where
  hC : Kd.C k46 w1 A n l
  hnc : n ≤ c
  hR : Kd.C k35 w1 A1 m roots
  hmc : m ≤ c1
  n19 : 19 ≤ n
  n24 : n ≤ 24
  ob : ∀ o ∈ l, oB o = true
  vs : ∀ x ∈ roots, VOk x
  m4 : m ≤ 4
section
variable {w1 w2 : World} {A : Option Addr} {n c : Nat} {A1 : Option Addr} {m c1 : Nat} {l : List S46} {roots : List S35} {s : List Bool} {out : List Int}
theorem Dd.below (h : Dd w1 A n c A1 m c1 l roots) (hb : Below w1.heap.size w1 w2) : Dd w2 A n c A1 m c1 l roots := ⟨Kd.C_below h.hC hb, h.hnc, Kd.C_below h.hR hb, h.hmc, h.n19, h.n24, h.ob, h.vs, h.m4⟩
theorem Dd.impl (h : Dd w1 A n c A1 m c1 l roots) (ht : Told l roots n s out) : Calls Try.prog 16 #[.agg #[.slice A n c], .slice A1 m c1] w1 (IPost w1 out) :=
  implReach_w A n c A1 m c1 l roots s w1 h.hC h.hR (by have := h.n19; omega) (by have := h.n24; omega) h.ob (fun x hx => Nat.le_trans (h.vs x hx).1 (by decide)) (by have := h.m4; omega) ht.1 ht.2.1 out ht.2.2.1 ht.2.2.2
end
theorem same_c {W : World} {A A' : Option Addr} {n c c' : Nat} {l : List Int} (h : Kd.C (Kd.int .i64) W A n l) (hc : n ≤ c) (h' : Kd.C (Kd.int .i64) W A' n l) (hc' : n ≤ c') (hl : l.length ≤ 1000000) :
    Calls Try.prog 18 #[.slice A n c, .slice A' n c'] W fun e w' => e = .returned (.bool true) ∧ Below W.heap.size W w' := by
  have e := h.1
  subst e
  refine (spec_SameInts.calls _ A c l A' c' l true W h hc h' hc' (same_self l hl)).mono ?_
  rintro e w' ⟨rfl, hd⟩
  exact ⟨rfl, hd.below⟩
theorem R_lit' {w : World} {base : Nat} {ok : Nat → Prop} {v : Value} {out : List Int} {n : Nat} (_h : n = out.length) (h : (Kd.int .i64).R 3 w base ok v out) : (Kd.int .i64).R 3 w base ok v out := h
theorem IPost.open {w : World} {out : List Int} {e : Ending} {w' : World} (h : IPost w out e w') : ∃ (A : Option Addr) (n c : Nat), e = .returned (.slice A n c) ∧ n = out.length ∧ (Kd.int .i64).R 3 w' w.heap.size (fun _ => True) (.slice A n c) out ∧ Below w.heap.size w w' := by
  obtain ⟨v, rfl, hr, hb⟩ := h
  obtain ⟨A, c, rfl⟩ := Kd.R_slice hr
  exact ⟨A, _, c, rfl, rfl, hr, hb⟩
end Go.Proofs.Ytgddblpgbkgpcaa.PR
namespace Go.Proofs.Ytgddblpgbkgpcaa.PR
set_option linter.unusedVariables false
set_option linter.unusedSimpArgs false
open Go.RowKit Go.Proofs.YtgddblpgbkgpcaaW.PrintWords Go.Proofs.YtgddblpgbkgpcaaW.PrintLast Go.Proofs.YtgddblpgbkgpcaaW.PrintMore
set_option linter.unusedVariables false
set_option linter.unusedSimpArgs false
set_option maxRecDepth 100000 in
set_option maxHeartbeats 4000000 in
theorem clone137_w (A : Option Addr) (n c : Nat) (xs : List S35) (w : World) (hC : Kd.C k35 w A n xs) (hn : n ≤ 1000) :
    Calls Try.prog 137 #[.slice A n c] w fun e w' => ∃ v : Value, e = .returned v ∧ Kd.R k35 35 w' w.heap.size (fun _ => True) v xs ∧ Below w.heap.size w w' := by
  have hl : xs.length = n := hC.1
  have HL := Lib.hid hl
  have HC := Aside0.mk hC
  clear hl hC
  have HNIL := Lib.run_eql_slice_nil (P := Try.prog) w 26 35 A n c 0 0 Try.underlying26
  cases A with
  | none =>
    have hn0 : n = 0 := by
      rcases Nat.eq_zero_or_pos n with h | h
      · exact h
      · obtain ⟨ad, e, _⟩ := HC.out.2.2 h; simp at e
    have hx : xs = [] := by have := HL.out; exact List.eq_nil_of_length_eq_zero (by omega)
    subst hx
    subst hn0
    go_enter Try.func137, Try.ntmps137
    go_wp2
    go_ret
    exact ⟨_, rfl, Kd.R_nil _ _ _ _ _, Below.refl _ _⟩
  | some ad =>
    go_enter Try.func137, Try.ntmps137
    go_wp2_with (first
      | ((with_reducible refine gate_dst (N := 5) rfl ?_); refine Kd.R_lit k35 _ 35 ?hg (N := 5) ?hd (xs := ([] : List S35)) (inner := []) (ok := fun _ => True) (okp := fun _ => True) ?hr ?hp (fun _ hk => hk) trivial (Below.refl _ _) (Nat.le_refl _) (by simp) ?_; (case hd => rfl); (case hg => rfl); (case hr => first | (go_simp; done) | (go_simp; rfl)); (case hp => exact (Reps.none _ _)); intro v5 w2 ho3 hb hg_ hnew_; clear hg_ hnew_; have HO := Aside0.mk ho3; have HB := Aside0.mk hb; clear ho3 hb)
      | ((with_reducible refine gate_builtin (b := .append) (xs := #[.tmp 5, .tmp 6]) rfl ?_); at_builtin; refine Kd.R_append_rows k35 (w0 := w) w.heap.size rfl (.tmp 5) (.tmp 6) 26 35 (.agg #[(.int .i64 0), (.string ⟨#[]⟩), (.int .i64 0)]) 32 rfl Try.underlying26 info35 rfl (by decide) (by omega) v5 [] xs _ _ _ (fun _ => True) (fun _ => False) rfl rfl HO.out (Kd.C_below HC.out HB.out) (fun _ _ h => h) (fun _ h => h.elim) (fun _ _ => trivial) HB.out HB.out.size (by simp; omega) ?_; intro v7 w3 ho hb hg hat; rw [List.nil_append] at ho; have HO2 := Aside0.mk ho; have HB2 := Aside0.mk hb; clear ho hb hg hat))
    go_ret
    exact ⟨v7, rfl, HO2.out, HB2.out⟩
set_option maxRecDepth 100000 in
set_option maxHeartbeats 4000000 in
theorem clone138_w (A : Option Addr) (n c : Nat) (xs : List ByteArray) (w : World) (hC : Kd.C Kd.string w A n xs) (hn : n ≤ 1000) :
    Calls Try.prog 138 #[.slice A n c] w fun e w' => ∃ v : Value, e = .returned v ∧ Kd.R Kd.string 9 w' w.heap.size (fun _ => True) v xs ∧ Below w.heap.size w w' := by
  have hl : xs.length = n := hC.1
  have HL := Lib.hid hl
  have HC := Aside0.mk hC
  clear hl hC
  have HNIL := Lib.run_eql_slice_nil (P := Try.prog) w 44 9 A n c 0 0 Try.underlying44
  cases A with
  | none =>
    have hn0 : n = 0 := by
      rcases Nat.eq_zero_or_pos n with h | h
      · exact h
      · obtain ⟨ad, e, _⟩ := HC.out.2.2 h; simp at e
    have hx : xs = [] := by have := HL.out; exact List.eq_nil_of_length_eq_zero (by omega)
    subst hx
    subst hn0
    go_enter Try.func138, Try.ntmps138
    go_wp2
    go_ret
    exact ⟨_, rfl, Kd.R_nil _ _ _ _ _, Below.refl _ _⟩
  | some ad =>
    go_enter Try.func138, Try.ntmps138
    go_wp2_with (first
      | ((with_reducible refine gate_dst (N := 5) rfl ?_); refine Kd.R_lit Kd.string _ 9 ?hg (N := 5) ?hd (xs := ([] : List ByteArray)) (inner := []) (ok := fun _ => True) (okp := fun _ => True) ?hr ?hp (fun _ hk => hk) trivial (Below.refl _ _) (Nat.le_refl _) (by simp) ?_; (case hd => rfl); (case hg => rfl); (case hr => first | (go_simp; done) | (go_simp; rfl)); (case hp => exact (Reps.none _ _)); intro v5 w2 ho3 hb hg_ hnew_; clear hg_ hnew_; have HO := Aside0.mk ho3; have HB := Aside0.mk hb; clear ho3 hb)
      | ((with_reducible refine gate_builtin (b := .append) (xs := #[.tmp 5, .tmp 6]) rfl ?_); at_builtin; refine Kd.R_append_rows Kd.string (w0 := w) w.heap.size rfl (.tmp 5) (.tmp 6) 44 9 (.string ⟨#[]⟩) 16 rfl Try.underlying44 info9 rfl (by decide) (by omega) v5 [] xs _ _ _ (fun _ => True) (fun _ => False) rfl rfl HO.out (Kd.C_below HC.out HB.out) (fun _ _ h => h) (fun _ h => h.elim) (fun _ _ => trivial) HB.out HB.out.size (by simp; omega) ?_; intro v7 w3 ho hb hg hat; rw [List.nil_append] at ho; have HO2 := Aside0.mk ho; have HB2 := Aside0.mk hb; clear ho hb hg hat))
    go_ret
    exact ⟨v7, rfl, HO2.out, HB2.out⟩
end Go.Proofs.Ytgddblpgbkgpcaa.PR
namespace Go.Proofs.Ytgddblpgbkgpcaa.PR
set_option linter.unusedVariables false
set_option linter.unusedSimpArgs false
open Go.RowKit Go.Proofs.YtgddblpgbkgpcaaW.PrintWords Go.Proofs.YtgddblpgbkgpcaaW.PrintLast Go.Proofs.YtgddblpgbkgpcaaW.PrintMore
set_option linter.unusedVariables false
set_option linter.unusedSimpArgs false
theorem sform {α : Type} {d : Kd α} {e base : Nat} {ok : Nat → Prop} {w : World} {v : Value} {xs : List α} (h : d.R e w base ok v xs) : ∃ A n c, v = .slice A n c := by
  obtain ⟨A, c, rfl⟩ := Kd.R_slice h
  exact ⟨A, _, c, rfl⟩
def OPost (w : World) (x : S46) (e : Ending) (w' : World) : Prop :=
  ∃ v3 v4 v5 v6 : Value, e = .returned (.agg #[.int .i64 x.f0, .string x.f1, .int .i64 x.f2, v3, v4, v5, v6]) ∧ k35.R 35 w' w.heap.size (fun _ => True) v3 x.f3 ∧ k35.R 35 w' w.heap.size (fun _ => True) v4 x.f4 ∧ Kd.string.R 9 w' w.heap.size (fun _ => True) v5 x.f5 ∧ k35.R 35 w' w.heap.size (fun _ => True) v6 x.f6 ∧ Below w.heap.size w w'
theorem put7 {W : World} {b t : Nat} {z0 z1 z2 z3 z4 z5 z6 : Value} (h : W.heap[b]? = some (.cells #[z0, z1, z2, z3, z4, z5, z6] t (0, 0))) (a0 a1 a2 a3 a4 a5 a6 : Value) :
    (((((((W.setCell ⟨b, 0, none⟩ a0).setCell ⟨b, 1, none⟩ a1).setCell ⟨b, 2, none⟩ a2).setCell ⟨b, 3, none⟩ a3).setCell ⟨b, 4, none⟩ a4).setCell ⟨b, 5, none⟩ a5).setCell ⟨b, 6, none⟩ a6).heap[b]? = some (.cells #[a0, a1, a2, a3, a4, a5, a6] t (0, 0)) := by
  have t0 : (W.setCell ⟨b, 0, none⟩ a0).heap[b]? = some (.cells #[a0, z1, z2, z3, z4, z5, z6] t (0, 0)) := blk_put h 0 a0 rfl
  have t1 : ((W.setCell ⟨b, 0, none⟩ a0).setCell ⟨b, 1, none⟩ a1).heap[b]? = some (.cells #[a0, a1, z2, z3, z4, z5, z6] t (0, 0)) := blk_put t0 1 a1 rfl
  have t2 : (((W.setCell ⟨b, 0, none⟩ a0).setCell ⟨b, 1, none⟩ a1).setCell ⟨b, 2, none⟩ a2).heap[b]? = some (.cells #[a0, a1, a2, z3, z4, z5, z6] t (0, 0)) := blk_put t1 2 a2 rfl
  have t3 : ((((W.setCell ⟨b, 0, none⟩ a0).setCell ⟨b, 1, none⟩ a1).setCell ⟨b, 2, none⟩ a2).setCell ⟨b, 3, none⟩ a3).heap[b]? = some (.cells #[a0, a1, a2, a3, z4, z5, z6] t (0, 0)) := blk_put t2 3 a3 rfl
  have t4 : (((((W.setCell ⟨b, 0, none⟩ a0).setCell ⟨b, 1, none⟩ a1).setCell ⟨b, 2, none⟩ a2).setCell ⟨b, 3, none⟩ a3).setCell ⟨b, 4, none⟩ a4).heap[b]? = some (.cells #[a0, a1, a2, a3, a4, z5, z6] t (0, 0)) := blk_put t3 4 a4 rfl
  have t5 : ((((((W.setCell ⟨b, 0, none⟩ a0).setCell ⟨b, 1, none⟩ a1).setCell ⟨b, 2, none⟩ a2).setCell ⟨b, 3, none⟩ a3).setCell ⟨b, 4, none⟩ a4).setCell ⟨b, 5, none⟩ a5).heap[b]? = some (.cells #[a0, a1, a2, a3, a4, a5, z6] t (0, 0)) := blk_put t4 5 a5 rfl
  have t6 : (((((((W.setCell ⟨b, 0, none⟩ a0).setCell ⟨b, 1, none⟩ a1).setCell ⟨b, 2, none⟩ a2).setCell ⟨b, 3, none⟩ a3).setCell ⟨b, 4, none⟩ a4).setCell ⟨b, 5, none⟩ a5).setCell ⟨b, 6, none⟩ a6).heap[b]? = some (.cells #[a0, a1, a2, a3, a4, a5, a6] t (0, 0)) := blk_put t5 6 a6 rfl
  exact t6
theorem far7 {α : Type} {d : Kd α} {e base : Nat} {ok : Nat → Prop} {v : Value} {xs : List α} {W : World} {b : Nat} (h : d.R e W base ok v xs) (hok : ∀ k, ok k → k ≠ b) (a0 a1 a2 a3 a4 a5 a6 : Value) : d.R e (((((((W.setCell ⟨b, 0, none⟩ a0).setCell ⟨b, 1, none⟩ a1).setCell ⟨b, 2, none⟩ a2).setCell ⟨b, 3, none⟩ a3).setCell ⟨b, 4, none⟩ a4).setCell ⟨b, 5, none⟩ a5).setCell ⟨b, 6, none⟩ a6) base ok v xs :=
  Kd.R_far (Kd.R_far (Kd.R_far (Kd.R_far (Kd.R_far (Kd.R_far (Kd.R_far h hok a0) hok a1) hok a2) hok a3) hok a4) hok a5) hok a6
theorem below7 {w W : World} {b N : Nat} (h : Below N w W) (hb : N ≤ b) (a0 a1 a2 a3 a4 a5 a6 : Value) : Below N w (((((((W.setCell ⟨b, 0, none⟩ a0).setCell ⟨b, 1, none⟩ a1).setCell ⟨b, 2, none⟩ a2).setCell ⟨b, 3, none⟩ a3).setCell ⟨b, 4, none⟩ a4).setCell ⟨b, 5, none⟩ a5).setCell ⟨b, 6, none⟩ a6) :=
  ((((((h.setCell hb a0).setCell hb a1).setCell hb a2).setCell hb a3).setCell hb a4).setCell hb a5).setCell hb a6
theorem clone_fin (x : S46) {w Wb w10 y3 y4 y5 y6 : World} {b1 : Nat} {B3 : Option Addr} {m3 d3 : Nat} {B4 : Option Addr} {m4 d4 : Nat} {B5 : Option Addr} {m5 d5 : Nat} {B6 : Option Addr} {m6 d6 : Nat} {u3 u4 u5 u6 : Value}
    (hb : b1 = w.heap.size) (hwb : Below w.heap.size w Wb) (hsz : Wb.heap.size = w.heap.size + 2)
    (e1 : y6.heap[b1]? = some (.cells #[.int .i64 x.f0, .string x.f1, .int .i64 x.f2, u3, u4, u5, u6] 46 (0, 0))) (e2 : y6.heap[b1 + 1]? = some (.cells #[.int .i64 0, .string ⟨#[]⟩, .int .i64 0, .slice none 0 0, .slice none 0 0, .slice none 0 0, .slice none 0 0] 46 (0, 0)))
    (hq0 : Below Wb.heap.size Wb w10) (h3 : Below w10.heap.size w10 y3) (h4 : Below y3.heap.size y3 y4) (h5 : Below y4.heap.size y4 y5) (h6 : Below y5.heap.size y5 y6)
    (r3 : k35.R 35 y3 w10.heap.size (fun _ => True) (.slice B3 m3 d3) x.f3) (r4 : k35.R 35 y4 y3.heap.size (fun _ => True) (.slice B4 m4 d4) x.f4) (r5 : Kd.string.R 9 y5 y4.heap.size (fun _ => True) (.slice B5 m5 d5) x.f5) (r6 : k35.R 35 y6 y5.heap.size (fun _ => True) (.slice B6 m6 d6) x.f6) :
    ∀ W5 : World, W5 = ((((y6.setCell ⟨b1, 3, none⟩ (.slice B3 m3 d3)).setCell ⟨b1, 4, none⟩ (.slice B4 m4 d4)).setCell ⟨b1, 5, none⟩ (.slice B5 m5 d5)).setCell ⟨b1, 6, none⟩ (.slice B6 m6 d6)) →
    W5.heap[b1]? = some (.cells #[.int .i64 x.f0, .string x.f1, .int .i64 x.f2, .slice B3 m3 d3, .slice B4 m4 d4, .slice B5 m5 d5, .slice B6 m6 d6] 46 (0, 0)) ∧ W5.heap[b1 + 1]? = some (.cells #[.int .i64 0, .string ⟨#[]⟩, .int .i64 0, .slice none 0 0, .slice none 0 0, .slice none 0 0, .slice none 0 0] 46 (0, 0)) ∧
      k35.R 35 W5 w.heap.size (fun k => k ≠ b1 + 1) (.slice B3 m3 d3) x.f3 ∧ k35.R 35 W5 w.heap.size (fun k => k ≠ b1 + 1) (.slice B4 m4 d4) x.f4 ∧ Kd.string.R 9 W5 w.heap.size (fun k => k ≠ b1 + 1) (.slice B5 m5 d5) x.f5 ∧ k35.R 35 W5 w.heap.size (fun k => k ≠ b1 + 1) (.slice B6 m6 d6) x.f6 ∧ Below w.heap.size w W5 := by
  rintro W5 rfl
  have s0 := hq0.size
  have s3 := h3.size
  have s4 := h4.size
  have s5 := h5.size
  have s6 := h6.size
  have t1 : (y6.setCell ⟨b1, 3, none⟩ (.slice B3 m3 d3)).heap[b1]? = _ := blk_put e1 3 _ rfl
  have t2 : ((y6.setCell ⟨b1, 3, none⟩ (.slice B3 m3 d3)).setCell ⟨b1, 4, none⟩ (.slice B4 m4 d4)).heap[b1]? = _ := blk_put t1 4 _ rfl
  have t3 : (((y6.setCell ⟨b1, 3, none⟩ (.slice B3 m3 d3)).setCell ⟨b1, 4, none⟩ (.slice B4 m4 d4)).setCell ⟨b1, 5, none⟩ (.slice B5 m5 d5)).heap[b1]? = _ := blk_put t2 5 _ rfl
  have t4 : ((((y6.setCell ⟨b1, 3, none⟩ (.slice B3 m3 d3)).setCell ⟨b1, 4, none⟩ (.slice B4 m4 d4)).setCell ⟨b1, 5, none⟩ (.slice B5 m5 d5)).setCell ⟨b1, 6, none⟩ (.slice B6 m6 d6)).heap[b1]? = _ := blk_put t3 6 _ rfl
  have far : ∀ {α : Type} {d : Kd α} {e : Nat} {v : Value} {xs : List α} {ok : Nat → Prop}, d.R e y6 (w.heap.size + 2) ok v xs → d.R e ((((y6.setCell ⟨b1, 3, none⟩ (.slice B3 m3 d3)).setCell ⟨b1, 4, none⟩ (.slice B4 m4 d4)).setCell ⟨b1, 5, none⟩ (.slice B5 m5 d5)).setCell ⟨b1, 6, none⟩ (.slice B6 m6 d6)) w.heap.size (fun k => k ≠ b1 + 1) v xs := by
    intro α d e v xs ok h
    refine Kd.R_mono (Kd.R_lower (Kd.R_far (Kd.R_far (Kd.R_far (Kd.R_far (Kd.R_bound h) ?_ _) ?_ _) ?_ _) ?_ _) (by omega)) (fun k hk => by have := hk.2.1; omega)
    all_goals (intro k hk; have := hk.2.1; simp; omega)
  have up : ∀ {W W' : World}, Below W.heap.size W W' → ∀ {α : Type} {d : Kd α} {e base : Nat} {v : Value} {xs : List α} {ok : Nat → Prop}, d.R e W base ok v xs → d.R e W' base ok v xs := fun h _ _ _ _ _ _ _ hr => Kd.R_below hr h
  refine ⟨t4, blk_far (blk_far (blk_far (blk_far e2 (by simp) _) (by simp) _) (by simp) _) (by simp) _, far (Kd.R_lower (up h6 (up h5 (up h4 r3))) (by omega)), far (Kd.R_lower (up h6 (up h5 r4)) (by omega)), far (Kd.R_lower (up h6 r5) (by omega)), far (Kd.R_lower r6 (by omega)), ?_⟩
  have hb6 : Below w.heap.size w y6 := bst hwb (bth (bth (bth (bth hq0 s0 h3) (by omega) h4) (by omega) h5) (by omega) h6)
  exact (((hb6.setCell (by simp; omega) _).setCell (by simp; omega) _).setCell (by simp; omega) _).setCell (by simp; omega) _
set_option maxRecDepth 100000 in
set_option maxHeartbeats 40000000 in
theorem clone108_w (x : S46) (A3 : Option Addr) (n3 c3 : Nat) (A4 : Option Addr) (n4 c4 : Nat) (A5 : Option Addr) (n5 c5 : Nat) (A6 : Option Addr) (n6 c6 : Nat) (w : World)
    (h3 : Kd.C k35 w A3 n3 x.f3) (h4 : Kd.C k35 w A4 n4 x.f4) (h5 : Kd.C Kd.string w A5 n5 x.f5) (h6 : Kd.C k35 w A6 n6 x.f6) (l3 : n3 ≤ 1000) (l4 : n4 ≤ 1000) (l5 : n5 ≤ 1000) (l6 : n6 ≤ 1000) :
    Calls Try.prog 108 #[.agg #[.int .i64 x.f0, .string x.f1, .int .i64 x.f2, .slice A3 n3 c3, .slice A4 n4 c4, .slice A5 n5 c5, .slice A6 n6 c6]] w (OPost w x) := by
  have hwb : Below w.heap.size w ((w.alloc (.cells #[.int .i64 x.f0, .string x.f1, .int .i64 x.f2, .slice A3 n3 c3, .slice A4 n4 c4, .slice A5 n5 c5, .slice A6 n6 c6] 46)).alloc (.cells #[.int .i64 0, .string ⟨#[]⟩, .int .i64 0, .slice none 0 0, .slice none 0 0, .slice none 0 0, .slice none 0 0] 46)) := bla (bla (Below.refl _ _) _) _
  obtain ⟨b1, hb1⟩ : ∃ b1, b1 = w.heap.size := ⟨_, rfl⟩
  obtain ⟨Wb, hWb⟩ : ∃ Wb : World, Wb = ((w.alloc (.cells #[.int .i64 x.f0, .string x.f1, .int .i64 x.f2, .slice A3 n3 c3, .slice A4 n4 c4, .slice A5 n5 c5, .slice A6 n6 c6] 46)).alloc (.cells #[.int .i64 0, .string ⟨#[]⟩, .int .i64 0, .slice none 0 0, .slice none 0 0, .slice none 0 0, .slice none 0 0] 46)) := ⟨_, rfl⟩
  have HBK := Aside0.mk (show Wb.heap[b1]? = some (.cells #[.int .i64 x.f0, .string x.f1, .int .i64 x.f2, .slice A3 n3 c3, .slice A4 n4 c4, .slice A5 n5 c5, .slice A6 n6 c6] 46 (0, 0)) ∧ Wb.heap[b1 + 1]? = some (.cells #[.int .i64 0, .string ⟨#[]⟩, .int .i64 0, .slice none 0 0, .slice none 0 0, .slice none 0 0, .slice none 0 0] 46 (0, 0)) from by
    rw [hWb, hb1]
    refine ⟨kla (blk_new _ _) _, ?_⟩
    have h := blk_new (w.alloc (.cells #[.int .i64 x.f0, .string x.f1, .int .i64 x.f2, .slice A3 n3 c3, .slice A4 n4 c4, .slice A5 n5 c5, .slice A6 n6 c6] 46)) (.cells #[.int .i64 0, .string ⟨#[]⟩, .int .i64 0, .slice none 0 0, .slice none 0 0, .slice none 0 0, .slice none 0 0] 46)
    rw [show (w.alloc (.cells #[.int .i64 x.f0, .string x.f1, .int .i64 x.f2, .slice A3 n3 c3, .slice A4 n4 c4, .slice A5 n5 c5, .slice A6 n6 c6] 46)).heap.size = w.heap.size + 1 by simp] at h
    exact h)
  rw [← hWb] at hwb
  replace h3 := Aside0.mk (Kd.C_below h3 hwb)
  replace h4 := Aside0.mk (Kd.C_below h4 hwb)
  replace h5 := Aside0.mk (Kd.C_below h5 hwb)
  replace h6 := Aside0.mk (Kd.C_below h6 hwb)
  have HWB := Aside0.mk hwb
  have k0 := (kcl HBK.out.1 0).trans (show _ = some (.int .i64 x.f0) from rfl)
  have k1 := (kcl HBK.out.1 1).trans (show _ = some (.string x.f1) from rfl)
  have k2 := (kcl HBK.out.1 2).trans (show _ = some (.int .i64 x.f2) from rfl)
  have k3 := (kcl HBK.out.1 3).trans (show _ = some (.slice A3 n3 c3) from rfl)
  have k4 := (kcl HBK.out.1 4).trans (show _ = some (.slice A4 n4 c4) from rfl)
  have k5 := (kcl HBK.out.1 5).trans (show _ = some (.slice A5 n5 c5) from rfl)
  have k6 := (kcl HBK.out.1 6).trans (show _ = some (.slice A6 n6 c6) from rfl)
  have HSZ := Lib.hid (show Wb.heap.size = w.heap.size + 2 by rw [hWb]; simp)
  have HW := Lib.hid hWb
  have HB := Lib.hid hb1
  clear hwb hWb hb1
  go_enter Try.func108, Try.ntmps108
  go_wp2_with fail
  rw [← HW.out, ← HB.out]
  have hq0 : Below Wb.heap.size Wb Wb.drew := below_drew (Below.refl _ _)
  refine start_ (n := 20) (S := fun w' => w'.cell? ⟨b1, 3, none⟩ = some (.slice A3 n3 c3) ∧ w'.cell? ⟨b1, 4, none⟩ = some (.slice A4 n4 c4) ∧ w'.cell? ⟨b1, 5, none⟩ = some (.slice A5 n5 c5) ∧ w'.cell? ⟨b1, 6, none⟩ = some (.slice A6 n6 c6)) (ds := [13, 15, 17, 19]) #[false, false, false, false, false, false, false, false, false, false, false, false, false, false, false, false, false, false, false, false] (by kernel_rfl) rfl rfl ⟨B.cell_keep hq0 k3, B.cell_keep hq0 k4, B.cell_keep hq0 k5, B.cell_keep hq0 k6⟩ (fun hHeld => ?_)
  generalize Wb.drew = w10 at hq0 hHeld ⊢
  refine pure_ (i := 0) (N := some 3) (v := ?_) (a' := ?_) #[true, false, false, false, false, false, false, false, false, false, false, false, false, false, false, false, false, false, false, false] rfl rfl (by kernel_rfl) (fun _ _ _ h => h) (Or.inl ⟨by rfl, ?_⟩) ?_ ?_
  rotate_left
  · intro w'
    go_simp
    with_reducible rfl
  rotate_left
  · simp only [Act.put, List.setIfInBounds_toArray, List.set_cons_zero, List.set_cons_succ, i64_w, i32_w]
    rfl
  refine pure_ (i := 3) (N := some 6) (v := ?_) (a' := ?_) #[true, false, false, true, false, false, false, false, false, false, false, false, false, false, false, false, false, false, false, false] rfl rfl (by kernel_rfl) (fun _ _ _ h => h) (Or.inl ⟨by rfl, ?_⟩) ?_ ?_
  rotate_left
  · intro w'
    go_simp
    with_reducible rfl
  rotate_left
  · simp only [Act.put, List.setIfInBounds_toArray, List.set_cons_zero, List.set_cons_succ, i64_w, i32_w]
    rfl
  refine pure_ (i := 6) (N := some 9) (v := ?_) (a' := ?_) #[true, false, false, true, false, false, true, false, false, false, false, false, false, false, false, false, false, false, false, false] rfl rfl (by kernel_rfl) (fun _ _ _ h => h) (Or.inl ⟨by rfl, ?_⟩) ?_ ?_
  rotate_left
  · intro w'
    go_simp
    with_reducible rfl
  rotate_left
  · simp only [Act.put, List.setIfInBounds_toArray, List.set_cons_zero, List.set_cons_succ, i64_w, i32_w]
    rfl
  refine pure_ (i := 9) (N := some 12) (v := ?_) (a' := ?_) #[true, false, false, true, false, false, true, false, false, true, false, false, false, false, false, false, false, false, false, false] rfl rfl (by kernel_rfl) (fun _ _ _ h => h) (Or.inl ⟨by rfl, ?_⟩) ?_ ?_
  rotate_left
  · intro w'
    go_simp
    with_reducible rfl
  rotate_left
  · simp only [Act.put, List.setIfInBounds_toArray, List.set_cons_zero, List.set_cons_succ, i64_w, i32_w]
    rfl
  refine take_ (i := 1) (N := some 4) (v := ?_) (a' := ?_) #[true, true, false, true, false, false, true, false, false, true, false, false, false, false, false, false, false, false, false, false] rfl rfl (by kernel_rfl) (fun _ _ _ h => h) (Or.inl ⟨by rfl, ?_⟩) hHeld ?_ ?_
  rotate_left
  · rintro w' ⟨s0, s1, s2, s3⟩
    go_simp
    with_reducible rfl
  rotate_left
  · simp only [Act.put, List.setIfInBounds_toArray, List.set_cons_zero, List.set_cons_succ, i64_w, i32_w]
    rfl
  refine take_ (i := 4) (N := some 7) (v := ?_) (a' := ?_) #[true, true, false, true, true, false, true, false, false, true, false, false, false, false, false, false, false, false, false, false] rfl rfl (by kernel_rfl) (fun _ _ _ h => h) (Or.inl ⟨by rfl, ?_⟩) hHeld ?_ ?_
  rotate_left
  · rintro w' ⟨s0, s1, s2, s3⟩
    go_simp
    with_reducible rfl
  rotate_left
  · simp only [Act.put, List.setIfInBounds_toArray, List.set_cons_zero, List.set_cons_succ, i64_w, i32_w]
    rfl
  refine take_ (i := 7) (N := some 10) (v := ?_) (a' := ?_) #[true, true, false, true, true, false, true, true, false, true, false, false, false, false, false, false, false, false, false, false] rfl rfl (by kernel_rfl) (fun _ _ _ h => h) (Or.inl ⟨by rfl, ?_⟩) hHeld ?_ ?_
  rotate_left
  · rintro w' ⟨s0, s1, s2, s3⟩
    go_simp
    with_reducible rfl
  rotate_left
  · simp only [Act.put, List.setIfInBounds_toArray, List.set_cons_zero, List.set_cons_succ, i64_w, i32_w]
    rfl
  refine take_ (i := 10) (N := some 13) (v := ?_) (a' := ?_) #[true, true, false, true, true, false, true, true, false, true, true, false, false, false, false, false, false, false, false, false] rfl rfl (by kernel_rfl) (fun _ _ _ h => h) (Or.inl ⟨by rfl, ?_⟩) hHeld ?_ ?_
  rotate_left
  · rintro w' ⟨s0, s1, s2, s3⟩
    go_simp
    with_reducible rfl
  rotate_left
  · simp only [Act.put, List.setIfInBounds_toArray, List.set_cons_zero, List.set_cons_succ, i64_w, i32_w]
    rfl
  refine one_ (i := 2) (N := some 5) #[true, true, true, true, true, false, true, true, false, true, true, false, false, false, false, false, false, false, false, false] rfl rfl (by kernel_rfl) (by decide) (fun K hK => ?_)
  refine goes_ Try.func137 (by kernel_rfl) rfl #[.slice A3 n3 c3] (by rfl) rfl rfl (by simp only [List.map_toArray, List.map_cons, List.map_nil]; rfl) ?_
  with_reducible refine (clone137_w A3 n3 c3 x.f3 _ (Kd.C_below h3.out hq0) (by omega)).mono ?_
  rintro e y3 ⟨v3, rfl, hr3, hb3⟩
  refine ⟨_, rfl, ?_⟩
  obtain ⟨B3, m3, d3, rfl⟩ := sform hr3
  have hq3 := bth hq0 hq0.size hb3
  refine hK.out _ _ ⟨B.cell_keep hq3 k3, B.cell_keep hq3 k4, B.cell_keep hq3 k5, B.cell_keep hq3 k6⟩ (fun hHeld => ?_)
  clear hK K
  refine norm_ (a' := ?_) ?_ ?_
  rotate_left
  · show Act.put _ (some 5) _ = _
    simp only [Act.put, List.setIfInBounds_toArray, List.set_cons_zero, List.set_cons_succ, i64_w, i32_w]
    rfl
  refine pure_ (i := 12) (N := some 15) (v := ?_) (a' := ?_) #[true, true, true, true, true, false, true, true, false, true, true, false, true, false, false, false, false, false, false, false] rfl rfl (by kernel_rfl) (fun _ _ _ h => h) (Or.inl ⟨by rfl, ?_⟩) ?_ ?_
  rotate_left
  · intro w'
    go_simp
    with_reducible rfl
  rotate_left
  · simp only [Act.put, List.setIfInBounds_toArray, List.set_cons_zero, List.set_cons_succ, i64_w, i32_w]
    rfl
  refine one_ (i := 5) (N := some 8) #[true, true, true, true, true, true, true, true, false, true, true, false, true, false, false, false, false, false, false, false] rfl rfl (by kernel_rfl) (by decide) (fun K hK => ?_)
  refine goes_ Try.func137 (by kernel_rfl) rfl #[.slice A4 n4 c4] (by rfl) rfl rfl (by simp only [List.map_toArray, List.map_cons, List.map_nil]; rfl) ?_
  with_reducible refine (clone137_w A4 n4 c4 x.f4 _ (Kd.C_below h4.out hq3) (by omega)).mono ?_
  rintro e y4 ⟨v4, rfl, hr4, hb4⟩
  refine ⟨_, rfl, ?_⟩
  obtain ⟨B4, m4, d4, rfl⟩ := sform hr4
  have hq4 := bth hq3 hq3.size hb4
  refine hK.out _ _ ⟨B.cell_keep hq4 k3, B.cell_keep hq4 k4, B.cell_keep hq4 k5, B.cell_keep hq4 k6⟩ (fun hHeld => ?_)
  clear hK K
  refine norm_ (a' := ?_) ?_ ?_
  rotate_left
  · show Act.put _ (some 8) _ = _
    simp only [Act.put, List.setIfInBounds_toArray, List.set_cons_zero, List.set_cons_succ, i64_w, i32_w]
    rfl
  refine one_ (i := 8) (N := some 11) #[true, true, true, true, true, true, true, true, true, true, true, false, true, false, false, false, false, false, false, false] rfl rfl (by kernel_rfl) (by decide) (fun K hK => ?_)
  refine goes_ Try.func138 (by kernel_rfl) rfl #[.slice A5 n5 c5] (by rfl) rfl rfl (by simp only [List.map_toArray, List.map_cons, List.map_nil]; rfl) ?_
  with_reducible refine (clone138_w A5 n5 c5 x.f5 _ (Kd.C_below h5.out hq4) (by omega)).mono ?_
  rintro e y5 ⟨v5, rfl, hr5, hb5⟩
  refine ⟨_, rfl, ?_⟩
  obtain ⟨B5, m5, d5, rfl⟩ := sform hr5
  have hq5 := bth hq4 hq4.size hb5
  refine hK.out _ _ ⟨B.cell_keep hq5 k3, B.cell_keep hq5 k4, B.cell_keep hq5 k5, B.cell_keep hq5 k6⟩ (fun hHeld => ?_)
  clear hK K
  refine norm_ (a' := ?_) ?_ ?_
  rotate_left
  · show Act.put _ (some 11) _ = _
    simp only [Act.put, List.setIfInBounds_toArray, List.set_cons_zero, List.set_cons_succ, i64_w, i32_w]
    rfl
  refine one_ (i := 11) (N := some 14) #[true, true, true, true, true, true, true, true, true, true, true, true, true, false, false, false, false, false, false, false] rfl rfl (by kernel_rfl) (by decide) (fun K hK => ?_)
  refine goes_ Try.func137 (by kernel_rfl) rfl #[.slice A6 n6 c6] (by rfl) rfl rfl (by simp only [List.map_toArray, List.map_cons, List.map_nil]; rfl) ?_
  with_reducible refine (clone137_w A6 n6 c6 x.f6 _ (Kd.C_below h6.out hq5) (by omega)).mono ?_
  rintro e y6 ⟨v6, rfl, hr6, hb6⟩
  refine ⟨_, rfl, ?_⟩
  obtain ⟨B6, m6, d6, rfl⟩ := sform hr6
  have hq6 := bth hq5 hq5.size hb6
  have z0 := B.cell_keep hq6 k0
  have z1 := B.cell_keep hq6 k1
  have z2 := B.cell_keep hq6 k2
  have z3 := B.cell_keep hq6 k3
  have z4 := B.cell_keep hq6 k4
  have z5 := B.cell_keep hq6 k5
  have z6 := B.cell_keep hq6 k6
  have hbk1 := kbw HBK.out.1 hq6
  have hbk2 := kbw HBK.out.2 hq6
  have f3 := kfz hbk1 3
  have f4 := kfz hbk1 4
  have f5 := kfz hbk1 5
  have f6 := kfz hbk1 6
  have HB1 := Aside0.mk hbk1
  have HB2 := Aside0.mk hbk2
  clear hbk1 hbk2
  refine hK.out _ _ ⟨B.cell_keep hq6 k3, B.cell_keep hq6 k4, B.cell_keep hq6 k5, B.cell_keep hq6 k6⟩ (fun hHeld => ?_)
  clear hK K
  refine norm_ (a' := ?_) ?_ ?_
  rotate_left
  · show Act.put _ (some 14) _ = _
    simp only [Act.put, List.setIfInBounds_toArray, List.set_cons_zero, List.set_cons_succ, i64_w, i32_w]
    rfl
  refine last_ (i := 13) (N := none) #[true, true, true, true, true, true, true, true, true, true, true, true, true, true, false, false, false, false, false, false] rfl rfl (by kernel_rfl) (by decide) (fun K hK => ?_)
  refine skip_ (w1 := ?_) (by rfl) rfl ?_ ?_
  rotate_left
  · go_simp
    rfl
  refine hK.out _ _ ?_
  clear hK K
  refine pure_ (i := 14) (N := some 16) (v := ?_) (a' := ?_) #[true, true, true, true, true, true, true, true, true, true, true, true, true, true, true, false, false, false, false, false] rfl rfl (by kernel_rfl) (fun _ _ _ h => h) (Or.inl ⟨by rfl, ?_⟩) ?_ ?_
  rotate_left
  · intro w'
    go_simp
    with_reducible rfl
  rotate_left
  · simp only [Act.put, List.setIfInBounds_toArray, List.set_cons_zero, List.set_cons_succ, i64_w, i32_w]
    rfl
  refine last_ (i := 15) (N := none) #[true, true, true, true, true, true, true, true, true, true, true, true, true, true, true, true, false, false, false, false] rfl rfl (by kernel_rfl) (by decide) (fun K hK => ?_)
  refine skip_ (w1 := ?_) (by rfl) rfl ?_ ?_
  rotate_left
  · go_simp
    rfl
  refine hK.out _ _ ?_
  clear hK K
  refine pure_ (i := 16) (N := some 17) (v := ?_) (a' := ?_) #[true, true, true, true, true, true, true, true, true, true, true, true, true, true, true, true, true, false, false, false] rfl rfl (by kernel_rfl) (fun _ _ _ h => h) (Or.inl ⟨by rfl, ?_⟩) ?_ ?_
  rotate_left
  · intro w'
    go_simp
    with_reducible rfl
  rotate_left
  · simp only [Act.put, List.setIfInBounds_toArray, List.set_cons_zero, List.set_cons_succ, i64_w, i32_w]
    rfl
  refine last_ (i := 17) (N := none) #[true, true, true, true, true, true, true, true, true, true, true, true, true, true, true, true, true, true, false, false] rfl rfl (by kernel_rfl) (by decide) (fun K hK => ?_)
  refine skip_ (w1 := ?_) (by rfl) rfl ?_ ?_
  rotate_left
  · go_simp
    rfl
  refine hK.out _ _ ?_
  clear hK K
  refine pure_ (i := 18) (N := some 18) (v := ?_) (a' := ?_) #[true, true, true, true, true, true, true, true, true, true, true, true, true, true, true, true, true, true, true, false] rfl rfl (by kernel_rfl) (fun _ _ _ h => h) (Or.inl ⟨by rfl, ?_⟩) ?_ ?_
  rotate_left
  · intro w'
    go_simp
    with_reducible rfl
  rotate_left
  · simp only [Act.put, List.setIfInBounds_toArray, List.set_cons_zero, List.set_cons_succ, i64_w, i32_w]
    rfl
  refine last_ (i := 19) (N := none) #[true, true, true, true, true, true, true, true, true, true, true, true, true, true, true, true, true, true, true, true] rfl rfl (by kernel_rfl) (by decide) (fun K hK => ?_)
  refine skip_ (w1 := ?_) (by rfl) rfl ?_ ?_
  rotate_left
  · go_simp
    rfl
  refine hK.out _ _ ?_
  clear hK K
  refine done_ (by kernel_rfl) ?_
  obtain ⟨W5, hW5⟩ : ∃ W5 : World, W5 = ((((y6.setCell ⟨b1, 3, none⟩ (.slice B3 m3 d3)).setCell ⟨b1, 4, none⟩ (.slice B4 m4 d4)).setCell ⟨b1, 5, none⟩ (.slice B5 m5 d5)).setCell ⟨b1, 6, none⟩ (.slice B6 m6 d6)) := ⟨_, rfl⟩
  rw [← hW5]
  have hN := clone_fin x HB.out HWB.out HSZ.out HB1.out HB2.out hq0 hb3 hb4 hb5 hb6 hr3 hr4 hr5 hr6 W5 hW5
  obtain ⟨p1, p2, hpost⟩ := hN
  have HP := Aside0.mk hpost
  have HP2 := Aside0.mk p2
  have p10 := (kcl p1 0).trans (show _ = some (.int .i64 x.f0) from rfl)
  have p11 := (kcl p1 1).trans (show _ = some (.string x.f1) from rfl)
  have p12 := (kcl p1 2).trans (show _ = some (.int .i64 x.f2) from rfl)
  have p13 := (kcl p1 3).trans (show _ = some (.slice B3 m3 d3) from rfl)
  have p14 := (kcl p1 4).trans (show _ = some (.slice B4 m4 d4) from rfl)
  have p15 := (kcl p1 5).trans (show _ = some (.slice B5 m5 d5) from rfl)
  have p16 := (kcl p1 6).trans (show _ = some (.slice B6 m6 d6) from rfl)
  have p20 := (kcl p2 0).trans (show _ = some (.int .i64 0) from rfl)
  have q20 := kfz p2 0
  have p21 := (kcl p2 1).trans (show _ = some (.string ⟨#[]⟩) from rfl)
  have q21 := kfz p2 1
  have p22 := (kcl p2 2).trans (show _ = some (.int .i64 0) from rfl)
  have q22 := kfz p2 2
  have p23 := (kcl p2 3).trans (show _ = some (.slice none 0 0) from rfl)
  have q23 := kfz p2 3
  have p24 := (kcl p2 4).trans (show _ = some (.slice none 0 0) from rfl)
  have q24 := kfz p2 4
  have p25 := (kcl p2 5).trans (show _ = some (.slice none 0 0) from rfl)
  have q25 := kfz p2 5
  have p26 := (kcl p2 6).trans (show _ = some (.slice none 0 0) from rfl)
  have q26 := kfz p2 6
  clear z0 z1 z2 z3 z4 z5 z6 f3 f4 f5 f6 k0 k1 k2 k3 k4 k5 k6 hq0 hq3 hq4 hq5 hq6 hb3 hb4 hb5 hb6 hr3 hr4 hr5 hr6 hW5 HB1 HB2 hHeld p1 p2 hpost
  go_wp2_with fail
  obtain ⟨g3, g4, g5, g6, gb⟩ := HP.out
  refine bodyPost_ret (v := .agg #[.int .i64 x.f0, .string x.f1, .int .i64 x.f2, .slice B3 m3 d3, .slice B4 m4 d4, .slice B5 m5 d5, .slice B6 m6 d6]) (B.res_c rfl _ _ (b1 + 1) 46 _ (0, 0) _ rfl (put7 HP2.out _ _ _ _ _ _ _) Try.underlying46 rfl rfl) rfl ⟨_, _, _, _, rfl, ?_, ?_, ?_, ?_, ?_⟩
  · exact Kd.R_mono (far7 g3 (fun _ hk => hk) _ _ _ _ _ _ _) (fun _ _ => trivial)
  · exact Kd.R_mono (far7 g4 (fun _ hk => hk) _ _ _ _ _ _ _) (fun _ _ => trivial)
  · exact Kd.R_mono (far7 g5 (fun _ hk => hk) _ _ _ _ _ _ _) (fun _ _ => trivial)
  · exact Kd.R_mono (far7 g6 (fun _ hk => hk) _ _ _ _ _ _ _) (fun _ _ => trivial)
  · exact below7 gb (by have := HB.out; omega) _ _ _ _ _ _ _
end Go.Proofs.Ytgddblpgbkgpcaa.PR
namespace Go.Proofs.Ytgddblpgbkgpcaa.PR
set_option linter.unusedVariables false
set_option linter.unusedSimpArgs false
open Go.RowKit Go.Proofs.YtgddblpgbkgpcaaW.PrintWords Go.Proofs.YtgddblpgbkgpcaaW.PrintLast Go.Proofs.YtgddblpgbkgpcaaW.PrintMore
set_option linter.unusedVariables false
set_option linter.unusedSimpArgs false
def HPost (w : World) (l : List S46) (e : Ending) (w' : World) : Prop := ∃ v : Value, e = .returned (.agg #[v]) ∧ k46.R 46 w' w.heap.size (fun _ => True) v l ∧ Below w.heap.size w w'
structure Hc (w wi : World) (v : Value) (l : List S46) : Prop where
  bl : Below w.heap.size w wi
  c1 : wi.heap[w.heap.size + 1]? = some (.cells #[.slice none 0 0] 25 (0, 0))
  c2 : wi.heap[w.heap.size + 1 + 1]? = some (.cells #[v] 25 (0, 0))
  hr : k46.R 46 wi w.heap.size (fun k => k ≠ w.heap.size + 1 ∧ k ≠ w.heap.size + 1 + 1) v l
section
variable {w wi w1 : World} {v : Value} {l : List S46}
theorem Hc.below (h : Hc w wi v l) (hb : Below wi.heap.size wi w1) : Hc w w1 v l := ⟨bst h.bl hb, kbw h.c1 hb, kbw h.c2 hb, Kd.R_below h.hr hb⟩
theorem Hc.sep {N : Nat} (h : Hc w wi v l) (hN : w.heap.size + 3 ≤ N) (hv : ∀ k, v.ownBlock = some k → k < N) {k : Nat} (hk : N ≤ k) : (k ≠ w.heap.size + 1 ∧ k ≠ w.heap.size + 1 + 1) ∧ some k ≠ v.ownBlock :=
  ⟨⟨by omega, by omega⟩, fun e => by have := hv k e.symm; omega⟩
theorem Hc.grow (h : Hc w wi v l) (hg : wi.grownBy w1 v.ownBlock) : Below w.heap.size w w1 ∧ w1.heap[w.heap.size + 1]? = some (.cells #[.slice none 0 0] 25 (0, 0)) ∧ w1.heap[w.heap.size + 1 + 1]? = some (.cells #[v] 25 (0, 0)) :=
  ⟨pw_below_grown h.bl _ h.bl.size hg (fun k hk => Kd.R_base h.hr k hk), kgr h.c1 hg (fun e => (h.hr.1 _ e.symm).1 rfl), kgr h.c2 hg (fun e => (h.hr.1 _ e.symm).2 rfl)⟩
end
theorem Hc.fin {w w1 : World} {v v1 : Value} {l : List S46} (hb : Below w.heap.size w w1) (h1 : w1.heap[w.heap.size + 1]? = some (.cells #[.slice none 0 0] 25 (0, 0))) (h2 : w1.heap[w.heap.size + 1 + 1]? = some (.cells #[v] 25 (0, 0))) (hr : k46.R 46 w1 w.heap.size (fun k => k ≠ w.heap.size + 1 ∧ k ≠ w.heap.size + 1 + 1) v1 l) :
    Hc w (w1.setCell ⟨w.heap.size + 1 + 1, 0, none⟩ v1) v1 l :=
  ⟨hb.setCell (show w.heap.size ≤ w.heap.size + 1 + 1 by omega) _, blk_far h1 (by simp) _, blk_put h2 0 _ rfl, Kd.R_far hr (fun k hk => hk.2) _⟩
theorem new_obj {w12 : World} {base N : Nat} {x : S46} {v3 v4 v5 v6 : Value} (r3 : k35.R 35 w12 N (fun _ => True) v3 x.f3) (r4 : k35.R 35 w12 N (fun _ => True) v4 x.f4) (r5 : Kd.string.R 9 w12 N (fun _ => True) v5 x.f5) (r6 : k35.R 35 w12 N (fun _ => True) v6 x.f6) (_h : base ≤ w12.heap.size) (hb : base ≤ N) :
    k46.M w12 base (fun k => N ≤ k) x [.int .i64 x.f0, .string x.f1, .int .i64 x.f2, v3, v4, v5, v6] :=
  k46_mkM w12 base _ x (Kd.R_lower (Kd.R_mono (Kd.R_bound r3) (fun _ hk => hk.2.1)) hb) (Kd.R_lower (Kd.R_mono (Kd.R_bound r4) (fun _ hk => hk.2.1)) hb) (Kd.R_lower (Kd.R_mono (Kd.R_bound r5) (fun _ hk => hk.2.1)) hb) (Kd.R_lower (Kd.R_mono (Kd.R_bound r6) (fun _ hk => hk.2.1)) hb)
theorem take_snoc46 {l : List S46} {k : Nat} {x : S46} (h : l[k]? = some x) : l.take (k + 1) = l.take k ++ [x] := by
  obtain ⟨hk, e⟩ := List.getElem?_eq_some_iff.1 h
  rw [List.take_succ_eq_append_getElem hk, e]
def oL (o : S46) : Prop := o.f3.length ≤ 1000 ∧ o.f4.length ≤ 1000 ∧ o.f5.length ≤ 1000 ∧ o.f6.length ≤ 1000
theorem obj_at {w : World} {A : Option Addr} {n : Nat} {l : List S46} (h : Kd.C k46 w A n l) (k : Nat) (hk : k < n) :
    ∃ (x : S46) (ad : Addr) (A3 : Option Addr) (c3 : Nat) (A4 : Option Addr) (c4 : Nat) (A5 : Option Addr) (c5 : Nat) (A6 : Option Addr) (c6 : Nat), l[k]? = some x ∧ A = some ad ∧ w.cell? (ad.add (k * 7)) = some (.int .i64 x.f0) ∧ w.cell? ⟨(ad.add (k * 7)).block, (ad.add (k * 7)).off + 1, none⟩ = some (.string x.f1) ∧ w.cell? ⟨(ad.add (k * 7)).block, (ad.add (k * 7)).off + 2, none⟩ = some (.int .i64 x.f2) ∧
      w.cell? ⟨(ad.add (k * 7)).block, (ad.add (k * 7)).off + 3, none⟩ = some (.slice A3 x.f3.length c3) ∧ w.cell? ⟨(ad.add (k * 7)).block, (ad.add (k * 7)).off + 4, none⟩ = some (.slice A4 x.f4.length c4) ∧ w.cell? ⟨(ad.add (k * 7)).block, (ad.add (k * 7)).off + 5, none⟩ = some (.slice A5 x.f5.length c5) ∧ w.cell? ⟨(ad.add (k * 7)).block, (ad.add (k * 7)).off + 6, none⟩ = some (.slice A6 x.f6.length c6) ∧
      (x.f3.length ≤ c3 ∧ Kd.C k35 w A3 x.f3.length x.f3) ∧ (x.f4.length ≤ c4 ∧ Kd.C k35 w A4 x.f4.length x.f4) ∧ (x.f5.length ≤ c5 ∧ Kd.C Kd.string w A5 x.f5.length x.f5) ∧ (x.f6.length ≤ c6 ∧ Kd.C k35 w A6 x.f6.length x.f6) := by
  have hl : l.length = n := h.1
  have hkl : k < l.length := by omega
  obtain ⟨ad, A3, c3, A4, c4, A5, c5, A6, c6, e, g0, g1, g2, g3, g4, g5, g6, l3, r3, l4, r4, l5, r5, l6, r6⟩ := at_T46 h (k : Int) (by omega) (by omega)
  have er : rd_T46 l (k : Int) = l[k] := by unfold rd_T46; simp [List.getD_eq_getElem?_getD, hkl]
  rw [er] at g0 g1 g2 g3 g4 g5 g6 l3 r3 l4 r4 l5 r5 l6 r6
  exact ⟨l[k], ad, A3, c3, A4, c4, A5, c5, A6, c6, by simp [hkl], e, g0, g1, g2, g3, g4, g5, g6, ⟨l3, r3⟩, ⟨l4, r4⟩, ⟨l5, r5⟩, ⟨l6, r6⟩⟩
set_option maxRecDepth 100000 in
set_option maxHeartbeats 40000000 in
theorem hclone66_w (A : Option Addr) (n c : Nat) (l : List S46) (w : World) (hC : Kd.C k46 w A n l) (hn : n ≤ 1000) (hol : ∀ o ∈ l, oL o) :
    Calls Try.prog 66 #[.agg #[.slice A n c]] w (HPost w l) := by
  have HC := Aside0.mk hC
  have HOL := Aside0.mk hol
  have HNL := Lib.hid (show l.length = n from hC.1)
  clear hC hol
  go_enter Try.func66, Try.ntmps66
  go_wp2_with fail
  have HS := Aside0.mk (show Hc w (((w.alloc (.cells #[.slice A n c] 25)).alloc (.cells #[.slice none 0 0] 25)).alloc (.cells #[.slice none 0 0] 25)) (.slice none 0 0) [] from by
    have e1 := blk_new (w.alloc (.cells #[.slice A n c] 25)) (.cells #[.slice none 0 0] 25)
    have e2 := blk_new ((w.alloc (.cells #[.slice A n c] 25)).alloc (.cells #[.slice none 0 0] 25)) (.cells #[.slice none 0 0] 25)
    rw [show (w.alloc (.cells #[.slice A n c] 25)).heap.size = w.heap.size + 1 by simp] at e1
    rw [show ((w.alloc (.cells #[.slice A n c] 25)).alloc (.cells #[.slice none 0 0] 25)).heap.size = w.heap.size + 1 + 1 by simp] at e2
    exact ⟨bla (bla (bla (Below.refl _ _) _) _) _, kla e1 _, e2, Kd.R_nil _ _ _ _ _⟩)
  go_loopw [10] (fun u10 wr => ∃ (k : Nat) (A1 : Option Addr) (n1 c1 : Nat), u10 = .int .i64 k ∧ k ≤ n ∧ Aside0 (Hc w wr (.slice A1 n1 c1) (l.take k))) (fun u10 _ => n - (intOf u10).toNat)
  case atStart => exact ⟨0, none, 0, 0, rfl, Nat.zero_le _, ⟨HS.out⟩⟩
  case round =>
    clear HS
    obtain ⟨k, A1, n1, c1, rfl, hkn, HQ⟩ := hrel
    by_cases hk : k < n
    · obtain ⟨x, ad, A3, c3, A4, c4, A5, c5, A6, c6, hx, hA, g0, g1, g2, g3, g4, g5, g6, h3, h4, h5, h6⟩ := obj_at (Kd.C_below HC.out HQ.out.bl) k hk
      have HXO := Aside0.mk (HOL.out x (List.mem_of_getElem? hx))
      have HX := Lib.hid hx
      have H3 := Aside0.mk h3
      have H4 := Aside0.mk h4
      have H5 := Aside0.mk h5
      have H6 := Aside0.mk h6
      subst hA
      clear hx h3 h4 h5 h6
      go_wp2_with fail
      have hbw : Below wr.heap.size wr (wr.alloc (.cells #[.int .i64 x.f0, .string x.f1, .int .i64 x.f2, .slice A3 x.f3.length c3, .slice A4 x.f4.length c4, .slice A5 x.f5.length c5, .slice A6 x.f6.length c6] 46)) := bla (Below.refl _ _) _
      obtain ⟨b5, hb5⟩ : ∃ b5, b5 = wr.heap.size := ⟨_, rfl⟩
      have hbk5 := blk_new wr (.cells #[.int .i64 x.f0, .string x.f1, .int .i64 x.f2, .slice A3 x.f3.length c3, .slice A4 x.f4.length c4, .slice A5 x.f5.length c5, .slice A6 x.f6.length c6] 46)
      have hsz5 : (wr.alloc (.cells #[.int .i64 x.f0, .string x.f1, .int .i64 x.f2, .slice A3 x.f3.length c3, .slice A4 x.f4.length c4, .slice A5 x.f5.length c5, .slice A6 x.f6.length c6] 46)).heap.size = wr.heap.size + 1 := by simp
      obtain ⟨wb, hwb⟩ : ∃ wb : World, wb = wr.alloc (.cells #[.int .i64 x.f0, .string x.f1, .int .i64 x.f2, .slice A3 x.f3.length c3, .slice A4 x.f4.length c4, .slice A5 x.f5.length c5, .slice A6 x.f6.length c6] 46) := ⟨_, rfl⟩
      rw [← hwb] at hbw hbk5 hsz5 ⊢
      have HC5 := Aside0.mk (HQ.out.below hbw)
      have HCL := Aside0.mk (fun (W' : World) (hb : Below wb.heap.size wb W') => clone108_w x A3 x.f3.length c3 A4 x.f4.length c4 A5 x.f5.length c5 A6 x.f6.length c6 W' (Kd.C_below (Kd.C_below H3.out.2 hbw) hb) (Kd.C_below (Kd.C_below H4.out.2 hbw) hb) (Kd.C_below (Kd.C_below H5.out.2 hbw) hb) (Kd.C_below (Kd.C_below H6.out.2 hbw) hb) HXO.out.1 HXO.out.2.1 HXO.out.2.2.1 HXO.out.2.2.2)
      have HQ0 := Aside0.mk (show w.heap.size + 3 ≤ wb.heap.size by have := blk_lt HC5.out.c2; omega)
      have HNN := Aside0.mk (Kd.R_lt HC5.out.hr)
      have q := (kcl HC5.out.c2 0).trans (show _ = some (.slice A1 n1 c1) from rfl)
      rw [← hb5] at hbk5 ⊢
      have k0 := (kcl hbk5 0).trans (show _ = some (.int .i64 x.f0) from rfl)
      have k1 := (kcl hbk5 1).trans (show _ = some (.string x.f1) from rfl)
      have k2 := (kcl hbk5 2).trans (show _ = some (.int .i64 x.f2) from rfl)
      have k3 := (kcl hbk5 3).trans (show _ = some (.slice A3 x.f3.length c3) from rfl)
      have k4 := (kcl hbk5 4).trans (show _ = some (.slice A4 x.f4.length c4) from rfl)
      have k5 := (kcl hbk5 5).trans (show _ = some (.slice A5 x.f5.length c5) from rfl)
      have k6 := (kcl hbk5 6).trans (show _ = some (.slice A6 x.f6.length c6) from rfl)
      clear hwb hb5 hbw hbk5 hsz5 g0 g1 g2 g3 g4 g5 g6 HQ
      have hq0 : Below wb.heap.size wb wb.drew := below_drew (Below.refl _ _)
      refine start_ (n := 8) (S := fun w' => w'.cell? ⟨w.heap.size + 1 + 1, 0, none⟩ = some (.slice A1 n1 c1) ∧ w'.cell? ⟨b5, 0, none⟩ = some (.int .i64 x.f0) ∧ w'.cell? ⟨b5, 1, none⟩ = some (.string x.f1) ∧ w'.cell? ⟨b5, 2, none⟩ = some (.int .i64 x.f2) ∧ w'.cell? ⟨b5, 3, none⟩ = some (.slice A3 x.f3.length c3) ∧ w'.cell? ⟨b5, 4, none⟩ = some (.slice A4 x.f4.length c4) ∧ w'.cell? ⟨b5, 5, none⟩ = some (.slice A5 x.f5.length c5) ∧ w'.cell? ⟨b5, 6, none⟩ = some (.slice A6 x.f6.length c6)) (ds := [5, 7]) #[false, false, false, false, false, false, false, false] (by kernel_rfl) rfl rfl ⟨B.cell_keep hq0 q, B.cell_keep hq0 k0, B.cell_keep hq0 k1, B.cell_keep hq0 k2, B.cell_keep hq0 k3, B.cell_keep hq0 k4, B.cell_keep hq0 k5, B.cell_keep hq0 k6⟩ (fun hHeld => ?_)
      generalize wb.drew = w10 at hq0 hHeld ⊢
      refine pure_ (i := 0) (N := some 14) (v := ?_) (a' := ?_) #[true, false, false, false, false, false, false, false] rfl rfl (by kernel_rfl) (fun _ _ _ h => h) (Or.inl ⟨by rfl, ?_⟩) ?_ ?_
      rotate_left
      · intro w'
        go_simp
        with_reducible rfl
      rotate_left
      · simp only [Act.put, List.setIfInBounds_toArray, List.set_cons_zero, List.set_cons_succ, i64_w, i32_w]
        rfl
      refine take_ (i := 1) (N := some 15) (v := ?_) (a' := ?_) #[true, true, false, false, false, false, false, false] rfl rfl (by kernel_rfl) (fun _ _ _ h => h) (Or.inl ⟨by rfl, ?_⟩) hHeld ?_ ?_
      rotate_left
      · rintro w' ⟨s0, s1, s2, s3, s4, s5, s6, s7⟩
        go_simp
        with_reducible rfl
      rotate_left
      · simp only [Act.put, List.setIfInBounds_toArray, List.set_cons_zero, List.set_cons_succ, i64_w, i32_w]
        rfl
      refine take_ (i := 2) (N := some 16) (v := ?_) (a' := ?_) #[true, true, true, false, false, false, false, false] rfl rfl (by kernel_rfl) (fun _ _ _ h => h) (Or.inl ⟨by rfl, ?_⟩) hHeld ?_ ?_
      rotate_left
      · rintro w' ⟨s0, s1, s2, s3, s4, s5, s6, s7⟩
        go_simp
        with_reducible rfl
      rotate_left
      · simp only [Act.put, List.setIfInBounds_toArray, List.set_cons_zero, List.set_cons_succ, i64_w, i32_w]
        rfl
      refine one_ (i := 3) (N := some 17) #[true, true, true, true, false, false, false, false] rfl rfl (by kernel_rfl) (by decide) (fun K hK => ?_)
      refine goes_ Try.func108 (by kernel_rfl) rfl #[.agg #[.int .i64 x.f0, .string x.f1, .int .i64 x.f2, .slice A3 x.f3.length c3, .slice A4 x.f4.length c4, .slice A5 x.f5.length c5, .slice A6 x.f6.length c6]] (by rfl) rfl rfl (by simp only [List.map_toArray, List.map_cons, List.map_nil]; rfl) ?_
      with_reducible refine (HCL.out _ hq0).mono ?_
      rintro e w12 ⟨v3, v4, v5, v6, rfl, hr3, hr4, hr5, hr6, hb⟩
      refine ⟨_, rfl, ?_⟩
      have hq1 := bth hq0 hq0.size hb
      refine hK.out _ _ ⟨B.cell_keep hq1 q, B.cell_keep hq1 k0, B.cell_keep hq1 k1, B.cell_keep hq1 k2, B.cell_keep hq1 k3, B.cell_keep hq1 k4, B.cell_keep hq1 k5, B.cell_keep hq1 k6⟩ (fun hHeld => ?_)
      clear hK K
      refine norm_ (a' := ?_) ?_ ?_
      rotate_left
      · show Act.put _ (some 17) _ = _
        simp only [Act.put, List.setIfInBounds_toArray, List.set_cons_zero, List.set_cons_succ, i64_w, i32_w]
        rfl
      refine one_ (i := 4) (N := some 18) #[true, true, true, true, true, false, false, false] rfl rfl (by kernel_rfl) (by decide) (fun K hK => ?_)
      refine value_ (w1 := ?_) (v := ?_) (by rfl) rfl ?_ ?_
      rotate_left 2
      · go_simp
        constructor
        · rfl
        · rfl
      have hq2 := bla hq1 (.cells #[.int .i64 x.f0, .string x.f1, .int .i64 x.f2, v3, v4, v5, v6] 46)
      refine hK.out _ _ ⟨B.cell_keep hq2 q, B.cell_keep hq2 k0, B.cell_keep hq2 k1, B.cell_keep hq2 k2, B.cell_keep hq2 k3, B.cell_keep hq2 k4, B.cell_keep hq2 k5, B.cell_keep hq2 k6⟩ (fun hHeld => ?_)
      clear hK K
      refine norm_ (a' := ?_) ?_ ?_
      rotate_left
      · show Act.put _ (some 18) _ = _
        simp only [Act.put, List.setIfInBounds_toArray, List.set_cons_zero, List.set_cons_succ, i64_w, i32_w]
        rfl
      refine last_ (i := 5) (N := some 19) #[true, true, true, true, true, true, false, false] rfl rfl (by kernel_rfl) (by decide) (fun K hK => ?_)
      have hc12 := HC5.out.below hq1
      refine Kd.R_append_step k46 (w0 := w12) w.heap.size (by rfl) (.tmp 15) (.tmp 18) 23 46 (.agg #[(.int .i64 0), (.string ⟨#[]⟩), (.int .i64 0), (.slice none 0 0), (.slice none 0 0), (.slice none 0 0), (.slice none 0 0)]) 128 rfl Try.underlying23 info46 rfl (by decide) (by omega) (.slice A1 n1 c1) (l.take k) x [.int .i64 x.f0, .string x.f1, .int .i64 x.f2, v3, v4, v5, v6] (fun k => k ≠ w.heap.size + 1 ∧ k ≠ w.heap.size + 1 + 1) (fun k => w10.heap.size ≤ k) rfl rfl ?aP ?aQ ?aF ?aO ?aB ?aS ?aL ?_
      case aP => exact new_obj hr3 hr4 hr5 hr6 hc12.bl.size (by have := HQ0.out; have := hq0.size; omega)
      case aQ => exact fun k hk => hc12.sep (by have := HQ0.out; have := hq0.size; omega) (fun k' hk' => by have := HNN.out k' hk'; have := hq0.size; omega) hk
      case aF => exact fun k hk => by have := blk_lt hc12.c2; omega
      case aO => exact hc12.hr
      case aB => exact Below.refl _ _
      case aS => have := blk_lt hc12.c2; omega
      case aL => rw [List.length_take]; omega
      intro v1 w13 ho _ hg _
      have hp := hc12.grow hg
      obtain ⟨A2, n2, c2, rfl⟩ := sform ho
      have hq2' := (kcl hp.2.2 0).trans (show _ = some (.slice A1 n1 c1) from rfl)
      have hf2' := kfz hp.2.2 0
      have HPUT := Aside0.mk (Hc.fin hp.1 hp.2.1 hp.2.2 ho)
      refine hK.out _ _ ?_
      clear hK K
      refine norm_ (a' := ?_) ?_ ?_
      rotate_left
      · show Act.put _ (some 19) _ = _
        simp only [Act.put, List.setIfInBounds_toArray, List.set_cons_zero, List.set_cons_succ, i64_w, i32_w]
        rfl
      refine pure_ (i := 6) (N := some 20) (v := ?_) (a' := ?_) #[true, true, true, true, true, true, true, false] rfl rfl (by kernel_rfl) (fun _ _ _ h => h) (Or.inl ⟨by rfl, ?_⟩) ?_ ?_
      rotate_left
      · intro w'
        go_simp
        with_reducible rfl
      rotate_left
      · simp only [Act.put, List.setIfInBounds_toArray, List.set_cons_zero, List.set_cons_succ, i64_w, i32_w]
        rfl
      refine last_ (i := 7) (N := none) #[true, true, true, true, true, true, true, true] rfl rfl (by kernel_rfl) (by decide) (fun K hK => ?_)
      refine skip_ (w1 := ?_) (by rfl) rfl ?_ ?_
      rotate_left
      · go_simp
        rfl
      refine hK.out _ _ ?_
      clear hK K
      refine done_ (by kernel_rfl) ?_
      go_wp2_with fail
      go_roundw
      case rel => exact ⟨k + 1, A2, n2, c2, by go_num, hk, ⟨by rw [take_snoc46 HX.out]; exact HPUT.out⟩⟩
      case measure => simp [intOf]; omega
    · have q2 := (kcl HQ.out.c2 0).trans (show _ = some (.slice A1 n1 c1) from rfl)
      have q1 := (kcl HQ.out.c1 0).trans (show _ = some (.slice none 0 0) from rfl)
      have qf := kfz HQ.out.c1 0
      have hkn' : l.take k = l := List.take_of_length_le (by have := HNL.out; omega)
      have HT := Lib.hid hkn'
      clear hkn'
      go_wp2_with fail
      refine bodyPost_ret (v := .agg #[.slice A1 n1 c1]) (B.res_c rfl _ _ (w.heap.size + 1) 25 _ (0, 0) _ rfl (blk_put HQ.out.c1 0 _ rfl) Try.underlying25 rfl rfl) rfl ⟨_, rfl, ?_, HQ.out.bl.setCell (show w.heap.size ≤ w.heap.size + 1 by omega) _⟩
      have h := Kd.R_far HQ.out.hr (p := ⟨w.heap.size + 1, 0, none⟩) (fun k hk => hk.1) (.slice A1 n1 c1)
      rw [HT.out] at h
      exact Kd.R_mono h (fun _ _ => trivial)
end Go.Proofs.Ytgddblpgbkgpcaa.PR
namespace Go.Proofs.Ytgddblpgbkgpcaa.PR
set_option linter.unusedVariables false
set_option linter.unusedSimpArgs false
open Go.RowKit Go.Proofs.YtgddblpgbkgpcaaW.PrintWords Go.Proofs.YtgddblpgbkgpcaaW.PrintLast Go.Proofs.YtgddblpgbkgpcaaW.PrintMore
set_option linter.unusedVariables false
set_option linter.unusedSimpArgs false
def swk (s : List Bool) : Nat → List S46 → List S46
  | 0, l => l
  | k + 1, l => if k < 19 ∨ s[k]? = some true then swk s k l else (swk s k l).set k z46
theorem swk_len (s : List Bool) : ∀ (k : Nat) (l : List S46), (swk s k l).length = l.length
  | 0, _ => rfl
  | k + 1, l => by rw [swk]; split <;> simp [swk_len s k l]
theorem swk_get (s : List Bool) (l : List S46) : ∀ (k i : Nat), i < l.length → (swk s k l)[i]? = if i < k ∧ ¬ (i < 19 ∨ s[i]? = some true) then some z46 else l[i]?
  | 0, i, h => by simp [swk]
  | k + 1, i, h => by
    rw [swk]
    have ih := swk_get s l k i h
    by_cases hc : k < 19 ∨ s[k]? = some true
    · rw [if_pos hc, ih]
      by_cases hik : i = k
      · subst hik
        rw [if_neg (by omega), if_neg (by rintro ⟨_, h2⟩; exact h2 hc)]
      · by_cases h3 : i < k
        · simp [h3, show i < k + 1 by omega]
        · simp [h3, show ¬ i < k + 1 by omega]
    · rw [if_neg hc, List.getElem?_set]
      by_cases hik : k = i
      · subst hik
        rw [if_pos rfl, if_pos (by rw [swk_len]; exact h), if_pos ⟨by omega, hc⟩]
      · rw [if_neg hik, ih]
        by_cases h3 : i < k
        · simp [h3, show i < k + 1 by omega]
        · simp [h3, show ¬ i < k + 1 by omega]
theorem elem_zero {W : World} {base g n cap : Nat} {ok : Nat → Prop} {l : List S46} (h : k46.R 46 W base ok (.slice (some ⟨g, 0, none⟩) n cap) l) (i : Nat) (hi : i < n) :
    (∃ u0 u1 u2 u3 u4 u5 u6, W.cell? ⟨g, i * 7, none⟩ = some u0 ∧ W.cell? ⟨g, i * 7 + 1, none⟩ = some u1 ∧ W.cell? ⟨g, i * 7 + 2, none⟩ = some u2 ∧ W.cell? ⟨g, i * 7 + 3, none⟩ = some u3 ∧ W.cell? ⟨g, i * 7 + 4, none⟩ = some u4 ∧ W.cell? ⟨g, i * 7 + 5, none⟩ = some u5 ∧ W.cell? ⟨g, i * 7 + 6, none⟩ = some u6) ∧
    (W.frozen? ⟨g, i * 7, none⟩ = false ∧ W.frozen? ⟨g, i * 7 + 1, none⟩ = false ∧ W.frozen? ⟨g, i * 7 + 2, none⟩ = false ∧ W.frozen? ⟨g, i * 7 + 3, none⟩ = false ∧ W.frozen? ⟨g, i * 7 + 4, none⟩ = false ∧ W.frozen? ⟨g, i * 7 + 5, none⟩ = false ∧ W.frozen? ⟨g, i * 7 + 6, none⟩ = false) ∧
    k46.R 46 (((((((W.setCell ⟨g, i * 7, none⟩ (.int .i64 0)).setCell ⟨g, i * 7 + 1, none⟩ (.string ⟨#[]⟩)).setCell ⟨g, i * 7 + 2, none⟩ (.int .i64 0)).setCell ⟨g, i * 7 + 3, none⟩ (.slice none 0 0)).setCell ⟨g, i * 7 + 4, none⟩ (.slice none 0 0)).setCell ⟨g, i * 7 + 5, none⟩ (.slice none 0 0)).setCell ⟨g, i * 7 + 6, none⟩ (.slice none 0 0)) base ok (.slice (some ⟨g, 0, none⟩) n cap) (l.set i z46) ∧ W.grownBy (((((((W.setCell ⟨g, i * 7, none⟩ (.int .i64 0)).setCell ⟨g, i * 7 + 1, none⟩ (.string ⟨#[]⟩)).setCell ⟨g, i * 7 + 2, none⟩ (.int .i64 0)).setCell ⟨g, i * 7 + 3, none⟩ (.slice none 0 0)).setCell ⟨g, i * 7 + 4, none⟩ (.slice none 0 0)).setCell ⟨g, i * 7 + 5, none⟩ (.slice none 0 0)).setCell ⟨g, i * 7 + 6, none⟩ (.slice none 0 0)) (some g) := by
  obtain ⟨hn, hnc, _⟩ := Kd.R_reads' h
  obtain ⟨cs, hcl, hM, hc, hf⟩ := Kd.R_elem h z46 (i : Int) (by omega) (by omega)
  have e7 : k46.sz = 7 := rfl
  have hs := Kd.R_seg (j := 0) (seg := [.int .i64 0, .string ⟨#[]⟩, .int .i64 0, .slice none 0 0, .slice none 0 0, .slice none 0 0, .slice none 0 0]) (x' := z46) (okp := fun k => ok k ∧ k ≠ g) h (i : Int) (by omega) (by omega) hcl hc (by simp [e7]) (by
      have := k46_mkM W base (fun k => ok k ∧ k ≠ g) z46 (Kd.R_nil _ _ _ _ _) (Kd.R_nil _ _ _ _ _) (Kd.R_nil _ _ _ _ _) (Kd.R_nil _ _ _ _ _)
      simpa [z46, List.drop_eq_nil_of_le (show cs.length ≤ 7 by omega)] using this) (fun k hk => hk)
  rw [e7, show (i : Int).toNat = i from rfl, Nat.add_zero] at hs
  obtain ⟨v3, v4, v5, v6, rfl, _⟩ := k46_openM hM
  rw [e7, show (i : Int).toNat = i from rfl] at hc hf
  exact ⟨⟨_, _, _, _, _, _, _, hc 0 _ rfl, hc 1 _ rfl, hc 2 _ rfl, hc 3 _ rfl, hc 4 _ rfl, hc 5 _ rfl, hc 6 _ rfl⟩, ⟨hf 0, hf 1, hf 2, hf 3, hf 4, hf 5, hf 6⟩, hs⟩
def SPost (w : World) (base : Nat) (v : Value) (l : List S46) (e : Ending) (w' : World) : Prop := e = .returned (.tuple #[]) ∧ k46.R 46 w' base (fun _ => True) v l ∧ Below base w w'
set_option maxRecDepth 100000 in
set_option maxHeartbeats 40000000 in
theorem sweep67_w (A : Option Addr) (n c : Nat) (A1 : Option Addr) (m c1 : Nat) (l : List S46) (roots : List S35) (s : List Bool) (base : Nat) (w : World) (hb : base ≤ w.heap.size) (hC : k46.R 46 w base (fun _ => True) (.slice A n c) l) (hR : Kd.C k35 w A1 m roots) (hn0 : 0 < n) (hn6 : n ≤ 1000) (hi : ∀ o ∈ l, inN n (refs o)) (hl6 : ∀ o ∈ l, o.f3.length ≤ 100 ∧ o.f4.length ≤ 100 ∧ o.f6.length ≤ 100) (hr : inN n roots) (hm : m ≤ 1000) (hsl : s.length = n) (hst : ∀ i : Nat, s[i]? = some true ↔ Rc l roots i) :
    Calls Try.prog 67 #[.agg #[.slice A n c], .slice A1 m c1] w (SPost w base (.slice A n c) (swk s n l)) := by
  obtain ⟨gb, cap, e1, hgb, hgl, hgt⟩ := Kd.R_form hC (by have := (Kd.R_reads' hC).1; omega)
  injection e1 with e1 e2 e3
  subst e1
  have hnl := (Kd.R_reads' hC).1
  have HNL := Lib.hid hnl
  have HR := Aside0.mk hC
  have HSL := Lib.hid hsl
  have HW := Aside0.mk (fun (w1 : World) (hb : Below w.heap.size w w1) => reach_ok (some ⟨gb, 0, none⟩) n c A1 m c1 l roots w1 (Kd.C_below (R_C hC) hb) (Kd.C_below hR hb) hn0 hn6 hi hl6 hr hm)
  have HST := Aside0.mk hst
  have HBS := Aside0.mk hb
  have HGB := Aside0.mk (show base ≤ gb ∧ gb < w.heap.size from ⟨hgb, hgl⟩)
  clear e2 e3 hnl hC hR hi hl6 hr hsl hst hb hgb hgl hgt
  go_enter Try.func67, Try.ntmps67
  have hb1 : Below w.heap.size w (w.alloc (.cells #[.slice (some ⟨gb, 0, none⟩) n c] 25)) := bla (Below.refl _ _) _
  go_wp2_with (first
    | (go_at_call 54; (refine (HW.out _ hb1).mono ?_; rintro e w3 ⟨v3, s3, rfl, hr3, hl3, ht3, hb3⟩; have e3 : s = s3 := (same_s (by rw [hl3, ← HNL.out, HSL.out]) (fun i => (ht3 i).trans (HST.out i).symm)).symm; subst e3; obtain ⟨g3, cap3, rfl, hg30, hg31, hg32⟩ := Kd.R_form hr3 (by have := HSL.out; omega); rw [HSL.out] at hr3 ⊢; have HB4 := Aside0.mk (bth hb1 hb1.size hb3); have HR3 := Aside0.mk hr3; have HBX := Aside0.mk (kbw (blk_new w (.cells #[.slice (some ⟨gb, 0, none⟩) n c] 25)) hb3); have HG3 := Aside0.mk (show w.heap.size < g3 by simp at hg30; omega); clear hr3 hl3 ht3 hb3)))
  go_loopg [10] n (fun kq u10 wr => ∃ (k : Nat), u10 = .int .i64 k ∧ k ≤ n ∧ kq = n - k ∧ Aside0 (k46.R 46 wr base (fun k => k ≠ g3 ∧ k ≠ w.heap.size) (.slice (some ⟨gb, 0, none⟩) n c) (swk s k l) ∧ Kd.bool.R 4 wr (w.heap.size + 1) (fun _ => True) (.slice (some ⟨g3, 0, none⟩) n cap3) s ∧ Below base w wr ∧ wr.heap[w.heap.size]? = some (.cells #[.slice (some ⟨gb, 0, none⟩) n c] 25 (0, 0)) ∧ w.heap.size < wr.heap.size))
  case atStart => exact ⟨0, rfl, Nat.zero_le _, rfl, ⟨Kd.R_mono (Kd.R_below (Kd.R_bound HR.out) HB4.out) (fun k hk => by have := hk.2.2.1; have := HG3.out; omega), Kd.R_lower HR3.out (by simp), HB4.out.mono HBS.out, HBX.out, blk_lt HBX.out⟩⟩
  case round =>
    clear HBX HB4 HR3
    obtain ⟨k, rfl, hk, rfl, HQ⟩ := hrel
    by_cases hkn : k < n
    · have hbc := (Kd.R_celln false HQ.out.2.1 (k : Int) (by omega) (by omega)).1
      rw [show (k : Int).toNat = k from rfl] at hbc
      have hsk : s[k]? = some (rdOf false s (k : Int)) := rdOf_at (s := s) (i := (k : Int)) (by have := HSL.out; simp; omega)
      have hbx := (kcl HQ.out.2.2.2.1 0).trans (show _ = some (.slice (some ⟨gb, 0, none⟩) n c) from rfl)
      cases hbk : rdOf false s (k : Int)
      · rw [hbk] at hbc hsk
        by_cases h19 : k < 19
        · have HI := Lib.hid (show swk s (k + 1) l = swk s k l by rw [swk, if_pos (.inl h19)])
          have hge : ¬ (19 : Int) ≤ (k : Int) := by omega
          clear hsk hbk
          go_wp2
          go_roundg (n - (k + 1))
          case measure => omega
          case rel => exact ⟨k + 1, by go_num, by omega, rfl, ⟨by rw [HI.out]; exact HQ.out.1, HQ.out.2⟩⟩
        · have HI := Lib.hid (show swk s (k + 1) l = (swk s k l).set k z46 by rw [swk, hsk, if_neg (by simp; omega)])
          have hge : (19 : Int) ≤ (k : Int) := by omega
          obtain ⟨⟨u0, u1, u2, u3, u4, u5, u6, d0, d1, d2, d3, d4, d5, d6⟩, ⟨f0, f1, f2, f3, f4, f5, f6⟩, hR2, hg2⟩ := elem_zero HQ.out.1 k hkn
          have HR2 := Aside0.mk hR2
          have HG2 := Aside0.mk hg2
          clear hsk hbk hR2 hg2
          go_wp2
          have HGB2 := HGB.out
          go_roundg (n - (k + 1))
          case measure => omega
          case rel => exact ⟨k + 1, by go_num, by omega, rfl, ⟨by rw [HI.out]; exact HR2.out, Kd.R_mono (Kd.R_grown (Kd.R_bound HQ.out.2.1) HG2.out (fun k hk e => by injection e with e; have := hk.2.1; omega)) (fun _ _ => trivial), pw_below_grown HQ.out.2.2.1 _ (by have := HBS.out; have := HQ.out.2.2.2.2; omega) HG2.out (fun k hk => by injection hk with hk; omega), kgr HQ.out.2.2.2.1 HG2.out (fun e => by injection e with e; omega), Nat.lt_of_lt_of_le HQ.out.2.2.2.2 HG2.out.size⟩⟩
      · rw [hbk] at hbc hsk
        have HI := Lib.hid (show swk s (k + 1) l = swk s k l by rw [swk, hsk, if_pos (.inr rfl)])
        clear hsk hbk
        go_wp2
        go_roundg (n - (k + 1))
        case measure => omega
        case rel => exact ⟨k + 1, by go_num, by omega, rfl, ⟨by rw [HI.out]; exact HQ.out.1, HQ.out.2⟩⟩
    · have HKN := Lib.hid (show k = n by omega)
      go_wp2
      go_end0
      exact ⟨rfl, by have h := HQ.out.1; have e : swk s k l = swk s n l := (by rw [HKN.out]); rw [e] at h; exact Kd.R_mono h (fun _ _ => trivial), HQ.out.2.2.1⟩
end Go.Proofs.Ytgddblpgbkgpcaa.PR
namespace Go.Proofs.Ytgddblpgbkgpcaa.PR
set_option linter.unusedVariables false
set_option linter.unusedSimpArgs false
open Go.RowKit Go.Proofs.YtgddblpgbkgpcaaW.PrintWords Go.Proofs.YtgddblpgbkgpcaaW.PrintLast Go.Proofs.YtgddblpgbkgpcaaW.PrintMore
set_option linter.unusedVariables false
set_option linter.unusedSimpArgs false
theorem cp_step {w Wi t : World} {b1 : Nat} {cs zs : Array Value} {α : Type} {d : Kd α} {e : Nat} {v : Value} {xs : List α} (hb : b1 = w.heap.size) (hw : Below w.heap.size w Wi) (c1 : Wi.heap[b1]? = some (.cells cs 46 (0, 0))) (c2 : Wi.heap[b1 + 1]? = some (.cells zs 46 (0, 0))) (ht : Below Wi.heap.size Wi t) (j : Nat) (hr : d.R e t Wi.heap.size (fun _ => True) v xs) (V : World) (hV : V = t.setCell ⟨b1, j, none⟩ v) :
    Below w.heap.size w V ∧ V.heap[b1 + 1]? = some (.cells zs 46 (0, 0)) ∧ d.R e V w.heap.size (fun k => k ≠ b1 ∧ k ≠ b1 + 1) v xs ∧ (∀ {β : Type} {d' : Kd β} {e' : Nat} {v' : Value} {ys : List β}, d'.R e' Wi w.heap.size (fun k => k ≠ b1 ∧ k ≠ b1 + 1) v' ys → d'.R e' V w.heap.size (fun k => k ≠ b1 ∧ k ≠ b1 + 1) v' ys) := by
  subst hV
  have l2 := blk_lt c2
  have h1 := hw.size
  refine ⟨(bst hw ht).setCell (by simp; omega) _, blk_far (kbw c2 ht) (by simp) _, ?_, fun h => ?_⟩
  · exact Kd.R_mono (Kd.R_lower (Kd.R_far (Kd.R_bound hr) (fun k hk => by have := hk.2.1; simp; omega) _) h1) (fun k hk => by have := hk.2.1; omega)
  · exact Kd.R_far (Kd.R_below h ht) (fun k hk => hk.1) _
set_option maxRecDepth 100000 in
set_option maxHeartbeats 40000000 in
theorem copy122_w (x : S46) (A3 : Option Addr) (n3 c3 : Nat) (A4 : Option Addr) (n4 c4 : Nat) (A5 : Option Addr) (n5 c5 : Nat) (A6 : Option Addr) (n6 c6 : Nat) (w : World)
    (h3 : Kd.C k35 w A3 n3 x.f3) (h4 : Kd.C k35 w A4 n4 x.f4) (h5 : Kd.C Kd.string w A5 n5 x.f5) (h6 : Kd.C k35 w A6 n6 x.f6) (l3 : n3 ≤ 1000) (l4 : n4 ≤ 1000) (l5 : n5 ≤ 1000) (l6 : n6 ≤ 1000) :
    Calls Try.prog 122 #[.agg #[.int .i64 x.f0, .string x.f1, .int .i64 x.f2, .slice A3 n3 c3, .slice A4 n4 c4, .slice A5 n5 c5, .slice A6 n6 c6]] w (OPost w x) := by
  have hwb : Below w.heap.size w ((w.alloc (.cells #[.int .i64 x.f0, .string x.f1, .int .i64 x.f2, .slice A3 n3 c3, .slice A4 n4 c4, .slice A5 n5 c5, .slice A6 n6 c6] 46)).alloc (.cells #[.int .i64 0, .string ⟨#[]⟩, .int .i64 0, .slice none 0 0, .slice none 0 0, .slice none 0 0, .slice none 0 0] 46)) := bla (bla (Below.refl _ _) _) _
  obtain ⟨b1, hb1⟩ : ∃ b1, b1 = w.heap.size := ⟨_, rfl⟩
  obtain ⟨Wb, hWb⟩ : ∃ Wb : World, Wb = ((w.alloc (.cells #[.int .i64 x.f0, .string x.f1, .int .i64 x.f2, .slice A3 n3 c3, .slice A4 n4 c4, .slice A5 n5 c5, .slice A6 n6 c6] 46)).alloc (.cells #[.int .i64 0, .string ⟨#[]⟩, .int .i64 0, .slice none 0 0, .slice none 0 0, .slice none 0 0, .slice none 0 0] 46)) := ⟨_, rfl⟩
  have C0 := Aside0.mk (show Wb.heap[b1]? = some (.cells #[.int .i64 x.f0, .string x.f1, .int .i64 x.f2, .slice A3 n3 c3, .slice A4 n4 c4, .slice A5 n5 c5, .slice A6 n6 c6] 46 (0, 0)) ∧ Wb.heap[b1 + 1]? = some (.cells #[.int .i64 0, .string ⟨#[]⟩, .int .i64 0, .slice none 0 0, .slice none 0 0, .slice none 0 0, .slice none 0 0] 46 (0, 0)) from by
    rw [hWb, hb1]
    refine ⟨kla (blk_new _ _) _, ?_⟩
    have h := blk_new (w.alloc (.cells #[.int .i64 x.f0, .string x.f1, .int .i64 x.f2, .slice A3 n3 c3, .slice A4 n4 c4, .slice A5 n5 c5, .slice A6 n6 c6] 46)) (.cells #[.int .i64 0, .string ⟨#[]⟩, .int .i64 0, .slice none 0 0, .slice none 0 0, .slice none 0 0, .slice none 0 0] 46)
    rw [show (w.alloc (.cells #[.int .i64 x.f0, .string x.f1, .int .i64 x.f2, .slice A3 n3 c3, .slice A4 n4 c4, .slice A5 n5 c5, .slice A6 n6 c6] 46)).heap.size = w.heap.size + 1 by simp] at h
    exact h)
  rw [← hWb] at hwb
  replace h3 := Aside0.mk h3
  replace h4 := Aside0.mk h4
  replace h5 := Aside0.mk h5
  replace h6 := Aside0.mk h6
  have HW0 := Aside0.mk hwb
  have HW := Lib.hid hWb
  have HB := Lib.hid hb1
  clear hwb hWb hb1
  go_enter Try.func122, Try.ntmps122
  go_upto_region 1 with (fail)
  rw [← HW.out, ← HB.out]
  have k3 := (kcl C0.out.1 3).trans (show _ = some (.slice A3 n3 c3) from rfl)
  have kx3 := k3
  have f3 := kfz C0.out.1 3
  go_upto_region 2 with (first | ((with_reducible refine gate_dst (N := 3) rfl ?_); refine Kd.R_lit k35 _ 35 ?hg (N := 3) ?hd (xs := ([] : List S35)) (inner := []) (ok := fun _ => True) (okp := fun _ => True) ?hr ?hp (fun _ hk => hk) trivial (Below.refl _ _) (Nat.le_refl _) (by simp) ?_; (case hd => rfl); (case hg => rfl); (case hr => first | (go_simp; done) | (go_simp; rfl)); (case hp => exact (Reps.none _ _)); intro v3 y3 ho3 hb hg_ hnew_; clear hg_ hnew_; have kz3 := B.cell_keep hb k3; have HO3 := Aside0.mk ho3; have HB3 := Aside0.mk hb; clear ho3 hb k3) | ((with_reducible refine gate_builtin (b := .append) (xs := #[.tmp 3, .tmp 5]) rfl ?_); at_builtin; refine Kd.R_append_rows k35 (w0 := Wb) Wb.heap.size rfl (.tmp 3) (.tmp 5) 26 35 (.agg #[(.int .i64 0), (.string ⟨#[]⟩), (.int .i64 0)]) 32 rfl Try.underlying26 info35 rfl (by decide) (by omega) v3 [] x.f3 _ _ _ (fun _ => True) (fun _ => False) rfl rfl HO3.out (Kd.C_below (Kd.C_below h3.out HW0.out) HB3.out) (fun _ _ h => h) (fun _ h => h.elim) (fun _ _ => trivial) HB3.out HB3.out.size (by simp; omega) ?_; intro u3 t3 ho hb hg hat; rw [List.nil_append] at ho; obtain ⟨B3, m3, d3, rfl⟩ := sform ho; have ky3 := B.cell_keep hb kx3; have kf3 := kfz (kbw C0.out.1 hb) 3; have HR3 := Aside0.mk ho; have HT3 := Aside0.mk hb; clear ho hb hg hat kx3 kz3 f3))
  obtain ⟨V0, hV0⟩ : ∃ V0 : World, V0 = t3.setCell ⟨b1, 3, none⟩ (.slice B3 m3 d3) := ⟨_, rfl⟩
  rw [← hV0]
  obtain ⟨s1, s2, s3, s4⟩ := cp_step HB.out HW0.out C0.out.1 C0.out.2 HT3.out 3 HR3.out V0 hV0
  have C1 := Aside0.mk (show V0.heap[b1]? = some (.cells #[.int .i64 x.f0, .string x.f1, .int .i64 x.f2, .slice B3 m3 d3, .slice A4 n4 c4, .slice A5 n5 c5, .slice A6 n6 c6] 46 (0, 0)) ∧ V0.heap[b1 + 1]? = some (.cells #[.int .i64 0, .string ⟨#[]⟩, .int .i64 0, .slice none 0 0, .slice none 0 0, .slice none 0 0, .slice none 0 0] 46 (0, 0)) from ⟨by rw [hV0]; exact blk_put (kbw C0.out.1 HT3.out) 3 _ rfl, s2⟩)
  have HW1 := Aside0.mk s1
  have G3 := Aside0.mk s3
  clear s1 s2 s3 s4 hV0 HR3 HT3 HO3 HB3 ky3 kf3
  have k4 := (kcl C1.out.1 4).trans (show _ = some (.slice A4 n4 c4) from rfl)
  have kx4 := k4
  have f4 := kfz C1.out.1 4
  go_upto_region 3 with (first | ((with_reducible refine gate_dst (N := 8) rfl ?_); refine Kd.R_lit k35 _ 35 ?hg (N := 8) ?hd (xs := ([] : List S35)) (inner := []) (ok := fun _ => True) (okp := fun _ => True) ?hr ?hp (fun _ hk => hk) trivial (Below.refl _ _) (Nat.le_refl _) (by simp) ?_; (case hd => rfl); (case hg => rfl); (case hr => first | (go_simp; done) | (go_simp; rfl)); (case hp => exact (Reps.none _ _)); intro v4 y4 ho3 hb hg_ hnew_; clear hg_ hnew_; have kz4 := B.cell_keep hb k4; have HO4 := Aside0.mk ho3; have HB4 := Aside0.mk hb; clear ho3 hb k4) | ((with_reducible refine gate_builtin (b := .append) (xs := #[.tmp 8, .tmp 10]) rfl ?_); at_builtin; refine Kd.R_append_rows k35 (w0 := V0) V0.heap.size rfl (.tmp 8) (.tmp 10) 26 35 (.agg #[(.int .i64 0), (.string ⟨#[]⟩), (.int .i64 0)]) 32 rfl Try.underlying26 info35 rfl (by decide) (by omega) v4 [] x.f4 _ _ _ (fun _ => True) (fun _ => False) rfl rfl HO4.out (Kd.C_below (Kd.C_below h4.out HW1.out) HB4.out) (fun _ _ h => h) (fun _ h => h.elim) (fun _ _ => trivial) HB4.out HB4.out.size (by simp; omega) ?_; intro u4 t4 ho hb hg hat; rw [List.nil_append] at ho; obtain ⟨B4, m4, d4, rfl⟩ := sform ho; have ky4 := B.cell_keep hb kx4; have kf4 := kfz (kbw C1.out.1 hb) 4; have HR4 := Aside0.mk ho; have HT4 := Aside0.mk hb; clear ho hb hg hat kx4 kz4 f4))
  obtain ⟨V1, hV1⟩ : ∃ V1 : World, V1 = t4.setCell ⟨b1, 4, none⟩ (.slice B4 m4 d4) := ⟨_, rfl⟩
  rw [← hV1]
  obtain ⟨s1, s2, s3, s4⟩ := cp_step HB.out HW1.out C1.out.1 C1.out.2 HT4.out 4 HR4.out V1 hV1
  have C2 := Aside0.mk (show V1.heap[b1]? = some (.cells #[.int .i64 x.f0, .string x.f1, .int .i64 x.f2, .slice B3 m3 d3, .slice B4 m4 d4, .slice A5 n5 c5, .slice A6 n6 c6] 46 (0, 0)) ∧ V1.heap[b1 + 1]? = some (.cells #[.int .i64 0, .string ⟨#[]⟩, .int .i64 0, .slice none 0 0, .slice none 0 0, .slice none 0 0, .slice none 0 0] 46 (0, 0)) from ⟨by rw [hV1]; exact blk_put (kbw C1.out.1 HT4.out) 4 _ rfl, s2⟩)
  have HW2 := Aside0.mk s1
  have G4 := Aside0.mk s3
  replace G3 := Aside0.mk (s4 G3.out)
  clear s1 s2 s3 s4 hV1 HR4 HT4 HO4 HB4 ky4 kf4 C1 HW1
  have k6 := (kcl C2.out.1 6).trans (show _ = some (.slice A6 n6 c6) from rfl)
  have kx6 := k6
  have f6 := kfz C2.out.1 6
  go_upto_region 4 with (first | ((with_reducible refine gate_dst (N := 13) rfl ?_); refine Kd.R_lit k35 _ 35 ?hg (N := 13) ?hd (xs := ([] : List S35)) (inner := []) (ok := fun _ => True) (okp := fun _ => True) ?hr ?hp (fun _ hk => hk) trivial (Below.refl _ _) (Nat.le_refl _) (by simp) ?_; (case hd => rfl); (case hg => rfl); (case hr => first | (go_simp; done) | (go_simp; rfl)); (case hp => exact (Reps.none _ _)); intro v6 y6 ho3 hb hg_ hnew_; clear hg_ hnew_; have kz6 := B.cell_keep hb k6; have HO6 := Aside0.mk ho3; have HB6 := Aside0.mk hb; clear ho3 hb k6) | ((with_reducible refine gate_builtin (b := .append) (xs := #[.tmp 13, .tmp 15]) rfl ?_); at_builtin; refine Kd.R_append_rows k35 (w0 := V1) V1.heap.size rfl (.tmp 13) (.tmp 15) 26 35 (.agg #[(.int .i64 0), (.string ⟨#[]⟩), (.int .i64 0)]) 32 rfl Try.underlying26 info35 rfl (by decide) (by omega) v6 [] x.f6 _ _ _ (fun _ => True) (fun _ => False) rfl rfl HO6.out (Kd.C_below (Kd.C_below h6.out HW2.out) HB6.out) (fun _ _ h => h) (fun _ h => h.elim) (fun _ _ => trivial) HB6.out HB6.out.size (by simp; omega) ?_; intro u6 t6 ho hb hg hat; rw [List.nil_append] at ho; obtain ⟨B6, m6, d6, rfl⟩ := sform ho; have ky6 := B.cell_keep hb kx6; have kf6 := kfz (kbw C2.out.1 hb) 6; have HR6 := Aside0.mk ho; have HT6 := Aside0.mk hb; clear ho hb hg hat kx6 kz6 f6))
  obtain ⟨V2, hV2⟩ : ∃ V2 : World, V2 = t6.setCell ⟨b1, 6, none⟩ (.slice B6 m6 d6) := ⟨_, rfl⟩
  rw [← hV2]
  obtain ⟨s1, s2, s3, s4⟩ := cp_step HB.out HW2.out C2.out.1 C2.out.2 HT6.out 6 HR6.out V2 hV2
  have C3 := Aside0.mk (show V2.heap[b1]? = some (.cells #[.int .i64 x.f0, .string x.f1, .int .i64 x.f2, .slice B3 m3 d3, .slice B4 m4 d4, .slice A5 n5 c5, .slice B6 m6 d6] 46 (0, 0)) ∧ V2.heap[b1 + 1]? = some (.cells #[.int .i64 0, .string ⟨#[]⟩, .int .i64 0, .slice none 0 0, .slice none 0 0, .slice none 0 0, .slice none 0 0] 46 (0, 0)) from ⟨by rw [hV2]; exact blk_put (kbw C2.out.1 HT6.out) 6 _ rfl, s2⟩)
  have HW3 := Aside0.mk s1
  have G6 := Aside0.mk s3
  replace G3 := Aside0.mk (s4 G3.out)
  replace G4 := Aside0.mk (s4 G4.out)
  clear s1 s2 s3 s4 hV2 HR6 HT6 HO6 HB6 ky6 kf6 C2 HW2
  have k5 := (kcl C3.out.1 5).trans (show _ = some (.slice A5 n5 c5) from rfl)
  have kx5 := k5
  have f5 := kfz C3.out.1 5
  go_upto_region 5 with (first | ((with_reducible refine gate_dst (N := 18) rfl ?_); refine Kd.R_lit Kd.string _ 9 ?hg (N := 18) ?hd (xs := ([] : List ByteArray)) (inner := []) (ok := fun _ => True) (okp := fun _ => True) ?hr ?hp (fun _ hk => hk) trivial (Below.refl _ _) (Nat.le_refl _) (by simp) ?_; (case hd => rfl); (case hg => rfl); (case hr => first | (go_simp; done) | (go_simp; rfl)); (case hp => exact (Reps.none _ _)); intro v5 y5 ho3 hb hg_ hnew_; clear hg_ hnew_; have kz5 := B.cell_keep hb k5; have HO5 := Aside0.mk ho3; have HB5 := Aside0.mk hb; clear ho3 hb k5) | ((with_reducible refine gate_builtin (b := .append) (xs := #[.tmp 18, .tmp 20]) rfl ?_); at_builtin; refine Kd.R_append_rows Kd.string (w0 := V2) V2.heap.size rfl (.tmp 18) (.tmp 20) 44 9 (.string ⟨#[]⟩) 16 rfl Try.underlying44 info9 rfl (by decide) (by omega) v5 [] x.f5 _ _ _ (fun _ => True) (fun _ => False) rfl rfl HO5.out (Kd.C_below (Kd.C_below h5.out HW3.out) HB5.out) (fun _ _ h => h) (fun _ h => h.elim) (fun _ _ => trivial) HB5.out HB5.out.size (by simp; omega) ?_; intro u5 t5 ho hb hg hat; rw [List.nil_append] at ho; obtain ⟨B5, m5, d5, rfl⟩ := sform ho; have ky5 := B.cell_keep hb kx5; have kf5 := kfz (kbw C3.out.1 hb) 5; have HR5 := Aside0.mk ho; have HT5 := Aside0.mk hb; clear ho hb hg hat kx5 kz5 f5))
  obtain ⟨V3, hV3⟩ : ∃ V3 : World, V3 = t5.setCell ⟨b1, 5, none⟩ (.slice B5 m5 d5) := ⟨_, rfl⟩
  rw [← hV3]
  obtain ⟨s1, s2, s3, s4⟩ := cp_step HB.out HW3.out C3.out.1 C3.out.2 HT5.out 5 HR5.out V3 hV3
  have C4 := Aside0.mk (show V3.heap[b1]? = some (.cells #[.int .i64 x.f0, .string x.f1, .int .i64 x.f2, .slice B3 m3 d3, .slice B4 m4 d4, .slice B5 m5 d5, .slice B6 m6 d6] 46 (0, 0)) ∧ V3.heap[b1 + 1]? = some (.cells #[.int .i64 0, .string ⟨#[]⟩, .int .i64 0, .slice none 0 0, .slice none 0 0, .slice none 0 0, .slice none 0 0] 46 (0, 0)) from ⟨by rw [hV3]; exact blk_put (kbw C3.out.1 HT5.out) 5 _ rfl, s2⟩)
  have HW4 := Aside0.mk s1
  have G5 := Aside0.mk s3
  replace G3 := Aside0.mk (s4 G3.out)
  replace G4 := Aside0.mk (s4 G4.out)
  replace G6 := Aside0.mk (s4 G6.out)
  clear s1 s2 s3 s4 hV3 HR5 HT5 HO5 HB5 ky5 kf5 C3 HW3
  have p10 := (kcl C4.out.1 0).trans (show _ = some (.int .i64 x.f0) from rfl)
  have p11 := (kcl C4.out.1 1).trans (show _ = some (.string x.f1) from rfl)
  have p12 := (kcl C4.out.1 2).trans (show _ = some (.int .i64 x.f2) from rfl)
  have p13 := (kcl C4.out.1 3).trans (show _ = some (.slice B3 m3 d3) from rfl)
  have p14 := (kcl C4.out.1 4).trans (show _ = some (.slice B4 m4 d4) from rfl)
  have p15 := (kcl C4.out.1 5).trans (show _ = some (.slice B5 m5 d5) from rfl)
  have p16 := (kcl C4.out.1 6).trans (show _ = some (.slice B6 m6 d6) from rfl)
  have p20 := (kcl C4.out.2 0).trans (show _ = some (.int .i64 0) from rfl)
  have q20 := kfz C4.out.2 0
  have p21 := (kcl C4.out.2 1).trans (show _ = some (.string ⟨#[]⟩) from rfl)
  have q21 := kfz C4.out.2 1
  have p22 := (kcl C4.out.2 2).trans (show _ = some (.int .i64 0) from rfl)
  have q22 := kfz C4.out.2 2
  have p23 := (kcl C4.out.2 3).trans (show _ = some (.slice none 0 0) from rfl)
  have q23 := kfz C4.out.2 3
  have p24 := (kcl C4.out.2 4).trans (show _ = some (.slice none 0 0) from rfl)
  have q24 := kfz C4.out.2 4
  have p25 := (kcl C4.out.2 5).trans (show _ = some (.slice none 0 0) from rfl)
  have q25 := kfz C4.out.2 5
  have p26 := (kcl C4.out.2 6).trans (show _ = some (.slice none 0 0) from rfl)
  have q26 := kfz C4.out.2 6
  go_wp2_with fail
  refine bodyPost_ret (v := .agg #[.int .i64 x.f0, .string x.f1, .int .i64 x.f2, .slice B3 m3 d3, .slice B4 m4 d4, .slice B5 m5 d5, .slice B6 m6 d6]) (B.res_c rfl _ _ (b1 + 1) 46 _ (0, 0) _ rfl (put7 C4.out.2 _ _ _ _ _ _ _) Try.underlying46 rfl rfl) rfl ⟨_, _, _, _, rfl, ?_, ?_, ?_, ?_, ?_⟩
  · exact Kd.R_mono (far7 G3.out (fun _ hk => hk.2) _ _ _ _ _ _ _) (fun _ _ => trivial)
  · exact Kd.R_mono (far7 G4.out (fun _ hk => hk.2) _ _ _ _ _ _ _) (fun _ _ => trivial)
  · exact Kd.R_mono (far7 G5.out (fun _ hk => hk.2) _ _ _ _ _ _ _) (fun _ _ => trivial)
  · exact Kd.R_mono (far7 G6.out (fun _ hk => hk.2) _ _ _ _ _ _ _) (fun _ _ => trivial)
  · exact below7 HW4.out (by have := HB.out; omega) _ _ _ _ _ _ _
end Go.Proofs.Ytgddblpgbkgpcaa.PR
namespace Go.Proofs.Ytgddblpgbkgpcaa.PR
set_option linter.unusedVariables false
set_option linter.unusedSimpArgs false
open Go.RowKit Go.Proofs.YtgddblpgbkgpcaaW.PrintWords Go.Proofs.YtgddblpgbkgpcaaW.PrintLast Go.Proofs.YtgddblpgbkgpcaaW.PrintMore
set_option linter.unusedVariables false
set_option linter.unusedSimpArgs false
structure Hd (w wi : World) (u v : Value) (l : List S46) : Prop where
  bl : Below w.heap.size w wi
  c0 : wi.heap[w.heap.size]? = some (.cells #[u] 25 (0, 0))
  c1 : wi.heap[w.heap.size + 1]? = some (.cells #[.slice none 0 0] 25 (0, 0))
  c2 : wi.heap[w.heap.size + 1 + 1]? = some (.cells #[v] 25 (0, 0))
  hr : k46.R 46 wi (w.heap.size + 3) (fun _ => True) v l
section
variable {w wi w1 : World} {u v : Value} {l : List S46}
theorem Hd.below (h : Hd w wi u v l) (hb : Below wi.heap.size wi w1) : Hd w w1 u v l := ⟨bst h.bl hb, kbw h.c0 hb, kbw h.c1 hb, kbw h.c2 hb, Kd.R_below h.hr hb⟩
theorem Hd.grow (h : Hd w wi u v l) (hg : wi.grownBy w1 v.ownBlock) : Below w.heap.size w w1 ∧ w1.heap[w.heap.size]? = some (.cells #[u] 25 (0, 0)) ∧ w1.heap[w.heap.size + 1]? = some (.cells #[.slice none 0 0] 25 (0, 0)) ∧ w1.heap[w.heap.size + 1 + 1]? = some (.cells #[v] 25 (0, 0)) := by
  have hb := Kd.R_base h.hr
  have ne : ∀ k, k < w.heap.size + 3 → some k ≠ v.ownBlock := fun k hk e => by have := hb k e.symm; omega
  exact ⟨pw_below_grown h.bl _ h.bl.size hg (fun k hk => by have := hb k hk; omega), kgr h.c0 hg (ne _ (by omega)), kgr h.c1 hg (ne _ (by omega)), kgr h.c2 hg (ne _ (by omega))⟩
end
theorem Hd.fin {w w1 : World} {u v v1 : Value} {l : List S46} (hb : Below w.heap.size w w1) (h0 : w1.heap[w.heap.size]? = some (.cells #[u] 25 (0, 0))) (h1 : w1.heap[w.heap.size + 1]? = some (.cells #[.slice none 0 0] 25 (0, 0))) (h2 : w1.heap[w.heap.size + 1 + 1]? = some (.cells #[v] 25 (0, 0))) (hr : k46.R 46 w1 (w.heap.size + 3) (fun _ => True) v1 l) :
    Hd w (w1.setCell ⟨w.heap.size + 1 + 1, 0, none⟩ v1) u v1 l :=
  ⟨hb.setCell (show w.heap.size ≤ w.heap.size + 1 + 1 by omega) _, blk_far h0 (by simp; omega) _, blk_far h1 (by simp) _, blk_put h2 0 _ rfl, Kd.R_mono (Kd.R_far (Kd.R_bound hr) (fun k hk => by have := hk.2.1; simp; omega) _) (fun _ _ => trivial)⟩
set_option maxRecDepth 100000 in
set_option maxHeartbeats 40000000 in
theorem copy76_w (A : Option Addr) (n c : Nat) (l : List S46) (w : World) (hC : Kd.C k46 w A n l) (hn : n ≤ 1000) (hol : ∀ o ∈ l, oL o) :
    Calls Try.prog 76 #[.agg #[.slice A n c]] w (HPost w l) := by
  have HC := Aside0.mk hC
  have HOL := Aside0.mk hol
  have HNL := Lib.hid (show l.length = n from hC.1)
  clear hC hol
  go_enter Try.func76, Try.ntmps76
  go_wp2_with fail
  have HS := Aside0.mk (show Hd w (((w.alloc (.cells #[.slice A n c] 25)).alloc (.cells #[.slice none 0 0] 25)).alloc (.cells #[.slice none 0 0] 25)) (.slice A n c) (.slice none 0 0) [] from by
    have e1 := blk_new (w.alloc (.cells #[.slice A n c] 25)) (.cells #[.slice none 0 0] 25)
    have e2 := blk_new ((w.alloc (.cells #[.slice A n c] 25)).alloc (.cells #[.slice none 0 0] 25)) (.cells #[.slice none 0 0] 25)
    rw [show (w.alloc (.cells #[.slice A n c] 25)).heap.size = w.heap.size + 1 by simp] at e1
    rw [show ((w.alloc (.cells #[.slice A n c] 25)).alloc (.cells #[.slice none 0 0] 25)).heap.size = w.heap.size + 1 + 1 by simp] at e2
    exact ⟨bla (bla (bla (Below.refl _ _) _) _) _, kla (kla (blk_new _ _) _) _, kla e1 _, e2, Kd.R_nil _ _ _ _ _⟩)
  go_loopw [4] (fun u4 wr => ∃ (k : Nat) (A1 : Option Addr) (n1 c1 : Nat), u4 = .int .i64 k ∧ k ≤ n ∧ Aside0 (Hd w wr (.slice A n c) (.slice A1 n1 c1) (l.take k))) (fun u4 _ => n - (intOf u4).toNat)
  case atStart => exact ⟨0, none, 0, 0, rfl, Nat.zero_le _, ⟨HS.out⟩⟩
  case round =>
    clear HS
    obtain ⟨k, A1, n1, c1, rfl, hkn, HQ⟩ := hrel
    have qb0 := (kcl HQ.out.c0 0).trans (show _ = some (.slice A n c) from rfl)
    by_cases hk : k < n
    · obtain ⟨x, ad, A3, c3, A4, c4, A5, c5, A6, c6, hx, hA, g0, g1, g2, g3, g4, g5, g6, h3, h4, h5, h6⟩ := obj_at (Kd.C_below HC.out HQ.out.bl) k hk
      have HXO := Aside0.mk (HOL.out x (List.mem_of_getElem? hx))
      have HX := Lib.hid hx
      have HCL := Aside0.mk (fun (W' : World) (hb : Below wr.heap.size wr W') => copy122_w x A3 x.f3.length c3 A4 x.f4.length c4 A5 x.f5.length c5 A6 x.f6.length c6 W' (Kd.C_below h3.2 hb) (Kd.C_below h4.2 hb) (Kd.C_below h5.2 hb) (Kd.C_below h6.2 hb) HXO.out.1 HXO.out.2.1 HXO.out.2.2.1 HXO.out.2.2.2)
      subst hA
      clear hx h3 h4 h5 h6
      have qb := qb0
      have HC5 := HQ
      have HQ0 := Aside0.mk (show w.heap.size + 3 ≤ wr.heap.size by have := blk_lt HC5.out.c2; omega)
      have HNN := Aside0.mk (Kd.R_lt HC5.out.hr)
      go_wp2_with fail
      have q := (kcl HC5.out.c2 0).trans (show _ = some (.slice A1 n1 c1) from rfl)
      have hq0 : Below wr.heap.size wr wr.drew := below_drew (Below.refl _ _)
      refine start_ (n := 12) (S := fun w' => w'.cell? ⟨w.heap.size + 1 + 1, 0, none⟩ = some (.slice A1 n1 c1) ∧ w'.cell? ⟨w.heap.size, 0, none⟩ = some (.slice (some ad) n c) ∧ w'.cell? (ad.add (k * 7)) = some (.int .i64 x.f0) ∧ w'.cell? ⟨(ad.add (k * 7)).block, (ad.add (k * 7)).off + 1, none⟩ = some (.string x.f1) ∧ w'.cell? ⟨(ad.add (k * 7)).block, (ad.add (k * 7)).off + 2, none⟩ = some (.int .i64 x.f2) ∧ w'.cell? ⟨(ad.add (k * 7)).block, (ad.add (k * 7)).off + 3, none⟩ = some (.slice A3 x.f3.length c3) ∧ w'.cell? ⟨(ad.add (k * 7)).block, (ad.add (k * 7)).off + 4, none⟩ = some (.slice A4 x.f4.length c4) ∧ w'.cell? ⟨(ad.add (k * 7)).block, (ad.add (k * 7)).off + 5, none⟩ = some (.slice A5 x.f5.length c5) ∧ w'.cell? ⟨(ad.add (k * 7)).block, (ad.add (k * 7)).off + 6, none⟩ = some (.slice A6 x.f6.length c6)) (ds := [9, 11]) #[false, false, false, false, false, false, false, false, false, false, false, false] (by kernel_rfl) rfl rfl ⟨B.cell_keep hq0 q, B.cell_keep hq0 qb, B.cell_keep hq0 g0, B.cell_keep hq0 g1, B.cell_keep hq0 g2, B.cell_keep hq0 g3, B.cell_keep hq0 g4, B.cell_keep hq0 g5, B.cell_keep hq0 g6⟩ (fun hHeld => ?_)
      generalize wr.drew = w10 at hq0 hHeld ⊢
      refine pure_ (i := 0) (N := some 13) (v := ?_) (a' := ?_) #[true, false, false, false, false, false, false, false, false, false, false, false] rfl rfl (by kernel_rfl) (fun _ _ _ h => h) (Or.inl ⟨by rfl, ?_⟩) ?_ ?_
      rotate_left
      · intro w'
        go_simp
        with_reducible rfl
      rotate_left
      · simp only [Act.put, List.setIfInBounds_toArray, List.set_cons_zero, List.set_cons_succ, i64_w, i32_w]
        rfl
      refine pure_ (i := 2) (N := some 15) (v := ?_) (a' := ?_) #[true, false, true, false, false, false, false, false, false, false, false, false] rfl rfl (by kernel_rfl) (fun _ _ _ h => h) (Or.inl ⟨by rfl, ?_⟩) ?_ ?_
      rotate_left
      · intro w'
        go_simp
        with_reducible rfl
      rotate_left
      · simp only [Act.put, List.setIfInBounds_toArray, List.set_cons_zero, List.set_cons_succ, i64_w, i32_w]
        rfl
      refine pure_ (i := 4) (N := some 17) (v := ?_) (a' := ?_) #[true, false, true, false, true, false, false, false, false, false, false, false] rfl rfl (by kernel_rfl) (fun _ _ _ h => h) (Or.inl ⟨by rfl, ?_⟩) ?_ ?_
      rotate_left
      · intro w'
        go_simp
        with_reducible rfl
      rotate_left
      · simp only [Act.put, List.setIfInBounds_toArray, List.set_cons_zero, List.set_cons_succ, i64_w, i32_w]
        rfl
      refine take_ (i := 1) (N := some 14) (v := ?_) (a' := ?_) #[true, true, true, false, true, false, false, false, false, false, false, false] rfl rfl (by kernel_rfl) (fun _ _ _ h => h) (Or.inl ⟨by rfl, ?_⟩) hHeld ?_ ?_
      rotate_left
      · rintro w' ⟨s0, s1, s2, s3, s4, s5, s6, s7, s8⟩
        go_simp
        with_reducible rfl
      rotate_left
      · simp only [Act.put, List.setIfInBounds_toArray, List.set_cons_zero, List.set_cons_succ, i64_w, i32_w]
        rfl
      refine take_ (i := 3) (N := some 16) (v := ?_) (a' := ?_) #[true, true, true, true, true, false, false, false, false, false, false, false] rfl rfl (by kernel_rfl) (fun _ _ _ h => h) (Or.inl ⟨by rfl, ?_⟩) hHeld ?_ ?_
      rotate_left
      · rintro w' ⟨s0, s1, s2, s3, s4, s5, s6, s7, s8⟩
        go_simp
        with_reducible rfl
      rotate_left
      · simp only [Act.put, List.setIfInBounds_toArray, List.set_cons_zero, List.set_cons_succ, i64_w, i32_w]
        rfl
      refine pure_ (i := 5) (N := some 18) (v := ?_) (a' := ?_) #[true, true, true, true, true, true, false, false, false, false, false, false] rfl rfl (by kernel_rfl) (fun _ _ _ h => h) (Or.inl ⟨by rfl, ?_⟩) ?_ ?_
      rotate_left
      · intro w'
        go_simp
        with_reducible rfl
      rotate_left
      · simp only [Act.put, List.setIfInBounds_toArray, List.set_cons_zero, List.set_cons_succ, i64_w, i32_w]
        rfl
      refine take_ (i := 6) (N := some 19) (v := ?_) (a' := ?_) #[true, true, true, true, true, true, true, false, false, false, false, false] rfl rfl (by kernel_rfl) (fun _ _ _ h => h) (Or.inl ⟨by rfl, ?_⟩) hHeld ?_ ?_
      rotate_left
      · rintro w' ⟨s0, s1, s2, s3, s4, s5, s6, s7, s8⟩
        go_simp
        with_reducible rfl
      rotate_left
      · simp only [Act.put, List.setIfInBounds_toArray, List.set_cons_zero, List.set_cons_succ, i64_w, i32_w]
        rfl
      refine one_ (i := 7) (N := some 20) #[true, true, true, true, true, true, true, true, false, false, false, false] rfl rfl (by kernel_rfl) (by decide) (fun K hK => ?_)
      refine goes_ Try.func122 (by kernel_rfl) rfl #[.agg #[.int .i64 x.f0, .string x.f1, .int .i64 x.f2, .slice A3 x.f3.length c3, .slice A4 x.f4.length c4, .slice A5 x.f5.length c5, .slice A6 x.f6.length c6]] (by rfl) rfl rfl (by simp only [List.map_toArray, List.map_cons, List.map_nil]; rfl) ?_
      with_reducible refine (HCL.out _ hq0).mono ?_
      rintro e w12 ⟨v3, v4, v5, v6, rfl, hr3, hr4, hr5, hr6, hb⟩
      refine ⟨_, rfl, ?_⟩
      have hq1 := bth hq0 hq0.size hb
      refine hK.out _ _ ⟨B.cell_keep hq1 q, B.cell_keep hq1 qb, B.cell_keep hq1 g0, B.cell_keep hq1 g1, B.cell_keep hq1 g2, B.cell_keep hq1 g3, B.cell_keep hq1 g4, B.cell_keep hq1 g5, B.cell_keep hq1 g6⟩ (fun hHeld => ?_)
      clear hK K
      refine norm_ (a' := ?_) ?_ ?_
      rotate_left
      · show Act.put _ (some 20) _ = _
        simp only [Act.put, List.setIfInBounds_toArray, List.set_cons_zero, List.set_cons_succ, i64_w, i32_w]
        rfl
      refine one_ (i := 8) (N := some 21) #[true, true, true, true, true, true, true, true, true, false, false, false] rfl rfl (by kernel_rfl) (by decide) (fun K hK => ?_)
      refine value_ (w1 := ?_) (v := ?_) (by rfl) rfl ?_ ?_
      rotate_left 2
      · go_simp
        constructor
        · rfl
        · rfl
      have hq2 := bla hq1 (.cells #[.int .i64 x.f0, .string x.f1, .int .i64 x.f2, v3, v4, v5, v6] 46)
      refine hK.out _ _ ⟨B.cell_keep hq2 q, B.cell_keep hq2 qb, B.cell_keep hq2 g0, B.cell_keep hq2 g1, B.cell_keep hq2 g2, B.cell_keep hq2 g3, B.cell_keep hq2 g4, B.cell_keep hq2 g5, B.cell_keep hq2 g6⟩ (fun hHeld => ?_)
      clear hK K
      refine norm_ (a' := ?_) ?_ ?_
      rotate_left
      · show Act.put _ (some 21) _ = _
        simp only [Act.put, List.setIfInBounds_toArray, List.set_cons_zero, List.set_cons_succ, i64_w, i32_w]
        rfl
      refine last_ (i := 9) (N := some 22) #[true, true, true, true, true, true, true, true, true, true, false, false] rfl rfl (by kernel_rfl) (by decide) (fun K hK => ?_)
      have hc12 := HC5.out.below hq1
      refine Kd.R_append_step k46 (w0 := w12) (w.heap.size + 3) (by rfl) (.tmp 14) (.tmp 21) 23 46 (.agg #[(.int .i64 0), (.string ⟨#[]⟩), (.int .i64 0), (.slice none 0 0), (.slice none 0 0), (.slice none 0 0), (.slice none 0 0)]) 128 rfl Try.underlying23 info46 rfl (by decide) (by omega) (.slice A1 n1 c1) (l.take k) x [.int .i64 x.f0, .string x.f1, .int .i64 x.f2, v3, v4, v5, v6] (fun _ => True) (fun k => w10.heap.size ≤ k) rfl rfl ?aP ?aQ ?aF ?aO ?aB ?aS ?aL ?_
      case aP => exact new_obj hr3 hr4 hr5 hr6 (by have := blk_lt hc12.c2; omega) (by have := HQ0.out; have := hq0.size; omega)
      case aQ => exact fun k hk => ⟨trivial, fun e => by have := HNN.out k e.symm; have := hq0.size; omega⟩
      case aF => exact fun k hk => trivial
      case aO => exact hc12.hr
      case aB => exact Below.refl _ _
      case aS => have := blk_lt hc12.c2; omega
      case aL => rw [List.length_take]; omega
      intro v1 w13 ho _ hg _
      have hp := hc12.grow hg
      obtain ⟨A2, n2, c2, rfl⟩ := sform ho
      have hq2' := (kcl hp.2.2.2 0).trans (show _ = some (.slice A1 n1 c1) from rfl)
      have hf2' := kfz hp.2.2.2 0
      have HPUT := Aside0.mk (Hd.fin hp.1 hp.2.1 hp.2.2.1 hp.2.2.2 ho)
      refine hK.out _ _ ?_
      clear hK K
      refine norm_ (a' := ?_) ?_ ?_
      rotate_left
      · show Act.put _ (some 22) _ = _
        simp only [Act.put, List.setIfInBounds_toArray, List.set_cons_zero, List.set_cons_succ, i64_w, i32_w]
        rfl
      refine pure_ (i := 10) (N := some 23) (v := ?_) (a' := ?_) #[true, true, true, true, true, true, true, true, true, true, true, false] rfl rfl (by kernel_rfl) (fun _ _ _ h => h) (Or.inl ⟨by rfl, ?_⟩) ?_ ?_
      rotate_left
      · intro w'
        go_simp
        with_reducible rfl
      rotate_left
      · simp only [Act.put, List.setIfInBounds_toArray, List.set_cons_zero, List.set_cons_succ, i64_w, i32_w]
        rfl
      refine last_ (i := 11) (N := none) #[true, true, true, true, true, true, true, true, true, true, true, true] rfl rfl (by kernel_rfl) (by decide) (fun K hK => ?_)
      refine skip_ (w1 := ?_) (by rfl) rfl ?_ ?_
      rotate_left
      · go_simp
        rfl
      refine hK.out _ _ ?_
      clear hK K
      refine done_ (by kernel_rfl) ?_
      go_wp2_with fail
      go_roundw
      case rel => exact ⟨k + 1, A2, n2, c2, by go_num, hk, ⟨by rw [take_snoc46 HX.out]; exact HPUT.out⟩⟩
      case measure => simp [intOf]; omega
    · have q2 := (kcl HQ.out.c2 0).trans (show _ = some (.slice A1 n1 c1) from rfl)
      have q1 := (kcl HQ.out.c1 0).trans (show _ = some (.slice none 0 0) from rfl)
      have qf := kfz HQ.out.c1 0
      have hkn' : l.take k = l := List.take_of_length_le (by have := HNL.out; omega)
      have HT := Lib.hid hkn'
      clear hkn'
      go_wp2_with fail
      refine bodyPost_ret (v := .agg #[.slice A1 n1 c1]) (B.res_c rfl _ _ (w.heap.size + 1) 25 _ (0, 0) _ rfl (blk_put HQ.out.c1 0 _ rfl) Try.underlying25 rfl rfl) rfl ⟨_, rfl, ?_, HQ.out.bl.setCell (show w.heap.size ≤ w.heap.size + 1 by omega) _⟩
      have h := Kd.R_far (Kd.R_bound HQ.out.hr) (p := ⟨w.heap.size + 1, 0, none⟩) (fun k hk => by have := hk.2.1; simp; omega) (.slice A1 n1 c1)
      rw [HT.out] at h
      exact Kd.R_mono (Kd.R_lower h (by omega)) (fun _ _ => trivial)
end Go.Proofs.Ytgddblpgbkgpcaa.PR
namespace Go.Proofs.Ytgddblpgbkgpcaa.PR
set_option linter.unusedVariables false
set_option linter.unusedSimpArgs false
open Go.RowKit Go.Proofs.YtgddblpgbkgpcaaW.PrintWords Go.Proofs.YtgddblpgbkgpcaaW.PrintLast Go.Proofs.YtgddblpgbkgpcaaW.PrintMore
set_option linter.unusedVariables false
set_option linter.unusedSimpArgs false
theorem swk_19 (s : List Bool) (l : List S46) : ∀ k, k ≤ 19 → swk s k l = l
  | 0, _ => rfl
  | k + 1, h => by rw [swk, if_pos (.inl (by omega)), swk_19 s l k (by omega)]
theorem errs_w (w : World) : Calls Try.prog 109 #[] w fun e w' => ∃ v : Value, ∃ (A : Option Addr) (c : Nat), v = .slice A 13 c ∧ e = .returned v ∧ Below w.heap.size w w' := by
  have h : ∃ l, spec_errorNames.f = some l ∧ l.length = 13 := ⟨_, rfl, rfl⟩
  obtain ⟨l, hf, hl⟩ := h
  refine (spec_errorNames.calls l w hf).mono ?_
  rintro e w' ⟨v, rfl, hr, hb⟩
  obtain ⟨A, c, rfl⟩ := Kd.R_slice hr
  exact ⟨_, A, c, by rw [hl], rfl, hb⟩
theorem built_w (w : World) : Calls Try.prog 110 #[] w fun e w' => ∃ v : Value, ∃ (A : Option Addr) (c : Nat), v = .slice A 6 c ∧ e = .returned v ∧ Below w.heap.size w w' := by
  have h : ∃ l, spec_builtNames.f = some l ∧ l.length = 6 := ⟨_, rfl, rfl⟩
  obtain ⟨l, hf, hl⟩ := h
  refine (spec_builtNames.calls l w hf).mono ?_
  rintro e w' ⟨v, rfl, hr, hb⟩
  obtain ⟨A, c, rfl⟩ := Kd.R_slice hr
  exact ⟨_, A, c, by rw [hl], rfl, hb⟩
structure Sw (w wi : World) (b5 gb n c g3 cap3 : Nat) (s : List Bool) (l : List S46) : Prop where
  bl : Below w.heap.size w wi
  c1 : wi.heap[w.heap.size + 1]? = some (.cells #[.slice none 0 0] 25 (0, 0))
  c5 : wi.heap[b5]? = some (.cells #[.slice (some ⟨gb, 0, none⟩) n c] 25 (0, 0))
  hr : k46.R 46 wi (w.heap.size + 2) (fun k => k < b5) (.slice (some ⟨gb, 0, none⟩) n c) l
  hs : Kd.bool.R 4 wi (b5 + 1) (fun _ => True) (.slice (some ⟨g3, 0, none⟩) n cap3) s
  gB : w.heap.size + 2 ≤ gb ∧ gb < b5
section
variable {w wi w1 : World} {b5 gb n c g3 cap3 : Nat} {s : List Bool} {l l' : List S46}
theorem Sw.below (h : Sw w wi b5 gb n c g3 cap3 s l) (hb : Below wi.heap.size wi w1) : Sw w w1 b5 gb n c g3 cap3 s l := ⟨bst h.bl hb, kbw h.c1 hb, kbw h.c5 hb, Kd.R_below h.hr hb, Kd.R_below h.hs hb, h.gB⟩
theorem Sw.zero (h : Sw w wi b5 gb n c g3 cap3 s l) (hg : wi.grownBy w1 (some gb)) (hr : k46.R 46 w1 (w.heap.size + 2) (fun k => k < b5) (.slice (some ⟨gb, 0, none⟩) n c) l') : Sw w w1 b5 gb n c g3 cap3 s l' := by
  obtain ⟨h1, h2⟩ := h.gB
  have ne : ∀ k, k ≠ gb → some k ≠ some gb := fun k hk e => hk (by injection e)
  refine ⟨pw_below_grown h.bl _ h.bl.size hg (fun k hk => by injection hk with hk; omega), kgr h.c1 hg (ne _ (by omega)), kgr h.c5 hg (ne _ (by omega)), hr, ?_, h.gB⟩
  exact Kd.R_mono (Kd.R_grown (Kd.R_bound h.hs) hg (fun k hk => ne k (by have := hk.2.1; omega))) (fun _ _ => trivial)
end
set_option maxRecDepth 100000 in
set_option maxHeartbeats 40000000 in
theorem swept68_w (A : Option Addr) (n c : Nat) (A1 : Option Addr) (m c1 : Nat) (l : List S46) (roots : List S35) (s : List Bool) (w : World) (hC : Kd.C k46 w A n l) (hc : n ≤ c) (hR : Kd.C k35 w A1 m roots) (hc1 : m ≤ c1) (hn19 : 19 ≤ n) (hn6 : n ≤ 200) (hi : ∀ o ∈ l, inN n (refs o)) (hl6 : ∀ o ∈ l, oL o ∧ o.f3.length ≤ 100 ∧ o.f4.length ≤ 100 ∧ o.f6.length ≤ 100) (hr : inN n roots) (hm : m ≤ 1000) (hsl : s.length = n) (hst : ∀ i : Nat, s[i]? = some true ↔ Rc l roots i) :
    Calls Try.prog 68 #[.agg #[.slice A n c], .slice A1 m c1] w (HPost w (swk s n l)) := by
  have hnl : l.length = n := hC.1
  have hml : roots.length = m := hR.1
  have HNL := Lib.hid hnl
  have HSL := Lib.hid hsl
  have HCP := Aside0.mk (fun (w1 : World) (hb : Below w.heap.size w w1) => copy76_w A n c l w1 (Kd.C_below hC hb) (by omega) (fun o ho => (hl6 o ho).1))
  have HW := Aside0.mk (show ∀ (w1 : World) (hb : Below w.heap.size w w1), Calls Try.prog 57 #[.agg #[.slice A n c], .slice A1 m c1] w1 fun e w' => ∃ v0_ : Value, e = .returned (v0_) ∧ Kd.R Kd.bool 4 w' w1.heap.size (fun _ => True) v0_ s ∧ Below w1.heap.size w1 w' from by
    intro w1 hb
    subst hml
    subst hnl
    obtain ⟨K, s', hf, hl', hs'⟩ := reached_f (l := l) (roots := roots) hn6 hm (fun o ho => (hl6 o ho).2) hi hr
    have e : s' = s := same_s (by rw [hl', hsl]) (fun i => (hs' i).trans (hst i).symm)
    rw [e] at hf
    exact spec_reached.calls K A c l A1 c1 roots s w1 (Kd.C_below hC hb) hc (Kd.C_below hR hb) hc1 hf)
  clear hC hR hnl hml hi hl6 hr hsl hst hc hc1
  go_enter Try.func68, Try.ntmps68
  have hb1 : Below w.heap.size w ((w.alloc (.cells #[.slice A n c] 25)).alloc (.cells #[.slice none 0 0] 25)) := bla (bla (Below.refl _ _) _) _
  have HB1 := Aside0.mk hb1
  clear hb1
  have hk0 := (kcl (kla (blk_new w (.cells #[.slice A n c] 25)) (.cells #[.slice none 0 0] 25)) 0).trans (show _ = some (Value.slice A n c) from rfl)
  have e1 := blk_new (w.alloc (.cells #[.slice A n c] 25)) (.cells #[.slice none 0 0] 25)
  rw [show (w.alloc (.cells #[.slice A n c] 25)).heap.size = w.heap.size + 1 by simp] at e1
  have E1 := Aside0.mk e1
  clear e1
  go_wp2_with fail
  refine (HCP.out _ HB1.out).mono ?_
  rintro e w2 ⟨v, rfl, hr, hb2⟩
  rw [show ((w.alloc (.cells #[.slice A n c] 25)).alloc (.cells #[.slice none 0 0] 25)).heap.size = w.heap.size + 2 by simp] at hr
  obtain ⟨gb, cap, rfl, hgb, hgl, _⟩ := Kd.R_form hr (by have := HNL.out; omega)
  have hk1 := B.cell_keep hb2 hk0
  have hB2 := bth HB1.out HB1.out.size hb2
  have hln : (l.length) = n := HNL.out
  rw [hln] at hr ⊢
  clear hln
  have HR2 := Aside0.mk hr
  have HB2 := Aside0.mk hB2
  have HC1 := Aside0.mk (kbw E1.out hb2)
  have HG := Aside0.mk (show w.heap.size + 2 ≤ gb ∧ gb < w2.heap.size from ⟨hgb, hgl⟩)
  clear hr hb2 hB2 E1 HB1 hk0 hgb hgl
  have hsz : w.heap.size < w2.heap.size := blk_lt HC1.out |> fun h => by omega
  have hk2 := B.cell_keep (bla (Below.refl w2.heap.size w2) (.cells #[.slice (some ⟨gb, 0, none⟩) n cap] 25)) hk1
  have HBA := Aside0.mk (bla HB2.out (.cells #[.slice (some ⟨gb, 0, none⟩) n cap] 25))
  go_wp2_with fail
  refine (HW.out _ HBA.out).mono ?_
  rintro e w3 ⟨v3, rfl, hr3, hb3⟩
  obtain ⟨g3, cap3, rfl, _, _, _⟩ := Kd.R_form hr3 (by have := HSL.out; omega)
  rw [HSL.out] at hr3 ⊢
  obtain ⟨b5, hb5⟩ : ∃ b5, b5 = w2.heap.size := ⟨_, rfl⟩
  have HS := Aside0.mk (show Sw w w3 b5 gb n cap g3 cap3 s l from by
    subst hb5
    have e : (w2.alloc (.cells #[.slice (some ⟨gb, 0, none⟩) n cap] 25)).heap.size = w2.heap.size + 1 := by simp
    refine ⟨bst HBA.out hb3, kbw (kla HC1.out _) hb3, kbw (blk_new _ _) hb3, ?_, ?_, HG.out⟩
    · exact Kd.R_below (Kd.R_alloc (Kd.R_mono (Kd.R_bound HR2.out) (fun k hk => hk.2.2.1)) _) hb3
    · rw [e] at hr3; exact hr3)
  rw [← hb5]
  clear hr3 hb3 hb5 HBA hk2 hk1 HR2 HB2 HC1 HG hsz
  go_wp2_with fail
  refine (errs_w _).mono ?_
  rintro e w4 ⟨v4, A4, c4, rfl, rfl, hb4⟩
  replace HS := Aside0.mk (HS.out.below hb4)
  clear hb4
  go_wp2_with fail
  refine (built_w _).mono ?_
  rintro e w5 ⟨v5, A5, c5, rfl, rfl, hb5⟩
  replace HS := Aside0.mk (HS.out.below hb5)
  clear hb5
  go_wp2_with fail
  go_outline
  go_loopw [7] (fun u7 wr => ∃ k : Nat, u7 = .int .i64 k ∧ 19 ≤ k ∧ k ≤ n ∧ Aside0 (Sw w wr b5 gb n cap g3 cap3 s (swk s k l))) (fun u7 _ => n - (intOf u7).toNat)
  case atStart => exact ⟨19, rfl, Nat.le_refl _, hn19, ⟨by rw [swk_19 s l 19 (Nat.le_refl _)]; exact HS.out⟩⟩
  case round =>
    clear HS
    obtain ⟨k, rfl, hk19, hk, HQ⟩ := hrel
    by_cases hkn : k < n
    · have hbc := (Kd.R_celln false HQ.out.hs (k : Int) (by omega) (by omega)).1
      rw [show (k : Int).toNat = k from rfl] at hbc
      have hsk : s[k]? = some (rdOf false s (k : Int)) := rdOf_at (s := s) (i := (k : Int)) (by have := HSL.out; simp; omega)
      cases hbk : rdOf false s (k : Int)
      · rw [hbk] at hbc hsk
        have HI := Lib.hid (show swk s (k + 1) l = (swk s k l).set k z46 by rw [swk, hsk, if_neg (by simp; omega)])
        obtain ⟨⟨u0, u1, u2, u3, u4, u5, u6, d0, d1, d2, d3, d4, d5, d6⟩, ⟨f0, f1, f2, f3, f4, f5, f6⟩, hR2, hg2⟩ := elem_zero HQ.out.hr k hkn
        have hbx := (kcl HQ.out.c5 0).trans (show _ = some (.slice (some ⟨gb, 0, none⟩) n cap) from rfl)
        have HZ := Aside0.mk (HQ.out.zero hg2 hR2)
        clear hsk hbk hR2 hg2
        go_wp2_with fail
        go_roundw
        case rel => exact ⟨k + 1, by go_num, by omega, hkn, ⟨by rw [HI.out]; exact HZ.out⟩⟩
        case measure => simp [intOf]; omega
      · rw [hbk] at hbc hsk
        have HI := Lib.hid (show swk s (k + 1) l = swk s k l by rw [swk, hsk, if_pos (.inr rfl)])
        clear hsk hbk
        go_wp2_with fail
        go_roundw
        case rel => exact ⟨k + 1, by go_num, by omega, hkn, ⟨by rw [HI.out]; exact HQ.out⟩⟩
        case measure => simp [intOf]; omega
    · have HKN := Lib.hid (show k = n by omega)
      have q2 := (kcl HQ.out.c5 0).trans (show _ = some (.slice (some ⟨gb, 0, none⟩) n cap) from rfl)
      have q1 := (kcl HQ.out.c1 0).trans (show _ = some (.slice none 0 0) from rfl)
      have qf := kfz HQ.out.c1 0
      go_wp2_with fail
      refine bodyPost_ret (v := .agg #[.slice (some ⟨gb, 0, none⟩) n cap]) (B.res_c rfl _ _ (w.heap.size + 1) 25 _ (0, 0) _ rfl (blk_put HQ.out.c1 0 _ rfl) Try.underlying25 rfl rfl) rfl ⟨_, rfl, ?_, HQ.out.bl.setCell (show w.heap.size ≤ w.heap.size + 1 by omega) _⟩
      have h := Kd.R_far (Kd.R_bound HQ.out.hr) (p := ⟨w.heap.size + 1, 0, none⟩) (fun k hk => by have := hk.2.1; simp; omega) (.slice (some ⟨gb, 0, none⟩) n cap)
      have e : swk s k l = swk s n l := by rw [HKN.out]
      rw [e] at h
      exact Kd.R_mono (Kd.R_lower h (by omega)) (fun _ _ => trivial)
end Go.Proofs.Ytgddblpgbkgpcaa.PR
namespace Go.Proofs.Ytgddblpgbkgpcaa.PR
set_option linter.unusedVariables false
set_option linter.unusedSimpArgs false
open Go.RowKit Go.Proofs.YtgddblpgbkgpcaaW.PrintWords Go.Proofs.YtgddblpgbkgpcaaW.PrintLast Go.Proofs.YtgddblpgbkgpcaaW.PrintMore
set_option linter.unusedVariables false
set_option linter.unusedSimpArgs false
def Swept (l : List S46) (roots : List S35) (n : Nat) (s : List Bool) (out : List S46) : Prop :=
  s.length = n ∧ (okB l roots = true → ∀ i : Nat, s[i]? = some true ↔ Rc l roots i) ∧ (okB l roots = true → out = swk s n l) ∧ (okB l roots = false → out = [])
theorem swept_ex (l : List S46) (roots : List S35) (n : Nat) (hn : l.length = n) (hn' : n ≤ 200) (hr : roots.length ≤ 1000) (ob : ∀ o ∈ l, oB o = true) : ∃ s out, Swept l roots n s out := by
  obtain ⟨s, _, h1, h2, _⟩ := told_ex l roots n hn hn' hr ob
  cases h : okB l roots
  · exact ⟨s, [], h1, h2, by rw [h]; simp, fun _ => rfl⟩
  · exact ⟨s, swk s n l, h1, h2, fun _ => rfl, by rw [h]; simp⟩
theorem oB_oL {o : S46} (h : oB o = true) : oL o ∧ o.f3.length ≤ 100 ∧ o.f4.length ≤ 100 ∧ o.f6.length ≤ 100 := by
  have := oB_facts h
  unfold oL
  omega
theorem heap_end {w w1 : World} {v : Value} {out : List S46} {ok : Nat → Prop} (hb : Below w.heap.size w w1) (h1 : w1.heap[w.heap.size + 1]? = some (.cells #[.slice none 0 0] 25 (0, 0))) (hr : k46.R 46 w1 (w.heap.size + 2) ok v out) :
    (w1.setCell ⟨w.heap.size + 1, 0, none⟩ v).heap[w.heap.size + 1]? = some (.cells #[v] 25 (0, 0)) ∧ HPost w out (.returned (.agg #[v])) (w1.setCell ⟨w.heap.size + 1, 0, none⟩ v) :=
  ⟨blk_put h1 0 _ rfl, v, rfl, Kd.R_mono (Kd.R_lower (Kd.R_far (Kd.R_bound hr) (fun k hk => by have := hk.2.1; simp; omega) _) (by omega)) (fun _ _ => trivial), hb.setCell (show w.heap.size ≤ w.heap.size + 1 by omega) _⟩
set_option maxRecDepth 100000 in
set_option maxHeartbeats 40000000 in
theorem implSweep_w (A : Option Addr) (n c : Nat) (A1 : Option Addr) (m c1 : Nat) (l : List S46) (roots : List S35) (s : List Bool) (out : List S46) (w : World) (hC : Kd.C k46 w A n l) (hR : Kd.C k35 w A1 m roots) (hn0 : 0 < n) (hn6 : n ≤ 200) (ob : ∀ o ∈ l, oB o = true) (hs : ∀ x ∈ roots, x.f1.size ≤ 100) (hm : m ≤ 60) (ht : Swept l roots n s out) :
    Calls Try.prog 26 #[.agg #[.slice A n c], .slice A1 m c1] w (HPost w out) := by
  have hnl : l.length = n := hC.1
  have hml : roots.length = m := hR.1
  have HB0 := Aside0.mk (fun (w1 : World) (hb : Below w.heap.size w w1) => heapOk_k c (Kd.C_below hC hb) ob (by omega))
  have HB1 := Aside0.mk (fun (w1 : World) (hb : Below w.heap.size w w1) => valuesOk_k (A := A) c (show n ≤ 1000 by omega) c1 (Kd.C_below hR hb) hs (by omega))
  have HC := Aside0.mk hC
  have HR := Aside0.mk hR
  have HNL := Lib.hid hnl
  have HOB := Aside0.mk ob
  have HT := Aside0.mk ht
  have hm6 : ¬ (60 : Int) < (m : Int) := by omega
  clear hC hR hnl hml ob hs ht
  go_enter Try.func26, Try.ntmps26
  have hb1 : Below w.heap.size w ((w.alloc (.cells #[.slice A n c] 25)).alloc (.cells #[.slice none 0 0] 25)) := bla (bla (Below.refl _ _) _) _
  have hk0 := (kcl (kla (blk_new w (.cells #[.slice A n c] 25)) (.cells #[.slice none 0 0] 25)) 0).trans (show _ = some (Value.slice A n c) from rfl)
  have E0 := Aside0.mk (kla (blk_new w (.cells #[.slice A n c] 25)) (.cells #[.slice none 0 0] 25))
  have e1 := blk_new (w.alloc (.cells #[.slice A n c] 25)) (.cells #[.slice none 0 0] 25)
  rw [show (w.alloc (.cells #[.slice A n c] 25)).heap.size = w.heap.size + 1 by simp] at e1
  have E1 := Aside0.mk e1
  clear e1
  cases h1 : okH l
  · have HE := Lib.hid (HT.out.2.2.2 (by rw [okB_eq, h1]; rfl))
    go_wp2_with (first
      | (go_at_call 30; refine (HB0.out _ hb1).mono ?_; rintro e w1 ⟨rfl, hb⟩; have hbx := B.cell_keep hb hk0; have HB2 := Aside0.mk (bth hb1 hb1.size hb); have E2 := Aside0.mk (kbw E1.out hb); have q1 := (kcl E2.out 0).trans (show _ = some (Value.slice none 0 0) from rfl); have qf := kfz E2.out 0; clear hb))
    all_goals
      obtain ⟨o1, o2⟩ := heap_end (out := []) HB2.out E2.out (Kd.R_nil k46 46 _ _ (fun _ => True))
      refine bodyPost_ret (v := .agg #[.slice none 0 0]) (B.res_c rfl _ _ (w.heap.size + 1) 25 _ (0, 0) _ rfl o1 Try.underlying25 rfl rfl) rfl (by rw [HE.out]; exact o2)
  · cases h2 : okV n roots
    · have HE := Lib.hid (HT.out.2.2.2 (by rw [okB_eq, h1, HNL.out, h2]; rfl))
      go_wp2_with (first
        | (go_at_call 30; refine (HB0.out _ hb1).mono ?_; rintro e w1 ⟨rfl, hb⟩; have hbx := B.cell_keep hb hk0; have HB2 := Aside0.mk (bth hb1 hb1.size hb); have E2 := Aside0.mk (kbw E1.out hb); clear hb)
        | (go_at_call 53; refine (HB1.out _ HB2.out).mono ?_; rintro e w2 ⟨rfl, hb⟩; have hbx2 := (B.cell_keep hb hbx); have HB3 := Aside0.mk (bth HB2.out HB2.out.size hb); have E3 := Aside0.mk (kbw E2.out hb); have q1 := (kcl E3.out 0).trans (show _ = some (Value.slice none 0 0) from rfl); have qf := kfz E3.out 0; clear hb))
      all_goals
        obtain ⟨o1, o2⟩ := heap_end (out := []) HB3.out E3.out (Kd.R_nil k46 46 _ _ (fun _ => True))
        refine bodyPost_ret (v := .agg #[.slice none 0 0]) (B.res_c rfl _ _ (w.heap.size + 1) 25 _ (0, 0) _ rfl o1 Try.underlying25 rfl rfl) rfl (by rw [HE.out]; exact o2)
    · have hok : okB l roots = true := by rw [okB_eq, h1, HNL.out, h2]; rfl
      have HI := Aside0.mk (okB_in hok)
      have HOUT := Lib.hid (HT.out.2.2.1 hok)
      have HSS := Aside0.mk (HT.out.2.1 hok)
      have HCL := Aside0.mk (fun (w1 : World) (hb : Below w.heap.size w w1) => hclone66_w A n c l w1 (Kd.C_below HC.out hb) (by omega) (fun o ho => (oB_oL (HOB.out o ho)).1))
      have HSW := Aside0.mk (fun (gb c3 base : Nat) (w1 : World) (hb : Below w.heap.size w w1) (h1 : base ≤ w1.heap.size) (hr : k46.R 46 w1 base (fun _ => True) (.slice (some ⟨gb, 0, none⟩) n c3) l) => sweep67_w (some ⟨gb, 0, none⟩) n c3 A1 m c1 l roots s base w1 h1 hr (Kd.C_below HR.out hb) hn0 (by omega) (by have := HI.out.1; rw [HNL.out] at this; exact this) (fun o ho => (oB_oL (HOB.out o ho)).2) (by have := HI.out.2; rw [HNL.out] at this; exact this) (by omega) HT.out.1 HSS.out)
      clear hok
      go_wp2_with (first
        | (go_at_call 30; refine (HB0.out _ hb1).mono ?_; rintro e w1 ⟨rfl, hb⟩; have hbx := B.cell_keep hb hk0; have HB2 := Aside0.mk (bth hb1 hb1.size hb); have E2 := Aside0.mk (kbw E1.out hb); have D2 := Aside0.mk (kbw E0.out hb); clear hb)
        | (go_at_call 53; refine (HB1.out _ HB2.out).mono ?_; rintro e w2 ⟨rfl, hb⟩; have hbx2 := (B.cell_keep hb hbx); have HB3 := Aside0.mk (bth HB2.out HB2.out.size hb); have E3 := Aside0.mk (kbw E2.out hb); have D3 := Aside0.mk (kbw D2.out hb); clear hb))
      refine (HCL.out _ HB3.out).mono ?_
      rintro e w3 ⟨v, rfl, hr, hb⟩
      obtain ⟨gb, c3, rfl, hgb, hgl, _⟩ := Kd.R_form hr (by have := HNL.out; omega)
      rw [HNL.out] at hr ⊢
      have D4 := Aside0.mk (kbw D3.out hb)
      have E4 := Aside0.mk (kbw E3.out hb)
      have hz := (kcl D4.out 0).trans (show _ = some (Value.slice A n c) from rfl)
      have hzf := kfz D4.out 0
      have h32 := blk_lt E3.out
      have HB4 := Aside0.mk ((bth HB3.out HB3.out.size hb).setCell (p := ⟨w.heap.size, 0, none⟩) (Nat.le_refl _) (.slice (some ⟨gb, 0, none⟩) n c3))
      have HRN := Aside0.mk (Kd.R_mono (Kd.R_lower (Kd.R_far (Kd.R_bound hr) (p := ⟨w.heap.size, 0, none⟩) (fun k hk => by have := hk.2.1; simp; omega) (.slice (some ⟨gb, 0, none⟩) n c3)) (show w.heap.size + 2 ≤ w2.heap.size by omega)) (fun _ _ => trivial) : k46.R 46 _ (w.heap.size + 2) (fun _ => True) _ _)
      have D5 := Aside0.mk (blk_put D4.out 0 (.slice (some ⟨gb, 0, none⟩) n c3) rfl)
      have E5 := Aside0.mk (blk_far (p := ⟨w.heap.size, 0, none⟩) E4.out (by simp) (.slice (some ⟨gb, 0, none⟩) n c3))
      have hs5 : w.heap.size + 2 ≤ (w3.setCell ⟨w.heap.size, 0, none⟩ (.slice (some ⟨gb, 0, none⟩) n c3)).heap.size := by have := blk_lt E5.out; omega
      have HS5 := Aside0.mk hs5
      clear hr hb hgb hgl h32 hs5 HB3 D3 E3 HB2 D2 E2
      go_upto_region 4 with (fail)
      obtain ⟨w5, hw5⟩ : ∃ w5 : World, w5 = (w3.setCell ⟨w.heap.size, 0, none⟩ (.slice (some ⟨gb, 0, none⟩) n c3)) := ⟨_, rfl⟩
      rw [← hw5] at HB4 HRN D5 E5 HS5 ⊢
      clear hw5 hz hzf hbx2
      have hd5 := (kcl D5.out 0).trans (show _ = some (Value.slice (some ⟨gb, 0, none⟩) n c3) from rfl)
      go_wp2_with fail
      refine (HSW.out gb c3 (w.heap.size + 2) _ HB4.out HS5.out HRN.out).mono ?_
      rintro e w6 ⟨rfl, hr6, hb6⟩
      have D6 := Aside0.mk ((hb6.block _ (by omega)).trans D5.out)
      have E6 := Aside0.mk ((hb6.block _ (by omega)).trans E5.out)
      have hd6 := (kcl D6.out 0).trans (show _ = some (Value.slice (some ⟨gb, 0, none⟩) n c3) from rfl)
      have q1 := (kcl E6.out 0).trans (show _ = some (Value.slice none 0 0) from rfl)
      have qf := kfz E6.out 0
      have HB6 := Aside0.mk (HB4.out.trans (hb6.mono (by omega)))
      have HR6 := Aside0.mk hr6
      clear hr6 hb6 hd5
      go_wp2_with fail
      obtain ⟨o1, o2⟩ := heap_end HB6.out E6.out HR6.out
      refine bodyPost_ret (v := .agg #[.slice (some ⟨gb, 0, none⟩) n c3]) (B.res_c rfl _ _ (w.heap.size + 1) 25 _ (0, 0) _ rfl o1 Try.underlying25 rfl rfl) rfl (by rw [HOUT.out]; exact o2)
end Go.Proofs.Ytgddblpgbkgpcaa.PR
namespace Go.Proofs.Ytgddblpgbkgpcaa.PR
set_option linter.unusedVariables false
set_option linter.unusedSimpArgs false
open Go.RowKit Go.Proofs.YtgddblpgbkgpcaaW.PrintWords Go.Proofs.YtgddblpgbkgpcaaW.PrintLast Go.Proofs.YtgddblpgbkgpcaaW.PrintMore
set_option linter.unusedVariables false
set_option linter.unusedSimpArgs false
set_option maxRecDepth 100000 in
set_option maxHeartbeats 40000000 in
theorem specSweep_w (A : Option Addr) (n c : Nat) (A1 : Option Addr) (m c1 : Nat) (l : List S46) (roots : List S35) (s : List Bool) (out : List S46) (w : World) (hC : Kd.C k46 w A n l) (hc : n ≤ c) (hR : Kd.C k35 w A1 m roots) (hc1 : m ≤ c1) (hn19 : 19 ≤ n) (hn6 : n ≤ 200) (ob : ∀ o ∈ l, oB o = true) (hs : ∀ x ∈ roots, x.f1.size ≤ 100) (hm : m ≤ 60) (ht : Swept l roots n s out) :
    Calls Try.prog 28 #[.agg #[.slice A n c], .slice A1 m c1] w (HPost w out) := by
  have hnl : l.length = n := hC.1
  have hml : roots.length = m := hR.1
  have HB0 := Aside0.mk (fun (w1 : World) (hb : Below w.heap.size w w1) => validHeap_k c (Kd.C_below hC hb) ob (by omega))
  have HB1 := Aside0.mk (fun (w1 : World) (hb : Below w.heap.size w w1) => validValues_k (show n ≤ 1000 by omega) c1 (Kd.C_below hR hb) hs (by omega))
  have HC := Aside0.mk hC
  have HR := Aside0.mk hR
  have HNL := Lib.hid hnl
  have HOB := Aside0.mk ob
  have HT := Aside0.mk ht
  have HCC := Aside0.mk hc
  have HCC1 := Aside0.mk hc1
  clear hC hR hnl hml ob hs ht hc hc1
  go_enter Try.func28, Try.ntmps28
  have hb1 : Below w.heap.size w ((w.alloc (.cells #[.slice A n c] 25)).alloc (.cells #[.slice none 0 0] 25)) := bla (bla (Below.refl _ _) _) _
  have hk0 := (kcl (kla (blk_new w (.cells #[.slice A n c] 25)) (.cells #[.slice none 0 0] 25)) 0).trans (show _ = some (Value.slice A n c) from rfl)
  have e1 := blk_new (w.alloc (.cells #[.slice A n c] 25)) (.cells #[.slice none 0 0] 25)
  rw [show (w.alloc (.cells #[.slice A n c] 25)).heap.size = w.heap.size + 1 by simp] at e1
  have E1 := Aside0.mk e1
  clear e1
  cases h1 : okH l
  · have HE := Lib.hid (HT.out.2.2.2 (by rw [okB_eq, h1]; rfl))
    go_wp2_with (first
      | (go_at_call 55; refine (HB0.out _ hb1).mono ?_; rintro e w1 ⟨rfl, hb⟩; have hbx := B.cell_keep hb hk0; have HB2 := Aside0.mk (bth hb1 hb1.size hb); have E2 := Aside0.mk (kbw E1.out hb); have q1 := (kcl E2.out 0).trans (show _ = some (Value.slice none 0 0) from rfl); have qf := kfz E2.out 0; clear hb))
    all_goals
      obtain ⟨o1, o2⟩ := heap_end (out := []) HB2.out E2.out (Kd.R_nil k46 46 _ _ (fun _ => True))
      refine bodyPost_ret (v := .agg #[.slice none 0 0]) (B.res_c rfl _ _ (w.heap.size + 1) 25 _ (0, 0) _ rfl o1 Try.underlying25 rfl rfl) rfl (by rw [HE.out]; exact o2)
  · cases h2 : okV n roots
    · have HE := Lib.hid (HT.out.2.2.2 (by rw [okB_eq, h1, HNL.out, h2]; rfl))
      go_wp2_with (first
        | (go_at_call 55; refine (HB0.out _ hb1).mono ?_; rintro e w1 ⟨rfl, hb⟩; have hbx := B.cell_keep hb hk0; have HB2 := Aside0.mk (bth hb1 hb1.size hb); have E2 := Aside0.mk (kbw E1.out hb); clear hb)
        | (go_at_call 56; refine (HB1.out _ HB2.out).mono ?_; rintro e w2 ⟨rfl, hb⟩; have hbx2 := (B.cell_keep hb hbx); have HB3 := Aside0.mk (bth HB2.out HB2.out.size hb); have E3 := Aside0.mk (kbw E2.out hb); have q1 := (kcl E3.out 0).trans (show _ = some (Value.slice none 0 0) from rfl); have qf := kfz E3.out 0; clear hb))
      all_goals
        obtain ⟨o1, o2⟩ := heap_end (out := []) HB3.out E3.out (Kd.R_nil k46 46 _ _ (fun _ => True))
        refine bodyPost_ret (v := .agg #[.slice none 0 0]) (B.res_c rfl _ _ (w.heap.size + 1) 25 _ (0, 0) _ rfl o1 Try.underlying25 rfl rfl) rfl (by rw [HE.out]; exact o2)
    · have hok : okB l roots = true := by rw [okB_eq, h1, HNL.out, h2]; rfl
      have HI := Aside0.mk (okB_in hok)
      have HOUT := Lib.hid (HT.out.2.2.1 hok)
      have HSS := Aside0.mk (HT.out.2.1 hok)
      have HSW := Aside0.mk (fun (w1 : World) (hb : Below w.heap.size w w1) => swept68_w A n c A1 m c1 l roots s w1 (Kd.C_below HC.out hb) HCC.out (Kd.C_below HR.out hb) HCC1.out hn19 hn6 (by have := HI.out.1; rw [HNL.out] at this; exact this) (fun o ho => oB_oL (HOB.out o ho)) (by have := HI.out.2; rw [HNL.out] at this; exact this) (by omega) HT.out.1 HSS.out)
      clear hok
      go_wp2_with (first
        | (go_at_call 55; refine (HB0.out _ hb1).mono ?_; rintro e w1 ⟨rfl, hb⟩; have hbx := B.cell_keep hb hk0; have HB2 := Aside0.mk (bth hb1 hb1.size hb); have E2 := Aside0.mk (kbw E1.out hb); clear hb)
        | (go_at_call 56; refine (HB1.out _ HB2.out).mono ?_; rintro e w2 ⟨rfl, hb⟩; have hbx2 := (B.cell_keep hb hbx); have HB3 := Aside0.mk (bth HB2.out HB2.out.size hb); have E3 := Aside0.mk (kbw E2.out hb); clear hb)
        | (go_at_call 68; refine (HSW.out _ HB3.out).mono ?_; rintro e w3 ⟨v, rfl, hr, hb⟩; have HB4 := Aside0.mk (bth HB3.out HB3.out.size hb); have E4 := Aside0.mk (kbw E3.out hb); have q1 := (kcl E4.out 0).trans (show _ = some (Value.slice none 0 0) from rfl); have qf := kfz E4.out 0; have hlt := blk_lt E3.out; have HR4 := Aside0.mk (Kd.R_lower hr (show w.heap.size + 2 ≤ w2.heap.size by omega)); obtain ⟨A7, n7, c7, rfl⟩ := sform hr; clear hr hb hlt))
      obtain ⟨o1, o2⟩ := heap_end HB4.out E4.out HR4.out
      refine bodyPost_ret (v := .agg #[.slice A7 n7 c7]) (B.res_c rfl _ _ (w.heap.size + 1) 25 _ (0, 0) _ rfl o1 Try.underlying25 rfl rfl) rfl (by rw [HOUT.out]; exact o2)
end Go.Proofs.Ytgddblpgbkgpcaa.PR
namespace Go.Proofs.Ytgddblpgbkgpcaa.PR
set_option linter.unusedVariables false
set_option linter.unusedSimpArgs false
open Go.RowKit Go.Proofs.YtgddblpgbkgpcaaW.PrintWords Go.Proofs.YtgddblpgbkgpcaaW.PrintLast Go.Proofs.YtgddblpgbkgpcaaW.PrintMore
set_option linter.unusedVariables false
set_option linter.unusedSimpArgs false
theorem sameTexts_l0 (l : List ByteArray) (hl : l.length ≤ 1000000) : ∀ (d j : Nat), l.length = j + d → spec_sameTexts.l0 (d + 1) l l (j : Int) = some true
  | 0, j, h => by rw [spec_sameTexts.l0, if_neg (by omega)]
  | d + 1, j, h => by
    rw [spec_sameTexts.l0, if_pos (by omega), if_pos (by omega), if_pos (by omega), if_pos rfl, show wrap64 ((j : Int) + 1) = ((j + 1 : Nat) : Int) by unfold wrap64; omega]
    exact sameTexts_l0 l hl d (j + 1) (by omega)
theorem val_at {w : World} {A : Option Addr} {n : Nat} {l : List S35} (h : Kd.C k35 w A n l) (i : Nat) (hi : i < n) :
    ∃ (ad : Addr) (x : S35), A = some ad ∧ l[i]? = some x ∧ w.cell? (ad.add (i * 3)) = some (.int .i64 x.f0) ∧ w.cell? ⟨(ad.add (i * 3)).block, (ad.add (i * 3)).off + 1, none⟩ = some (.string x.f1) ∧ w.cell? ⟨(ad.add (i * 3)).block, (ad.add (i * 3)).off + 2, none⟩ = some (.int .i64 x.f2) := by
  obtain ⟨ad, e, h0, h1, h2⟩ := at_T35 h (i : Int) (by omega) (by omega)
  have hl := h.1
  have hil : i < l.length := by omega
  rw [rd35 hil] at h0 h1 h2
  exact ⟨ad, l[i], e, by simp [hil], h0, h1, h2⟩
set_option maxHeartbeats 4000000 in
theorem sameVals_n {W : World} {A A' : Option Addr} {n c c' : Nat} {l : List S35} (h : Kd.C k35 W A n l) (h' : Kd.C k35 W A' n l) (hl : n ≤ 1000000) :
    Calls Try.prog 69 #[.slice A n c, .slice A' n c'] W fun e w' => e = .returned (.bool true) ∧ Below W.heap.size W w' := by
  have H := Aside0.mk h
  have H' := Aside0.mk h'
  clear h h'
  go_enter Try.func69, Try.ntmps69
  go_wp2_with fail
  go_loopw [5] (fun u5 wr => ∃ k : Nat, u5 = .int .i64 k ∧ k ≤ n ∧ Aside0 (Below W.heap.size W wr)) (fun u5 _ => n - (intOf u5).toNat)
  case atStart => exact ⟨0, rfl, Nat.zero_le _, ⟨Below.refl _ _⟩⟩
  case round =>
    obtain ⟨k, rfl, hkn, HQ⟩ := hrel
    by_cases hk : k < n
    · obtain ⟨ad, x, rfl, hx, a0, a1, a2⟩ := val_at (Kd.C_below H.out HQ.out) k hk
      obtain ⟨ad', y, rfl, hy, b0, b1, b2⟩ := val_at (Kd.C_below H'.out HQ.out) k hk
      rw [hx] at hy
      injection hy with hy
      subst hy
      clear hx
      go_wp2_with fail
      go_region
      go_wp2_with fail
      go_roundw
      case rel => exact ⟨k + 1, by go_num, hk, ⟨below_drew HQ.out⟩⟩
      case measure => simp [intOf]; omega
    · go_wp2_with fail
      go_ret
      exact ⟨rfl, HQ.out⟩
theorem sameVals_c {W : World} {A A' : Option Addr} {c c' : Nat} {l : List S35} (h : Kd.C k35 W A l.length l) (_hc : l.length ≤ c) (h' : Kd.C k35 W A' l.length l) (_hc' : l.length ≤ c') (hl : l.length ≤ 1000000) :
    Calls Try.prog 69 #[.slice A l.length c, .slice A' l.length c'] W fun e w' => e = .returned (.bool true) ∧ Below W.heap.size W w' := sameVals_n h h' hl
theorem sameTexts_c {W : World} {A A' : Option Addr} {c c' : Nat} {l : List ByteArray} (h : Kd.C Kd.string W A l.length l) (hc : l.length ≤ c) (h' : Kd.C Kd.string W A' l.length l) (hc' : l.length ≤ c') (hl : l.length ≤ 1000000) :
    Calls Try.prog 70 #[.slice A l.length c, .slice A' l.length c'] W fun e w' => e = .returned (.bool true) ∧ Below W.heap.size W w' := by
  refine (spec_sameTexts.calls (l.length + 1) A c l A' c' l true W h hc h' hc' ?_).mono ?_
  · unfold spec_sameTexts.f
    rw [if_pos rfl]
    exact sameTexts_l0 l hl l.length 0 (by omega)
  · rintro e w' ⟨rfl, hd⟩
    exact ⟨rfl, hd.below⟩
def Rows4 (w : World) (x : S46) (A3 : Option Addr) (c3 : Nat) (A4 : Option Addr) (c4 : Nat) (A5 : Option Addr) (c5 : Nat) (A6 : Option Addr) (c6 : Nat) : Prop :=
  (x.f3.length ≤ c3 ∧ Kd.C k35 w A3 x.f3.length x.f3) ∧ (x.f4.length ≤ c4 ∧ Kd.C k35 w A4 x.f4.length x.f4) ∧ (x.f5.length ≤ c5 ∧ Kd.C Kd.string w A5 x.f5.length x.f5) ∧ (x.f6.length ≤ c6 ∧ Kd.C k35 w A6 x.f6.length x.f6)
theorem Rows4.below {w w1 : World} {x : S46} {A3 : Option Addr} {c3 : Nat} {A4 : Option Addr} {c4 : Nat} {A5 : Option Addr} {c5 : Nat} {A6 : Option Addr} {c6 : Nat} (h : Rows4 w x A3 c3 A4 c4 A5 c5 A6 c6) (hb : Below w.heap.size w w1) : Rows4 w1 x A3 c3 A4 c4 A5 c5 A6 c6 :=
  ⟨⟨h.1.1, Kd.C_below h.1.2 hb⟩, ⟨h.2.1.1, Kd.C_below h.2.1.2 hb⟩, ⟨h.2.2.1.1, Kd.C_below h.2.2.1.2 hb⟩, ⟨h.2.2.2.1, Kd.C_below h.2.2.2.2 hb⟩⟩
set_option maxRecDepth 100000 in
set_option maxHeartbeats 40000000 in
theorem sameObj_w (x : S46) (A3 : Option Addr) (c3 : Nat) (A4 : Option Addr) (c4 : Nat) (A5 : Option Addr) (c5 : Nat) (A6 : Option Addr) (c6 : Nat) (B3 : Option Addr) (d3 : Nat) (B4 : Option Addr) (d4 : Nat) (B5 : Option Addr) (d5 : Nat) (B6 : Option Addr) (d6 : Nat) (w : World)
    (ha : Rows4 w x A3 c3 A4 c4 A5 c5 A6 c6) (hb : Rows4 w x B3 d3 B4 d4 B5 d5 B6 d6) (ho : oL x) :
    Calls Try.prog 29 #[.agg #[.int .i64 x.f0, .string x.f1, .int .i64 x.f2, .slice A3 x.f3.length c3, .slice A4 x.f4.length c4, .slice A5 x.f5.length c5, .slice A6 x.f6.length c6], .agg #[.int .i64 x.f0, .string x.f1, .int .i64 x.f2, .slice B3 x.f3.length d3, .slice B4 x.f4.length d4, .slice B5 x.f5.length d5, .slice B6 x.f6.length d6]] w fun e w' => e = .returned (.bool true) ∧ Below w.heap.size w w' := by
  obtain ⟨Wb, hWb⟩ : ∃ Wb : World, Wb = (w.alloc (.cells #[.int .i64 x.f0, .string x.f1, .int .i64 x.f2, .slice A3 x.f3.length c3, .slice A4 x.f4.length c4, .slice A5 x.f5.length c5, .slice A6 x.f6.length c6] 46)).alloc (.cells #[.int .i64 x.f0, .string x.f1, .int .i64 x.f2, .slice B3 x.f3.length d3, .slice B4 x.f4.length d4, .slice B5 x.f5.length d5, .slice B6 x.f6.length d6] 46) := ⟨_, rfl⟩
  have hwb : Below w.heap.size w Wb := by rw [hWb]; exact bla (bla (Below.refl _ _) _) _
  have hbk : Wb.heap[w.heap.size]? = some (.cells #[.int .i64 x.f0, .string x.f1, .int .i64 x.f2, .slice A3 x.f3.length c3, .slice A4 x.f4.length c4, .slice A5 x.f5.length c5, .slice A6 x.f6.length c6] 46 (0, 0)) ∧ Wb.heap[w.heap.size + 1]? = some (.cells #[.int .i64 x.f0, .string x.f1, .int .i64 x.f2, .slice B3 x.f3.length d3, .slice B4 x.f4.length d4, .slice B5 x.f5.length d5, .slice B6 x.f6.length d6] 46 (0, 0)) := by
    rw [hWb]
    refine ⟨kla (blk_new _ _) _, ?_⟩
    have h := blk_new (w.alloc (.cells #[.int .i64 x.f0, .string x.f1, .int .i64 x.f2, .slice A3 x.f3.length c3, .slice A4 x.f4.length c4, .slice A5 x.f5.length c5, .slice A6 x.f6.length c6] 46)) (.cells #[.int .i64 x.f0, .string x.f1, .int .i64 x.f2, .slice B3 x.f3.length d3, .slice B4 x.f4.length d4, .slice B5 x.f5.length d5, .slice B6 x.f6.length d6] 46)
    rw [show (w.alloc (.cells #[.int .i64 x.f0, .string x.f1, .int .i64 x.f2, .slice A3 x.f3.length c3, .slice A4 x.f4.length c4, .slice A5 x.f5.length c5, .slice A6 x.f6.length c6] 46)).heap.size = w.heap.size + 1 by simp] at h
    exact h
  have K0 := Aside0.mk ((kcl hbk.1 0).trans (show _ = some (.int .i64 x.f0) from rfl))
  have J0 := Aside0.mk ((kcl hbk.2 0).trans (show _ = some (.int .i64 x.f0) from rfl))
  have K1 := Aside0.mk ((kcl hbk.1 1).trans (show _ = some (.string x.f1) from rfl))
  have J1 := Aside0.mk ((kcl hbk.2 1).trans (show _ = some (.string x.f1) from rfl))
  have K2 := Aside0.mk ((kcl hbk.1 2).trans (show _ = some (.int .i64 x.f2) from rfl))
  have J2 := Aside0.mk ((kcl hbk.2 2).trans (show _ = some (.int .i64 x.f2) from rfl))
  have K3 := Aside0.mk ((kcl hbk.1 3).trans (show _ = some (.slice A3 x.f3.length c3) from rfl))
  have J3 := Aside0.mk ((kcl hbk.2 3).trans (show _ = some (.slice B3 x.f3.length d3) from rfl))
  have K4 := Aside0.mk ((kcl hbk.1 4).trans (show _ = some (.slice A4 x.f4.length c4) from rfl))
  have J4 := Aside0.mk ((kcl hbk.2 4).trans (show _ = some (.slice B4 x.f4.length d4) from rfl))
  have K5 := Aside0.mk ((kcl hbk.1 5).trans (show _ = some (.slice A5 x.f5.length c5) from rfl))
  have J5 := Aside0.mk ((kcl hbk.2 5).trans (show _ = some (.slice B5 x.f5.length d5) from rfl))
  have K6 := Aside0.mk ((kcl hbk.1 6).trans (show _ = some (.slice A6 x.f6.length c6) from rfl))
  have J6 := Aside0.mk ((kcl hbk.2 6).trans (show _ = some (.slice B6 x.f6.length d6) from rfl))
  have ha' := ha.below hwb
  have hb' := hb.below hwb
  have P3 := Aside0.mk ha'.1.2
  have P4 := Aside0.mk ha'.2.1.2
  have P5 := Aside0.mk ha'.2.2.1.2
  have P6 := Aside0.mk ha'.2.2.2.2
  have R3 := Aside0.mk hb'.1.2
  have R4 := Aside0.mk hb'.2.1.2
  have R5 := Aside0.mk hb'.2.2.1.2
  have R6 := Aside0.mk hb'.2.2.2.2
  have P3c := Aside0.mk ha'.1.1
  have P4c := Aside0.mk ha'.2.1.1
  have P5c := Aside0.mk ha'.2.2.1.1
  have P6c := Aside0.mk ha'.2.2.2.1
  have R3c := Aside0.mk hb'.1.1
  have R4c := Aside0.mk hb'.2.1.1
  have R5c := Aside0.mk hb'.2.2.1.1
  have R6c := Aside0.mk hb'.2.2.2.1
  obtain ⟨o3, o4, o5, o6⟩ := ho
  have L3 := Aside0.mk (show x.f3.length ≤ 1000000 by omega)
  have L4 := Aside0.mk (show x.f4.length ≤ 1000000 by omega)
  have L5 := Aside0.mk (show x.f5.length ≤ 1000000 by omega)
  have L6 := Aside0.mk (show x.f6.length ≤ 1000000 by omega)
  have HWB := Aside0.mk hwb
  have HW := Lib.hid hWb
  clear ha hb ha' hb' o3 o4 o5 o6 hwb hWb hbk
  go_enter Try.func29, Try.ntmps29
  go_upto_region 1 with (fail)
  rw [← HW.out]
  have hq2 : Below Wb.heap.size Wb Wb := Below.refl _ _
  have k02 := K0.out
  have j02 := J0.out
  have k12 := K1.out
  have j12 := J1.out
  have k22 := K2.out
  have j22 := J2.out
  have k32 := K3.out
  have j32 := J3.out
  have k42 := K4.out
  have j42 := J4.out
  have k52 := K5.out
  have j52 := J5.out
  have k62 := K6.out
  have j62 := J6.out
  go_wp2_with fail
  refine (sameVals_c (Kd.C_below P3.out hq2) P3c.out (Kd.C_below R3.out hq2) R3c.out L3.out).mono ?_
  rintro e y3 ⟨rfl, hb3⟩
  have hq3 := bth hq2 hq2.size hb3
  have k43 := B.cell_keep hq3 K4.out
  have j43 := B.cell_keep hq3 J4.out
  have k53 := B.cell_keep hq3 K5.out
  have j53 := B.cell_keep hq3 J5.out
  have k63 := B.cell_keep hq3 K6.out
  have j63 := B.cell_keep hq3 J6.out
  clear hb3 hq2 k02 j02 k12 j12 k22 j22 k32 j32 k42 j42 k52 j52 k62 j62
  go_wp2_with fail
  refine (sameVals_c (Kd.C_below P4.out hq3) P4c.out (Kd.C_below R4.out hq3) R4c.out L4.out).mono ?_
  rintro e y4 ⟨rfl, hb4⟩
  have hq4 := bth hq3 hq3.size hb4
  have k54 := B.cell_keep hq4 K5.out
  have j54 := B.cell_keep hq4 J5.out
  have k64 := B.cell_keep hq4 K6.out
  have j64 := B.cell_keep hq4 J6.out
  clear hb4 hq3 k43 j43 k53 j53 k63 j63
  go_wp2_with fail
  refine (sameTexts_c (Kd.C_below P5.out hq4) P5c.out (Kd.C_below R5.out hq4) R5c.out L5.out).mono ?_
  rintro e y5 ⟨rfl, hb5⟩
  have hq5 := bth hq4 hq4.size hb5
  have k65 := B.cell_keep hq5 K6.out
  have j65 := B.cell_keep hq5 J6.out
  clear hb5 hq4 k54 j54 k64 j64
  go_wp2_with fail
  refine (sameVals_c (Kd.C_below P6.out hq5) P6c.out (Kd.C_below R6.out hq5) R6c.out L6.out).mono ?_
  rintro e y6 ⟨rfl, hb6⟩
  have hq6 := bth hq5 hq5.size hb6
  clear hb6 hq5 k65 j65
  go_wp2_with fail
  go_ret
  exact ⟨rfl, bst HWB.out hq6⟩
end Go.Proofs.Ytgddblpgbkgpcaa.PR
namespace Go.Proofs.Ytgddblpgbkgpcaa.PR
set_option linter.unusedVariables false
set_option linter.unusedSimpArgs false
open Go.RowKit Go.Proofs.YtgddblpgbkgpcaaW.PrintWords Go.Proofs.YtgddblpgbkgpcaaW.PrintLast Go.Proofs.YtgddblpgbkgpcaaW.PrintMore
set_option linter.unusedVariables false
set_option linter.unusedSimpArgs false
set_option maxRecDepth 100000 in
set_option maxHeartbeats 40000000 in
theorem sameHeap_w (A : Option Addr) (n c : Nat) (A' : Option Addr) (c' : Nat) (l : List S46) (w : World) (h : Kd.C k46 w A n l) (h' : Kd.C k46 w A' n l) (hn : n ≤ 1000) (ho : ∀ o ∈ l, oL o) :
    Calls Try.prog 27 #[.agg #[.slice A n c], .agg #[.slice A' n c']] w fun e w' => e = .returned (.bool true) ∧ Below w.heap.size w w' := by
  have H := Aside0.mk h
  have H' := Aside0.mk h'
  have HO := Aside0.mk ho
  clear h h' ho
  go_enter Try.func27, Try.ntmps27
  have e1 := blk_new (w.alloc (.cells #[.slice A n c] 25)) (.cells #[.slice A' n c'] 25)
  rw [show (w.alloc (.cells #[.slice A n c] 25)).heap.size = w.heap.size + 1 by simp] at e1
  have HS := Aside0.mk (show Below w.heap.size w ((w.alloc (.cells #[.slice A n c] 25)).alloc (.cells #[.slice A' n c'] 25)) ∧ ((w.alloc (.cells #[.slice A n c] 25)).alloc (.cells #[.slice A' n c'] 25)).heap[w.heap.size]? = some (.cells #[.slice A n c] 25 (0, 0)) ∧ ((w.alloc (.cells #[.slice A n c] 25)).alloc (.cells #[.slice A' n c'] 25)).heap[w.heap.size + 1]? = some (.cells #[.slice A' n c'] 25 (0, 0)) from ⟨bla (bla (Below.refl _ _) _) _, kla (blk_new _ _) _, e1⟩)
  clear e1
  go_wp2_with fail
  go_loopw [5] (fun u5 wr => ∃ k : Nat, u5 = .int .i64 k ∧ k ≤ n ∧ Aside0 (Below w.heap.size w wr ∧ wr.heap[w.heap.size]? = some (.cells #[.slice A n c] 25 (0, 0)) ∧ wr.heap[w.heap.size + 1]? = some (.cells #[.slice A' n c'] 25 (0, 0)))) (fun u5 _ => n - (intOf u5).toNat)
  case atStart => exact ⟨0, rfl, Nat.zero_le _, ⟨HS.out⟩⟩
  case round =>
    clear HS
    obtain ⟨k, rfl, hkn, HQ⟩ := hrel
    have qa := (kcl HQ.out.2.1 0).trans (show _ = some (.slice A n c) from rfl)
    have qb := (kcl HQ.out.2.2 0).trans (show _ = some (.slice A' n c') from rfl)
    by_cases hk : k < n
    · obtain ⟨x, ad, A3, c3, A4, c4, A5, c5, A6, c6, hx, hA, g0, g1, g2, g3, g4, g5, g6, h3, h4, h5, h6⟩ := obj_at (Kd.C_below H.out HQ.out.1) k hk
      obtain ⟨y, ad', B3, d3, B4, d4, B5, d5, B6, d6, hy, hB, j0, j1, j2, j3, j4, j5, j6, i3, i4, i5, i6⟩ := obj_at (Kd.C_below H'.out HQ.out.1) k hk
      rw [hx] at hy
      injection hy with hy
      subst hy
      subst hA
      subst hB
      have HSO := Aside0.mk (fun (W' : World) (hb : Below wr.heap.size wr W') => sameObj_w x A3 c3 A4 c4 A5 c5 A6 c6 B3 d3 B4 d4 B5 d5 B6 d6 W' (Rows4.below ⟨h3, h4, h5, h6⟩ hb) (Rows4.below ⟨i3, i4, i5, i6⟩ hb) (HO.out x (List.mem_of_getElem? hx)))
      clear hx h3 h4 h5 h6 i3 i4 i5 i6
      go_wp2_with fail
      have hq0 : Below wr.heap.size wr wr.drew := below_drew (Below.refl _ _)
      refine start_ (n := 12) (S := fun w' => w'.cell? ⟨w.heap.size, 0, none⟩ = some (.slice (some ad) n c) ∧ w'.cell? ⟨w.heap.size + 1, 0, none⟩ = some (.slice (some ad') n c') ∧ w'.cell? (ad.add (k * 7)) = some (.int .i64 x.f0) ∧ w'.cell? ⟨(ad.add (k * 7)).block, (ad.add (k * 7)).off + 1, none⟩ = some (.string x.f1) ∧ w'.cell? ⟨(ad.add (k * 7)).block, (ad.add (k * 7)).off + 2, none⟩ = some (.int .i64 x.f2) ∧ w'.cell? ⟨(ad.add (k * 7)).block, (ad.add (k * 7)).off + 3, none⟩ = some (.slice A3 x.f3.length c3) ∧ w'.cell? ⟨(ad.add (k * 7)).block, (ad.add (k * 7)).off + 4, none⟩ = some (.slice A4 x.f4.length c4) ∧ w'.cell? ⟨(ad.add (k * 7)).block, (ad.add (k * 7)).off + 5, none⟩ = some (.slice A5 x.f5.length c5) ∧ w'.cell? ⟨(ad.add (k * 7)).block, (ad.add (k * 7)).off + 6, none⟩ = some (.slice A6 x.f6.length c6) ∧ w'.cell? (ad'.add (k * 7)) = some (.int .i64 x.f0) ∧ w'.cell? ⟨(ad'.add (k * 7)).block, (ad'.add (k * 7)).off + 1, none⟩ = some (.string x.f1) ∧ w'.cell? ⟨(ad'.add (k * 7)).block, (ad'.add (k * 7)).off + 2, none⟩ = some (.int .i64 x.f2) ∧ w'.cell? ⟨(ad'.add (k * 7)).block, (ad'.add (k * 7)).off + 3, none⟩ = some (.slice B3 x.f3.length d3) ∧ w'.cell? ⟨(ad'.add (k * 7)).block, (ad'.add (k * 7)).off + 4, none⟩ = some (.slice B4 x.f4.length d4) ∧ w'.cell? ⟨(ad'.add (k * 7)).block, (ad'.add (k * 7)).off + 5, none⟩ = some (.slice B5 x.f5.length d5) ∧ w'.cell? ⟨(ad'.add (k * 7)).block, (ad'.add (k * 7)).off + 6, none⟩ = some (.slice B6 x.f6.length d6)) (ds := []) #[false, false, false, false, false, false, false, false, false, false, false, false] (by kernel_rfl) rfl rfl ⟨B.cell_keep hq0 qa, B.cell_keep hq0 qb, B.cell_keep hq0 g0, B.cell_keep hq0 g1, B.cell_keep hq0 g2, B.cell_keep hq0 g3, B.cell_keep hq0 g4, B.cell_keep hq0 g5, B.cell_keep hq0 g6, B.cell_keep hq0 j0, B.cell_keep hq0 j1, B.cell_keep hq0 j2, B.cell_keep hq0 j3, B.cell_keep hq0 j4, B.cell_keep hq0 j5, B.cell_keep hq0 j6⟩ (fun hHeld => ?_)
      generalize wr.drew = w10 at hq0 hHeld ⊢
      refine pure_ (i := 0) (N := some 20) (v := ?_) (a' := ?_) #[true, false, false, false, false, false, false, false, false, false, false, false] rfl rfl (by kernel_rfl) (fun _ _ _ h => h) (Or.inl ⟨by rfl, ?_⟩) ?_ ?_
      rotate_left
      · intro w'
        go_simp
        with_reducible rfl
      rotate_left
      · simp only [Act.put, List.setIfInBounds_toArray, List.set_cons_zero, List.set_cons_succ, i64_w, i32_w]
        rfl
      refine pure_ (i := 2) (N := some 22) (v := ?_) (a' := ?_) #[true, false, true, false, false, false, false, false, false, false, false, false] rfl rfl (by kernel_rfl) (fun _ _ _ h => h) (Or.inl ⟨by rfl, ?_⟩) ?_ ?_
      rotate_left
      · intro w'
        go_simp
        with_reducible rfl
      rotate_left
      · simp only [Act.put, List.setIfInBounds_toArray, List.set_cons_zero, List.set_cons_succ, i64_w, i32_w]
        rfl
      refine pure_ (i := 5) (N := some 25) (v := ?_) (a' := ?_) #[true, false, true, false, false, true, false, false, false, false, false, false] rfl rfl (by kernel_rfl) (fun _ _ _ h => h) (Or.inl ⟨by rfl, ?_⟩) ?_ ?_
      rotate_left
      · intro w'
        go_simp
        with_reducible rfl
      rotate_left
      · simp only [Act.put, List.setIfInBounds_toArray, List.set_cons_zero, List.set_cons_succ, i64_w, i32_w]
        rfl
      refine pure_ (i := 7) (N := some 27) (v := ?_) (a' := ?_) #[true, false, true, false, false, true, false, true, false, false, false, false] rfl rfl (by kernel_rfl) (fun _ _ _ h => h) (Or.inl ⟨by rfl, ?_⟩) ?_ ?_
      rotate_left
      · intro w'
        go_simp
        with_reducible rfl
      rotate_left
      · simp only [Act.put, List.setIfInBounds_toArray, List.set_cons_zero, List.set_cons_succ, i64_w, i32_w]
        rfl
      refine take_ (i := 1) (N := some 21) (v := ?_) (a' := ?_) #[true, true, true, false, false, true, false, true, false, false, false, false] rfl rfl (by kernel_rfl) (fun _ _ _ h => h) (Or.inl ⟨by rfl, ?_⟩) hHeld ?_ ?_
      rotate_left
      · rintro w' ⟨s0, s1, s2, s3, s4, s5, s6, s7, s8, s9, s10, s11, s12, s13, s14, s15⟩
        go_simp
        with_reducible rfl
      rotate_left
      · simp only [Act.put, List.setIfInBounds_toArray, List.set_cons_zero, List.set_cons_succ, i64_w, i32_w]
        rfl
      refine pure_ (i := 3) (N := some 23) (v := ?_) (a' := ?_) #[true, true, true, true, false, true, false, true, false, false, false, false] rfl rfl (by kernel_rfl) (fun _ _ _ h => h) (Or.inl ⟨by rfl, ?_⟩) ?_ ?_
      rotate_left
      · intro w'
        go_simp
        with_reducible rfl
      rotate_left
      · simp only [Act.put, List.setIfInBounds_toArray, List.set_cons_zero, List.set_cons_succ, i64_w, i32_w]
        rfl
      refine take_ (i := 4) (N := some 24) (v := ?_) (a' := ?_) #[true, true, true, true, true, true, false, true, false, false, false, false] rfl rfl (by kernel_rfl) (fun _ _ _ h => h) (Or.inl ⟨by rfl, ?_⟩) hHeld ?_ ?_
      rotate_left
      · rintro w' ⟨s0, s1, s2, s3, s4, s5, s6, s7, s8, s9, s10, s11, s12, s13, s14, s15⟩
        go_simp
        with_reducible rfl
      rotate_left
      · simp only [Act.put, List.setIfInBounds_toArray, List.set_cons_zero, List.set_cons_succ, i64_w, i32_w]
        rfl
      refine take_ (i := 6) (N := some 26) (v := ?_) (a' := ?_) #[true, true, true, true, true, true, true, true, false, false, false, false] rfl rfl (by kernel_rfl) (fun _ _ _ h => h) (Or.inl ⟨by rfl, ?_⟩) hHeld ?_ ?_
      rotate_left
      · rintro w' ⟨s0, s1, s2, s3, s4, s5, s6, s7, s8, s9, s10, s11, s12, s13, s14, s15⟩
        go_simp
        with_reducible rfl
      rotate_left
      · simp only [Act.put, List.setIfInBounds_toArray, List.set_cons_zero, List.set_cons_succ, i64_w, i32_w]
        rfl
      refine pure_ (i := 8) (N := some 28) (v := ?_) (a' := ?_) #[true, true, true, true, true, true, true, true, true, false, false, false] rfl rfl (by kernel_rfl) (fun _ _ _ h => h) (Or.inl ⟨by rfl, ?_⟩) ?_ ?_
      rotate_left
      · intro w'
        go_simp
        with_reducible rfl
      rotate_left
      · simp only [Act.put, List.setIfInBounds_toArray, List.set_cons_zero, List.set_cons_succ, i64_w, i32_w]
        rfl
      refine take_ (i := 9) (N := some 29) (v := ?_) (a' := ?_) #[true, true, true, true, true, true, true, true, true, true, false, false] rfl rfl (by kernel_rfl) (fun _ _ _ h => h) (Or.inl ⟨by rfl, ?_⟩) hHeld ?_ ?_
      rotate_left
      · rintro w' ⟨s0, s1, s2, s3, s4, s5, s6, s7, s8, s9, s10, s11, s12, s13, s14, s15⟩
        go_simp
        with_reducible rfl
      rotate_left
      · simp only [Act.put, List.setIfInBounds_toArray, List.set_cons_zero, List.set_cons_succ, i64_w, i32_w]
        rfl
      refine one_ (i := 10) (N := some 30) #[true, true, true, true, true, true, true, true, true, true, true, false] rfl rfl (by kernel_rfl) (by decide) (fun K hK => ?_)
      refine goes_ Try.func29 (by kernel_rfl) rfl #[.agg #[.int .i64 x.f0, .string x.f1, .int .i64 x.f2, .slice A3 x.f3.length c3, .slice A4 x.f4.length c4, .slice A5 x.f5.length c5, .slice A6 x.f6.length c6], .agg #[.int .i64 x.f0, .string x.f1, .int .i64 x.f2, .slice B3 x.f3.length d3, .slice B4 x.f4.length d4, .slice B5 x.f5.length d5, .slice B6 x.f6.length d6]] (by rfl) rfl rfl (by simp only [List.map_toArray, List.map_cons, List.map_nil]; rfl) ?_
      with_reducible refine (HSO.out _ hq0).mono ?_
      rintro e w12 ⟨rfl, hb⟩
      refine ⟨_, rfl, ?_⟩
      have hq1 := bth hq0 hq0.size hb
      refine hK.out _ _ ⟨B.cell_keep hq1 qa, B.cell_keep hq1 qb, B.cell_keep hq1 g0, B.cell_keep hq1 g1, B.cell_keep hq1 g2, B.cell_keep hq1 g3, B.cell_keep hq1 g4, B.cell_keep hq1 g5, B.cell_keep hq1 g6, B.cell_keep hq1 j0, B.cell_keep hq1 j1, B.cell_keep hq1 j2, B.cell_keep hq1 j3, B.cell_keep hq1 j4, B.cell_keep hq1 j5, B.cell_keep hq1 j6⟩ (fun hHeld => ?_)
      clear hK K
      refine norm_ (a' := ?_) ?_ ?_
      rotate_left
      · show Act.put _ (some 30) _ = _
        simp only [Act.put, List.setIfInBounds_toArray, List.set_cons_zero, List.set_cons_succ, i64_w, i32_w]
        rfl
      refine pure_ (i := 11) (N := some 31) (v := ?_) (a' := ?_) #[true, true, true, true, true, true, true, true, true, true, true, true] rfl rfl (by kernel_rfl) (fun _ _ _ h => h) (Or.inl ⟨by rfl, ?_⟩) ?_ ?_
      rotate_left
      · intro w'
        go_simp
        with_reducible rfl
      rotate_left
      · simp only [Act.put, List.setIfInBounds_toArray, List.set_cons_zero, List.set_cons_succ, i64_w, i32_w]
        rfl
      refine done_ (by kernel_rfl) ?_
      go_wp2_with fail
      go_roundw
      case rel => exact ⟨k + 1, by go_num, hk, ⟨bst HQ.out.1 hq1, kbw HQ.out.2.1 hq1, kbw HQ.out.2.2 hq1⟩⟩
      case measure => simp [intOf]; omega
    · go_wp2_with fail
      go_ret
      exact ⟨rfl, HQ.out.1⟩
end Go.Proofs.Ytgddblpgbkgpcaa.PR
namespace Go.Proofs.Ytgddblpgbkgpcaa.PR
set_option linter.unusedVariables false
set_option linter.unusedSimpArgs false
open Go.RowKit Go.Proofs.YtgddblpgbkgpcaaW.PrintWords Go.Proofs.YtgddblpgbkgpcaaW.PrintLast Go.Proofs.YtgddblpgbkgpcaaW.PrintMore
set_option linter.unusedVariables false
set_option linter.unusedSimpArgs false
set_option maxRecDepth 100000 in
set_option maxHeartbeats 40000000 in
theorem draw25_w (a : Option Addr) (c0 : Nat) (l0 : List Int) (w : World) (hr0 : Kd.C (Kd.int .u8) w a l0.length l0) (hc0 : l0.length ≤ c0) (hw0 : ∀ x ∈ l0, 0 ≤ x ∧ x ≤ 255) :
    Calls Try.prog 25 #[.slice a l0.length c0] w (DPost w) := by
  have HR0 := Aside0.mk hr0
  have HC0 := Aside0.mk hc0
  have hcs : CsOk (l0.take ((mn (l0.length : Int) 4000) : Int).toNat) := ⟨by rw [List.length_take]; unfold mn; split <;> omega, fun x hx => hw0 x (List.mem_of_mem_take hx)⟩
  have HF := Lib.hid (show spec_newRnd.f l0 = some (l0.take ((mn (l0.length : Int) 4000) : Int).toNat, 0) by unfold spec_newRnd.f; rw [if_pos (by unfold mn; split <;> omega), if_pos (by unfold mn; split <;> omega)])
  have HCS := Aside0.mk hcs
  clear hr0 hc0 hcs hw0
  have hb1 : Below w.heap.size w (w.alloc (.cells #[.slice none 0 0] 25)) := (Below.refl _ _).alloc (Nat.le_refl _) _
  go_enter Try.func25, Try.ntmps25
  go_wp2_with (first
    | (go_at_call 49; refine (spec_newRnd.calls a c0 l0 _ _ w _ hb1 HR0.out HC0.out HF.out).mono ?_; rintro e w2 ⟨g, rfl, hI, hB, hB'⟩; have hc2 := kbw (blk_new w (.cells #[.slice none 0 0] 25)) hB'; have hg2 := s102_gt hI hc2; have HX := Aside0.mk (show Rn w w2 g 0 ∧ Below w.heap.size w w2 ∧ w2.heap[w.heap.size]? = some (.cells #[.slice none 0 0] 25 (0, 0)) from ⟨⟨_, 0, hI, HCS.out, Int.le_refl _, Int.le_refl _⟩, hB, hc2⟩); clear hI hB hB' hc2)
    | (go_at_call 50; go_loud (refine (heap_w g 0 w _ HX.out.1 HX.out.2.1 (by omega)).mono ?_; rintro e w3 ⟨v, l, x, rfl, hx, lo, hi, hall, hl, hR, hB, hK⟩; obtain ⟨A, n, c, rfl, hn⟩ : ∃ A n c, v = .slice A n c ∧ n = l.length := slice_form hl; have hn19 : 19 ≤ n := hn ▸ lo; have hn24 : n ≤ 24 := hn ▸ hi; have HN := Lib.hid hn; have HD := Aside0.mk (Dr.start HX.out.1 HX.out.2.1 HX.out.2.2 hg2 hl hR hB hK lo hi hall hx); clear hx lo hi hall hl hR hB hK hn)))
  refine (pick_w g 3 10000 w _ HD.out.rn HD.out.bl (by omega) (by omega)).mono ?_
  rintro e w4 ⟨r, rfl, hr0, hr3, hR4, hB4, hK4⟩
  replace hr3 := hr3 (by decide)
  have HE := Aside0.mk (HD.out.call hR4 hB4 hK4)
  clear HD HX hR4 hB4 hK4
  obtain ⟨b5, hb5⟩ : ∃ b5, b5 = w3.heap.size := ⟨_, rfl⟩
  rw [← hb5] at HE ⊢
  clear hb5
  obtain ⟨r, rfl⟩ := Int.eq_ofNat_of_zero_le hr0
  clear hr0
  go_wp2_with fail
  go_loopw [7, 8] (fun u7 u8 wr => ∃ (q : Nat) (A1 : Option Addr) (m c1 : Nat) (roots : List S35), u8 = .int .i64 q ∧ u7 = .slice A1 m c1 ∧ m + q ≤ 3 ∧ Aside0 (Dr w wr g b5 (10031 - 10 * (q : Int)) (.slice A n c) l (.slice A1 m c1) roots)) (fun _ u8 _ => (intOf u8).toNat)
  case atStart => exact ⟨r, _, 1, 1, [x], rfl, rfl, by omega, ⟨HE.out.mono (by omega)⟩⟩
  case round =>
    clear HE
    obtain ⟨q, A1, m, c1, roots, rfl, rfl, hmq, HQ⟩ := hrel
    by_cases hq : 0 < q
    · have hex : ∃ p, q = p + 1 := ⟨q - 1, by omega⟩
      obtain ⟨p, rfl⟩ := hex
      have hc5 := HQ.out.cell
      go_wp2_with fail
      refine (value_w g n (10031 - 10 * ((p + 1 : Nat) : Int)) w _ HQ.out.rn HQ.out.bl (by omega) (by omega) (by omega)).mono ?_
      rintro e w5 ⟨y, rfl, hy, hR5, hB5, hK5⟩
      have HK := Aside0.mk (HQ.out.call hR5 hB5 hK5)
      clear HQ hR5 hB5 hK5 hc5
      go_wp2_with (first
        | ((with_reducible refine gate_builtin (b := .append) (xs := #[.tmp 24, .tmp 30]) rfl ?_); go_loud (at_builtin; refine Kd.R_append k35 (w0 := _) (b5 + 1) rfl (.tmp 24) (.tmp 30) 26 35 (.agg #[(.int .i64 0), (.string ⟨#[]⟩), (.int .i64 0)]) 32 rfl Try.underlying26 info35 rfl (by decide) (by omega) (.slice A1 m c1) roots y [.int .i64 y.f0, .string y.f1, .int .i64 y.f2] (fun _ => True) (fun _ => False) rfl (by rfl) ?aP (fun _ hk => hk.elim) (fun _ _ => trivial) HK.out.hr (Below.refl _ _) ?aS ?aL ?_; (case aP => exact k35_mkM _ _ _ y); (case aS => have := HK.out.lt5; omega); (case aL => have := HK.out.rowlen; omega); intro v1 w6 ho _ hg hat; obtain ⟨A6, c6, rfl⟩ := Kd.R_slice ho; obtain ⟨n6, hn6⟩ : ∃ n6, n6 = (roots ++ [y]).length := ⟨_, rfl⟩; rw [← hn6] at ho hat ⊢; have hn6' : n6 = m + 1 := (by have := HK.out.rowlen; simp at hn6; omega); have HN6 := Lib.hid hn6'; have HN := Aside0.mk (HK.out.grow hg ho hy); clear hn6 hn6' ho hg hat)))
      go_roundw
      case rel => exact ⟨p, A6, n6, c6, roots ++ [y], by go_num, rfl, by have := HN6.out; omega, ⟨HN.out.mono (by omega)⟩⟩
      case measure => simp [intOf]
    · have hq0 : q = 0 := by omega
      subst hq0
      have hpd := (HQ.out.mono (show _ ≤ (10040 : Int) by omega)).drew
      have hml : m ≤ 3 := by omega
      have HP := Aside0.mk (fun (W' : World) (h : Dr w W' g b5 10040 (.slice A n c) l (.slice A1 m c1) roots) => show Calls Try.prog 51 #[.pointer (some ⟨g, 0, none⟩), .int .i64 (wrap64 ((m : Int) + 1))] W' (fun e w' => ∃ i : Nat, e = .returned (.int .i64 (i : Int)) ∧ i ≤ m ∧ Rn w w' g 10041 ∧ Below w.heap.size w w' ∧ KeepBut W' w' g none) from by
        rw [show wrap64 ((m : Int) + 1) = (m : Int) + 1 by unfold wrap64; omega]
        refine (pick_w g ((m : Int) + 1) 10040 w W' h.rn h.bl (by omega) (by omega)).mono ?_
        rintro e w' ⟨r, rfl, h0, h1, hR, hB, hK⟩
        obtain ⟨i, rfl⟩ := Int.eq_ofNat_of_zero_le h0
        exact ⟨i, rfl, by have := h1 (by omega); omega, hR, hB, hK⟩)
      clear HQ
      go_wp2_with fail
      refine start_ (n := 10) (S := fun w' => w'.cell? ⟨b5, 0, none⟩ = some (.slice A n c)) (ds := [8]) #[false, false, false, false, false, false, false, false, false, false] (by kernel_rfl) rfl rfl (hpd.cell) (fun hHeld => ?_)
      generalize wr.drew = w10 at hpd hHeld ⊢
      refine pure_ (i := 1) (N := some 33) (v := ?_) (a' := ?_) #[false, true, false, false, false, false, false, false, false, false] rfl rfl (by kernel_rfl) (fun _ _ _ h => h) (Or.inl ⟨by rfl, ?_⟩) ?_ ?_
      rotate_left
      · intro w'
        go_simp
        with_reducible rfl
      rotate_left
      · simp only [Act.put, List.setIfInBounds_toArray, List.set_cons_zero, List.set_cons_succ, i64_w, i32_w]
        rfl
      refine pure_ (i := 2) (N := some 34) (v := ?_) (a' := ?_) #[false, true, true, false, false, false, false, false, false, false] rfl rfl (by kernel_rfl) (fun _ _ _ h => h) (Or.inl ⟨by rfl, ?_⟩) ?_ ?_
      rotate_left
      · intro w'
        go_simp
        with_reducible rfl
      rotate_left
      · simp only [Act.put, List.setIfInBounds_toArray, List.set_cons_zero, List.set_cons_succ, i64_w, i32_w]
        rfl
      refine pure_ (i := 3) (N := some 35) (v := ?_) (a' := ?_) #[false, true, true, true, false, false, false, false, false, false] rfl rfl (by kernel_rfl) (fun _ _ _ h => h) (Or.inl ⟨by rfl, ?_⟩) ?_ ?_
      rotate_left
      · intro w'
        go_simp
        with_reducible rfl
      rotate_left
      · simp only [Act.put, List.setIfInBounds_toArray, List.set_cons_zero, List.set_cons_succ, i64_w, i32_w]
        rfl
      refine pure_ (i := 4) (N := some 36) (v := ?_) (a' := ?_) #[false, true, true, true, true, false, false, false, false, false] rfl rfl (by kernel_rfl) (fun _ _ _ h => h) (Or.inl ⟨by rfl, ?_⟩) ?_ ?_
      rotate_left
      · intro w'
        go_simp
        with_reducible rfl
      rotate_left
      · simp only [Act.put, List.setIfInBounds_toArray, List.set_cons_zero, List.set_cons_succ, i64_w, i32_w]
        rfl
      refine pure_ (i := 5) (N := some 37) (v := ?_) (a' := ?_) #[false, true, true, true, true, true, false, false, false, false] rfl rfl (by kernel_rfl) (fun _ _ _ h => h) (Or.inl ⟨by rfl, ?_⟩) ?_ ?_
      rotate_left
      · intro w'
        go_simp
        with_reducible rfl
      rotate_left
      · simp only [Act.put, List.setIfInBounds_toArray, List.set_cons_zero, List.set_cons_succ, i64_w, i32_w]
        rfl
      refine take_ (i := 0) (N := some 32) (v := ?_) (a' := ?_) #[true, true, true, true, true, true, false, false, false, false] rfl rfl (by kernel_rfl) (fun _ _ _ h => h) (Or.inl ⟨by rfl, ?_⟩) hHeld ?_ ?_
      rotate_left
      · intro w' s0
        go_simp
        with_reducible rfl
      rotate_left
      · simp only [Act.put, List.setIfInBounds_toArray, List.set_cons_zero, List.set_cons_succ, i64_w, i32_w]
        rfl
      refine one_ (i := 6) (N := some 38) #[true, true, true, true, true, true, true, false, false, false] rfl rfl (by kernel_rfl) (by decide) (fun K hK => ?_)
      refine goes_ Try.func51 (by kernel_rfl) rfl #[.pointer (some ⟨g, 0, none⟩), .int .i64 (wrap64 ((m : Int) + 1))] (by rfl) rfl rfl (by simp only [List.map_toArray, List.map_cons, List.map_nil]; rfl) ?_
      with_reducible refine (HP.out _ hpd).mono ?_
      rintro e w11 ⟨i, rfl, hi2, hR11, hB11, hK11⟩
      refine ⟨_, rfl, ?_⟩
      have hp6 := hpd.call hR11 hB11 hK11
      clear hR11 hB11 hK11
      have hz := (kcl hp6.c2 0).trans (show _ = some (.slice none 0 0) from rfl)
      have hzf := kfz hp6.c2 0
      have hs1 : (i : Int) ≤ (c1 : Int) := by have := hp6.rowlen; omega
      have hs2 : (i : Int) ≤ 4 := by omega
      refine hK.out _ _ (hp6.cell) (fun hHeld => ?_)
      clear hK K
      refine norm_ (a' := ?_) ?_ ?_
      rotate_left
      · show Act.put _ (some 38) _ = _
        simp only [Act.put, List.setIfInBounds_toArray, List.set_cons_zero, List.set_cons_succ, i64_w, i32_w]
        rfl
      refine pure_ (i := 7) (N := some 39) (v := ?_) (a' := ?_) #[true, true, true, true, true, true, true, true, false, false] rfl rfl (by kernel_rfl) (fun _ _ _ h => h) (Or.inl ⟨by rfl, ?_⟩) ?_ ?_
      rotate_left
      · intro w'
        go_simp
        with_reducible rfl
      rotate_left
      · simp only [Act.put, List.setIfInBounds_toArray, List.set_cons_zero, List.set_cons_succ, i64_w, i32_w]
        rfl
      refine last_ (i := 8) (N := none) #[true, true, true, true, true, true, true, true, true, false] rfl rfl (by kernel_rfl) (by decide) (fun K hK => ?_)
      refine skip_ (w1 := ?_) (by rfl) rfl ?_ ?_
      rotate_left
      · go_simp
        rfl
      refine hK.out _ _ ?_
      clear hK K
      refine pure_ (i := 9) (N := some 3) (v := ?_) (a' := ?_) #[true, true, true, true, true, true, true, true, true, true] rfl rfl (by kernel_rfl) (fun _ _ _ h => h) (Or.inl ⟨by rfl, ?_⟩) ?_ ?_
      rotate_left
      · intro w'
        go_simp
        with_reducible rfl
      rotate_left
      · simp only [Act.put, List.setIfInBounds_toArray, List.set_cons_zero, List.set_cons_succ, i64_w, i32_w]
        rfl
      refine done_ (by kernel_rfl) ?_
      go_wp2_with fail
      obtain ⟨o1, o2⟩ := hp6.fin hi2 (by have := hp6.rowlen; omega)
      refine bodyPost_ret (v := .tuple #[.agg #[.slice A n c], .slice A1 i c1]) (B.res_ct (p := 2) (u := 3) rfl _ _ w.heap.size 25 _ (0, 0) _ rfl o1 Try.underlying25 rfl rfl) rfl o2
end Go.Proofs.Ytgddblpgbkgpcaa.PR
namespace Go.Proofs.Ytgddblpgbkgpcaa.PR
set_option linter.unusedVariables false
set_option linter.unusedSimpArgs false
open Go.RowKit Go.Proofs.YtgddblpgbkgpcaaW.PrintWords Go.Proofs.YtgddblpgbkgpcaaW.PrintLast Go.Proofs.YtgddblpgbkgpcaaW.PrintMore
set_option linter.unusedVariables false
set_option linter.unusedSimpArgs false
theorem swk_mem (s : List Bool) : ∀ (k : Nat) (l : List S46) (o : S46), o ∈ swk s k l → o ∈ l ∨ o = z46
  | 0, _, _, h => .inl h
  | k + 1, l, o, h => by
    rw [swk] at h
    split at h
    · exact swk_mem s k l o h
    · rcases List.mem_or_eq_of_mem_set h with h | h
      · exact swk_mem s k l o h
      · exact .inr h
theorem z46_oB : oB z46 = true := by decide +kernel
theorem z46_ok (n : Nat) : B.objB B.nsOk n (tO z46) = true := by
  unfold B.objB B.headB B.tailB
  simp [tO, z46, B.inR, B.nsOk, B.allN]
  decide +kernel
theorem swk_oB {s : List Bool} {k : Nat} {l : List S46} (h : ∀ o ∈ l, oB o = true) : ∀ o ∈ swk s k l, oB o = true := by
  intro o ho
  rcases swk_mem s k l o ho with ho | rfl
  · exact h o ho
  · exact z46_oB
theorem swk_okH {s : List Bool} {k : Nat} {l : List S46} (h : okH l = true) : okH (swk s k l) = true := by
  unfold okH at h ⊢
  rw [swk_len]
  rw [Bool.and_eq_true] at h ⊢
  refine ⟨h.1, ?_⟩
  have h2 := h.2
  rw [List.all_eq_true] at h2 ⊢
  intro o ho
  obtain ⟨o', ho', rfl⟩ := List.mem_map.1 ho
  rcases swk_mem s k l o' ho' with hm | rfl
  · exact h2 _ (List.mem_map_of_mem hm)
  · exact z46_ok _
theorem okV_sub {n : Nat} {roots r1 : List S35} (h : okV n roots = true) (hs : ∀ x ∈ r1, x ∈ roots) : okV n r1 = true := by
  unfold okV at h ⊢
  rw [List.all_eq_true] at h ⊢
  intro x hx
  obtain ⟨y, hy, rfl⟩ := List.mem_map.1 hx
  exact h _ (List.mem_map_of_mem (hs y hy))
theorem okB_sub {l : List S46} {roots r1 : List S35} (h : okB l roots = true) (hs : ∀ x ∈ r1, x ∈ roots) : okB l r1 = true := by
  rw [okB_eq, Bool.and_eq_true] at h ⊢
  exact ⟨h.1, okV_sub h.2 hs⟩
theorem okB_swk {s : List Bool} {k : Nat} {l : List S46} {roots : List S35} (h : okB l roots = true) : okB (swk s k l) roots = true := by
  rw [okB_eq, Bool.and_eq_true] at h ⊢
  exact ⟨swk_okH h.1, by rw [swk_len]; exact h.2⟩
theorem swk_keep {s : List Bool} {n : Nat} {l : List S46} {i : Nat} (hi : s[i]? = some true) : (swk s n l)[i]? = l[i]? := by
  rcases Nat.lt_or_ge i l.length with h | h
  · rw [swk_get s l n i h, if_neg (by rintro ⟨_, h2⟩; exact h2 (.inr hi))]
  · rw [List.getElem?_eq_none (by rw [swk_len]; exact h), List.getElem?_eq_none h]
theorem rc_swk {l : List S46} {roots r1 : List S35} {n : Nat} {s : List Bool} (hs : ∀ i : Nat, s[i]? = some true ↔ Rc l roots i) (hr : ∀ x ∈ r1, x ∈ roots) (i : Nat) : Rc (swk s n l) r1 i ↔ Rc l r1 i := by
  have up : ∀ {i : Nat}, Rc l r1 i → s[i]? = some true := fun h => (hs _).2 (rc_mono (fun x hx h4 => .root x (hr x hx) h4) h)
  constructor
  · intro h
    induction h with
    | root x hx h4 => exact .root x hx h4
    | step i o x _ ho hx h4 ih => exact .step i o x ih (by rw [← swk_keep (n := n) (up ih)]; exact ho) hx h4
  · intro h
    induction h with
    | root x hx h4 => exact .root x hx h4
    | step i o x hi ho hx h4 ih => exact .step i o x ih (by rw [swk_keep (up hi)]; exact ho) hx h4
theorem swk_swk {s s1 : List Bool} {n : Nat} {l : List S46} (hn : l.length = n) (h : ∀ i : Nat, s1[i]? = some true → s[i]? = some true) : swk s1 n (swk s n l) = swk s1 n l := by
  refine List.ext_getElem? fun i => ?_
  rcases Nat.lt_or_ge i l.length with hi | hi
  · rw [swk_get s1 _ n i (by rw [swk_len]; exact hi), swk_get s1 l n i hi, swk_get s l n i hi]
    by_cases h1 : i < n ∧ ¬ (i < 19 ∨ s1[i]? = some true)
    · rw [if_pos h1, if_pos h1]
    · rw [if_neg h1, if_neg h1]
      rw [if_neg]
      rintro ⟨a, b⟩
      refine h1 ⟨a, ?_⟩
      rintro (c | c)
      · exact b (.inl c)
      · exact b (.inr (h i c))
  · rw [List.getElem?_eq_none (by rw [swk_len, swk_len]; exact hi), List.getElem?_eq_none (by rw [swk_len]; exact hi)]
theorem swept_len {l : List S46} {roots : List S35} {n : Nat} {s : List Bool} {out : List S46} (hn : l.length = n) (h : Swept l roots n s out) : out.length = n ∨ out = [] := by
  cases hk : okB l roots
  · exact .inr (h.2.2.2 hk)
  · exact .inl (by rw [h.2.2.1 hk, swk_len, hn])
theorem swept_oB {l : List S46} {roots : List S35} {n : Nat} {s : List Bool} {out : List S46} (h : Swept l roots n s out) (ob : ∀ o ∈ l, oB o = true) : ∀ o ∈ out, oB o = true := by
  cases hk : okB l roots
  · rw [h.2.2.2 hk]; simp
  · rw [h.2.2.1 hk]; exact swk_oB ob
theorem swept_sub {l : List S46} {roots r1 : List S35} {n : Nat} {s s1 : List Bool} {out o1 : List S46} (hn : l.length = n) (h : Swept l roots n s out) (hk : okB l roots = true) (hr : ∀ x ∈ r1, x ∈ roots) (h1 : Swept l r1 n s1 o1) : Swept out r1 n s1 o1 := by
  have hk1 := okB_sub hk hr
  have hs := h.2.1 hk
  have e := h.2.2.1 hk
  subst e
  refine ⟨h1.1, fun _ i => ?_, fun _ => ?_, fun h' => ?_⟩
  · rw [h1.2.1 hk1 i, rc_swk hs hr]
  · rw [h1.2.2.1 hk1, swk_swk hn]
    intro i hi
    exact (hs i).2 (rc_mono (fun x hx h4 => .root x (hr x hx) h4) ((h1.2.1 hk1 i).1 hi))
  · rw [okB_swk hk1] at h'; simp at h'
theorem swept_self {l : List S46} {roots : List S35} {n : Nat} {s : List Bool} {out : List S46} (hn : l.length = n) (h : Swept l roots n s out) (hk : okB l roots = true) : Swept out roots n s out :=
  swept_sub hn h hk (fun _ hx => hx) h
theorem swept_told {l : List S46} {roots : List S35} {n : Nat} {s s1 : List Bool} {out : List S46} {o1 : List Int} (h : Swept l roots n s out) (hk : okB l roots = true) (h1 : Told l roots n s1 o1) : Told out roots n s1 o1 := by
  have hs := h.2.1 hk
  have e := h.2.2.1 hk
  subst e
  have hk' := okB_swk (s := s) (k := n) hk
  refine ⟨h1.1, fun _ i => ?_, fun _ => h1.2.2.1 hk, fun h' => by rw [hk'] at h'; simp at h'⟩
  rw [h1.2.1 hk i, rc_swk hs (fun _ hx => hx)]
theorem swept_same {l : List S46} {roots : List S35} {n : Nat} {s s1 : List Bool} {out : List S46} {o1 : List Int} (h : Swept l roots n s out) (hk : okB l roots = true) (h1 : Told l roots n s1 o1) {q : Nat} (hq : (q : Int) ∈ o1) : out[q]? = l[q]? := by
  obtain ⟨q', _, hr, e⟩ := (told_mem h1 hk _).1 hq
  have : q' = q := by omega
  subst this
  rw [h.2.2.1 hk]
  exact swk_keep ((h.2.1 hk _).2 hr)
theorem swept_okH {l : List S46} {roots : List S35} {n : Nat} {s : List Bool} {out : List S46} (h : Swept l roots n s out) (hk : okB l roots = true) : okH out = true := by
  rw [h.2.2.1 hk]
  rw [okB_eq, Bool.and_eq_true] at hk
  exact swk_okH hk.1
end Go.Proofs.Ytgddblpgbkgpcaa.PR
namespace Go.Proofs.Ytgddblpgbkgpcaa.PR
set_option linter.unusedVariables false
set_option linter.unusedSimpArgs false
open Go.RowKit Go.Proofs.YtgddblpgbkgpcaaW.PrintWords Go.Proofs.YtgddblpgbkgpcaaW.PrintLast Go.Proofs.YtgddblpgbkgpcaaW.PrintMore
set_option linter.unusedVariables false
set_option linter.unusedSimpArgs false
theorem HPost.open {w : World} {l : List S46} {e : Ending} {w' : World} (h : HPost w l e w') : ∃ (A : Option Addr) (n c : Nat), e = .returned (.agg #[.slice A n c]) ∧ n = l.length ∧ Kd.C k46 w' A n l ∧ n ≤ c ∧ Below w.heap.size w w' := by
  obtain ⟨v, rfl, hr, hb⟩ := h
  obtain ⟨A, c, rfl⟩ := Kd.R_slice hr
  obtain ⟨_, h2, h3⟩ := Kd.R_reads' hr
  exact ⟨A, _, c, rfl, rfl, h3, h2, hb⟩
section
variable {w1 : World} {A : Option Addr} {n c : Nat} {A1 : Option Addr} {m c1 : Nat} {l : List S46} {roots : List S35} {s : List Bool} {out : List S46}
theorem Dd.sweepI (h : Dd w1 A n c A1 m c1 l roots) (ht : Swept l roots n s out) : Calls Try.prog 26 #[.agg #[.slice A n c], .slice A1 m c1] w1 (HPost w1 out) :=
  implSweep_w A n c A1 m c1 l roots s out w1 h.hC h.hR (by have := h.n19; omega) (by have := h.n24; omega) h.ob (fun x hx => Nat.le_trans (h.vs x hx).1 (by decide)) (by have := h.m4; omega) ht
theorem Dd.sweepS (h : Dd w1 A n c A1 m c1 l roots) (ht : Swept l roots n s out) : Calls Try.prog 28 #[.agg #[.slice A n c], .slice A1 m c1] w1 (HPost w1 out) :=
  specSweep_w A n c A1 m c1 l roots s out w1 h.hC h.hnc h.hR h.hmc h.n19 (by have := h.n24; omega) h.ob (fun x hx => Nat.le_trans (h.vs x hx).1 (by decide)) (by have := h.m4; omega) ht
end
theorem swept_le {l : List S46} {roots : List S35} {n : Nat} {s : List Bool} {out : List S46} (hn : l.length = n) (h24 : n ≤ 24) (h : Swept l roots n s out) : out.length ≤ 24 := by
  rcases swept_len hn h with h | h
  · omega
  · rw [h]; simp
theorem oB_all {l : List S46} (h : ∀ o ∈ l, oB o = true) : ∀ o ∈ l, oL o := fun o ho => (oB_oL (h o ho)).1
end Go.Proofs.Ytgddblpgbkgpcaa.PR
namespace Go.Proofs.Ytgddblpgbkgpcaa.PR
set_option linter.unusedVariables false
set_option linter.unusedSimpArgs false
open Go.RowKit Go.Proofs.YtgddblpgbkgpcaaW.PrintWords Go.Proofs.YtgddblpgbkgpcaaW.PrintLast Go.Proofs.YtgddblpgbkgpcaaW.PrintMore
set_option linter.unusedVariables false
set_option linter.unusedSimpArgs false
theorem rd_mem {l : List Int} {k : Nat} (h : k < l.length) : rdOf 0 l (k : Int) ∈ l := by
  unfold rdOf
  simp [List.getD_eq_getElem?_getD, h]
end Go.Proofs.Ytgddblpgbkgpcaa.PR
