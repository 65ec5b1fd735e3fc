/- Part of the proof of fnHeapTwo_holds. -/
import Derived.Test.YtgddblpgbkgpcaaZbq0
import Derived.Test.YtgddblpgbkgpcaaZbr0
import Derived.Test.YtgddblpgbkgpcaaZbr2
import Derived.BigQuiet
import Derived.Deep.QuietTactic
import Derived.Deep.Light
namespace Go.Proofs.Ytgddblpgbkgpcaa.PR
set_option linter.unusedVariables false
set_option linter.unusedSimpArgs false
open Go.RowKit Go.Proofs.YtgddblpgbkgpcaaW.PrintWords Go.Proofs.YtgddblpgbkgpcaaW.PrintLast Go.Proofs.YtgddblpgbkgpcaaW.PrintMore
set_option linter.unusedVariables false
set_option linter.unusedSimpArgs false
structure Dr (w wi : World) (g b5 : Nat) (b : Int) (v : Value) (l : List S46) (u : Value) (roots : List S35) : Prop where
  rn : Rn w wi g b
  bl : Below w.heap.size w wi
  c2 : wi.heap[w.heap.size]? = some (.cells #[.slice none 0 0] 25 (0, 0))
  c5 : wi.heap[b5]? = some (.cells #[v] 25 (0, 0))
  g2 : w.heap.size < g
  gB : g < b5
  hl : k46.R 46 wi w.heap.size (fun k => k ≠ w.heap.size ∧ k ≠ g ∧ k < b5) v l
  hr : k35.R 35 wi (b5 + 1) (fun _ => True) u roots
  lo : 19 ≤ l.length
  hi : l.length ≤ 24
  all : ∀ x ∈ l, oB x = true
  vs : ∀ x ∈ roots, VOk x
section
variable {w wi w1 : World} {g b5 : Nat} {b b' : Int} {v u : Value} {l : List S46} {roots : List S35}
theorem Dr.mono (h : Dr w wi g b5 b v l u roots) (hb : b ≤ b') : Dr w wi g b5 b' v l u roots := ⟨h.rn.mono hb, h.bl, h.c2, h.c5, h.g2, h.gB, h.hl, h.hr, h.lo, h.hi, h.all, h.vs⟩
theorem Dr.call (h : Dr w wi g b5 b v l u roots) (hR : Rn w w1 g b') (hB : Below w.heap.size w w1) (hK : KeepBut wi w1 g none) : Dr w w1 g b5 b' v l u roots := by
  have h1 := h.g2
  have h2 := h.gB
  exact ⟨hR, hB, hK.blk h.c2 (by omega) (by simp), hK.blk h.c5 (by omega) (by simp), h1, h2, Kd.R_keep h.hl hK (fun k hk => hk.2.1), Kd.R_mono (Kd.R_step (Kd.R_bound h.hr) (fun k hk hlt => hK.2 k hlt (by have := hk.2.1; omega) (by simp))) (fun _ _ => trivial), h.lo, h.hi, h.all, h.vs⟩
theorem Dr.drew (h : Dr w wi g b5 b v l u roots) : Dr w wi.drew g b5 b v l u roots := h.call h.rn.drew (below_drew h.bl) (KeepBut.of_below (below_drew (Below.refl _ _)) g none)
theorem Dr.cell (h : Dr w wi g b5 b v l u roots) : wi.cell? ⟨b5, 0, none⟩ = some v := (blk_cell h.c5 0).trans rfl
theorem Dr.lt5 (h : Dr w wi g b5 b v l u roots) : b5 < wi.heap.size := blk_lt h.c5
theorem Dr.grow (h : Dr w wi g b5 b v l u roots) {u1 : Value} {x : S35} (hg : wi.grownBy w1 u.ownBlock) (hr : k35.R 35 w1 (b5 + 1) (fun _ => True) u1 (roots ++ [x])) (hx : VOk x) : Dr w w1 g b5 b v l u1 (roots ++ [x]) := by
  have h1 := h.g2
  have h2 := h.gB
  have hub := Kd.R_base h.hr
  have ne : ∀ k, k ≤ b5 → some k ≠ u.ownBlock := fun k hk e => by have := hub k e.symm; omega
  refine ⟨h.rn.grown hg (ne g (by omega)), pw_below_grown h.bl _ h.bl.size hg (fun k hk => by have := hub k hk; omega), blk_grown h.c2 hg (ne _ (by omega)), blk_grown h.c5 hg (ne _ (Nat.le_refl _)), h1, h2, Kd.R_grown h.hl hg (fun k hk => ne k (by omega)), hr, h.lo, h.hi, h.all, fun y hy => ?_⟩
  rcases List.mem_append.1 hy with hy | hy
  · exact h.vs y hy
  · rw [List.mem_singleton.1 hy]; exact hx
theorem Dr.rowlen {A1 : Option Addr} {m c1 : Nat} (h : Dr w wi g b5 b v l (.slice A1 m c1) roots) : m ≤ c1 ∧ m = roots.length := by
  obtain ⟨a, b, _⟩ := Kd.R_reads' h.hr
  exact ⟨b, a⟩
theorem Dr.start {w2 w3 : World} (hR0 : Rn w w2 g b) (hB0 : Below w.heap.size w w2) (hc2 : w2.heap[w.heap.size]? = some (.cells #[.slice none 0 0] 25 (0, 0))) (hg2 : w.heap.size < g)
    (hl : k46.R 46 w3 w2.heap.size (fun _ => True) v l) (hR : Rn w w3 g b') (hB : Below w.heap.size w w3) (hK : KeepBut w2 w3 g none) (lo : 19 ≤ l.length) (hi : l.length ≤ 24) (all : ∀ o ∈ l, oB o = true) {x : S35} (hx : VOk x) :
    Dr w (((w3.alloc (.cells #[v] 25)).alloc (.cells #[.int .i64 x.f0, .string x.f1, .int .i64 x.f2] 35)).alloc (.cells #[.int .i64 x.f0, .string x.f1, .int .i64 x.f2] 35)) g w3.heap.size b' v l (.slice (some ⟨w3.heap.size + 2, 0, none⟩) 1 1) [x] := by
  have hs := hK.1
  have hs2 := blk_lt hc2
  have hgl := hR0.lt
  have e3 : ((w3.alloc (.cells #[v] 25)).alloc (.cells #[.int .i64 x.f0, .string x.f1, .int .i64 x.f2] 35)).heap.size = w3.heap.size + 2 := by simp
  have hl2 : k46.R 46 w3 w.heap.size (fun k => k ≠ w.heap.size ∧ k ≠ g ∧ k < w3.heap.size) v l := Kd.R_lower (Kd.R_mono (Kd.R_bound hl) (fun k hk => by have := hk.2.1; have := hk.2.2.1; refine ⟨?_, ?_, ?_⟩ <;> omega)) (by omega)
  refine ⟨((hR.alloc _).alloc _).alloc _, below_alloc (below_alloc (below_alloc hB _) _) _, blk_alloc (blk_alloc (blk_alloc (hK.blk hc2 (by omega) (by simp)) _) _) _, blk_alloc (blk_alloc (blk_new _ _) _) _, hg2, by omega, Kd.R_alloc (Kd.R_alloc (Kd.R_alloc hl2 _) _) _, ?_, lo, hi, all, fun y hy => ?_⟩
  · have := R_fresh ((w3.alloc (.cells #[v] 25)).alloc (.cells #[.int .i64 x.f0, .string x.f1, .int .i64 x.f2] 35)) (w3.heap.size + 1) (by simp) [x] (by simp)
    rw [e3] at this
    exact this
  · rw [List.mem_singleton.1 hy]; exact hx
end
theorem slice_form {w : World} {base : Nat} {ok : Nat → Prop} {v : Value} {l : List S46} (h : k46.R 46 w base ok v l) : ∃ A n c, v = .slice A n c ∧ n = l.length := by
  obtain ⟨A, c, rfl⟩ := Kd.R_slice h
  exact ⟨A, _, c, rfl, rfl⟩
theorem s102_gt {w w2 : World} {g : Nat} {f0 : List Int} {f1 : Int} (hI : IsS102 w w2 g f0 f1) (h2 : w2.heap[w.heap.size]? = some (.cells #[.slice none 0 0] 25 (0, 0))) : w.heap.size < g := by
  obtain ⟨_, _, hgc, hge, _⟩ := hI
  rcases Nat.lt_or_ge w.heap.size g with h | h
  · exact h
  · exfalso
    have e : g = w.heap.size := by omega
    subst e
    rw [h2] at hgc
    injection hgc with hgc
    injection hgc with _ hgc
    exact absurd hgc (by decide)
def DPost (w : World) (e : Ending) (w' : World) : Prop :=
  ∃ (A : Option Addr) (n c : Nat) (A1 : Option Addr) (m c1 : Nat) (l : List S46) (roots : List S35), e = .returned (.tuple #[.agg #[.slice A n c], .slice A1 m c1]) ∧ Kd.C k46 w' A n l ∧ n ≤ c ∧ Kd.C k35 w' A1 m roots ∧ m ≤ c1 ∧ 19 ≤ n ∧ n ≤ 24 ∧ (∀ o ∈ l, oB o = true) ∧ (∀ x ∈ roots, VOk x) ∧ m ≤ 4 ∧ Below w.heap.size w w'
theorem Dr.fin {w w1 : World} {g b5 : Nat} {b : Int} {l : List S46} {roots : List S35} {A A1 : Option Addr} {n c m c1 i : Nat} (h : Dr w w1 g b5 b (.slice A n c) l (.slice A1 m c1) roots) (hi : i ≤ m) (hm : m ≤ 4) :
    (w1.setCell ⟨w.heap.size, 0, none⟩ (.slice A n c)).heap[w.heap.size]? = some (.cells #[.slice A n c] 25 (0, 0)) ∧ DPost w (.returned (.tuple #[.agg #[.slice A n c], .slice A1 i c1])) (w1.setCell ⟨w.heap.size, 0, none⟩ (.slice A n c)) := by
  have h1 := h.g2
  have h2 := h.gB
  obtain ⟨hm1, hm2⟩ := h.rowlen
  have hl := Kd.R_far h.hl (p := ⟨w.heap.size, 0, none⟩) (fun k hk => hk.1) (.slice A n c)
  have hr := Kd.R_far (Kd.R_bound h.hr) (p := ⟨w.heap.size, 0, none⟩) (fun k hk => by have := hk.2.1; simp; omega) (.slice A n c)
  obtain ⟨e1, e2, e3⟩ := Kd.R_reads' hl
  have ht := R_C (Kd.R_take hr (m := i) (by omega))
  rw [← e1] at e3
  exact ⟨blk_put h.c2 0 _ rfl, A, n, c, A1, i, c1, l, roots.take i, rfl, e3, e2, ht, by omega, by have := h.lo; omega, by have := h.hi; omega, h.all, fun x hx => h.vs x (List.mem_of_mem_take hx), by omega, h.bl.setCell (Nat.le_refl _) _⟩
set_option maxRecDepth 100000 in
set_option maxHeartbeats 40000000 in
theorem draw15_w (a : Option Addr) (c0 : Nat) (l0 : List Int) (w : World) (hr0 : Kd.C (Kd.int .u8) w a l0.length l0) (hc0 : l0.length ≤ c0) (hw0 : ∀ x ∈ l0, 0 ≤ x ∧ x ≤ 255) :
    Calls Try.prog 15 #[.slice a l0.length c0] w (DPost w) := by
  have HR0 := Aside0.mk hr0
  have HC0 := Aside0.mk hc0
  have hcs : CsOk (l0.take ((mn (l0.length : Int) 4000) : Int).toNat) := ⟨by rw [List.length_take]; unfold mn; split <;> omega, fun x hx => hw0 x (List.mem_of_mem_take hx)⟩
  have HF := Lib.hid (show spec_newRnd.f l0 = some (l0.take ((mn (l0.length : Int) 4000) : Int).toNat, 0) by unfold spec_newRnd.f; rw [if_pos (by unfold mn; split <;> omega), if_pos (by unfold mn; split <;> omega)])
  have HCS := Aside0.mk hcs
  clear hr0 hc0 hcs hw0
  have hb1 : Below w.heap.size w (w.alloc (.cells #[.slice none 0 0] 25)) := (Below.refl _ _).alloc (Nat.le_refl _) _
  go_enter Try.func15, Try.ntmps15
  go_wp2_with (first
    | (go_at_call 49; refine (spec_newRnd.calls a c0 l0 _ _ w _ hb1 HR0.out HC0.out HF.out).mono ?_; rintro e w2 ⟨g, rfl, hI, hB, hB'⟩; have hc2 := blk_below (blk_new w (.cells #[.slice none 0 0] 25)) hB'; have hg2 := s102_gt hI hc2; have HX := Aside0.mk (show Rn w w2 g 0 ∧ Below w.heap.size w w2 ∧ w2.heap[w.heap.size]? = some (.cells #[.slice none 0 0] 25 (0, 0)) from ⟨⟨_, 0, hI, HCS.out, Int.le_refl _, Int.le_refl _⟩, hB, hc2⟩); clear hI hB hB' hc2)
    | (go_at_call 50; go_loud (refine (heap_w g 0 w _ HX.out.1 HX.out.2.1 (by omega)).mono ?_; rintro e w3 ⟨v, l, x, rfl, hx, lo, hi, hall, hl, hR, hB, hK⟩; obtain ⟨A, n, c, rfl, hn⟩ : ∃ A n c, v = .slice A n c ∧ n = l.length := slice_form hl; have hn19 : 19 ≤ n := hn ▸ lo; have hn24 : n ≤ 24 := hn ▸ hi; have HN := Lib.hid hn; have HD := Aside0.mk (Dr.start HX.out.1 HX.out.2.1 HX.out.2.2 hg2 hl hR hB hK lo hi hall hx); clear hx lo hi hall hl hR hB hK hn)))
  refine (pick_w g 3 10000 w _ HD.out.rn HD.out.bl (by omega) (by omega)).mono ?_
  rintro e w4 ⟨r, rfl, hr0, hr3, hR4, hB4, hK4⟩
  replace hr3 := hr3 (by decide)
  have HE := Aside0.mk (HD.out.call hR4 hB4 hK4)
  clear HD HX hR4 hB4 hK4
  obtain ⟨b5, hb5⟩ : ∃ b5, b5 = w3.heap.size := ⟨_, rfl⟩
  rw [← hb5] at HE ⊢
  clear hb5
  obtain ⟨r, rfl⟩ := Int.eq_ofNat_of_zero_le hr0
  clear hr0
  go_wp2_with fail
  go_loopw [7, 8] (fun u7 u8 wr => ∃ (q : Nat) (A1 : Option Addr) (m c1 : Nat) (roots : List S35), u8 = .int .i64 q ∧ u7 = .slice A1 m c1 ∧ m + q ≤ 3 ∧ Aside0 (Dr w wr g b5 (10031 - 10 * (q : Int)) (.slice A n c) l (.slice A1 m c1) roots)) (fun _ u8 _ => (intOf u8).toNat)
  case atStart => exact ⟨r, _, 1, 1, [x], rfl, rfl, by omega, ⟨HE.out.mono (by omega)⟩⟩
  case round =>
    clear HE
    obtain ⟨q, A1, m, c1, roots, rfl, rfl, hmq, HQ⟩ := hrel
    by_cases hq : 0 < q
    · have hex : ∃ p, q = p + 1 := ⟨q - 1, by omega⟩
      obtain ⟨p, rfl⟩ := hex
      have hc5 := HQ.out.cell
      go_wp2_with fail
      refine (value_w g n (10031 - 10 * ((p + 1 : Nat) : Int)) w _ HQ.out.rn HQ.out.bl (by omega) (by omega) (by omega)).mono ?_
      rintro e w5 ⟨y, rfl, hy, hR5, hB5, hK5⟩
      have HK := Aside0.mk (HQ.out.call hR5 hB5 hK5)
      clear HQ hR5 hB5 hK5 hc5
      go_wp2_with (first
        | ((with_reducible refine gate_builtin (b := .append) (xs := #[.tmp 24, .tmp 30]) rfl ?_); go_loud (at_builtin; refine Kd.R_append k35 (w0 := _) (b5 + 1) rfl (.tmp 24) (.tmp 30) 26 35 (.agg #[(.int .i64 0), (.string ⟨#[]⟩), (.int .i64 0)]) 32 rfl Try.underlying26 info35 rfl (by decide) (by omega) (.slice A1 m c1) roots y [.int .i64 y.f0, .string y.f1, .int .i64 y.f2] (fun _ => True) (fun _ => False) rfl (by rfl) ?aP (fun _ hk => hk.elim) (fun _ _ => trivial) HK.out.hr (Below.refl _ _) ?aS ?aL ?_; (case aP => exact k35_mkM _ _ _ y); (case aS => have := HK.out.lt5; omega); (case aL => have := HK.out.rowlen; omega); intro v1 w6 ho _ hg hat; obtain ⟨A6, c6, rfl⟩ := Kd.R_slice ho; obtain ⟨n6, hn6⟩ : ∃ n6, n6 = (roots ++ [y]).length := ⟨_, rfl⟩; rw [← hn6] at ho hat ⊢; have hn6' : n6 = m + 1 := (by have := HK.out.rowlen; simp at hn6; omega); have HN6 := Lib.hid hn6'; have HN := Aside0.mk (HK.out.grow hg ho hy); clear hn6 hn6' ho hg hat)))
      go_roundw
      case rel => exact ⟨p, A6, n6, c6, roots ++ [y], by go_num, rfl, by have := HN6.out; omega, ⟨HN.out.mono (by omega)⟩⟩
      case measure => simp [intOf]
    · have hq0 : q = 0 := by omega
      subst hq0
      have hpd := (HQ.out.mono (show _ ≤ (10040 : Int) by omega)).drew
      have hml : m ≤ 3 := by omega
      have HP := Aside0.mk (fun (W' : World) (h : Dr w W' g b5 10040 (.slice A n c) l (.slice A1 m c1) roots) => show Calls Try.prog 51 #[.pointer (some ⟨g, 0, none⟩), .int .i64 (wrap64 ((m : Int) + 1))] W' (fun e w' => ∃ i : Nat, e = .returned (.int .i64 (i : Int)) ∧ i ≤ m ∧ Rn w w' g 10041 ∧ Below w.heap.size w w' ∧ KeepBut W' w' g none) from by
        rw [show wrap64 ((m : Int) + 1) = (m : Int) + 1 by unfold wrap64; omega]
        refine (pick_w g ((m : Int) + 1) 10040 w W' h.rn h.bl (by omega) (by omega)).mono ?_
        rintro e w' ⟨r, rfl, h0, h1, hR, hB, hK⟩
        obtain ⟨i, rfl⟩ := Int.eq_ofNat_of_zero_le h0
        exact ⟨i, rfl, by have := h1 (by omega); omega, hR, hB, hK⟩)
      clear HQ
      go_wp2_with fail
      refine start_ (n := 10) (S := fun w' => w'.cell? ⟨b5, 0, none⟩ = some (.slice A n c)) (ds := [8]) #[false, false, false, false, false, false, false, false, false, false] (by kernel_rfl) rfl rfl (hpd.cell) (fun hHeld => ?_)
      generalize wr.drew = w10 at hpd hHeld ⊢
      refine pure_ (i := 1) (N := some 33) (v := ?_) (a' := ?_) #[false, true, false, false, false, false, false, false, false, false] rfl rfl (by kernel_rfl) (fun _ _ _ h => h) (Or.inl ⟨by rfl, ?_⟩) ?_ ?_
      rotate_left
      · intro w'
        go_simp
        with_reducible rfl
      rotate_left
      · simp only [Act.put, List.setIfInBounds_toArray, List.set_cons_zero, List.set_cons_succ, i64_w, i32_w]
        rfl
      refine pure_ (i := 2) (N := some 34) (v := ?_) (a' := ?_) #[false, true, true, false, false, false, false, false, false, false] rfl rfl (by kernel_rfl) (fun _ _ _ h => h) (Or.inl ⟨by rfl, ?_⟩) ?_ ?_
      rotate_left
      · intro w'
        go_simp
        with_reducible rfl
      rotate_left
      · simp only [Act.put, List.setIfInBounds_toArray, List.set_cons_zero, List.set_cons_succ, i64_w, i32_w]
        rfl
      refine pure_ (i := 3) (N := some 35) (v := ?_) (a' := ?_) #[false, true, true, true, false, false, false, false, false, false] rfl rfl (by kernel_rfl) (fun _ _ _ h => h) (Or.inl ⟨by rfl, ?_⟩) ?_ ?_
      rotate_left
      · intro w'
        go_simp
        with_reducible rfl
      rotate_left
      · simp only [Act.put, List.setIfInBounds_toArray, List.set_cons_zero, List.set_cons_succ, i64_w, i32_w]
        rfl
      refine pure_ (i := 4) (N := some 36) (v := ?_) (a' := ?_) #[false, true, true, true, true, false, false, false, false, false] rfl rfl (by kernel_rfl) (fun _ _ _ h => h) (Or.inl ⟨by rfl, ?_⟩) ?_ ?_
      rotate_left
      · intro w'
        go_simp
        with_reducible rfl
      rotate_left
      · simp only [Act.put, List.setIfInBounds_toArray, List.set_cons_zero, List.set_cons_succ, i64_w, i32_w]
        rfl
      refine pure_ (i := 5) (N := some 37) (v := ?_) (a' := ?_) #[false, true, true, true, true, true, false, false, false, false] rfl rfl (by kernel_rfl) (fun _ _ _ h => h) (Or.inl ⟨by rfl, ?_⟩) ?_ ?_
      rotate_left
      · intro w'
        go_simp
        with_reducible rfl
      rotate_left
      · simp only [Act.put, List.setIfInBounds_toArray, List.set_cons_zero, List.set_cons_succ, i64_w, i32_w]
        rfl
      refine take_ (i := 0) (N := some 32) (v := ?_) (a' := ?_) #[true, true, true, true, true, true, false, false, false, false] rfl rfl (by kernel_rfl) (fun _ _ _ h => h) (Or.inl ⟨by rfl, ?_⟩) hHeld ?_ ?_
      rotate_left
      · intro w' s0
        go_simp
        with_reducible rfl
      rotate_left
      · simp only [Act.put, List.setIfInBounds_toArray, List.set_cons_zero, List.set_cons_succ, i64_w, i32_w]
        rfl
      refine one_ (i := 6) (N := some 38) #[true, true, true, true, true, true, true, false, false, false] rfl rfl (by kernel_rfl) (by decide) (fun K hK => ?_)
      refine goes_ Try.func51 (by kernel_rfl) rfl #[.pointer (some ⟨g, 0, none⟩), .int .i64 (wrap64 ((m : Int) + 1))] (by rfl) rfl rfl (by simp only [List.map_toArray, List.map_cons, List.map_nil]; rfl) ?_
      with_reducible refine (HP.out _ hpd).mono ?_
      rintro e w11 ⟨i, rfl, hi2, hR11, hB11, hK11⟩
      refine ⟨_, rfl, ?_⟩
      have hp6 := hpd.call hR11 hB11 hK11
      clear hR11 hB11 hK11
      have hz := (blk_cell hp6.c2 0).trans (show _ = some (.slice none 0 0) from rfl)
      have hzf := blk_frozen hp6.c2 0
      have hs1 : (i : Int) ≤ (c1 : Int) := by have := hp6.rowlen; omega
      have hs2 : (i : Int) ≤ 4 := by omega
      refine hK.out _ _ (hp6.cell) (fun hHeld => ?_)
      clear hK K
      refine norm_ (a' := ?_) ?_ ?_
      rotate_left
      · show Act.put _ (some 38) _ = _
        simp only [Act.put, List.setIfInBounds_toArray, List.set_cons_zero, List.set_cons_succ, i64_w, i32_w]
        rfl
      refine pure_ (i := 7) (N := some 39) (v := ?_) (a' := ?_) #[true, true, true, true, true, true, true, true, false, false] rfl rfl (by kernel_rfl) (fun _ _ _ h => h) (Or.inl ⟨by rfl, ?_⟩) ?_ ?_
      rotate_left
      · intro w'
        go_simp
        with_reducible rfl
      rotate_left
      · simp only [Act.put, List.setIfInBounds_toArray, List.set_cons_zero, List.set_cons_succ, i64_w, i32_w]
        rfl
      refine last_ (i := 8) (N := none) #[true, true, true, true, true, true, true, true, true, false] rfl rfl (by kernel_rfl) (by decide) (fun K hK => ?_)
      refine skip_ (w1 := ?_) (by rfl) rfl ?_ ?_
      rotate_left
      · go_simp
        rfl
      refine hK.out _ _ ?_
      clear hK K
      refine pure_ (i := 9) (N := some 3) (v := ?_) (a' := ?_) #[true, true, true, true, true, true, true, true, true, true] rfl rfl (by kernel_rfl) (fun _ _ _ h => h) (Or.inl ⟨by rfl, ?_⟩) ?_ ?_
      rotate_left
      · intro w'
        go_simp
        with_reducible rfl
      rotate_left
      · simp only [Act.put, List.setIfInBounds_toArray, List.set_cons_zero, List.set_cons_succ, i64_w, i32_w]
        rfl
      refine done_ (by kernel_rfl) ?_
      go_wp2_with fail
      obtain ⟨o1, o2⟩ := hp6.fin hi2 (by have := hp6.rowlen; omega)
      refine bodyPost_ret (v := .tuple #[.agg #[.slice A n c], .slice A1 i c1]) (B.res_ct (p := 2) (u := 3) rfl _ _ w.heap.size 25 _ (0, 0) _ rfl o1 Try.underlying25 rfl rfl) rfl o2
end Go.Proofs.Ytgddblpgbkgpcaa.PR
namespace Go.Proofs.Ytgddblpgbkgpcaa.PR
set_option linter.unusedVariables false
set_option linter.unusedSimpArgs false
open Go.RowKit Go.Proofs.YtgddblpgbkgpcaaW.PrintWords Go.Proofs.YtgddblpgbkgpcaaW.PrintLast Go.Proofs.YtgddblpgbkgpcaaW.PrintMore
set_option linter.unusedVariables false
set_option linter.unusedSimpArgs false
theorem sameNums_l0 (l : List Int) (hl : l.length ≤ 1000000) : ∀ (d j : Nat), l.length = j + d → spec_sameNums.l0 (d + 1) l l (j : Int) = some true
  | 0, j, h => by rw [spec_sameNums.l0, if_neg (by omega)]
  | d + 1, j, h => by
    rw [spec_sameNums.l0, if_pos (by omega), if_pos (by omega), if_pos (by omega), if_pos rfl, show wrap64 ((j : Int) + 1) = ((j + 1 : Nat) : Int) by unfold wrap64; omega]
    exact sameNums_l0 l hl d (j + 1) (by omega)
theorem same_self (l : List Int) (hl : l.length ≤ 1000000) : spec_SameInts.f (l.length + 1) l l = some true := by
  unfold spec_SameInts.f spec_sameNums.f
  rw [if_pos rfl]
  have := sameNums_l0 l hl l.length 0 (by omega)
  rw [show (0 : Int) = ((0 : Nat) : Int) from rfl, this]
  rfl
theorem inList_l0 (l : List Int) (x : Int) (hl : l.length ≤ 1000000) : ∀ (d j : Nat), l.length = j + d → spec_inList.l0 (d + 1) l x (j : Int) = some (decide (x ∈ l.drop j))
  | 0, j, h => by
    rw [spec_inList.l0, if_neg (by omega), List.drop_eq_nil_of_le (by omega)]
    simp
  | d + 1, j, h => by
    have hj : j < l.length := by omega
    rw [spec_inList.l0, if_pos (by omega), if_pos (by omega), rdI hj, List.drop_eq_getElem_cons hj]
    by_cases hx : l[j] = x
    · rw [if_pos hx]; simp [hx]
    · rw [if_neg hx, show wrap64 ((j : Int) + 1) = ((j + 1 : Nat) : Int) by unfold wrap64; omega, inList_l0 l x hl d (j + 1) (by omega)]
      have hx' : ¬ x = l[j] := fun h => hx h.symm
      simp only [List.mem_cons, hx', false_or]
theorem hasInt_f (l : List Int) (x : Int) (hl : l.length ≤ 1000000) : spec_HasInt.f (l.length + 1) l x = some (decide (x ∈ l)) := by
  unfold spec_HasInt.f spec_inList.f
  have := inList_l0 l x hl l.length 0 (by omega)
  rw [show (0 : Int) = ((0 : Nat) : Int) from rfl, this]
  simp
def Told (l : List S46) (roots : List S35) (n : Nat) (s : List Bool) (out : List Int) : Prop :=
  s.length = n ∧ (okB l roots = true → ∀ i : Nat, s[i]? = some true ↔ Rc l roots i) ∧ (okB l roots = true → out = idx s n) ∧ (okB l roots = false → out = [])
theorem told_ex (l : List S46) (roots : List S35) (n : Nat) (hn : l.length = n) (hn' : n ≤ 200) (hr : roots.length ≤ 1000) (ob : ∀ o ∈ l, oB o = true) : ∃ s out, Told l roots n s out := by
  cases h : okB l roots
  · exact ⟨List.replicate n false, [], by simp, by rw [h]; simp, by rw [h]; simp, fun _ => rfl⟩
  · have HI := okB_in h
    obtain ⟨K, s, _, h1, h2⟩ := reached_f (l := l) (roots := roots) (by omega) hr (fun o ho => by have := oB_facts (ob o ho); omega) HI.1 HI.2
    exact ⟨s, idx s n, by omega, fun _ => h2, fun _ => rfl, by rw [h]; simp⟩
theorem told_len {l : List S46} {roots : List S35} {n : Nat} {s : List Bool} {out : List Int} (h : Told l roots n s out) : out.length ≤ n := by
  cases hk : okB l roots
  · rw [h.2.2.2 hk]; simp
  · rw [h.2.2.1 hk]; exact idx_len s n
theorem told_mem {l : List S46} {roots : List S35} {n : Nat} {s : List Bool} {out : List Int} (h : Told l roots n s out) (hk : okB l roots = true) (e : Int) : e ∈ out ↔ ∃ q : Nat, q < n ∧ Rc l roots q ∧ (q : Int) = e := by
  rw [h.2.2.1 hk, idx_mem]
  constructor
  · rintro ⟨q, hq, hs, e⟩; exact ⟨q, hq, (h.2.1 hk q).1 hs, e⟩
  · rintro ⟨q, hq, hs, e⟩; exact ⟨q, hq, (h.2.1 hk q).2 hs, e⟩
theorem rc_mono {l : List S46} {r1 r2 : List S35} (h : ∀ x ∈ r1, x.f0 = 4 → Rc l r2 x.f2.toNat) {i : Nat} (hi : Rc l r1 i) : Rc l r2 i := by
  induction hi with
  | root x hx h4 => exact h x hx h4
  | step i o x _ ho hx h4 ih => exact .step i o x ih ho hx h4
end Go.Proofs.Ytgddblpgbkgpcaa.PR
namespace Go.Proofs.Ytgddblpgbkgpcaa.PR
set_option linter.unusedVariables false
set_option linter.unusedSimpArgs false
open Go.RowKit Go.Proofs.YtgddblpgbkgpcaaW.PrintWords Go.Proofs.YtgddblpgbkgpcaaW.PrintLast Go.Proofs.YtgddblpgbkgpcaaW.PrintMore
set_option linter.unusedVariables false
set_option linter.unusedSimpArgs false
structure Dd (w1 : World) (A : Option Addr) (n c : Nat) (A1 : Option Addr) (m c1 : Nat) (l : List S46) (roots : List S35) : Prop where
  hC : Kd.C k46 w1 A n l
  hnc : n ≤ c
  hR : Kd.C k35 w1 A1 m roots
  hmc : m ≤ c1
  n19 : 19 ≤ n
  n24 : n ≤ 24
  ob : ∀ o ∈ l, oB o = true
  vs : ∀ x ∈ roots, VOk x
  m4 : m ≤ 4
section
variable {w1 w2 : World} {A : Option Addr} {n c : Nat} {A1 : Option Addr} {m c1 : Nat} {l : List S46} {roots : List S35} {s : List Bool} {out : List Int}
theorem Dd.below (h : Dd w1 A n c A1 m c1 l roots) (hb : Below w1.heap.size w1 w2) : Dd w2 A n c A1 m c1 l roots := ⟨Kd.C_below h.hC hb, h.hnc, Kd.C_below h.hR hb, h.hmc, h.n19, h.n24, h.ob, h.vs, h.m4⟩
theorem Dd.impl (h : Dd w1 A n c A1 m c1 l roots) (ht : Told l roots n s out) : Calls Try.prog 16 #[.agg #[.slice A n c], .slice A1 m c1] w1 (IPost w1 out) :=
  implReach_w A n c A1 m c1 l roots s w1 h.hC h.hR (by have := h.n19; omega) (by have := h.n24; omega) h.ob (fun x hx => Nat.le_trans (h.vs x hx).1 (by decide)) (by have := h.m4; omega) ht.1 ht.2.1 out ht.2.2.1 ht.2.2.2
theorem Dd.spec (h : Dd w1 A n c A1 m c1 l roots) (ht : Told l roots n s out) : Calls Try.prog 17 #[.agg #[.slice A n c], .slice A1 m c1] w1 (IPost w1 out) :=
  specReach_w A n c A1 m c1 l roots s w1 h.hC h.hnc h.hR h.hmc (by have := h.n19; omega) (by have := h.n24; omega) h.ob (fun x hx => Nat.le_trans (h.vs x hx).1 (by decide)) (by have := h.m4; omega) ht.1 ht.2.1 out ht.2.2.1 ht.2.2.2
theorem Dd.other (h : Dd w1 A n c A1 m c1 l roots) {A2 : Option Addr} {m2 : Nat} (c2 : Nat) {r2 : List S35} (hR : Kd.C k35 w1 A2 m2 r2) (hs : ∀ x ∈ r2, x.f1.size ≤ 100) (hm : m2 ≤ 60) (ht : Told l r2 n s out) : Calls Try.prog 16 #[.agg #[.slice A n c], .slice A2 m2 c2] w1 (IPost w1 out) :=
  implReach_w A n c A2 m2 c2 l r2 s w1 h.hC hR (by have := h.n19; omega) (by have := h.n24; omega) h.ob hs hm ht.1 ht.2.1 out ht.2.2.1 ht.2.2.2
end
theorem same_c {W : World} {A A' : Option Addr} {n c c' : Nat} {l : List Int} (h : Kd.C (Kd.int .i64) W A n l) (hc : n ≤ c) (h' : Kd.C (Kd.int .i64) W A' n l) (hc' : n ≤ c') (hl : l.length ≤ 1000000) :
    Calls Try.prog 18 #[.slice A n c, .slice A' n c'] W fun e w' => e = .returned (.bool true) ∧ Below W.heap.size W w' := by
  have e := h.1
  subst e
  refine (spec_SameInts.calls _ A c l A' c' l true W h hc h' hc' (same_self l hl)).mono ?_
  rintro e w' ⟨rfl, hd⟩
  exact ⟨rfl, hd.below⟩
theorem R_lit' {w : World} {base : Nat} {ok : Nat → Prop} {v : Value} {out : List Int} {n : Nat} (_h : n = out.length) (h : (Kd.int .i64).R 3 w base ok v out) : (Kd.int .i64).R 3 w base ok v out := h
theorem IPost.open {w : World} {out : List Int} {e : Ending} {w' : World} (h : IPost w out e w') : ∃ (A : Option Addr) (n c : Nat), e = .returned (.slice A n c) ∧ n = out.length ∧ (Kd.int .i64).R 3 w' w.heap.size (fun _ => True) (.slice A n c) out ∧ Below w.heap.size w w' := by
  obtain ⟨v, rfl, hr, hb⟩ := h
  obtain ⟨A, c, rfl⟩ := Kd.R_slice hr
  exact ⟨A, _, c, rfl, rfl, hr, hb⟩
end Go.Proofs.Ytgddblpgbkgpcaa.PR
namespace Go.Proofs.Ytgddblpgbkgpcaa.PR
set_option linter.unusedVariables false
set_option linter.unusedSimpArgs false
open Go.RowKit Go.Proofs.YtgddblpgbkgpcaaW.PrintWords Go.Proofs.YtgddblpgbkgpcaaW.PrintLast Go.Proofs.YtgddblpgbkgpcaaW.PrintMore
set_option linter.unusedVariables false
set_option linter.unusedSimpArgs false
theorem Dd.root {w1 : World} {A : Option Addr} {n c : Nat} {A1 : Option Addr} {m c1 : Nat} {l : List S46} {roots : List S35} (h : Dd w1 A n c A1 m c1 l roots) (i : Nat) (hi : i < m) :
    ∃ (ad : Addr) (x : S35), A1 = some ad ∧ roots[i]? = some x ∧ w1.cell? (ad.add (i * 3)) = some (.int .i64 x.f0) ∧ w1.cell? ⟨(ad.add (i * 3)).block, (ad.add (i * 3)).off + 1, none⟩ = some (.string x.f1) ∧ w1.cell? ⟨(ad.add (i * 3)).block, (ad.add (i * 3)).off + 2, none⟩ = some (.int .i64 x.f2) := by
  obtain ⟨ad, e, h0, h1, h2⟩ := at_T35 h.hR (i : Int) (by omega) (by omega)
  have hl := h.hR.1
  have hil : i < roots.length := by omega
  rw [rd35 hil] at h0 h1 h2
  exact ⟨ad, roots[i], e, by simp [hil], h0, h1, h2⟩
theorem one_c (w : World) (x : S35) : Kd.C k35 (w.alloc (.cells #[.int .i64 x.f0, .string x.f1, .int .i64 x.f2] 35)) (some ⟨w.heap.size, 0, none⟩) 1 [x] := by
  have h := R_C (R_fresh w 0 (Nat.zero_le _) [x] (by simp))
  exact h
theorem has_c {W : World} {A : Option Addr} {n c : Nat} {l : List Int} {e : Int} {b : Bool} (h : Kd.C (Kd.int .i64) W A n l) (hc : n ≤ c) (hb : l.length ≤ 1000000 ∧ decide (e ∈ l) = b) :
    Calls Try.prog 20 #[.slice A n c, .int .i64 e] W fun e w' => e = .returned (.bool b) ∧ Below W.heap.size W w' := by
  have e' := h.1
  subst e'
  refine (spec_HasInt.calls _ A c l e b W h hc (by rw [← hb.2]; exact hasInt_f l e hb.1)).mono ?_
  rintro e w' ⟨rfl, hd⟩
  exact ⟨rfl, hd.below⟩
theorem rc_split {l : List S46} {roots : List S35} {i : Nat} (h : Rc l roots i) : ∃ x ∈ roots, Rc l [x] i := by
  induction h with
  | root x hx h4 => exact ⟨x, hx, .root x (by simp) h4⟩
  | step i o x _ ho hx h4 ih =>
    obtain ⟨y, hy, hr⟩ := ih
    exact ⟨y, hy, .step i o x hr ho hx h4⟩
theorem okB_one {l : List S46} {roots : List S35} {x : S35} (hx : x ∈ roots) (h : okB l roots = true) : okB l [x] = true := by
  rw [okB_eq, Bool.and_eq_true] at h ⊢
  refine ⟨h.1, ?_⟩
  have h2 := h.2
  unfold okV at h2 ⊢
  rw [List.all_eq_true] at h2
  simpa using h2 (tV x) (List.mem_map_of_mem hx)
theorem rc_of_one {l : List S46} {roots : List S35} {x : S35} (hx : x ∈ roots) {i : Nat} (h : Rc l [x] i) : Rc l roots i :=
  rc_mono (fun y hy h4 => by rw [List.mem_singleton.1 hy]; exact .root x hx (by rw [← List.mem_singleton.1 hy]; exact h4)) h
theorem rd_mem {l : List Int} {k : Nat} (h : k < l.length) : rdOf 0 l (k : Int) ∈ l := by
  unfold rdOf
  simp [List.getD_eq_getElem?_getD, h]
theorem told_one {l : List S46} {x : S35} {n : Nat} {s : List Bool} {out : List Int} (h : Told l [x] n s out) (hk : okB l [x] = true) {q : Nat} (hq : q < n) : (q : Int) ∈ out ↔ Rc l [x] q := by
  rw [told_mem h hk]
  constructor
  · rintro ⟨q', _, hr, e⟩
    have : q' = q := by omega
    subst this
    exact hr
  · intro hr
    exact ⟨q, hq, hr, rfl⟩
theorem take_more {l : List S46} {roots : List S35} {q i : Nat} (h : ∃ x ∈ roots.take i, Rc l [x] q) : ∃ x ∈ roots.take (i + 1), Rc l [x] q := by
  obtain ⟨x, hx, hr⟩ := h
  exact ⟨x, List.take_subset_take_left _ (Nat.le_succ _) hx, hr⟩
theorem take_step {l : List S46} {roots : List S35} {q i : Nat} {x : S35} {fd b : Bool} (h : fd = true ↔ ∃ x ∈ roots.take i, Rc l [x] q) (hf : fd = false) (hx : roots[i]? = some x) (hb : b = true ↔ Rc l [x] q) : b = true ↔ ∃ x ∈ roots.take (i + 1), Rc l [x] q := by
  obtain ⟨hi, e⟩ := List.getElem?_eq_some_iff.1 hx
  rw [hb, List.take_succ_eq_append_getElem hi, e]
  constructor
  · intro hr
    exact ⟨x, by simp, hr⟩
  · rintro ⟨y, hy, hr⟩
    rcases List.mem_append.1 hy with hy | hy
    · rw [h.2 ⟨y, hy, hr⟩] at hf
      simp at hf
    · rw [← List.mem_singleton.1 hy]; exact hr
theorem one_in {l : List S46} {roots : List S35} {n : Nat} {s sx : List Bool} {out ox : List Int} {x : S35} (h : Told l roots n s out) (hx : x ∈ roots) (hx1 : Told l [x] n sx ox) (h0 : 0 < out.length) {e : Int} (he : e ∈ ox) : e ∈ out := by
  cases hk : okB l roots
  · rw [h.2.2.2 hk] at h0; simp at h0
  · obtain ⟨q, hq, hr, rfl⟩ := (told_mem hx1 (okB_one hx hk) e).1 he
    exact (told_mem h hk _).2 ⟨q, hq, rc_of_one hx hr, rfl⟩
set_option maxRecDepth 100000 in
set_option maxHeartbeats 40000000 in
theorem law4_w (a : Option Addr) (c0 : Nat) (l0 : List Int) (w : World) (hr0 : Kd.C (Kd.int .u8) w a l0.length l0) (hc0 : l0.length ≤ c0) (hw0 : ∀ x ∈ l0, 0 ≤ x ∧ x ≤ 255) :
    Calls Try.prog 4 #[.slice a l0.length c0] w fun e w' => e = .returned (.bool true) ∧ Below w.heap.size w w' := by
  have HDR := Aside0.mk (draw15_w a c0 l0 w hr0 hc0 hw0)
  clear hr0 hc0 hw0
  generalize l0.length = q0 at HDR ⊢
  by_cases hq : (1048576 : Int) < (q0 : Int)
  · go_enter Try.func4, Try.ntmps4
    go_wp2
    go_ret
    exact ⟨rfl, Below.refl _ _⟩
  · go_enter Try.func4, Try.ntmps4
    go_wp2_with fail
    refine HDR.out.mono ?_
    rintro e w1 ⟨A, n, c, A1, m, c1, l, roots, rfl, hC, hnc, hR, hmc, hn19, hn24, hob, hvs, hm4, hb1⟩
    have HD := Aside0.mk (show Dd w1 A n c A1 m c1 l roots from ⟨hC, hnc, hR, hmc, hn19, hn24, hob, hvs, hm4⟩)
    obtain ⟨s, out, ht⟩ := told_ex l roots n hC.1 (by omega) (by have := hR.1; omega) hob
    have HT := Aside0.mk ht
    have hol : out.length ≤ 24 := by have := told_len ht; omega
    obtain ⟨n5, hn5⟩ : ∃ n5, n5 = out.length := ⟨_, rfl⟩
    have hn5' : n5 ≤ 24 := by omega
    have HN5 := Lib.hid hn5
    have HOL := Aside0.mk hol
    have HB1 := Aside0.mk hb1
    clear hC hnc hR hmc hn19 hn24 hob hvs hm4 ht hol hn5 hb1 HDR
    go_wp2_with fail
    have hbx := (blk_cell (blk_new w1 (.cells #[.slice A n c] 25)) 0).trans (show _ = some (Value.slice A n c) from rfl)
    have hb2 : Below w1.heap.size w1 (w1.alloc (.cells #[.slice A n c] 25)) := below_alloc (Below.refl _ _) _
    have HX := Aside0.mk hb2
    refine ((HD.out.below HX.out).impl HT.out).mono ?_
    rintro e w2 hp
    obtain ⟨A5, n5', c5, rfl, e5, hr5, hb5⟩ := hp.open
    obtain rfl : n5' = n5 := by rw [HN5.out, e5]
    have HR5 := Aside0.mk hr5
    have HX2 := Aside0.mk (below_then HX.out HX.out.size hb5)
    replace hbx := B.cell_keep hb5 hbx
    clear HX hp e5 hr5 hb5 hb2
    go_wp2_with fail
    refine ((HD.out.below HX2.out).spec HT.out).mono ?_
    rintro e w3 hp
    obtain ⟨A6, n6', c6, rfl, e6, hr6, hb6⟩ := hp.open
    obtain rfl : n6' = n5' := by rw [HN5.out, e6]
    have HR6 := Aside0.mk hr6
    have HX3 := Aside0.mk (below_then HX2.out HX2.out.size hb6)
    replace hbx := B.cell_keep hb6 hbx
    replace HR5 := Aside0.mk (Kd.R_below HR5.out hb6)
    clear HX2 hp e6 hr6 hb6
    go_wp2_with fail
    refine (same_c (R_C HR5.out) (Kd.R_reads' HR5.out).2.1 (R_C HR6.out) (Kd.R_reads' HR6.out).2.1 (by have := HOL.out; omega)).mono ?_
    rintro e w4 ⟨rfl, hb7⟩
    have HX4 := Aside0.mk (below_then HX3.out HX3.out.size hb7)
    replace hbx := B.cell_keep hb7 hbx
    replace HR5 := Aside0.mk (Kd.R_below HR5.out hb7)
    clear HX3 HR6 hb7
    go_wp2_with fail
    have hrl : roots.length = m := HD.out.hR.1
    have HRL := Lib.hid hrl
    have hm4 : m ≤ 4 := HD.out.m4
    have hn24 : n ≤ 24 := HD.out.n24
    clear hrl
    have hbx4 := Aside0.mk hbx
    clear hbx
    obtain ⟨W4, hW4⟩ : ∃ W4 : World, W4 = w4 := ⟨_, rfl⟩
    rw [← hW4] at HX4 HR5 hbx4
    have HW4 := Lib.hid hW4
    clear hW4
    go_loopw [6] (fun u6 wr => ∃ i : Nat, u6 = .int .i64 i ∧ i ≤ m ∧ Aside0 (Below W4.heap.size W4 wr)) (fun u6 _ => m - (intOf u6).toNat)
    case atStart => exact ⟨0, rfl, Nat.zero_le _, ⟨by rw [HW4.out]; exact Below.refl _ _⟩⟩
    case round =>
      obtain ⟨i, rfl, him, HQ⟩ := hrel
      by_cases hi : i < m
      · have HDr := Aside0.mk ((HD.out.below HX4.out).below HQ.out)
        obtain ⟨ad, x, hA, hx, e1, e2, e3⟩ := HDr.out.root i hi
        subst hA
        have hxm := List.mem_of_getElem? hx
        obtain ⟨sx, ox, htx⟩ := told_ex l [x] n HD.out.hC.1 (by have := HD.out.n24; omega) (by simp) HD.out.ob
        obtain ⟨n7, hn7⟩ : ∃ n7, n7 = ox.length := ⟨_, rfl⟩
        have hn7' : n7 ≤ 24 := by have := told_len htx; have := HD.out.n24; omega
        have HN7 := Lib.hid hn7
        have HTX := Aside0.mk htx
        have HXM := Aside0.mk hxm
        have HONE := Aside0.mk (fun (W' : World) (hb : Below wr.heap.size wr W') => (HDr.out.below (below_alloc hb (.cells #[.int .i64 x.f0, .string x.f1, .int .i64 x.f2] 35))).other 1 (one_c W' x) (fun y hy => by rw [List.mem_singleton.1 hy]; exact Nat.le_trans (HDr.out.vs x hxm).1 (by decide)) (by omega) htx)
        clear htx hn7 hxm hx
        have e0 := B.cell_keep HQ.out hbx4.out
        go_wp2_with fail
        have hpd : Below wr.heap.size wr wr.drew := below_drew (Below.refl _ _)
        refine start_ (n := 8) (S := fun w' => w'.cell? ⟨w1.heap.size, 0, none⟩ = some (.slice A n c) ∧ w'.cell? (ad.add (i * 3)) = some (.int .i64 x.f0) ∧ w'.cell? ⟨(ad.add (i * 3)).block, (ad.add (i * 3)).off + 1, none⟩ = some (.string x.f1) ∧ w'.cell? ⟨(ad.add (i * 3)).block, (ad.add (i * 3)).off + 2, none⟩ = some (.int .i64 x.f2)) (ds := []) #[false, false, false, false, false, false, false, false] (by kernel_rfl) rfl rfl ⟨B.cell_keep hpd e0, B.cell_keep hpd e1, B.cell_keep hpd e2, B.cell_keep hpd e3⟩ (fun hHeld => ?_)
        generalize wr.drew = w10 at hpd hHeld ⊢
        refine pure_ (i := 1) (N := some 36) (v := ?_) (a' := ?_) #[false, true, false, false, false, false, false, false] rfl rfl (by kernel_rfl) (fun _ _ _ h => h) (Or.inl ⟨by rfl, ?_⟩) ?_ ?_
        rotate_left
        · intro w'
          go_simp
          with_reducible rfl
        rotate_left
        · simp only [Act.put, List.setIfInBounds_toArray, List.set_cons_zero, List.set_cons_succ, i64_w, i32_w]
          rfl
        refine pure_ (i := 2) (N := some 37) (v := ?_) (a' := ?_) #[false, true, true, false, false, false, false, false] rfl rfl (by kernel_rfl) (fun _ _ _ h => h) (Or.inl ⟨by rfl, ?_⟩) ?_ ?_
        rotate_left
        · intro w'
          go_simp
          with_reducible rfl
        rotate_left
        · simp only [Act.put, List.setIfInBounds_toArray, List.set_cons_zero, List.set_cons_succ, i64_w, i32_w]
          rfl
        refine pure_ (i := 3) (N := some 38) (v := ?_) (a' := ?_) #[false, true, true, true, false, false, false, false] rfl rfl (by kernel_rfl) (fun _ _ _ h => h) (Or.inl ⟨by rfl, ?_⟩) ?_ ?_
        rotate_left
        · intro w'
          go_simp
          with_reducible rfl
        rotate_left
        · simp only [Act.put, List.setIfInBounds_toArray, List.set_cons_zero, List.set_cons_succ, i64_w, i32_w]
          rfl
        refine take_ (i := 0) (N := some 35) (v := ?_) (a' := ?_) #[true, true, true, true, false, false, false, false] rfl rfl (by kernel_rfl) (fun _ _ _ h => h) (Or.inl ⟨by rfl, ?_⟩) hHeld ?_ ?_
        rotate_left
        · rintro w' ⟨s0, s1, s2, s3⟩
          go_simp
          with_reducible rfl
        rotate_left
        · simp only [Act.put, List.setIfInBounds_toArray, List.set_cons_zero, List.set_cons_succ, i64_w, i32_w]
          rfl
        refine take_ (i := 4) (N := some 39) (v := ?_) (a' := ?_) #[true, true, true, true, true, false, false, false] rfl rfl (by kernel_rfl) (fun _ _ _ h => h) (Or.inl ⟨by rfl, ?_⟩) hHeld ?_ ?_
        rotate_left
        · rintro w' ⟨s0, s1, s2, s3⟩
          go_simp
          with_reducible rfl
        rotate_left
        · simp only [Act.put, List.setIfInBounds_toArray, List.set_cons_zero, List.set_cons_succ, i64_w, i32_w]
          rfl
        refine one_ (i := 5) (N := some 40) #[true, true, true, true, true, true, false, false] rfl rfl (by kernel_rfl) (by decide) (fun K hK => ?_)
        refine value_ (w1 := ?_) (v := ?_) (by rfl) rfl ?_ ?_
        rotate_left 2
        · go_simp
          constructor
          · rfl
          · rfl
        have hp5 := below_alloc hpd (.cells #[.int .i64 x.f0, .string x.f1, .int .i64 x.f2] 35)
        refine hK.out _ _ ⟨B.cell_keep hp5 e0, B.cell_keep hp5 e1, B.cell_keep hp5 e2, B.cell_keep hp5 e3⟩ (fun hHeld => ?_)
        clear hK K
        refine norm_ (a' := ?_) ?_ ?_
        rotate_left
        · show Act.put _ (some 40) _ = _
          simp only [Act.put, List.setIfInBounds_toArray, List.set_cons_zero, List.set_cons_succ, i64_w, i32_w]
          rfl
        refine one_ (i := 6) (N := some 41) #[true, true, true, true, true, true, true, false] rfl rfl (by kernel_rfl) (by decide) (fun K hK => ?_)
        refine goes_ Try.func16 (by kernel_rfl) rfl #[.agg #[.slice A n c], .slice (some ⟨w10.heap.size, 0, none⟩) 1 1] (by rfl) rfl rfl (by simp only [List.map_toArray, List.map_cons, List.map_nil]; rfl) ?_
        with_reducible refine (HONE.out _ hpd).mono ?_
        rintro e w12 ⟨v7, rfl, hr7, hb7⟩
        refine ⟨_, rfl, ?_⟩
        obtain ⟨A7, n7', c7, e70, e7, hr7, hb7⟩ := IPost.open ⟨_, rfl, hr7, hb7⟩
        injection e70 with e70
        subst e70
        obtain rfl : n7' = n7 := by rw [HN7.out, e7]
        clear e7
        rw [size_alloc] at hr7
        have hp6 := below_then hp5 hp5.size hb7
        refine hK.out _ _ ⟨B.cell_keep hp6 e0, B.cell_keep hp6 e1, B.cell_keep hp6 e2, B.cell_keep hp6 e3⟩ (fun hHeld => ?_)
        clear hK K
        refine norm_ (a' := ?_) ?_ ?_
        rotate_left
        · show Act.put _ (some 41) _ = _
          simp only [Act.put, List.setIfInBounds_toArray, List.set_cons_zero, List.set_cons_succ, i64_w, i32_w]
          rfl
        refine pure_ (i := 7) (N := some 7) (v := ?_) (a' := ?_) #[true, true, true, true, true, true, true, true] rfl rfl (by kernel_rfl) (fun _ _ _ h => h) (Or.inl ⟨by rfl, ?_⟩) ?_ ?_
        rotate_left
        · intro w'
          go_simp
          with_reducible rfl
        rotate_left
        · simp only [Act.put, List.setIfInBounds_toArray, List.set_cons_zero, List.set_cons_succ, i64_w, i32_w]
          rfl
        refine done_ (by kernel_rfl) ?_
        have HR7 := Aside0.mk hr7
        have HQ6 := Aside0.mk (below_then HQ.out HQ.out.size hp6)
        clear hr7 hb7 hp6 hp5 hpd hHeld e0 e1 e2 e3 HONE HQ HDr
        go_wp2_with fail
        obtain ⟨W6, hW6⟩ : ∃ W6 : World, W6 = w12 := ⟨_, rfl⟩
        rw [← hW6] at HQ6 HR7
        have HW6 := Lib.hid hW6
        clear hW6
        go_loopw [8] (fun u8 wi => ∃ k : Nat, u8 = .int .i64 k ∧ k ≤ n7' ∧ Aside0 (Below W6.heap.size W6 wi)) (fun u8 _ => n7' - (intOf u8).toNat)
        case atStart => exact ⟨0, rfl, Nat.zero_le _, ⟨by rw [HW6.out]; exact Below.refl _ _⟩⟩
        case round =>
          obtain ⟨k, rfl, hkn, HI⟩ := hrel
          by_cases h5 : 0 < n6'
          · by_cases hk : k < n7'
            · have hC5 := Aside0.mk (R_C (Kd.R_below (Kd.R_below HR5.out HQ6.out) HI.out))
              obtain ⟨g7, cap7, e7, _, _, _⟩ := Kd.R_form HR7.out (by have := HN7.out; go_light; omega)
              injection e7 with e71 e72 e73
              subst e71
              clear e72 e73
              have hc1 := (Kd.R_celln 0 (R_lit' HN7.out (Kd.R_below HR7.out HI.out)) (k : Int) (Int.natCast_nonneg _) (Int.ofNat_lt.2 hk)).1
              rw [show (k : Int).toNat = k from rfl] at hc1
              have HM := Aside0.mk (show out.length ≤ 1000000 ∧ decide (rdOf 0 ox (k : Int) ∈ out) = true from ⟨by have := HOL.out; go_light; omega, decide_eq_true (one_in HT.out HXM.out HTX.out (by rw [← HN5.out]; exact h5) (rd_mem (by rw [← HN7.out]; exact hk)))⟩)
              go_wp2_with fail
              refine (has_c hC5.out (Kd.R_reads' HR5.out).2.1 HM.out).mono ?_
              rintro e wz ⟨rfl, hbz⟩
              have HBZ := Aside0.mk (below_then HI.out HI.out.size hbz)
              clear hbz
              go_wp2_with fail
              go_roundw
              case rel => exact ⟨k + 1, by go_num, hk, ⟨HBZ.out⟩⟩
              case measure => simp [intOf]; go_light; omega
            · go_wp2_with fail
              go_roundw
              case rel => exact ⟨i + 1, by go_num, hi, ⟨below_then HQ6.out HQ6.out.size HI.out⟩⟩
              case measure => simp [intOf]; go_light; omega
          · have h50 : n6' = 0 := by go_light; omega
            subst h50
            go_wp2_with fail
            go_roundw
            case rel => exact ⟨i + 1, by go_num, hi, ⟨below_then HQ6.out HQ6.out.size HI.out⟩⟩
            case measure => simp [intOf]; go_light; omega
      · go_wp2_with fail
        go_loopw [9] (fun u9 wr => ∃ k : Nat, u9 = .int .i64 k ∧ k ≤ n6' ∧ Aside0 (Below W4.heap.size W4 wr)) (fun u9 _ => n6' - (intOf u9).toNat)
        case atStart => exact ⟨0, rfl, Nat.zero_le _, ⟨HQ.out⟩⟩
        case round =>
          clear HQ
          obtain ⟨k, rfl, hkn, HQ⟩ := hrel
          by_cases hk : k < n6'
          · have hok : okB l roots = true := by
              cases hok : okB l roots
              · have := HT.out.2.2.2 hok; have h5 := HN5.out; rw [this] at h5; simp at h5; omega
              · rfl
            have HK := Lib.hid hok
            obtain ⟨q, hqn, hqr, hqe⟩ := (told_mem HT.out hok (rdOf 0 out (k : Int))).1 (rd_mem (by rw [← HN5.out]; exact hk))
            obtain ⟨y, hy, hyr⟩ := rc_split hqr
            have HY := Aside0.mk (show y ∈ roots ∧ Rc l [y] q from ⟨hy, hyr⟩)
            have HQE := Aside0.mk (show q < n ∧ (q : Int) = rdOf 0 out (k : Int) from ⟨hqn, hqe⟩)
            obtain ⟨g5, cap5, e5, _, _, _⟩ := Kd.R_form HR5.out (by have := HN5.out; omega)
            injection e5 with e51 e52 e53
            subst e51
            clear e52 e53 hok hqn hqr hqe hy hyr
            go_wp2_with fail
            go_loopw [10, 11] (fun u10 u11 wi => ∃ (i : Nat) (fd : Bool), u10 = .bool fd ∧ u11 = .int .i64 i ∧ i ≤ m ∧ Aside0 (fd = true ↔ ∃ x ∈ roots.take i, Rc l [x] q) ∧ Aside0 (Below W4.heap.size W4 wi)) (fun _ u11 _ => m - (intOf u11).toNat)
            case atStart => exact ⟨0, false, rfl, rfl, Nat.zero_le _, ⟨by simp⟩, ⟨HQ.out⟩⟩
            case round =>
              clear HQ
              obtain ⟨i, fd, rfl, rfl, him, HF, HQ⟩ := hrel
              by_cases hi : i < m
              · cases hfd : fd
                · have HDr := Aside0.mk ((HD.out.below HX4.out).below HQ.out)
                  obtain ⟨ad, x, hA, hx, e1, e2, e3⟩ := HDr.out.root i hi
                  subst hA
                  have hxm := List.mem_of_getElem? hx
                  obtain ⟨sx, ox, htx⟩ := told_ex l [x] n HD.out.hC.1 (by have := HD.out.n24; go_light; omega) (by simp) HD.out.ob
                  obtain ⟨n7, hn7⟩ : ∃ n7, n7 = ox.length := ⟨_, rfl⟩
                  have hn7' : n7 ≤ 24 := by have := told_len htx; have := HD.out.n24; go_light; omega
                  have HN7 := Lib.hid hn7
                  have HTX := Aside0.mk htx
                  have HXM := Aside0.mk (show roots[i]? = some x ∧ x ∈ roots from ⟨hx, hxm⟩)
                  have HONE := Aside0.mk (fun (W' : World) (hb : Below wr.heap.size wr W') => (HDr.out.below (below_alloc hb (.cells #[.int .i64 x.f0, .string x.f1, .int .i64 x.f2] 35))).other 1 (one_c W' x) (fun y hy => by rw [List.mem_singleton.1 hy]; exact Nat.le_trans (HDr.out.vs x hxm).1 (by decide)) (by decide) htx)
                  have e4 := (Kd.R_celln 0 (R_lit' HN5.out (Kd.R_below HR5.out HQ.out)) (k : Int) (Int.natCast_nonneg _) (Int.ofNat_lt.2 hk)).1
                  rw [show (k : Int).toNat = k from rfl] at e4
                  obtain ⟨b, hb⟩ : ∃ b : Bool, decide (rdOf 0 out (k : Int) ∈ ox) = b := ⟨_, rfl⟩
                  have Told1 := Aside0.mk (show ox.length ≤ 1000000 ∧ decide (rdOf 0 out (k : Int) ∈ ox) = b from ⟨by rw [← HN7.out]; exact Nat.le_trans hn7' (by decide), hb⟩)
                  have e0 := B.cell_keep HQ.out hbx4.out
                  have HFB := Aside0.mk (take_step (l := l) (q := q) HF.out hfd (HXM.out.1) (b := b) (by rw [← hb, decide_eq_true_eq, ← HQE.out.2]; exact told_one HTX.out (okB_one HXM.out.2 HK.out) HQE.out.1))
                  subst hfd
                  clear htx hn7 hxm hx hb HF
                  go_wp2_with fail
                  have hpd : Below wr.heap.size wr wr.drew := below_drew (Below.refl _ _)
                  refine start_ (n := 16) (S := fun w' => w'.cell? ⟨w1.heap.size, 0, none⟩ = some (.slice A n c) ∧ w'.cell? (ad.add (i * 3)) = some (.int .i64 x.f0) ∧ w'.cell? ⟨(ad.add (i * 3)).block, (ad.add (i * 3)).off + 1, none⟩ = some (.string x.f1) ∧ w'.cell? ⟨(ad.add (i * 3)).block, (ad.add (i * 3)).off + 2, none⟩ = some (.int .i64 x.f2) ∧ w'.cell? ⟨g5, k, none⟩ = some (.int .i64 (rdOf 0 out k))) (ds := []) #[false, false, false, false, false, false, false, false, false, false, false, false, false, false, false, false] (by kernel_rfl) rfl rfl ⟨B.cell_keep hpd e0, B.cell_keep hpd e1, B.cell_keep hpd e2, B.cell_keep hpd e3, B.cell_keep hpd e4⟩ (fun hHeld => ?_)
                  generalize wr.drew = w10 at hpd hHeld ⊢
                  refine pure_ (i := 0) (N := some 72) (v := ?_) (a' := ?_) #[true, false, false, false, false, false, false, false, false, false, false, false, false, false, false, false] rfl rfl (by kernel_rfl) (fun _ _ _ h => h) (Or.inl ⟨by rfl, ?_⟩) ?_ ?_
                  rotate_left
                  · intro w'
                    go_simp
                    with_reducible rfl
                  rotate_left
                  · simp only [Act.put, List.setIfInBounds_toArray, List.set_cons_zero, List.set_cons_succ, i64_w, i32_w]
                    rfl
                  refine pure_ (i := 1) (N := some 73) (v := ?_) (a' := ?_) #[true, true, false, false, false, false, false, false, false, false, false, false, false, false, false, false] rfl rfl (by kernel_rfl) (fun _ _ _ h => h) (Or.inl ⟨by rfl, ?_⟩) ?_ ?_
                  rotate_left
                  · intro w'
                    go_simp
                    with_reducible rfl
                  rotate_left
                  · simp only [Act.put, List.setIfInBounds_toArray, List.set_cons_zero, List.set_cons_succ, i64_w, i32_w]
                    rfl
                  refine pure_ (i := 3) (N := some 75) (v := ?_) (a' := ?_) #[true, true, false, true, false, false, false, false, false, false, false, false, false, false, false, false] rfl rfl (by kernel_rfl) (fun _ _ _ h => h) (Or.inl ⟨by rfl, ?_⟩) ?_ ?_
                  rotate_left
                  · intro w'
                    go_simp
                    with_reducible rfl
                  rotate_left
                  · simp only [Act.put, List.setIfInBounds_toArray, List.set_cons_zero, List.set_cons_succ, i64_w, i32_w]
                    rfl
                  refine pure_ (i := 4) (N := some 76) (v := ?_) (a' := ?_) #[true, true, false, true, true, false, false, false, false, false, false, false, false, false, false, false] rfl rfl (by kernel_rfl) (fun _ _ _ h => h) (Or.inl ⟨by rfl, ?_⟩) ?_ ?_
                  rotate_left
                  · intro w'
                    go_simp
                    with_reducible rfl
                  rotate_left
                  · simp only [Act.put, List.setIfInBounds_toArray, List.set_cons_zero, List.set_cons_succ, i64_w, i32_w]
                    rfl
                  refine pure_ (i := 5) (N := some 77) (v := ?_) (a' := ?_) #[true, true, false, true, true, true, false, false, false, false, false, false, false, false, false, false] rfl rfl (by kernel_rfl) (fun _ _ _ h => h) (Or.inl ⟨by rfl, ?_⟩) ?_ ?_
                  rotate_left
                  · intro w'
                    go_simp
                    with_reducible rfl
                  rotate_left
                  · simp only [Act.put, List.setIfInBounds_toArray, List.set_cons_zero, List.set_cons_succ, i64_w, i32_w]
                    rfl
                  refine pure_ (i := 9) (N := some 81) (v := ?_) (a' := ?_) #[true, true, false, true, true, true, false, false, false, true, false, false, false, false, false, false] rfl rfl (by kernel_rfl) (fun _ _ _ h => h) (Or.inl ⟨by rfl, ?_⟩) ?_ ?_
                  rotate_left
                  · intro w'
                    go_simp
                    with_reducible rfl
                  rotate_left
                  · simp only [Act.put, List.setIfInBounds_toArray, List.set_cons_zero, List.set_cons_succ, i64_w, i32_w]
                    rfl
                  refine pure_ (i := 10) (N := some 82) (v := ?_) (a' := ?_) #[true, true, false, true, true, true, false, false, false, true, true, false, false, false, false, false] rfl rfl (by kernel_rfl) (fun _ _ _ h => h) (Or.inl ⟨by rfl, ?_⟩) ?_ ?_
                  rotate_left
                  · intro w'
                    go_simp
                    with_reducible rfl
                  rotate_left
                  · simp only [Act.put, List.setIfInBounds_toArray, List.set_cons_zero, List.set_cons_succ, i64_w, i32_w]
                    rfl
                  refine pure_ (i := 11) (N := some 83) (v := ?_) (a' := ?_) #[true, true, false, true, true, true, false, false, false, true, true, true, false, false, false, false] rfl rfl (by kernel_rfl) (fun _ _ _ h => h) (Or.inl ⟨by rfl, ?_⟩) ?_ ?_
                  rotate_left
                  · intro w'
                    go_simp
                    with_reducible rfl
                  rotate_left
                  · simp only [Act.put, List.setIfInBounds_toArray, List.set_cons_zero, List.set_cons_succ, i64_w, i32_w]
                    rfl
                  refine take_ (i := 2) (N := some 74) (v := ?_) (a' := ?_) #[true, true, true, true, true, true, false, false, false, true, true, true, false, false, false, false] rfl rfl (by kernel_rfl) (fun _ _ _ h => h) (Or.inl ⟨by rfl, ?_⟩) hHeld ?_ ?_
                  rotate_left
                  · rintro w' ⟨s0, s1, s2, s3, s4⟩
                    go_simp
                    with_reducible rfl
                  rotate_left
                  · simp only [Act.put, List.setIfInBounds_toArray, List.set_cons_zero, List.set_cons_succ, i64_w, i32_w]
                    rfl
                  refine take_ (i := 6) (N := some 78) (v := ?_) (a' := ?_) #[true, true, true, true, true, true, true, false, false, true, true, true, false, false, false, false] rfl rfl (by kernel_rfl) (fun _ _ _ h => h) (Or.inl ⟨by rfl, ?_⟩) hHeld ?_ ?_
                  rotate_left
                  · rintro w' ⟨s0, s1, s2, s3, s4⟩
                    go_simp
                    with_reducible rfl
                  rotate_left
                  · simp only [Act.put, List.setIfInBounds_toArray, List.set_cons_zero, List.set_cons_succ, i64_w, i32_w]
                    rfl
                  refine take_ (i := 12) (N := some 84) (v := ?_) (a' := ?_) #[true, true, true, true, true, true, true, false, false, true, true, true, true, false, false, false] rfl rfl (by kernel_rfl) (fun _ _ _ h => h) (Or.inl ⟨by rfl, ?_⟩) hHeld ?_ ?_
                  rotate_left
                  · rintro w' ⟨s0, s1, s2, s3, s4⟩
                    go_simp
                    with_reducible rfl
                  rotate_left
                  · simp only [Act.put, List.setIfInBounds_toArray, List.set_cons_zero, List.set_cons_succ, i64_w, i32_w]
                    rfl
                  refine one_ (i := 7) (N := some 79) #[true, true, true, true, true, true, true, true, false, true, true, true, true, false, false, false] rfl rfl (by kernel_rfl) (by decide) (fun K hK => ?_)
                  refine value_ (w1 := ?_) (v := ?_) (by rfl) rfl ?_ ?_
                  rotate_left 2
                  · go_simp
                    constructor
                    · rfl
                    · rfl
                  have hp5 := below_alloc hpd (.cells #[.int .i64 x.f0, .string x.f1, .int .i64 x.f2] 35)
                  refine hK.out _ _ ⟨B.cell_keep hp5 e0, B.cell_keep hp5 e1, B.cell_keep hp5 e2, B.cell_keep hp5 e3, B.cell_keep hp5 e4⟩ (fun hHeld => ?_)
                  clear hK K
                  refine norm_ (a' := ?_) ?_ ?_
                  rotate_left
                  · show Act.put _ (some 79) _ = _
                    simp only [Act.put, List.setIfInBounds_toArray, List.set_cons_zero, List.set_cons_succ, i64_w, i32_w]
                    rfl
                  refine one_ (i := 8) (N := some 80) #[true, true, true, true, true, true, true, true, true, true, true, true, true, false, false, false] rfl rfl (by kernel_rfl) (by decide) (fun K hK => ?_)
                  refine goes_ Try.func16 (by kernel_rfl) rfl #[.agg #[.slice A n c], .slice (some ⟨w10.heap.size, 0, none⟩) 1 1] (by rfl) rfl rfl (by simp only [List.map_toArray, List.map_cons, List.map_nil]; rfl) ?_
                  with_reducible refine (HONE.out _ hpd).mono ?_
                  rintro e w12 ⟨v7, rfl, hr7, hb7⟩
                  refine ⟨_, rfl, ?_⟩
                  obtain ⟨A7, n7', c7, e70, e7, hr7, hb7⟩ := IPost.open ⟨_, rfl, hr7, hb7⟩
                  injection e70 with e70
                  subst e70
                  obtain rfl : n7' = n7 := by rw [HN7.out, e7]
                  clear e7
                  rw [size_alloc] at hr7
                  have hp6 := below_then hp5 hp5.size hb7
                  have h7 := R_C hr7
                  have h7' := (Kd.R_reads' hr7).2.1
                  refine hK.out _ _ ⟨B.cell_keep hp6 e0, B.cell_keep hp6 e1, B.cell_keep hp6 e2, B.cell_keep hp6 e3, B.cell_keep hp6 e4⟩ (fun hHeld => ?_)
                  clear hK K
                  refine norm_ (a' := ?_) ?_ ?_
                  rotate_left
                  · show Act.put _ (some 80) _ = _
                    simp only [Act.put, List.setIfInBounds_toArray, List.set_cons_zero, List.set_cons_succ, i64_w, i32_w]
                    rfl
                  refine one_ (i := 13) (N := some 85) #[true, true, true, true, true, true, true, true, true, true, true, true, true, true, false, false] rfl rfl (by kernel_rfl) (by decide) (fun K hK => ?_)
                  refine goes_ Try.func20 (by kernel_rfl) rfl #[.slice A7 n7' c7, .int .i64 (rdOf 0 out k)] (by rfl) rfl rfl (by simp only [List.map_toArray, List.map_cons, List.map_nil]; rfl) ?_
                  with_reducible refine (has_c h7 h7' Told1.out).mono ?_
                  rintro e w13 ⟨rfl, hb8⟩
                  refine ⟨_, rfl, ?_⟩
                  have hp7 := below_then hp6 hp6.size hb8
                  refine hK.out _ _ ⟨B.cell_keep hp7 e0, B.cell_keep hp7 e1, B.cell_keep hp7 e2, B.cell_keep hp7 e3, B.cell_keep hp7 e4⟩ (fun hHeld => ?_)
                  clear hK K
                  refine norm_ (a' := ?_) ?_ ?_
                  rotate_left
                  · show Act.put _ (some 85) _ = _
                    simp only [Act.put, List.setIfInBounds_toArray, List.set_cons_zero, List.set_cons_succ, i64_w, i32_w]
                    rfl
                  refine pure_ (i := 14) (N := some 86) (v := ?_) (a' := ?_) #[true, true, true, true, true, true, true, true, true, true, true, true, true, true, true, false] rfl rfl (by kernel_rfl) (fun _ _ _ h => h) (Or.inl ⟨by rfl, ?_⟩) ?_ ?_
                  rotate_left
                  · intro w'
                    go_simp
                    with_reducible rfl
                  rotate_left
                  · simp only [Act.put, List.setIfInBounds_toArray, List.set_cons_zero, List.set_cons_succ, i64_w, i32_w]
                    rfl
                  refine pure_ (i := 15) (N := some 10) (v := ?_) (a' := ?_) #[true, true, true, true, true, true, true, true, true, true, true, true, true, true, true, true] rfl rfl (by kernel_rfl) (fun _ _ _ h => h) (Or.inl ⟨by rfl, ?_⟩) ?_ ?_
                  rotate_left
                  · intro w'
                    go_simp
                    with_reducible rfl
                  rotate_left
                  · simp only [Act.put, List.setIfInBounds_toArray, List.set_cons_zero, List.set_cons_succ, i64_w, i32_w]
                    rfl
                  refine done_ (by kernel_rfl) ?_
                  go_wp2_with fail
                  go_roundw
                  case rel => exact ⟨i + 1, b, rfl, by go_num, hi, ⟨HFB.out⟩, ⟨below_then HQ.out HQ.out.size hp7⟩⟩
                  case measure => simp [intOf]; go_light; omega
                · subst hfd
                  have HF2 := Aside0.mk (take_more (l := l) (q := q) (HF.out.1 rfl) : ∃ x ∈ roots.take (i + 1), Rc l [x] q)
                  clear HF
                  go_wp2_with fail
                  refine start_ (n := 16) (S := fun w' => True) (ds := []) #[false, false, false, false, false, false, false, false, false, false, false, false, false, false, false, false] (by kernel_rfl) rfl rfl trivial (fun hHeld => ?_)
                  refine pure_ (i := 0) (N := some 72) (v := ?_) (a' := ?_) #[true, false, false, false, false, false, false, false, false, false, false, false, false, false, false, false] rfl rfl (by kernel_rfl) (fun _ _ _ h => h) (Or.inl ⟨by rfl, ?_⟩) ?_ ?_
                  rotate_left
                  · intro w'
                    go_simp
                    with_reducible rfl
                  rotate_left
                  · simp only [Act.put, List.setIfInBounds_toArray, List.set_cons_zero, List.set_cons_succ, i64_w, i32_w]
                    rfl
                  refine pure_ (i := 1) (N := some 73) (v := ?_) (a' := ?_) #[true, true, false, false, false, false, false, false, false, false, false, false, false, false, false, false] rfl rfl (by kernel_rfl) (fun _ _ _ h => h) (Or.inl ⟨by rfl, ?_⟩) ?_ ?_
                  rotate_left
                  · intro w'
                    go_simp
                    with_reducible rfl
                  rotate_left
                  · simp only [Act.put, List.setIfInBounds_toArray, List.set_cons_zero, List.set_cons_succ, i64_w, i32_w]
                    rfl
                  refine pure_ (i := 2) (N := some 74) (v := undef) (a' := ?_) #[true, true, true, false, false, false, false, false, false, false, false, false, false, false, false, false] rfl rfl (by kernel_rfl) (fun _ _ _ h => h) (Or.inr ⟨by rfl, rfl⟩) ?_ ?_
                  rotate_left
                  · simp only [Act.put, List.setIfInBounds_toArray, List.set_cons_zero, List.set_cons_succ, i64_w, i32_w]
                    rfl
                  refine pure_ (i := 3) (N := some 75) (v := undef) (a' := ?_) #[true, true, true, true, false, false, false, false, false, false, false, false, false, false, false, false] rfl rfl (by kernel_rfl) (fun _ _ _ h => h) (Or.inr ⟨by rfl, rfl⟩) ?_ ?_
                  rotate_left
                  · simp only [Act.put, List.setIfInBounds_toArray, List.set_cons_zero, List.set_cons_succ, i64_w, i32_w]
                    rfl
                  refine pure_ (i := 4) (N := some 76) (v := undef) (a' := ?_) #[true, true, true, true, true, false, false, false, false, false, false, false, false, false, false, false] rfl rfl (by kernel_rfl) (fun _ _ _ h => h) (Or.inr ⟨by rfl, rfl⟩) ?_ ?_
                  rotate_left
                  · simp only [Act.put, List.setIfInBounds_toArray, List.set_cons_zero, List.set_cons_succ, i64_w, i32_w]
                    rfl
                  refine pure_ (i := 5) (N := some 77) (v := undef) (a' := ?_) #[true, true, true, true, true, true, false, false, false, false, false, false, false, false, false, false] rfl rfl (by kernel_rfl) (fun _ _ _ h => h) (Or.inr ⟨by rfl, rfl⟩) ?_ ?_
                  rotate_left
                  · simp only [Act.put, List.setIfInBounds_toArray, List.set_cons_zero, List.set_cons_succ, i64_w, i32_w]
                    rfl
                  refine pure_ (i := 6) (N := some 78) (v := undef) (a' := ?_) #[true, true, true, true, true, true, true, false, false, false, false, false, false, false, false, false] rfl rfl (by kernel_rfl) (fun _ _ _ h => h) (Or.inr ⟨by rfl, rfl⟩) ?_ ?_
                  rotate_left
                  · simp only [Act.put, List.setIfInBounds_toArray, List.set_cons_zero, List.set_cons_succ, i64_w, i32_w]
                    rfl
                  refine pure_ (i := 7) (N := some 79) (v := undef) (a' := ?_) #[true, true, true, true, true, true, true, true, false, false, false, false, false, false, false, false] rfl rfl (by kernel_rfl) (fun _ _ _ h => h) (Or.inr ⟨by rfl, rfl⟩) ?_ ?_
                  rotate_left
                  · simp only [Act.put, List.setIfInBounds_toArray, List.set_cons_zero, List.set_cons_succ, i64_w, i32_w]
                    rfl
                  refine pure_ (i := 8) (N := some 80) (v := undef) (a' := ?_) #[true, true, true, true, true, true, true, true, true, false, false, false, false, false, false, false] rfl rfl (by kernel_rfl) (fun _ _ _ h => h) (Or.inr ⟨by rfl, rfl⟩) ?_ ?_
                  rotate_left
                  · simp only [Act.put, List.setIfInBounds_toArray, List.set_cons_zero, List.set_cons_succ, i64_w, i32_w]
                    rfl
                  refine pure_ (i := 9) (N := some 81) (v := undef) (a' := ?_) #[true, true, true, true, true, true, true, true, true, true, false, false, false, false, false, false] rfl rfl (by kernel_rfl) (fun _ _ _ h => h) (Or.inr ⟨by rfl, rfl⟩) ?_ ?_
                  rotate_left
                  · simp only [Act.put, List.setIfInBounds_toArray, List.set_cons_zero, List.set_cons_succ, i64_w, i32_w]
                    rfl
                  refine pure_ (i := 10) (N := some 82) (v := undef) (a' := ?_) #[true, true, true, true, true, true, true, true, true, true, true, false, false, false, false, false] rfl rfl (by kernel_rfl) (fun _ _ _ h => h) (Or.inr ⟨by rfl, rfl⟩) ?_ ?_
                  rotate_left
                  · simp only [Act.put, List.setIfInBounds_toArray, List.set_cons_zero, List.set_cons_succ, i64_w, i32_w]
                    rfl
                  refine pure_ (i := 11) (N := some 83) (v := undef) (a' := ?_) #[true, true, true, true, true, true, true, true, true, true, true, true, false, false, false, false] rfl rfl (by kernel_rfl) (fun _ _ _ h => h) (Or.inr ⟨by rfl, rfl⟩) ?_ ?_
                  rotate_left
                  · simp only [Act.put, List.setIfInBounds_toArray, List.set_cons_zero, List.set_cons_succ, i64_w, i32_w]
                    rfl
                  refine pure_ (i := 12) (N := some 84) (v := undef) (a' := ?_) #[true, true, true, true, true, true, true, true, true, true, true, true, true, false, false, false] rfl rfl (by kernel_rfl) (fun _ _ _ h => h) (Or.inr ⟨by rfl, rfl⟩) ?_ ?_
                  rotate_left
                  · simp only [Act.put, List.setIfInBounds_toArray, List.set_cons_zero, List.set_cons_succ, i64_w, i32_w]
                    rfl
                  refine pure_ (i := 13) (N := some 85) (v := undef) (a' := ?_) #[true, true, true, true, true, true, true, true, true, true, true, true, true, true, false, false] rfl rfl (by kernel_rfl) (fun _ _ _ h => h) (Or.inr ⟨by rfl, rfl⟩) ?_ ?_
                  rotate_left
                  · simp only [Act.put, List.setIfInBounds_toArray, List.set_cons_zero, List.set_cons_succ, i64_w, i32_w]
                    rfl
                  refine pure_ (i := 14) (N := some 86) (v := ?_) (a' := ?_) #[true, true, true, true, true, true, true, true, true, true, true, true, true, true, true, false] rfl rfl (by kernel_rfl) (fun _ _ _ h => h) (Or.inl ⟨by rfl, ?_⟩) ?_ ?_
                  rotate_left
                  · intro w'
                    go_simp
                    with_reducible rfl
                  rotate_left
                  · simp only [Act.put, List.setIfInBounds_toArray, List.set_cons_zero, List.set_cons_succ, i64_w, i32_w]
                    rfl
                  refine pure_ (i := 15) (N := some 10) (v := ?_) (a' := ?_) #[true, true, true, true, true, true, true, true, true, true, true, true, true, true, true, true] rfl rfl (by kernel_rfl) (fun _ _ _ h => h) (Or.inl ⟨by rfl, ?_⟩) ?_ ?_
                  rotate_left
                  · intro w'
                    go_simp
                    with_reducible rfl
                  rotate_left
                  · simp only [Act.put, List.setIfInBounds_toArray, List.set_cons_zero, List.set_cons_succ, i64_w, i32_w]
                    rfl
                  refine done_ (by kernel_rfl) ?_
                  go_wp2_with fail
                  go_roundw
                  case rel => exact ⟨i + 1, true, rfl, by go_num, hi, ⟨fun _ => HF2.out, fun _ => rfl⟩, ⟨below_drew HQ.out⟩⟩
                  case measure => simp [intOf]; go_light; omega
              · have hfd : fd = true := HF.out.2 ⟨y, by rw [List.take_of_length_le (by have := HRL.out; go_light; omega)]; exact HY.out.1, HY.out.2⟩
                subst hfd
                go_wp2_with fail
                go_roundw
                case rel => exact ⟨k + 1, by go_num, hk, ⟨HQ.out⟩⟩
                case measure => simp [intOf]; go_light; omega
          · go_wp2_with fail
            go_ret
            exact ⟨rfl, below_step (below_step HB1.out HX4.out) HQ.out⟩
end Go.Proofs.Ytgddblpgbkgpcaa.PR
