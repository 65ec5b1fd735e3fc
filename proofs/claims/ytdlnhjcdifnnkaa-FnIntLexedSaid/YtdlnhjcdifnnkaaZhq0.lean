/- Part of the proof of fnIntLexed_holds. -/
import Derived.Test.YtdlnhjcdifnnkaaZhb0
import Derived.Test.YtdlnhjcdifnnkaaZhr0
import Derived.Lib.Hide
import Derived.Lib.FrozenHead
namespace Go.Proofs.Ytdlnhjcdifnnkaa.PR
set_option linter.unusedVariables false
set_option linter.unusedSimpArgs false
open Go.RowKit Go.Proofs.YtdlnhjcdifnnkaaW.PrintWords Go.Proofs.YtdlnhjcdifnnkaaW.PrintLast Go.Proofs.YtdlnhjcdifnnkaaW.PrintMore
set_option linter.unusedVariables false
set_option linter.unusedSimpArgs false
theorem bst {w W w2 : World} (h : Below w.heap.size w W) (k : Below W.heap.size W w2) : Below w.heap.size w w2 := bth h h.size k
def tokC (x : Int × ByteArray × Int) : List Value := [.int .i64 x.1, .string x.2.1, .int .i64 x.2.2]
def toksC (l : List (Int × ByteArray × Int)) : List Value := l.flatMap tokC
structure Lq (w0 : World) (b g : Nat) (t : ByteArray) (at_ line : Int) (out : List (Int × ByteArray × Int)) (w : World) : Prop where
  bl : Below w0.heap.size w0 w
  hb : w0.heap.size ≤ b
  blk : ∃ ov, w.heap[b]? = some (.cells #[.string t, .int .i64 at_, .int .i64 line, .slice (some ⟨g, 0, none⟩) 1 1, .slice none 0 0, ov, .int .i64 0, .int .i64 0] 62 (0, 0)) ∧ w.ownsRow w0.heap.size 45 3 ov out.length (toksC out)
  lv : w.heap[g]? = some (.cells #[.int .i64 0] 3 (0, 0))
theorem Lq.below {w0 : World} {b g : Nat} {t : ByteArray} {at_ line : Int} {out : List (Int × ByteArray × Int)} {w w' : World} (h : Lq w0 b g t at_ line out w) (hb : Below w.heap.size w w') : Lq w0 b g t at_ line out w' := by
  obtain ⟨h1, h2, ⟨ov, h3, h4⟩, h5⟩ := h
  exact ⟨bst h1 hb, h2, ⟨ov, kbw h3 hb, pw_own_below h4 hb⟩, kbw h5 hb⟩
set_option maxRecDepth 100000 in
set_option maxHeartbeats 4000000 in
theorem fine_w (w0 : World) (b g : Nat) (t : ByteArray) (at_ line : Int) (out : List (Int × ByteArray × Int)) (w : World) (h : Lq w0 b g t at_ line out w) :
    Calls Try.prog 32 #[.pointer (some ⟨b, 0, none⟩)] w fun e w' => e = .returned (.bool true) ∧ w' = w := by
  obtain ⟨ov, hb, -⟩ := h.blk
  have c6 := (kcl hb 6).trans (show _ = some (.int .i64 0) from rfl)
  have c7 := (kcl hb 7).trans (show _ = some (.int .i64 0) from rfl)
  clear hb h
  go_enter Try.func32, Try.ntmps32
  go_wp2
  go_ret
  exact ⟨rfl, rfl⟩
set_option maxRecDepth 100000 in
set_option maxHeartbeats 4000000 in
theorem put_w (w0 : World) (b g : Nat) (t : ByteArray) (at_ line : Int) (out : List (Int × ByteArray × Int)) (w : World) (h : Lq w0 b g t at_ line out w) (ho : out.length ≤ 5) (k : Int) (x : ByteArray) (ln : Int) :
    Calls Try.prog 53 #[.pointer (some ⟨b, 0, none⟩), .int .i64 k, .string x, .int .i64 ln] w fun e w' => e = .returned (.tuple #[]) ∧ Lq w0 b g t at_ line (out ++ [(k, x, ln)]) w' := by
  obtain ⟨i0, hi, hz0, hz1, hz2⟩ : ∃ i, Try.prog.info? 45 = some i ∧ i.zero = some (.agg #[.int .i64 0, .string ⟨#[]⟩, .int .i64 0]) ∧ i.size = 3 ∧ i.bytes = 32 := by
    obtain ⟨i, hi, e⟩ := Option.map_eq_some_iff.1 (show (Try.prog.info? 45).map (fun i => (i.zero, i.size, i.bytes)) = some (some (.agg #[.int .i64 0, .string ⟨#[]⟩, .int .i64 0]), 3, 32) by kernel_rfl)
    simp only [Prod.mk.injEq] at e
    exact ⟨i, hi, e.1, e.2.1, e.2.2⟩
  have HF := Aside0.mk (fine_w w0 b g t at_ line out w h)
  have H := Aside0.mk h
  obtain ⟨h1, h2, ⟨ov, hb, hown⟩, h5⟩ := h
  have c5 := (kcl hb 5).trans (show _ = some ov from rfl)
  have f5 := kfz hb 5
  obtain ⟨ao, cap, rfl⟩ : ∃ ao cap, ov = .slice ao out.length cap := own_slice hown
  have hn15 : ((out.length : Int) == 1500) = false := by simp; omega
  have hlt := blk_lt hb
  have hne := own_ne hown hb (by decide)
  go_enter Try.func53, Try.ntmps53
  go_wp2_with (first | (go_at_call 32; refine HF.out.mono ?_; rintro e w1 ⟨rfl, rfl⟩) | (at_builtin; refine wpList_append_own _ rfl _ _ 37 rfl w0.heap.size 45 i0 _ 3 32 Try.underlying37 hi hz0 hz1 hz2 rfl (by decide) _ _ _ rfl (hown.alloc _) ⟨w1.heap.size, 0, none⟩ 1 1 (tokC (k, x, ln)) rfl rfl ?c1 ?c2 ?c3 ?c4 ?c5 ?_))
  case c1 =>
    intro j u hj
    have e := kcl (blk_new w1 (.cells #[.int .i64 k, .string x, .int .i64 ln] 45)) j
    rw [add_plain, e]
    match j, hj with
    | 0, hj => exact hj
    | 1, hj => exact hj
    | 2, hj => exact hj
    | j + 3, hj => simp [tokC] at hj
  case c2 =>
    intro u hu
    simp only [tokC, List.mem_cons, List.not_mem_nil, or_false] at hu
    rcases hu with rfl | rfl | rfl <;> rfl
  case c3 => unfold maxLen; omega
  case c4 => omega
  case c5 => have := h1.size; simp; omega
  intro v' w2 hown' hgrow _
  have hb2 : w2.heap[b]? = some (.cells #[.string t, .int .i64 at_, .int .i64 line, .slice (some ⟨g, 0, none⟩) 1 1, .slice none 0 0, .slice ao out.length cap, .int .i64 0, .int .i64 0] 62 (0, 0)) := by
    rw [hgrow.block b (by simp; omega) hne]
    exact kla hb _
  have hg2 : w2.heap[g]? = some (.cells #[.int .i64 0] 3 (0, 0)) := by
    have hgl := blk_lt h5
    rw [hgrow.block g (by simp; omega) (own_ne hown h5 (by decide))]
    exact kla h5 _
  have d5 := (kcl hb2 5).trans (show _ = some (.slice ao out.length cap) from rfl)
  have f5' := kfz hb2 5
  obtain ⟨ao', cap', rfl⟩ := own_slice hown'
  have hx2 := own_base hown
  go_wp2
  go_end0
  have hb3 := blk_set hb2 5 (.slice ao' (out.length + 1) cap')
  have hne' := own_ne hown' hb2 (by decide)
  refine ⟨rfl, ?_, h2, ⟨_, hb3, ?_⟩, ?_⟩
  · exact ((h1.alloc (by have := h1.size; omega) _).grown hgrow (by have := h1.size; simp; omega) (fun k hk => hx2 k hk)).setCell (p := ⟨b, 5, none⟩) h2 _
  · have e : toksC (out ++ [(k, x, ln)]) = toksC out ++ tokC (k, x, ln) := by simp [toksC]
    rw [e, List.length_append, List.length_singleton]
    exact own_setCell hown' (p := ⟨b, 5, none⟩) hne' _
  · have hgb : g ≠ b := blk_ne hg2 hb2 (by decide)
    exact blk_far hg2 (p := ⟨b, 5, none⟩) hgb _
end Go.Proofs.Ytdlnhjcdifnnkaa.PR
namespace Go.Proofs.Ytdlnhjcdifnnkaa.PR
set_option linter.unusedVariables false
set_option linter.unusedSimpArgs false
open Go.RowKit Go.Proofs.YtdlnhjcdifnnkaaW.PrintWords Go.Proofs.YtdlnhjcdifnnkaaW.PrintLast Go.Proofs.YtdlnhjcdifnnkaaW.PrintMore
set_option linter.unusedVariables false
set_option linter.unusedSimpArgs false
set_option maxRecDepth 100000 in
set_option maxHeartbeats 4000000 in
theorem index0_w (g : Nat) (w : World) (h : w.heap[g]? = some (.cells #[.int .i64 0] 3 (0, 0))) :
    Calls Try.prog 107 #[.slice (some ⟨g, 0, none⟩) 1 1, .int .i64 0] w fun e w' => e = .returned (.int .i64 0) ∧ w' = w := by
  have c0 := (kcl h 0).trans (show _ = some (.int .i64 0) from rfl)
  clear h
  go_enter Try.func107, Try.ntmps107
  go_wp2
  go_loop [5, 8] (fun u5 i => i = .int .i64 0) (fun u5 i => 0)
  case atStart => rfl
  case round =>
    subst hrel
    go_wp2
    go_ret
    exact ⟨rfl, rfl⟩
theorem contains0_w (g : Nat) (w : World) (h : w.heap[g]? = some (.cells #[.int .i64 0] 3 (0, 0))) :
    Calls Try.prog 86 #[.slice (some ⟨g, 0, none⟩) 1 1, .int .i64 0] w fun e w' => e = .returned (.bool true) ∧ w' = w := by
  go_enter Try.func86, Try.ntmps86
  go_wp2_with (go_at_call 107; refine (index0_w g _ h).mono ?_; rintro e w1 ⟨rfl, rfl⟩)
  go_ret
  exact ⟨rfl, rfl⟩
set_option maxRecDepth 100000 in
set_option maxHeartbeats 4000000 in
theorem indent_w (w0 : World) (b g : Nat) (t : ByteArray) (at_ line : Int) (out : List (Int × ByteArray × Int)) (w : World) (h : Lq w0 b g t at_ line out w) :
    Calls Try.prog 52 #[.pointer (some ⟨b, 0, none⟩), .int .i64 0] w fun e w' => e = .returned (.tuple #[]) ∧ Below w.heap.size w w' := by
  have HL := Aside0.mk h.lv
  obtain ⟨h1, h2, ⟨ov, hb, hown⟩, h5⟩ := h
  have c3 := (kcl hb 3).trans (show _ = some (.slice (some ⟨g, 0, none⟩) 1 1) from rfl)
  have l0 := (kcl h5 0).trans (show _ = some (.int .i64 0) from rfl)
  clear hb hown h5
  go_enter Try.func52, Try.ntmps52
  go_wp2_with fail
  go_region
  go_wp2_with (first | (go_at_call 86; refine (contains0_w g _ (by exact HL.out)).mono ?_; rintro e w1 ⟨rfl, rfl⟩))
  go_loopw [62] (fun u4 wr => wr.cell? ⟨b, 3, none⟩ = some (.slice (some ⟨g, 0, none⟩) 1 1) ∧ wr.cell? ⟨g, 0, none⟩ = some (.int .i64 0) ∧ Below w.heap.size w wr) (fun u4 _ => 0)
  case atStart => exact ⟨c3, l0, below_drew (Below.refl _ _)⟩
  case round =>
    obtain ⟨e3, e0, hB⟩ := hrel
    go_wp2_with fail
    go_region
    go_wp2_with fail
    go_end0
    exact ⟨rfl, below_drew hB⟩
end Go.Proofs.Ytdlnhjcdifnnkaa.PR
namespace Go.Proofs.Ytdlnhjcdifnnkaa.PR
set_option linter.unusedVariables false
set_option linter.unusedSimpArgs false
open Go.Proofs.Ytdlnhjcdifnnkaa.B (digB letB intB isLetter_ok isDigit_ok intOk_ok)
open Go.RowKit Go.Proofs.YtdlnhjcdifnnkaaW.PrintWords Go.Proofs.YtdlnhjcdifnnkaaW.PrintLast Go.Proofs.YtdlnhjcdifnnkaaW.PrintMore
set_option linter.unusedVariables false
set_option linter.unusedSimpArgs false
structure Dt (t s : ByteArray) (n : Nat) : Prop where
  n1 : 1 ≤ n
  nt : n ≤ t.size
  hs : t.size ≤ 1000
  dg : ∀ k (h : k < t.size), k < n → digB (t[k]'h).toNat = true ∧ letB (t[k]'h).toNat = false
  en : n = t.size ∨ ∃ h : n < t.size, ((t[n]'h).toNat : Int) = 10
  ws : t.extract 0 n = s
  ok : intB s = true
def atOf (b : Nat) (w : World) : Nat := match w.cell? ⟨b, 1, none⟩ with | some (.int _ i) => i.toNat | _ => 0
theorem Lq.setAt {w0 : World} {b g : Nat} {t : ByteArray} {at_ line : Int} {out : List (Int × ByteArray × Int)} {w : World} (h : Lq w0 b g t at_ line out w) (x : Int) : Lq w0 b g t x line out (w.setCell ⟨b, 1, none⟩ (.int .i64 x)) := by
  obtain ⟨h1, h2, ⟨ov, h3, h4⟩, h5⟩ := h
  refine ⟨h1.setCell (p := ⟨b, 1, none⟩) h2 _, h2, ⟨ov, blk_set h3 1 _, own_setCell h4 (p := ⟨b, 1, none⟩) (own_ne h4 h3 (by decide)) _⟩, blk_far h5 (p := ⟨b, 1, none⟩) (blk_ne h5 h3 (by decide)) _⟩
theorem Lq.setLine {w0 : World} {b g : Nat} {t : ByteArray} {at_ line : Int} {out : List (Int × ByteArray × Int)} {w : World} (h : Lq w0 b g t at_ line out w) (x : Int) : Lq w0 b g t at_ x out (w.setCell ⟨b, 2, none⟩ (.int .i64 x)) := by
  obtain ⟨h1, h2, ⟨ov, h3, h4⟩, h5⟩ := h
  refine ⟨h1.setCell (p := ⟨b, 2, none⟩) h2 _, h2, ⟨ov, blk_set h3 2 _, own_setCell h4 (p := ⟨b, 2, none⟩) (own_ne h4 h3 (by decide)) _⟩, blk_far h5 (p := ⟨b, 2, none⟩) (blk_ne h5 h3 (by decide)) _⟩
theorem Lq.atOf {w0 : World} {b g : Nat} {t : ByteArray} {at_ line : Int} {out : List (Int × ByteArray × Int)} {w : World} (h : Lq w0 b g t at_ line out w) : atOf b w = at_.toNat := by
  obtain ⟨h1, h2, ⟨ov, h3, h4⟩, h5⟩ := h
  unfold PR.atOf
  rw [kcl h3 1]
  rfl
theorem Lq.drew {w0 : World} {b g : Nat} {t : ByteArray} {at_ line : Int} {out : List (Int × ByteArray × Int)} {w : World} (h : Lq w0 b g t at_ line out w) : Lq w0 b g t at_ line out w.drew := h.below (below_drew (Below.refl _ _))
set_option maxRecDepth 100000 in
set_option maxHeartbeats 4000000 in
theorem token_w (w0 : World) (b g : Nat) (t s : ByteArray) (n : Nat) (hD : Dt t s n) (line : Int) (out : List (Int × ByteArray × Int)) (ho : out.length ≤ 5) (w : World) (h : Lq w0 b g t 0 line out w) :
    Calls Try.prog 54 #[.pointer (some ⟨b, 0, none⟩)] w fun e w' => e = .returned (.tuple #[]) ∧ Lq w0 b g t n line (out ++ [(3, s, line)]) w' := by
  have HQ := Aside0.mk h
  have HD := Aside0.mk hD
  obtain ⟨h1, h2, ⟨ov, hb, hown⟩, h5⟩ := h
  have c0 := (kcl hb 0).trans (show _ = some (.string t) from rfl)
  have c1 := (kcl hb 1).trans (show _ = some (.int .i64 0) from rfl)
  have ht0 : 0 < t.size := by have := hD.n1; have := hD.nt; omega
  obtain ⟨q1, q2⟩ := hD.dg 0 ht0 (by have := hD.n1; omega)
  clear hb hown h5 h1
  go_enter Try.func54, Try.ntmps54
  go_wp2_with fail
  go_region
  go_upto_region 4 with (first | (go_at_call 87; refine (isLetter_ok _ _).mono ?_; rintro e w1 ⟨rfl, rfl⟩) | (go_at_call 88; refine (isDigit_ok _ _).mono ?_; rintro e w1 ⟨rfl, rfl⟩))
  go_loopw [63] (fun u wr => ∃ k : Nat, k ≤ n ∧ Aside0 (Lq w0 b g t k line out wr)) (fun u wr => n - atOf b wr)
  case atStart => exact ⟨0, Nat.zero_le _, ⟨HQ.out.below (below_drew (Below.refl _ _))⟩⟩
  case round =>
    obtain ⟨k, hk, HQ⟩ := hrel
    clear c0 c1
    obtain ⟨h1, -, ⟨ov, hb, hown⟩, h5⟩ := HQ.out
    have c0 := (kcl hb 0).trans (show _ = some (.string t) from rfl)
    have c1 := (kcl hb 1).trans (show _ = some (.int .i64 (k : Int)) from rfl)
    have f1 := kfz hb 1
    have HAT := Aside0.mk (show atOf b wr = k by unfold atOf; rw [c1]; simp)
    clear hb hown h5 h1
    by_cases hkn : k < n
    · have hkt : k < t.size := by have := HD.out.nt; omega
      obtain ⟨p1, p2⟩ := HD.out.dg k hkt hkn
      have d1 : decide (k < t.size) = true := by simpa using hkt
      go_wp2_with fail
      refine start_ (n := 34) (S := fun w' => w'.cell? ⟨b, 0, none⟩ = some (.string t) ∧ w'.cell? ⟨b, 1, none⟩ = some (.int .i64 (k : Int)) ∧ Aside0 (Lq w0 b g t k line out w')) (ds := []) #[false, false, false, false, false, false, false, false, false, false, false, false, false, false, false, false, false, false, false, false, false, false, false, false, false, false, false, false, false, false, false, false, false, false] (by kernel_rfl) rfl rfl ⟨c0, c1, ⟨HQ.out.below (below_drew (Below.refl _ _))⟩⟩ (fun hHeld => ?_)
      refine pure_ (i := 0) (N := some 30) (v := ?_) (a' := ?_) #[true, false, false, false, false, false, false, false, false, false, false, false, false, false, false, false, false, false, false, false, false, false, false, false, false, false, false, false, false, false, false, false, false, false] rfl rfl (by kernel_rfl) (fun _ _ _ h => h) (Or.inl ⟨by rfl, ?_⟩) ?_ ?_
      rotate_left
      · intro w'
        go_simp
        with_reducible rfl
      rotate_left
      · simp only [Act.put, List.setIfInBounds_toArray, List.set_cons_zero, List.set_cons_succ, i64_w, i32_w]
        rfl
      refine pure_ (i := 1) (N := some 31) (v := ?_) (a' := ?_) #[true, true, false, false, false, false, false, false, false, false, false, false, false, false, false, false, false, false, false, false, false, false, false, false, false, false, false, false, false, false, false, false, false, false] rfl rfl (by kernel_rfl) (fun _ _ _ h => h) (Or.inl ⟨by rfl, ?_⟩) ?_ ?_
      rotate_left
      · intro w'
        go_simp
        with_reducible rfl
      rotate_left
      · simp only [Act.put, List.setIfInBounds_toArray, List.set_cons_zero, List.set_cons_succ, i64_w, i32_w]
        rfl
      refine pure_ (i := 2) (N := some 32) (v := ?_) (a' := ?_) #[true, true, true, false, false, false, false, false, false, false, false, false, false, false, false, false, false, false, false, false, false, false, false, false, false, false, false, false, false, false, false, false, false, false] rfl rfl (by kernel_rfl) (fun _ _ _ h => h) (Or.inl ⟨by rfl, ?_⟩) ?_ ?_
      rotate_left
      · intro w'
        go_simp
        with_reducible rfl
      rotate_left
      · simp only [Act.put, List.setIfInBounds_toArray, List.set_cons_zero, List.set_cons_succ, i64_w, i32_w]
        rfl
      refine pure_ (i := 4) (N := some 34) (v := ?_) (a' := ?_) #[true, true, true, false, true, false, false, false, false, false, false, false, false, false, false, false, false, false, false, false, false, false, false, false, false, false, false, false, false, false, false, false, false, false] rfl rfl (by kernel_rfl) (fun _ _ _ h => h) (Or.inl ⟨by rfl, ?_⟩) ?_ ?_
      rotate_left
      · intro w'
        go_simp
        with_reducible rfl
      rotate_left
      · simp only [Act.put, List.setIfInBounds_toArray, List.set_cons_zero, List.set_cons_succ, i64_w, i32_w]
        rfl
      refine pure_ (i := 5) (N := some 35) (v := ?_) (a' := ?_) #[true, true, true, false, true, true, false, false, false, false, false, false, false, false, false, false, false, false, false, false, false, false, false, false, false, false, false, false, false, false, false, false, false, false] rfl rfl (by kernel_rfl) (fun _ _ _ h => h) (Or.inl ⟨by rfl, ?_⟩) ?_ ?_
      rotate_left
      · intro w'
        go_simp
        with_reducible rfl
      rotate_left
      · simp only [Act.put, List.setIfInBounds_toArray, List.set_cons_zero, List.set_cons_succ, i64_w, i32_w]
        rfl
      refine pure_ (i := 6) (N := some 36) (v := ?_) (a' := ?_) #[true, true, true, false, true, true, true, false, false, false, false, false, false, false, false, false, false, false, false, false, false, false, false, false, false, false, false, false, false, false, false, false, false, false] rfl rfl (by kernel_rfl) (fun _ _ _ h => h) (Or.inl ⟨by rfl, ?_⟩) ?_ ?_
      rotate_left
      · intro w'
        go_simp
        with_reducible rfl
      rotate_left
      · simp only [Act.put, List.setIfInBounds_toArray, List.set_cons_zero, List.set_cons_succ, i64_w, i32_w]
        rfl
      refine take_ (i := 3) (N := some 33) (v := ?_) (a' := ?_) #[true, true, true, true, true, true, true, false, false, false, false, false, false, false, false, false, false, false, false, false, false, false, false, false, false, false, false, false, false, false, false, false, false, false] rfl rfl (by kernel_rfl) (fun _ _ _ h => h) (Or.inl ⟨by rfl, ?_⟩) hHeld ?_ ?_
      rotate_left
      · rintro w' ⟨s0, s1, s2⟩
        go_simp
        with_reducible rfl
      rotate_left
      · simp only [Act.put, List.setIfInBounds_toArray, List.set_cons_zero, List.set_cons_succ, i64_w, i32_w]
        rfl
      refine take_ (i := 7) (N := some 37) (v := ?_) (a' := ?_) #[true, true, true, true, true, true, true, true, false, false, false, false, false, false, false, false, false, false, false, false, false, false, false, false, false, false, false, false, false, false, false, false, false, false] rfl rfl (by kernel_rfl) (fun _ _ _ h => h) (Or.inl ⟨by rfl, ?_⟩) hHeld ?_ ?_
      rotate_left
      · rintro w' ⟨s0, s1, s2⟩
        go_simp
        with_reducible rfl
      rotate_left
      · simp only [Act.put, List.setIfInBounds_toArray, List.set_cons_zero, List.set_cons_succ, i64_w, i32_w]
        rfl
      refine pure_ (i := 8) (N := some 38) (v := ?_) (a' := ?_) #[true, true, true, true, true, true, true, true, true, false, false, false, false, false, false, false, false, false, false, false, false, false, false, false, false, false, false, false, false, false, false, false, false, false] rfl rfl (by kernel_rfl) (fun _ _ _ h => h) (Or.inl ⟨by rfl, ?_⟩) ?_ ?_
      rotate_left
      · intro w'
        go_simp
        with_reducible rfl
      rotate_left
      · simp only [Act.put, List.setIfInBounds_toArray, List.set_cons_zero, List.set_cons_succ, i64_w, i32_w]
        rfl
      refine pure_ (i := 9) (N := some 39) (v := ?_) (a' := ?_) #[true, true, true, true, true, true, true, true, true, true, false, false, false, false, false, false, false, false, false, false, false, false, false, false, false, false, false, false, false, false, false, false, false, false] rfl rfl (by kernel_rfl) (fun _ _ _ h => h) (Or.inl ⟨by rfl, ?_⟩) ?_ ?_
      rotate_left
      · intro w'
        go_simp
        with_reducible rfl
      rotate_left
      · simp only [Act.put, List.setIfInBounds_toArray, List.set_cons_zero, List.set_cons_succ, i64_w, i32_w]
        rfl
      refine pure_ (i := 10) (N := some 40) (v := ?_) (a' := ?_) #[true, true, true, true, true, true, true, true, true, true, true, false, false, false, false, false, false, false, false, false, false, false, false, false, false, false, false, false, false, false, false, false, false, false] rfl rfl (by kernel_rfl) (fun _ _ _ h => h) (Or.inl ⟨by rfl, ?_⟩) ?_ ?_
      rotate_left
      · intro w'
        go_simp
        with_reducible rfl
      rotate_left
      · simp only [Act.put, List.setIfInBounds_toArray, List.set_cons_zero, List.set_cons_succ, i64_w, i32_w]
        rfl
      refine pure_ (i := 11) (N := some 41) (v := ?_) (a' := ?_) #[true, true, true, true, true, true, true, true, true, true, true, true, false, false, false, false, false, false, false, false, false, false, false, false, false, false, false, false, false, false, false, false, false, false] rfl rfl (by kernel_rfl) (fun _ _ _ h => h) (Or.inl ⟨by rfl, ?_⟩) ?_ ?_
      rotate_left
      · intro w'
        go_simp
        with_reducible rfl
      rotate_left
      · simp only [Act.put, List.setIfInBounds_toArray, List.set_cons_zero, List.set_cons_succ, i64_w, i32_w]
        rfl
      refine pure_ (i := 12) (N := some 42) (v := ?_) (a' := ?_) #[true, true, true, true, true, true, true, true, true, true, true, true, true, false, false, false, false, false, false, false, false, false, false, false, false, false, false, false, false, false, false, false, false, false] rfl rfl (by kernel_rfl) (fun _ _ _ h => h) (Or.inl ⟨by rfl, ?_⟩) ?_ ?_
      rotate_left
      · intro w'
        go_simp
        with_reducible rfl
      rotate_left
      · simp only [Act.put, List.setIfInBounds_toArray, List.set_cons_zero, List.set_cons_succ, i64_w, i32_w]
        rfl
      refine pure_ (i := 13) (N := some 43) (v := ?_) (a' := ?_) #[true, true, true, true, true, true, true, true, true, true, true, true, true, true, false, false, false, false, false, false, false, false, false, false, false, false, false, false, false, false, false, false, false, false] rfl rfl (by kernel_rfl) (fun _ _ _ h => h) (Or.inl ⟨by rfl, ?_⟩) ?_ ?_
      rotate_left
      · intro w'
        go_simp
        with_reducible rfl
      rotate_left
      · simp only [Act.put, List.setIfInBounds_toArray, List.set_cons_zero, List.set_cons_succ, i64_w, i32_w]
        rfl
      refine pure_ (i := 15) (N := some 45) (v := ?_) (a' := ?_) #[true, true, true, true, true, true, true, true, true, true, true, true, true, true, false, true, false, false, false, false, false, false, false, false, false, false, false, false, false, false, false, false, false, false] rfl rfl (by kernel_rfl) (fun _ _ _ h => h) (Or.inl ⟨by rfl, ?_⟩) ?_ ?_
      rotate_left
      · intro w'
        go_simp
        with_reducible rfl
      rotate_left
      · simp only [Act.put, List.setIfInBounds_toArray, List.set_cons_zero, List.set_cons_succ, i64_w, i32_w]
        rfl
      refine pure_ (i := 16) (N := some 46) (v := ?_) (a' := ?_) #[true, true, true, true, true, true, true, true, true, true, true, true, true, true, false, true, true, false, false, false, false, false, false, false, false, false, false, false, false, false, false, false, false, false] rfl rfl (by kernel_rfl) (fun _ _ _ h => h) (Or.inl ⟨by rfl, ?_⟩) ?_ ?_
      rotate_left
      · intro w'
        go_simp
        with_reducible rfl
      rotate_left
      · simp only [Act.put, List.setIfInBounds_toArray, List.set_cons_zero, List.set_cons_succ, i64_w, i32_w]
        rfl
      refine pure_ (i := 17) (N := some 47) (v := ?_) (a' := ?_) #[true, true, true, true, true, true, true, true, true, true, true, true, true, true, false, true, true, true, false, false, false, false, false, false, false, false, false, false, false, false, false, false, false, false] rfl rfl (by kernel_rfl) (fun _ _ _ h => h) (Or.inl ⟨by rfl, ?_⟩) ?_ ?_
      rotate_left
      · intro w'
        go_simp
        with_reducible rfl
      rotate_left
      · simp only [Act.put, List.setIfInBounds_toArray, List.set_cons_zero, List.set_cons_succ, i64_w, i32_w]
        rfl
      refine take_ (i := 14) (N := some 44) (v := ?_) (a' := ?_) #[true, true, true, true, true, true, true, true, true, true, true, true, true, true, true, true, true, true, false, false, false, false, false, false, false, false, false, false, false, false, false, false, false, false] rfl rfl (by kernel_rfl) (fun _ _ _ h => h) (Or.inl ⟨by rfl, ?_⟩) hHeld ?_ ?_
      rotate_left
      · rintro w' ⟨s0, s1, s2⟩
        go_simp
        with_reducible rfl
      rotate_left
      · simp only [Act.put, List.setIfInBounds_toArray, List.set_cons_zero, List.set_cons_succ, i64_w, i32_w]
        rfl
      refine take_ (i := 18) (N := some 48) (v := ?_) (a' := ?_) #[true, true, true, true, true, true, true, true, true, true, true, true, true, true, true, true, true, true, true, false, false, false, false, false, false, false, false, false, false, false, false, false, false, false] rfl rfl (by kernel_rfl) (fun _ _ _ h => h) (Or.inl ⟨by rfl, ?_⟩) hHeld ?_ ?_
      rotate_left
      · rintro w' ⟨s0, s1, s2⟩
        go_simp
        with_reducible rfl
      rotate_left
      · simp only [Act.put, List.setIfInBounds_toArray, List.set_cons_zero, List.set_cons_succ, i64_w, i32_w]
        rfl
      refine take_ (i := 19) (N := some 49) (v := ?_) (a' := ?_) #[true, true, true, true, true, true, true, true, true, true, true, true, true, true, true, true, true, true, true, true, false, false, false, false, false, false, false, false, false, false, false, false, false, false] rfl rfl (by kernel_rfl) (fun _ _ _ h => h) (Or.inl ⟨by rfl, ?_⟩) hHeld ?_ ?_
      rotate_left
      · rintro w' ⟨s0, s1, s2⟩
        go_simp
        with_reducible rfl
      rotate_left
      · simp only [Act.put, List.setIfInBounds_toArray, List.set_cons_zero, List.set_cons_succ, i64_w, i32_w]
        rfl
      refine one_ (i := 20) (N := some 50) #[true, true, true, true, true, true, true, true, true, true, true, true, true, true, true, true, true, true, true, true, true, false, false, false, false, false, false, false, false, false, false, false, false, false] rfl rfl (by kernel_rfl) (by decide) (fun K hK => ?_)
      refine goes_ Try.func87 (by kernel_rfl) rfl #[.int .u8 ((t[k]'hkt).toNat : Int)] (by rfl) rfl rfl (by simp only [List.map_toArray, List.map_cons, List.map_nil]; rfl) ?_
      with_reducible refine (isLetter_ok _ _).mono ?_
      rintro e w3 ⟨rfl, rfl⟩
      refine ⟨_, rfl, ?_⟩
      refine hK.out _ _ ⟨hHeld.1, hHeld.2.1, hHeld.2.2⟩ (fun hHeld => ?_)
      clear hK K
      refine norm_ (a' := ?_) ?_ ?_
      rotate_left
      · show Act.put _ (some 50) _ = _
        simp only [Act.put, List.setIfInBounds_toArray, List.set_cons_zero, List.set_cons_succ, i64_w, i32_w]
        rfl
      refine pure_ (i := 21) (N := some 51) (v := ?_) (a' := ?_) #[true, true, true, true, true, true, true, true, true, true, true, true, true, true, true, true, true, true, true, true, true, true, false, false, false, false, false, false, false, false, false, false, false, false] rfl rfl (by kernel_rfl) (fun _ _ _ h => h) (Or.inl ⟨by rfl, ?_⟩) ?_ ?_
      rotate_left
      · intro w'
        go_simp
        with_reducible rfl
      rotate_left
      · simp only [Act.put, List.setIfInBounds_toArray, List.set_cons_zero, List.set_cons_succ, i64_w, i32_w]
        rfl
      refine pure_ (i := 22) (N := some 52) (v := ?_) (a' := ?_) #[true, true, true, true, true, true, true, true, true, true, true, true, true, true, true, true, true, true, true, true, true, true, true, false, false, false, false, false, false, false, false, false, false, false] rfl rfl (by kernel_rfl) (fun _ _ _ h => h) (Or.inl ⟨by rfl, ?_⟩) ?_ ?_
      rotate_left
      · intro w'
        go_simp
        with_reducible rfl
      rotate_left
      · simp only [Act.put, List.setIfInBounds_toArray, List.set_cons_zero, List.set_cons_succ, i64_w, i32_w]
        rfl
      refine pure_ (i := 23) (N := some 53) (v := ?_) (a' := ?_) #[true, true, true, true, true, true, true, true, true, true, true, true, true, true, true, true, true, true, true, true, true, true, true, true, false, false, false, false, false, false, false, false, false, false] rfl rfl (by kernel_rfl) (fun _ _ _ h => h) (Or.inl ⟨by rfl, ?_⟩) ?_ ?_
      rotate_left
      · intro w'
        go_simp
        with_reducible rfl
      rotate_left
      · simp only [Act.put, List.setIfInBounds_toArray, List.set_cons_zero, List.set_cons_succ, i64_w, i32_w]
        rfl
      refine pure_ (i := 24) (N := some 54) (v := ?_) (a' := ?_) #[true, true, true, true, true, true, true, true, true, true, true, true, true, true, true, true, true, true, true, true, true, true, true, true, true, false, false, false, false, false, false, false, false, false] rfl rfl (by kernel_rfl) (fun _ _ _ h => h) (Or.inl ⟨by rfl, ?_⟩) ?_ ?_
      rotate_left
      · intro w'
        go_simp
        with_reducible rfl
      rotate_left
      · simp only [Act.put, List.setIfInBounds_toArray, List.set_cons_zero, List.set_cons_succ, i64_w, i32_w]
        rfl
      refine pure_ (i := 26) (N := some 56) (v := ?_) (a' := ?_) #[true, true, true, true, true, true, true, true, true, true, true, true, true, true, true, true, true, true, true, true, true, true, true, true, true, false, true, false, false, false, false, false, false, false] rfl rfl (by kernel_rfl) (fun _ _ _ h => h) (Or.inl ⟨by rfl, ?_⟩) ?_ ?_
      rotate_left
      · intro w'
        go_simp
        with_reducible rfl
      rotate_left
      · simp only [Act.put, List.setIfInBounds_toArray, List.set_cons_zero, List.set_cons_succ, i64_w, i32_w]
        rfl
      refine pure_ (i := 27) (N := some 57) (v := ?_) (a' := ?_) #[true, true, true, true, true, true, true, true, true, true, true, true, true, true, true, true, true, true, true, true, true, true, true, true, true, false, true, true, false, false, false, false, false, false] rfl rfl (by kernel_rfl) (fun _ _ _ h => h) (Or.inl ⟨by rfl, ?_⟩) ?_ ?_
      rotate_left
      · intro w'
        go_simp
        with_reducible rfl
      rotate_left
      · simp only [Act.put, List.setIfInBounds_toArray, List.set_cons_zero, List.set_cons_succ, i64_w, i32_w]
        rfl
      refine pure_ (i := 28) (N := some 58) (v := ?_) (a' := ?_) #[true, true, true, true, true, true, true, true, true, true, true, true, true, true, true, true, true, true, true, true, true, true, true, true, true, false, true, true, true, false, false, false, false, false] rfl rfl (by kernel_rfl) (fun _ _ _ h => h) (Or.inl ⟨by rfl, ?_⟩) ?_ ?_
      rotate_left
      · intro w'
        go_simp
        with_reducible rfl
      rotate_left
      · simp only [Act.put, List.setIfInBounds_toArray, List.set_cons_zero, List.set_cons_succ, i64_w, i32_w]
        rfl
      refine take_ (i := 25) (N := some 55) (v := ?_) (a' := ?_) #[true, true, true, true, true, true, true, true, true, true, true, true, true, true, true, true, true, true, true, true, true, true, true, true, true, true, true, true, true, false, false, false, false, false] rfl rfl (by kernel_rfl) (fun _ _ _ h => h) (Or.inl ⟨by rfl, ?_⟩) hHeld ?_ ?_
      rotate_left
      · rintro w' ⟨s0, s1, s2⟩
        go_simp
        with_reducible rfl
      rotate_left
      · simp only [Act.put, List.setIfInBounds_toArray, List.set_cons_zero, List.set_cons_succ, i64_w, i32_w]
        rfl
      refine take_ (i := 29) (N := some 59) (v := ?_) (a' := ?_) #[true, true, true, true, true, true, true, true, true, true, true, true, true, true, true, true, true, true, true, true, true, true, true, true, true, true, true, true, true, true, false, false, false, false] rfl rfl (by kernel_rfl) (fun _ _ _ h => h) (Or.inl ⟨by rfl, ?_⟩) hHeld ?_ ?_
      rotate_left
      · rintro w' ⟨s0, s1, s2⟩
        go_simp
        with_reducible rfl
      rotate_left
      · simp only [Act.put, List.setIfInBounds_toArray, List.set_cons_zero, List.set_cons_succ, i64_w, i32_w]
        rfl
      refine take_ (i := 30) (N := some 60) (v := ?_) (a' := ?_) #[true, true, true, true, true, true, true, true, true, true, true, true, true, true, true, true, true, true, true, true, true, true, true, true, true, true, true, true, true, true, true, false, false, false] rfl rfl (by kernel_rfl) (fun _ _ _ h => h) (Or.inl ⟨by rfl, ?_⟩) hHeld ?_ ?_
      rotate_left
      · rintro w' ⟨s0, s1, s2⟩
        go_simp
        with_reducible rfl
      rotate_left
      · simp only [Act.put, List.setIfInBounds_toArray, List.set_cons_zero, List.set_cons_succ, i64_w, i32_w]
        rfl
      refine one_ (i := 31) (N := some 61) #[true, true, true, true, true, true, true, true, true, true, true, true, true, true, true, true, true, true, true, true, true, true, true, true, true, true, true, true, true, true, true, true, false, false] rfl rfl (by kernel_rfl) (by decide) (fun K hK => ?_)
      refine goes_ Try.func88 (by kernel_rfl) rfl #[.int .u8 ((t[k]'hkt).toNat : Int)] (by rfl) rfl rfl (by simp only [List.map_toArray, List.map_cons, List.map_nil]; rfl) ?_
      with_reducible refine (isDigit_ok _ _).mono ?_
      rintro e w3 ⟨rfl, rfl⟩
      refine ⟨_, rfl, ?_⟩
      refine hK.out _ _ ⟨hHeld.1, hHeld.2.1, hHeld.2.2⟩ (fun hHeld => ?_)
      clear hK K
      refine norm_ (a' := ?_) ?_ ?_
      rotate_left
      · show Act.put _ (some 61) _ = _
        simp only [Act.put, List.setIfInBounds_toArray, List.set_cons_zero, List.set_cons_succ, i64_w, i32_w]
        rfl
      refine pure_ (i := 32) (N := some 62) (v := ?_) (a' := ?_) #[true, true, true, true, true, true, true, true, true, true, true, true, true, true, true, true, true, true, true, true, true, true, true, true, true, true, true, true, true, true, true, true, true, false] rfl rfl (by kernel_rfl) (fun _ _ _ h => h) (Or.inl ⟨by rfl, ?_⟩) ?_ ?_
      rotate_left
      · intro w'
        go_simp
        with_reducible rfl
      rotate_left
      · simp only [Act.put, List.setIfInBounds_toArray, List.set_cons_zero, List.set_cons_succ, i64_w, i32_w]
        rfl
      refine pure_ (i := 33) (N := some 63) (v := ?_) (a' := ?_) #[true, true, true, true, true, true, true, true, true, true, true, true, true, true, true, true, true, true, true, true, true, true, true, true, true, true, true, true, true, true, true, true, true, true] rfl rfl (by kernel_rfl) (fun _ _ _ h => h) (Or.inl ⟨by rfl, ?_⟩) ?_ ?_
      rotate_left
      · intro w'
        go_simp
        with_reducible rfl
      rotate_left
      · simp only [Act.put, List.setIfInBounds_toArray, List.set_cons_zero, List.set_cons_succ, i64_w, i32_w]
        rfl
      refine done_ (by kernel_rfl) ?_
      clear c0 c1 f1
      have c0 := hHeld.1
      have c1 := hHeld.2.1
      have HQ2 := hHeld.2.2
      clear hHeld
      generalize hwd : wr.drew = wd at c0 c1 HQ2 ⊢
      have f1 := kfz HQ2.out.blk.choose_spec.1 1
      go_wp2_with fail
      have hw : wrap64 ((k : Int) + 1) = ((k + 1 : Nat) : Int) := by have := HD.out.hs; unfold wrap64; omega
      rw [hw]
      have h9 := HQ2.out.setAt ((k + 1 : Nat) : Int)
      go_roundw
      case rel => exact ⟨k + 1, hkn, ⟨h9⟩⟩
      case measure =>
        rw [h9.atOf, HAT.out]
        omega
    · obtain rfl : k = n := by omega
      rcases HD.out.en with he | ⟨he, h10⟩
      · have d1 : decide (k < t.size) = false := by simp; omega
        clear he
        go_wp2_with fail
        refine start_ (n := 34) (S := fun w' => w'.cell? ⟨b, 0, none⟩ = some (.string t) ∧ w'.cell? ⟨b, 1, none⟩ = some (.int .i64 (k : Int)) ∧ Aside0 (Lq w0 b g t k line out w')) (ds := []) #[false, false, false, false, false, false, false, false, false, false, false, false, false, false, false, false, false, false, false, false, false, false, false, false, false, false, false, false, false, false, false, false, false, false] (by kernel_rfl) rfl rfl ⟨c0, c1, ⟨HQ.out.below (below_drew (Below.refl _ _))⟩⟩ (fun hHeld => ?_)
        refine pure_ (i := 0) (N := some 30) (v := ?_) (a' := ?_) #[true, false, false, false, false, false, false, false, false, false, false, false, false, false, false, false, false, false, false, false, false, false, false, false, false, false, false, false, false, false, false, false, false, false] rfl rfl (by kernel_rfl) (fun _ _ _ h => h) (Or.inl ⟨by rfl, ?_⟩) ?_ ?_
        rotate_left
        · intro w'
          go_simp
          with_reducible rfl
        rotate_left
        · simp only [Act.put, List.setIfInBounds_toArray, List.set_cons_zero, List.set_cons_succ, i64_w, i32_w]
          rfl
        refine pure_ (i := 1) (N := some 31) (v := ?_) (a' := ?_) #[true, true, false, false, false, false, false, false, false, false, false, false, false, false, false, false, false, false, false, false, false, false, false, false, false, false, false, false, false, false, false, false, false, false] rfl rfl (by kernel_rfl) (fun _ _ _ h => h) (Or.inl ⟨by rfl, ?_⟩) ?_ ?_
        rotate_left
        · intro w'
          go_simp
          with_reducible rfl
        rotate_left
        · simp only [Act.put, List.setIfInBounds_toArray, List.set_cons_zero, List.set_cons_succ, i64_w, i32_w]
          rfl
        refine pure_ (i := 2) (N := some 32) (v := ?_) (a' := ?_) #[true, true, true, false, false, false, false, false, false, false, false, false, false, false, false, false, false, false, false, false, false, false, false, false, false, false, false, false, false, false, false, false, false, false] rfl rfl (by kernel_rfl) (fun _ _ _ h => h) (Or.inl ⟨by rfl, ?_⟩) ?_ ?_
        rotate_left
        · intro w'
          go_simp
          with_reducible rfl
        rotate_left
        · simp only [Act.put, List.setIfInBounds_toArray, List.set_cons_zero, List.set_cons_succ, i64_w, i32_w]
          rfl
        refine pure_ (i := 4) (N := some 34) (v := ?_) (a' := ?_) #[true, true, true, false, true, false, false, false, false, false, false, false, false, false, false, false, false, false, false, false, false, false, false, false, false, false, false, false, false, false, false, false, false, false] rfl rfl (by kernel_rfl) (fun _ _ _ h => h) (Or.inl ⟨by rfl, ?_⟩) ?_ ?_
        rotate_left
        · intro w'
          go_simp
          with_reducible rfl
        rotate_left
        · simp only [Act.put, List.setIfInBounds_toArray, List.set_cons_zero, List.set_cons_succ, i64_w, i32_w]
          rfl
        refine pure_ (i := 5) (N := some 35) (v := ?_) (a' := ?_) #[true, true, true, false, true, true, false, false, false, false, false, false, false, false, false, false, false, false, false, false, false, false, false, false, false, false, false, false, false, false, false, false, false, false] rfl rfl (by kernel_rfl) (fun _ _ _ h => h) (Or.inl ⟨by rfl, ?_⟩) ?_ ?_
        rotate_left
        · intro w'
          go_simp
          with_reducible rfl
        rotate_left
        · simp only [Act.put, List.setIfInBounds_toArray, List.set_cons_zero, List.set_cons_succ, i64_w, i32_w]
          rfl
        refine pure_ (i := 6) (N := some 36) (v := ?_) (a' := ?_) #[true, true, true, false, true, true, true, false, false, false, false, false, false, false, false, false, false, false, false, false, false, false, false, false, false, false, false, false, false, false, false, false, false, false] rfl rfl (by kernel_rfl) (fun _ _ _ h => h) (Or.inl ⟨by rfl, ?_⟩) ?_ ?_
        rotate_left
        · intro w'
          go_simp
          with_reducible rfl
        rotate_left
        · simp only [Act.put, List.setIfInBounds_toArray, List.set_cons_zero, List.set_cons_succ, i64_w, i32_w]
          rfl
        refine take_ (i := 3) (N := some 33) (v := ?_) (a' := ?_) #[true, true, true, true, true, true, true, false, false, false, false, false, false, false, false, false, false, false, false, false, false, false, false, false, false, false, false, false, false, false, false, false, false, false] rfl rfl (by kernel_rfl) (fun _ _ _ h => h) (Or.inl ⟨by rfl, ?_⟩) hHeld ?_ ?_
        rotate_left
        · rintro w' ⟨s0, s1, s2⟩
          go_simp
          with_reducible rfl
        rotate_left
        · simp only [Act.put, List.setIfInBounds_toArray, List.set_cons_zero, List.set_cons_succ, i64_w, i32_w]
          rfl
        refine take_ (i := 7) (N := some 37) (v := ?_) (a' := ?_) #[true, true, true, true, true, true, true, true, false, false, false, false, false, false, false, false, false, false, false, false, false, false, false, false, false, false, false, false, false, false, false, false, false, false] rfl rfl (by kernel_rfl) (fun _ _ _ h => h) (Or.inl ⟨by rfl, ?_⟩) hHeld ?_ ?_
        rotate_left
        · rintro w' ⟨s0, s1, s2⟩
          go_simp
          with_reducible rfl
        rotate_left
        · simp only [Act.put, List.setIfInBounds_toArray, List.set_cons_zero, List.set_cons_succ, i64_w, i32_w]
          rfl
        refine pure_ (i := 8) (N := some 38) (v := ?_) (a' := ?_) #[true, true, true, true, true, true, true, true, true, false, false, false, false, false, false, false, false, false, false, false, false, false, false, false, false, false, false, false, false, false, false, false, false, false] rfl rfl (by kernel_rfl) (fun _ _ _ h => h) (Or.inl ⟨by rfl, ?_⟩) ?_ ?_
        rotate_left
        · intro w'
          go_simp
          with_reducible rfl
        rotate_left
        · simp only [Act.put, List.setIfInBounds_toArray, List.set_cons_zero, List.set_cons_succ, i64_w, i32_w]
          rfl
        refine pure_ (i := 9) (N := some 39) (v := ?_) (a' := ?_) #[true, true, true, true, true, true, true, true, true, true, false, false, false, false, false, false, false, false, false, false, false, false, false, false, false, false, false, false, false, false, false, false, false, false] rfl rfl (by kernel_rfl) (fun _ _ _ h => h) (Or.inl ⟨by rfl, ?_⟩) ?_ ?_
        rotate_left
        · intro w'
          go_simp
          with_reducible rfl
        rotate_left
        · simp only [Act.put, List.setIfInBounds_toArray, List.set_cons_zero, List.set_cons_succ, i64_w, i32_w]
          rfl
        refine pure_ (i := 10) (N := some 40) (v := ?_) (a' := ?_) #[true, true, true, true, true, true, true, true, true, true, true, false, false, false, false, false, false, false, false, false, false, false, false, false, false, false, false, false, false, false, false, false, false, false] rfl rfl (by kernel_rfl) (fun _ _ _ h => h) (Or.inl ⟨by rfl, ?_⟩) ?_ ?_
        rotate_left
        · intro w'
          go_simp
          with_reducible rfl
        rotate_left
        · simp only [Act.put, List.setIfInBounds_toArray, List.set_cons_zero, List.set_cons_succ, i64_w, i32_w]
          rfl
        refine pure_ (i := 11) (N := some 41) (v := undef) (a' := ?_) #[true, true, true, true, true, true, true, true, true, true, true, true, false, false, false, false, false, false, false, false, false, false, false, false, false, false, false, false, false, false, false, false, false, false] rfl rfl (by kernel_rfl) (fun _ _ _ h => h) (Or.inr ⟨by rfl, rfl⟩) ?_ ?_
        rotate_left
        · simp only [Act.put, List.setIfInBounds_toArray, List.set_cons_zero, List.set_cons_succ, i64_w, i32_w]
          rfl
        refine pure_ (i := 12) (N := some 42) (v := undef) (a' := ?_) #[true, true, true, true, true, true, true, true, true, true, true, true, true, false, false, false, false, false, false, false, false, false, false, false, false, false, false, false, false, false, false, false, false, false] rfl rfl (by kernel_rfl) (fun _ _ _ h => h) (Or.inr ⟨by rfl, rfl⟩) ?_ ?_
        rotate_left
        · simp only [Act.put, List.setIfInBounds_toArray, List.set_cons_zero, List.set_cons_succ, i64_w, i32_w]
          rfl
        refine pure_ (i := 13) (N := some 43) (v := undef) (a' := ?_) #[true, true, true, true, true, true, true, true, true, true, true, true, true, true, false, false, false, false, false, false, false, false, false, false, false, false, false, false, false, false, false, false, false, false] rfl rfl (by kernel_rfl) (fun _ _ _ h => h) (Or.inr ⟨by rfl, rfl⟩) ?_ ?_
        rotate_left
        · simp only [Act.put, List.setIfInBounds_toArray, List.set_cons_zero, List.set_cons_succ, i64_w, i32_w]
          rfl
        refine pure_ (i := 14) (N := some 44) (v := undef) (a' := ?_) #[true, true, true, true, true, true, true, true, true, true, true, true, true, true, true, false, false, false, false, false, false, false, false, false, false, false, false, false, false, false, false, false, false, false] rfl rfl (by kernel_rfl) (fun _ _ _ h => h) (Or.inr ⟨by rfl, rfl⟩) ?_ ?_
        rotate_left
        · simp only [Act.put, List.setIfInBounds_toArray, List.set_cons_zero, List.set_cons_succ, i64_w, i32_w]
          rfl
        refine pure_ (i := 15) (N := some 45) (v := undef) (a' := ?_) #[true, true, true, true, true, true, true, true, true, true, true, true, true, true, true, true, false, false, false, false, false, false, false, false, false, false, false, false, false, false, false, false, false, false] rfl rfl (by kernel_rfl) (fun _ _ _ h => h) (Or.inr ⟨by rfl, rfl⟩) ?_ ?_
        rotate_left
        · simp only [Act.put, List.setIfInBounds_toArray, List.set_cons_zero, List.set_cons_succ, i64_w, i32_w]
          rfl
        refine pure_ (i := 16) (N := some 46) (v := undef) (a' := ?_) #[true, true, true, true, true, true, true, true, true, true, true, true, true, true, true, true, true, false, false, false, false, false, false, false, false, false, false, false, false, false, false, false, false, false] rfl rfl (by kernel_rfl) (fun _ _ _ h => h) (Or.inr ⟨by rfl, rfl⟩) ?_ ?_
        rotate_left
        · simp only [Act.put, List.setIfInBounds_toArray, List.set_cons_zero, List.set_cons_succ, i64_w, i32_w]
          rfl
        refine pure_ (i := 17) (N := some 47) (v := undef) (a' := ?_) #[true, true, true, true, true, true, true, true, true, true, true, true, true, true, true, true, true, true, false, false, false, false, false, false, false, false, false, false, false, false, false, false, false, false] rfl rfl (by kernel_rfl) (fun _ _ _ h => h) (Or.inr ⟨by rfl, rfl⟩) ?_ ?_
        rotate_left
        · simp only [Act.put, List.setIfInBounds_toArray, List.set_cons_zero, List.set_cons_succ, i64_w, i32_w]
          rfl
        refine pure_ (i := 18) (N := some 48) (v := undef) (a' := ?_) #[true, true, true, true, true, true, true, true, true, true, true, true, true, true, true, true, true, true, true, false, false, false, false, false, false, false, false, false, false, false, false, false, false, false] rfl rfl (by kernel_rfl) (fun _ _ _ h => h) (Or.inr ⟨by rfl, rfl⟩) ?_ ?_
        rotate_left
        · simp only [Act.put, List.setIfInBounds_toArray, List.set_cons_zero, List.set_cons_succ, i64_w, i32_w]
          rfl
        refine pure_ (i := 19) (N := some 49) (v := undef) (a' := ?_) #[true, true, true, true, true, true, true, true, true, true, true, true, true, true, true, true, true, true, true, true, false, false, false, false, false, false, false, false, false, false, false, false, false, false] rfl rfl (by kernel_rfl) (fun _ _ _ h => h) (Or.inr ⟨by rfl, rfl⟩) ?_ ?_
        rotate_left
        · simp only [Act.put, List.setIfInBounds_toArray, List.set_cons_zero, List.set_cons_succ, i64_w, i32_w]
          rfl
        refine pure_ (i := 20) (N := some 50) (v := undef) (a' := ?_) #[true, true, true, true, true, true, true, true, true, true, true, true, true, true, true, true, true, true, true, true, true, false, false, false, false, false, false, false, false, false, false, false, false, false] rfl rfl (by kernel_rfl) (fun _ _ _ h => h) (Or.inr ⟨by rfl, rfl⟩) ?_ ?_
        rotate_left
        · simp only [Act.put, List.setIfInBounds_toArray, List.set_cons_zero, List.set_cons_succ, i64_w, i32_w]
          rfl
        refine pure_ (i := 21) (N := some 51) (v := undef) (a' := ?_) #[true, true, true, true, true, true, true, true, true, true, true, true, true, true, true, true, true, true, true, true, true, true, false, false, false, false, false, false, false, false, false, false, false, false] rfl rfl (by kernel_rfl) (fun _ _ _ h => h) (Or.inr ⟨by rfl, rfl⟩) ?_ ?_
        rotate_left
        · simp only [Act.put, List.setIfInBounds_toArray, List.set_cons_zero, List.set_cons_succ, i64_w, i32_w]
          rfl
        refine pure_ (i := 22) (N := some 52) (v := undef) (a' := ?_) #[true, true, true, true, true, true, true, true, true, true, true, true, true, true, true, true, true, true, true, true, true, true, true, false, false, false, false, false, false, false, false, false, false, false] rfl rfl (by kernel_rfl) (fun _ _ _ h => h) (Or.inr ⟨by rfl, rfl⟩) ?_ ?_
        rotate_left
        · simp only [Act.put, List.setIfInBounds_toArray, List.set_cons_zero, List.set_cons_succ, i64_w, i32_w]
          rfl
        refine pure_ (i := 23) (N := some 53) (v := undef) (a' := ?_) #[true, true, true, true, true, true, true, true, true, true, true, true, true, true, true, true, true, true, true, true, true, true, true, true, false, false, false, false, false, false, false, false, false, false] rfl rfl (by kernel_rfl) (fun _ _ _ h => h) (Or.inr ⟨by rfl, rfl⟩) ?_ ?_
        rotate_left
        · simp only [Act.put, List.setIfInBounds_toArray, List.set_cons_zero, List.set_cons_succ, i64_w, i32_w]
          rfl
        refine pure_ (i := 24) (N := some 54) (v := undef) (a' := ?_) #[true, true, true, true, true, true, true, true, true, true, true, true, true, true, true, true, true, true, true, true, true, true, true, true, true, false, false, false, false, false, false, false, false, false] rfl rfl (by kernel_rfl) (fun _ _ _ h => h) (Or.inr ⟨by rfl, rfl⟩) ?_ ?_
        rotate_left
        · simp only [Act.put, List.setIfInBounds_toArray, List.set_cons_zero, List.set_cons_succ, i64_w, i32_w]
          rfl
        refine pure_ (i := 25) (N := some 55) (v := undef) (a' := ?_) #[true, true, true, true, true, true, true, true, true, true, true, true, true, true, true, true, true, true, true, true, true, true, true, true, true, true, false, false, false, false, false, false, false, false] rfl rfl (by kernel_rfl) (fun _ _ _ h => h) (Or.inr ⟨by rfl, rfl⟩) ?_ ?_
        rotate_left
        · simp only [Act.put, List.setIfInBounds_toArray, List.set_cons_zero, List.set_cons_succ, i64_w, i32_w]
          rfl
        refine pure_ (i := 26) (N := some 56) (v := undef) (a' := ?_) #[true, true, true, true, true, true, true, true, true, true, true, true, true, true, true, true, true, true, true, true, true, true, true, true, true, true, true, false, false, false, false, false, false, false] rfl rfl (by kernel_rfl) (fun _ _ _ h => h) (Or.inr ⟨by rfl, rfl⟩) ?_ ?_
        rotate_left
        · simp only [Act.put, List.setIfInBounds_toArray, List.set_cons_zero, List.set_cons_succ, i64_w, i32_w]
          rfl
        refine pure_ (i := 27) (N := some 57) (v := undef) (a' := ?_) #[true, true, true, true, true, true, true, true, true, true, true, true, true, true, true, true, true, true, true, true, true, true, true, true, true, true, true, true, false, false, false, false, false, false] rfl rfl (by kernel_rfl) (fun _ _ _ h => h) (Or.inr ⟨by rfl, rfl⟩) ?_ ?_
        rotate_left
        · simp only [Act.put, List.setIfInBounds_toArray, List.set_cons_zero, List.set_cons_succ, i64_w, i32_w]
          rfl
        refine pure_ (i := 28) (N := some 58) (v := undef) (a' := ?_) #[true, true, true, true, true, true, true, true, true, true, true, true, true, true, true, true, true, true, true, true, true, true, true, true, true, true, true, true, true, false, false, false, false, false] rfl rfl (by kernel_rfl) (fun _ _ _ h => h) (Or.inr ⟨by rfl, rfl⟩) ?_ ?_
        rotate_left
        · simp only [Act.put, List.setIfInBounds_toArray, List.set_cons_zero, List.set_cons_succ, i64_w, i32_w]
          rfl
        refine pure_ (i := 29) (N := some 59) (v := undef) (a' := ?_) #[true, true, true, true, true, true, true, true, true, true, true, true, true, true, true, true, true, true, true, true, true, true, true, true, true, true, true, true, true, true, false, false, false, false] rfl rfl (by kernel_rfl) (fun _ _ _ h => h) (Or.inr ⟨by rfl, rfl⟩) ?_ ?_
        rotate_left
        · simp only [Act.put, List.setIfInBounds_toArray, List.set_cons_zero, List.set_cons_succ, i64_w, i32_w]
          rfl
        refine pure_ (i := 30) (N := some 60) (v := undef) (a' := ?_) #[true, true, true, true, true, true, true, true, true, true, true, true, true, true, true, true, true, true, true, true, true, true, true, true, true, true, true, true, true, true, true, false, false, false] rfl rfl (by kernel_rfl) (fun _ _ _ h => h) (Or.inr ⟨by rfl, rfl⟩) ?_ ?_
        rotate_left
        · simp only [Act.put, List.setIfInBounds_toArray, List.set_cons_zero, List.set_cons_succ, i64_w, i32_w]
          rfl
        refine pure_ (i := 31) (N := some 61) (v := undef) (a' := ?_) #[true, true, true, true, true, true, true, true, true, true, true, true, true, true, true, true, true, true, true, true, true, true, true, true, true, true, true, true, true, true, true, true, false, false] rfl rfl (by kernel_rfl) (fun _ _ _ h => h) (Or.inr ⟨by rfl, rfl⟩) ?_ ?_
        rotate_left
        · simp only [Act.put, List.setIfInBounds_toArray, List.set_cons_zero, List.set_cons_succ, i64_w, i32_w]
          rfl
        refine pure_ (i := 32) (N := some 62) (v := undef) (a' := ?_) #[true, true, true, true, true, true, true, true, true, true, true, true, true, true, true, true, true, true, true, true, true, true, true, true, true, true, true, true, true, true, true, true, true, false] rfl rfl (by kernel_rfl) (fun _ _ _ h => h) (Or.inr ⟨by rfl, rfl⟩) ?_ ?_
        rotate_left
        · simp only [Act.put, List.setIfInBounds_toArray, List.set_cons_zero, List.set_cons_succ, i64_w, i32_w]
          rfl
        refine pure_ (i := 33) (N := some 63) (v := ?_) (a' := ?_) #[true, true, true, true, true, true, true, true, true, true, true, true, true, true, true, true, true, true, true, true, true, true, true, true, true, true, true, true, true, true, true, true, true, true] rfl rfl (by kernel_rfl) (fun _ _ _ h => h) (Or.inl ⟨by rfl, ?_⟩) ?_ ?_
        rotate_left
        · intro w'
          go_simp
          with_reducible rfl
        rotate_left
        · simp only [Act.put, List.setIfInBounds_toArray, List.set_cons_zero, List.set_cons_succ, i64_w, i32_w]
          rfl
        refine done_ (by kernel_rfl) ?_
        clear c0 c1 f1
        have c0 := hHeld.1
        have c1 := hHeld.2.1
        have HQ2 := hHeld.2.2
        clear hHeld
        generalize hwd : wr.drew = wd at c0 c1 HQ2 ⊢
        clear hwd HQ HAT
        have hkt2 : k ≤ t.size := HD.out.nt
        have hws := HD.out.ws
        go_wp2_with fail
        go_region
        have HQ3 := Aside0.mk HQ2.out.drew
        generalize wd.drew = we at HQ3 ⊢
        clear c0 c1 HQ2 hws hkt2
        obtain ⟨-, -, ⟨ov3, hb3, -⟩, -⟩ := HQ3.out
        have c2 := (kcl hb3 2).trans (show _ = some (.int .i64 line) from rfl)
        clear hb3
        have hok := HD.out.ok
        go_wp2_with (first | (go_at_call 88; refine (isDigit_ok _ _).mono ?_; rintro e w1 ⟨rfl, rfl⟩) | (go_at_call 15; refine (intOk_ok s (by have h1 := HD.out.ws; have h2 := HD.out.hs; rw [← h1, ByteArray.size_extract]; omega) _).mono ?_; rintro e w2 ⟨rfl, hB⟩; replace HQ3 := Aside0.mk (HQ3.out.below hB); replace c2 := B.cell_keep hB c2; clear hB) | (go_at_call 53; refine (put_w w0 b g t k line out _ HQ3.out ho 3 s line).mono ?_; rintro e w4 ⟨rfl, hp⟩; have HQ4 := Aside0.mk hp; clear hp))
        go_end0
        exact ⟨rfl, HQ4.out⟩

      · have p1 : digB ((t[k]'he).toNat : Int) = false := by rw [h10]; rfl
        have p2 : letB ((t[k]'he).toNat : Int) = false := by rw [h10]; rfl
        have d1 : decide (k < t.size) = true := by simpa using he
        clear h10
        go_wp2_with fail
        refine start_ (n := 34) (S := fun w' => w'.cell? ⟨b, 0, none⟩ = some (.string t) ∧ w'.cell? ⟨b, 1, none⟩ = some (.int .i64 (k : Int)) ∧ Aside0 (Lq w0 b g t k line out w')) (ds := []) #[false, false, false, false, false, false, false, false, false, false, false, false, false, false, false, false, false, false, false, false, false, false, false, false, false, false, false, false, false, false, false, false, false, false] (by kernel_rfl) rfl rfl ⟨c0, c1, ⟨HQ.out.below (below_drew (Below.refl _ _))⟩⟩ (fun hHeld => ?_)
        refine pure_ (i := 0) (N := some 30) (v := ?_) (a' := ?_) #[true, false, false, false, false, false, false, false, false, false, false, false, false, false, false, false, false, false, false, false, false, false, false, false, false, false, false, false, false, false, false, false, false, false] rfl rfl (by kernel_rfl) (fun _ _ _ h => h) (Or.inl ⟨by rfl, ?_⟩) ?_ ?_
        rotate_left
        · intro w'
          go_simp
          with_reducible rfl
        rotate_left
        · simp only [Act.put, List.setIfInBounds_toArray, List.set_cons_zero, List.set_cons_succ, i64_w, i32_w]
          rfl
        refine pure_ (i := 1) (N := some 31) (v := ?_) (a' := ?_) #[true, true, false, false, false, false, false, false, false, false, false, false, false, false, false, false, false, false, false, false, false, false, false, false, false, false, false, false, false, false, false, false, false, false] rfl rfl (by kernel_rfl) (fun _ _ _ h => h) (Or.inl ⟨by rfl, ?_⟩) ?_ ?_
        rotate_left
        · intro w'
          go_simp
          with_reducible rfl
        rotate_left
        · simp only [Act.put, List.setIfInBounds_toArray, List.set_cons_zero, List.set_cons_succ, i64_w, i32_w]
          rfl
        refine pure_ (i := 2) (N := some 32) (v := ?_) (a' := ?_) #[true, true, true, false, false, false, false, false, false, false, false, false, false, false, false, false, false, false, false, false, false, false, false, false, false, false, false, false, false, false, false, false, false, false] rfl rfl (by kernel_rfl) (fun _ _ _ h => h) (Or.inl ⟨by rfl, ?_⟩) ?_ ?_
        rotate_left
        · intro w'
          go_simp
          with_reducible rfl
        rotate_left
        · simp only [Act.put, List.setIfInBounds_toArray, List.set_cons_zero, List.set_cons_succ, i64_w, i32_w]
          rfl
        refine pure_ (i := 4) (N := some 34) (v := ?_) (a' := ?_) #[true, true, true, false, true, false, false, false, false, false, false, false, false, false, false, false, false, false, false, false, false, false, false, false, false, false, false, false, false, false, false, false, false, false] rfl rfl (by kernel_rfl) (fun _ _ _ h => h) (Or.inl ⟨by rfl, ?_⟩) ?_ ?_
        rotate_left
        · intro w'
          go_simp
          with_reducible rfl
        rotate_left
        · simp only [Act.put, List.setIfInBounds_toArray, List.set_cons_zero, List.set_cons_succ, i64_w, i32_w]
          rfl
        refine pure_ (i := 5) (N := some 35) (v := ?_) (a' := ?_) #[true, true, true, false, true, true, false, false, false, false, false, false, false, false, false, false, false, false, false, false, false, false, false, false, false, false, false, false, false, false, false, false, false, false] rfl rfl (by kernel_rfl) (fun _ _ _ h => h) (Or.inl ⟨by rfl, ?_⟩) ?_ ?_
        rotate_left
        · intro w'
          go_simp
          with_reducible rfl
        rotate_left
        · simp only [Act.put, List.setIfInBounds_toArray, List.set_cons_zero, List.set_cons_succ, i64_w, i32_w]
          rfl
        refine pure_ (i := 6) (N := some 36) (v := ?_) (a' := ?_) #[true, true, true, false, true, true, true, false, false, false, false, false, false, false, false, false, false, false, false, false, false, false, false, false, false, false, false, false, false, false, false, false, false, false] rfl rfl (by kernel_rfl) (fun _ _ _ h => h) (Or.inl ⟨by rfl, ?_⟩) ?_ ?_
        rotate_left
        · intro w'
          go_simp
          with_reducible rfl
        rotate_left
        · simp only [Act.put, List.setIfInBounds_toArray, List.set_cons_zero, List.set_cons_succ, i64_w, i32_w]
          rfl
        refine take_ (i := 3) (N := some 33) (v := ?_) (a' := ?_) #[true, true, true, true, true, true, true, false, false, false, false, false, false, false, false, false, false, false, false, false, false, false, false, false, false, false, false, false, false, false, false, false, false, false] rfl rfl (by kernel_rfl) (fun _ _ _ h => h) (Or.inl ⟨by rfl, ?_⟩) hHeld ?_ ?_
        rotate_left
        · rintro w' ⟨s0, s1, s2⟩
          go_simp
          with_reducible rfl
        rotate_left
        · simp only [Act.put, List.setIfInBounds_toArray, List.set_cons_zero, List.set_cons_succ, i64_w, i32_w]
          rfl
        refine take_ (i := 7) (N := some 37) (v := ?_) (a' := ?_) #[true, true, true, true, true, true, true, true, false, false, false, false, false, false, false, false, false, false, false, false, false, false, false, false, false, false, false, false, false, false, false, false, false, false] rfl rfl (by kernel_rfl) (fun _ _ _ h => h) (Or.inl ⟨by rfl, ?_⟩) hHeld ?_ ?_
        rotate_left
        · rintro w' ⟨s0, s1, s2⟩
          go_simp
          with_reducible rfl
        rotate_left
        · simp only [Act.put, List.setIfInBounds_toArray, List.set_cons_zero, List.set_cons_succ, i64_w, i32_w]
          rfl
        refine pure_ (i := 8) (N := some 38) (v := ?_) (a' := ?_) #[true, true, true, true, true, true, true, true, true, false, false, false, false, false, false, false, false, false, false, false, false, false, false, false, false, false, false, false, false, false, false, false, false, false] rfl rfl (by kernel_rfl) (fun _ _ _ h => h) (Or.inl ⟨by rfl, ?_⟩) ?_ ?_
        rotate_left
        · intro w'
          go_simp
          with_reducible rfl
        rotate_left
        · simp only [Act.put, List.setIfInBounds_toArray, List.set_cons_zero, List.set_cons_succ, i64_w, i32_w]
          rfl
        refine pure_ (i := 9) (N := some 39) (v := ?_) (a' := ?_) #[true, true, true, true, true, true, true, true, true, true, false, false, false, false, false, false, false, false, false, false, false, false, false, false, false, false, false, false, false, false, false, false, false, false] rfl rfl (by kernel_rfl) (fun _ _ _ h => h) (Or.inl ⟨by rfl, ?_⟩) ?_ ?_
        rotate_left
        · intro w'
          go_simp
          with_reducible rfl
        rotate_left
        · simp only [Act.put, List.setIfInBounds_toArray, List.set_cons_zero, List.set_cons_succ, i64_w, i32_w]
          rfl
        refine pure_ (i := 10) (N := some 40) (v := ?_) (a' := ?_) #[true, true, true, true, true, true, true, true, true, true, true, false, false, false, false, false, false, false, false, false, false, false, false, false, false, false, false, false, false, false, false, false, false, false] rfl rfl (by kernel_rfl) (fun _ _ _ h => h) (Or.inl ⟨by rfl, ?_⟩) ?_ ?_
        rotate_left
        · intro w'
          go_simp
          with_reducible rfl
        rotate_left
        · simp only [Act.put, List.setIfInBounds_toArray, List.set_cons_zero, List.set_cons_succ, i64_w, i32_w]
          rfl
        refine pure_ (i := 11) (N := some 41) (v := ?_) (a' := ?_) #[true, true, true, true, true, true, true, true, true, true, true, true, false, false, false, false, false, false, false, false, false, false, false, false, false, false, false, false, false, false, false, false, false, false] rfl rfl (by kernel_rfl) (fun _ _ _ h => h) (Or.inl ⟨by rfl, ?_⟩) ?_ ?_
        rotate_left
        · intro w'
          go_simp
          with_reducible rfl
        rotate_left
        · simp only [Act.put, List.setIfInBounds_toArray, List.set_cons_zero, List.set_cons_succ, i64_w, i32_w]
          rfl
        refine pure_ (i := 12) (N := some 42) (v := ?_) (a' := ?_) #[true, true, true, true, true, true, true, true, true, true, true, true, true, false, false, false, false, false, false, false, false, false, false, false, false, false, false, false, false, false, false, false, false, false] rfl rfl (by kernel_rfl) (fun _ _ _ h => h) (Or.inl ⟨by rfl, ?_⟩) ?_ ?_
        rotate_left
        · intro w'
          go_simp
          with_reducible rfl
        rotate_left
        · simp only [Act.put, List.setIfInBounds_toArray, List.set_cons_zero, List.set_cons_succ, i64_w, i32_w]
          rfl
        refine pure_ (i := 13) (N := some 43) (v := ?_) (a' := ?_) #[true, true, true, true, true, true, true, true, true, true, true, true, true, true, false, false, false, false, false, false, false, false, false, false, false, false, false, false, false, false, false, false, false, false] rfl rfl (by kernel_rfl) (fun _ _ _ h => h) (Or.inl ⟨by rfl, ?_⟩) ?_ ?_
        rotate_left
        · intro w'
          go_simp
          with_reducible rfl
        rotate_left
        · simp only [Act.put, List.setIfInBounds_toArray, List.set_cons_zero, List.set_cons_succ, i64_w, i32_w]
          rfl
        refine pure_ (i := 15) (N := some 45) (v := ?_) (a' := ?_) #[true, true, true, true, true, true, true, true, true, true, true, true, true, true, false, true, false, false, false, false, false, false, false, false, false, false, false, false, false, false, false, false, false, false] rfl rfl (by kernel_rfl) (fun _ _ _ h => h) (Or.inl ⟨by rfl, ?_⟩) ?_ ?_
        rotate_left
        · intro w'
          go_simp
          with_reducible rfl
        rotate_left
        · simp only [Act.put, List.setIfInBounds_toArray, List.set_cons_zero, List.set_cons_succ, i64_w, i32_w]
          rfl
        refine pure_ (i := 16) (N := some 46) (v := ?_) (a' := ?_) #[true, true, true, true, true, true, true, true, true, true, true, true, true, true, false, true, true, false, false, false, false, false, false, false, false, false, false, false, false, false, false, false, false, false] rfl rfl (by kernel_rfl) (fun _ _ _ h => h) (Or.inl ⟨by rfl, ?_⟩) ?_ ?_
        rotate_left
        · intro w'
          go_simp
          with_reducible rfl
        rotate_left
        · simp only [Act.put, List.setIfInBounds_toArray, List.set_cons_zero, List.set_cons_succ, i64_w, i32_w]
          rfl
        refine pure_ (i := 17) (N := some 47) (v := ?_) (a' := ?_) #[true, true, true, true, true, true, true, true, true, true, true, true, true, true, false, true, true, true, false, false, false, false, false, false, false, false, false, false, false, false, false, false, false, false] rfl rfl (by kernel_rfl) (fun _ _ _ h => h) (Or.inl ⟨by rfl, ?_⟩) ?_ ?_
        rotate_left
        · intro w'
          go_simp
          with_reducible rfl
        rotate_left
        · simp only [Act.put, List.setIfInBounds_toArray, List.set_cons_zero, List.set_cons_succ, i64_w, i32_w]
          rfl
        refine take_ (i := 14) (N := some 44) (v := ?_) (a' := ?_) #[true, true, true, true, true, true, true, true, true, true, true, true, true, true, true, true, true, true, false, false, false, false, false, false, false, false, false, false, false, false, false, false, false, false] rfl rfl (by kernel_rfl) (fun _ _ _ h => h) (Or.inl ⟨by rfl, ?_⟩) hHeld ?_ ?_
        rotate_left
        · rintro w' ⟨s0, s1, s2⟩
          go_simp
          with_reducible rfl
        rotate_left
        · simp only [Act.put, List.setIfInBounds_toArray, List.set_cons_zero, List.set_cons_succ, i64_w, i32_w]
          rfl
        refine take_ (i := 18) (N := some 48) (v := ?_) (a' := ?_) #[true, true, true, true, true, true, true, true, true, true, true, true, true, true, true, true, true, true, true, false, false, false, false, false, false, false, false, false, false, false, false, false, false, false] rfl rfl (by kernel_rfl) (fun _ _ _ h => h) (Or.inl ⟨by rfl, ?_⟩) hHeld ?_ ?_
        rotate_left
        · rintro w' ⟨s0, s1, s2⟩
          go_simp
          with_reducible rfl
        rotate_left
        · simp only [Act.put, List.setIfInBounds_toArray, List.set_cons_zero, List.set_cons_succ, i64_w, i32_w]
          rfl
        refine take_ (i := 19) (N := some 49) (v := ?_) (a' := ?_) #[true, true, true, true, true, true, true, true, true, true, true, true, true, true, true, true, true, true, true, true, false, false, false, false, false, false, false, false, false, false, false, false, false, false] rfl rfl (by kernel_rfl) (fun _ _ _ h => h) (Or.inl ⟨by rfl, ?_⟩) hHeld ?_ ?_
        rotate_left
        · rintro w' ⟨s0, s1, s2⟩
          go_simp
          with_reducible rfl
        rotate_left
        · simp only [Act.put, List.setIfInBounds_toArray, List.set_cons_zero, List.set_cons_succ, i64_w, i32_w]
          rfl
        refine one_ (i := 20) (N := some 50) #[true, true, true, true, true, true, true, true, true, true, true, true, true, true, true, true, true, true, true, true, true, false, false, false, false, false, false, false, false, false, false, false, false, false] rfl rfl (by kernel_rfl) (by decide) (fun K hK => ?_)
        refine goes_ Try.func87 (by kernel_rfl) rfl #[.int .u8 ((t[k]'he).toNat : Int)] (by rfl) rfl rfl (by simp only [List.map_toArray, List.map_cons, List.map_nil]; rfl) ?_
        with_reducible refine (isLetter_ok _ _).mono ?_
        rintro e w3 ⟨rfl, rfl⟩
        refine ⟨_, rfl, ?_⟩
        refine hK.out _ _ ⟨hHeld.1, hHeld.2.1, hHeld.2.2⟩ (fun hHeld => ?_)
        clear hK K
        refine norm_ (a' := ?_) ?_ ?_
        rotate_left
        · show Act.put _ (some 50) _ = _
          simp only [Act.put, List.setIfInBounds_toArray, List.set_cons_zero, List.set_cons_succ, i64_w, i32_w]
          rfl
        refine pure_ (i := 21) (N := some 51) (v := ?_) (a' := ?_) #[true, true, true, true, true, true, true, true, true, true, true, true, true, true, true, true, true, true, true, true, true, true, false, false, false, false, false, false, false, false, false, false, false, false] rfl rfl (by kernel_rfl) (fun _ _ _ h => h) (Or.inl ⟨by rfl, ?_⟩) ?_ ?_
        rotate_left
        · intro w'
          go_simp
          with_reducible rfl
        rotate_left
        · simp only [Act.put, List.setIfInBounds_toArray, List.set_cons_zero, List.set_cons_succ, i64_w, i32_w]
          rfl
        refine pure_ (i := 22) (N := some 52) (v := ?_) (a' := ?_) #[true, true, true, true, true, true, true, true, true, true, true, true, true, true, true, true, true, true, true, true, true, true, true, false, false, false, false, false, false, false, false, false, false, false] rfl rfl (by kernel_rfl) (fun _ _ _ h => h) (Or.inl ⟨by rfl, ?_⟩) ?_ ?_
        rotate_left
        · intro w'
          go_simp
          with_reducible rfl
        rotate_left
        · simp only [Act.put, List.setIfInBounds_toArray, List.set_cons_zero, List.set_cons_succ, i64_w, i32_w]
          rfl
        refine pure_ (i := 23) (N := some 53) (v := ?_) (a' := ?_) #[true, true, true, true, true, true, true, true, true, true, true, true, true, true, true, true, true, true, true, true, true, true, true, true, false, false, false, false, false, false, false, false, false, false] rfl rfl (by kernel_rfl) (fun _ _ _ h => h) (Or.inl ⟨by rfl, ?_⟩) ?_ ?_
        rotate_left
        · intro w'
          go_simp
          with_reducible rfl
        rotate_left
        · simp only [Act.put, List.setIfInBounds_toArray, List.set_cons_zero, List.set_cons_succ, i64_w, i32_w]
          rfl
        refine pure_ (i := 24) (N := some 54) (v := ?_) (a' := ?_) #[true, true, true, true, true, true, true, true, true, true, true, true, true, true, true, true, true, true, true, true, true, true, true, true, true, false, false, false, false, false, false, false, false, false] rfl rfl (by kernel_rfl) (fun _ _ _ h => h) (Or.inl ⟨by rfl, ?_⟩) ?_ ?_
        rotate_left
        · intro w'
          go_simp
          with_reducible rfl
        rotate_left
        · simp only [Act.put, List.setIfInBounds_toArray, List.set_cons_zero, List.set_cons_succ, i64_w, i32_w]
          rfl
        refine pure_ (i := 26) (N := some 56) (v := ?_) (a' := ?_) #[true, true, true, true, true, true, true, true, true, true, true, true, true, true, true, true, true, true, true, true, true, true, true, true, true, false, true, false, false, false, false, false, false, false] rfl rfl (by kernel_rfl) (fun _ _ _ h => h) (Or.inl ⟨by rfl, ?_⟩) ?_ ?_
        rotate_left
        · intro w'
          go_simp
          with_reducible rfl
        rotate_left
        · simp only [Act.put, List.setIfInBounds_toArray, List.set_cons_zero, List.set_cons_succ, i64_w, i32_w]
          rfl
        refine pure_ (i := 27) (N := some 57) (v := ?_) (a' := ?_) #[true, true, true, true, true, true, true, true, true, true, true, true, true, true, true, true, true, true, true, true, true, true, true, true, true, false, true, true, false, false, false, false, false, false] rfl rfl (by kernel_rfl) (fun _ _ _ h => h) (Or.inl ⟨by rfl, ?_⟩) ?_ ?_
        rotate_left
        · intro w'
          go_simp
          with_reducible rfl
        rotate_left
        · simp only [Act.put, List.setIfInBounds_toArray, List.set_cons_zero, List.set_cons_succ, i64_w, i32_w]
          rfl
        refine pure_ (i := 28) (N := some 58) (v := ?_) (a' := ?_) #[true, true, true, true, true, true, true, true, true, true, true, true, true, true, true, true, true, true, true, true, true, true, true, true, true, false, true, true, true, false, false, false, false, false] rfl rfl (by kernel_rfl) (fun _ _ _ h => h) (Or.inl ⟨by rfl, ?_⟩) ?_ ?_
        rotate_left
        · intro w'
          go_simp
          with_reducible rfl
        rotate_left
        · simp only [Act.put, List.setIfInBounds_toArray, List.set_cons_zero, List.set_cons_succ, i64_w, i32_w]
          rfl
        refine take_ (i := 25) (N := some 55) (v := ?_) (a' := ?_) #[true, true, true, true, true, true, true, true, true, true, true, true, true, true, true, true, true, true, true, true, true, true, true, true, true, true, true, true, true, false, false, false, false, false] rfl rfl (by kernel_rfl) (fun _ _ _ h => h) (Or.inl ⟨by rfl, ?_⟩) hHeld ?_ ?_
        rotate_left
        · rintro w' ⟨s0, s1, s2⟩
          go_simp
          with_reducible rfl
        rotate_left
        · simp only [Act.put, List.setIfInBounds_toArray, List.set_cons_zero, List.set_cons_succ, i64_w, i32_w]
          rfl
        refine take_ (i := 29) (N := some 59) (v := ?_) (a' := ?_) #[true, true, true, true, true, true, true, true, true, true, true, true, true, true, true, true, true, true, true, true, true, true, true, true, true, true, true, true, true, true, false, false, false, false] rfl rfl (by kernel_rfl) (fun _ _ _ h => h) (Or.inl ⟨by rfl, ?_⟩) hHeld ?_ ?_
        rotate_left
        · rintro w' ⟨s0, s1, s2⟩
          go_simp
          with_reducible rfl
        rotate_left
        · simp only [Act.put, List.setIfInBounds_toArray, List.set_cons_zero, List.set_cons_succ, i64_w, i32_w]
          rfl
        refine take_ (i := 30) (N := some 60) (v := ?_) (a' := ?_) #[true, true, true, true, true, true, true, true, true, true, true, true, true, true, true, true, true, true, true, true, true, true, true, true, true, true, true, true, true, true, true, false, false, false] rfl rfl (by kernel_rfl) (fun _ _ _ h => h) (Or.inl ⟨by rfl, ?_⟩) hHeld ?_ ?_
        rotate_left
        · rintro w' ⟨s0, s1, s2⟩
          go_simp
          with_reducible rfl
        rotate_left
        · simp only [Act.put, List.setIfInBounds_toArray, List.set_cons_zero, List.set_cons_succ, i64_w, i32_w]
          rfl
        refine one_ (i := 31) (N := some 61) #[true, true, true, true, true, true, true, true, true, true, true, true, true, true, true, true, true, true, true, true, true, true, true, true, true, true, true, true, true, true, true, true, false, false] rfl rfl (by kernel_rfl) (by decide) (fun K hK => ?_)
        refine goes_ Try.func88 (by kernel_rfl) rfl #[.int .u8 ((t[k]'he).toNat : Int)] (by rfl) rfl rfl (by simp only [List.map_toArray, List.map_cons, List.map_nil]; rfl) ?_
        with_reducible refine (isDigit_ok _ _).mono ?_
        rintro e w3 ⟨rfl, rfl⟩
        refine ⟨_, rfl, ?_⟩
        refine hK.out _ _ ⟨hHeld.1, hHeld.2.1, hHeld.2.2⟩ (fun hHeld => ?_)
        clear hK K
        refine norm_ (a' := ?_) ?_ ?_
        rotate_left
        · show Act.put _ (some 61) _ = _
          simp only [Act.put, List.setIfInBounds_toArray, List.set_cons_zero, List.set_cons_succ, i64_w, i32_w]
          rfl
        refine pure_ (i := 32) (N := some 62) (v := ?_) (a' := ?_) #[true, true, true, true, true, true, true, true, true, true, true, true, true, true, true, true, true, true, true, true, true, true, true, true, true, true, true, true, true, true, true, true, true, false] rfl rfl (by kernel_rfl) (fun _ _ _ h => h) (Or.inl ⟨by rfl, ?_⟩) ?_ ?_
        rotate_left
        · intro w'
          go_simp
          with_reducible rfl
        rotate_left
        · simp only [Act.put, List.setIfInBounds_toArray, List.set_cons_zero, List.set_cons_succ, i64_w, i32_w]
          rfl
        refine pure_ (i := 33) (N := some 63) (v := ?_) (a' := ?_) #[true, true, true, true, true, true, true, true, true, true, true, true, true, true, true, true, true, true, true, true, true, true, true, true, true, true, true, true, true, true, true, true, true, true] rfl rfl (by kernel_rfl) (fun _ _ _ h => h) (Or.inl ⟨by rfl, ?_⟩) ?_ ?_
        rotate_left
        · intro w'
          go_simp
          with_reducible rfl
        rotate_left
        · simp only [Act.put, List.setIfInBounds_toArray, List.set_cons_zero, List.set_cons_succ, i64_w, i32_w]
          rfl
        refine done_ (by kernel_rfl) ?_
        clear c0 c1 f1
        have c0 := hHeld.1
        have c1 := hHeld.2.1
        have HQ2 := hHeld.2.2
        clear hHeld
        generalize hwd : wr.drew = wd at c0 c1 HQ2 ⊢
        clear hwd HQ HAT
        have hkt2 : k ≤ t.size := HD.out.nt
        have hws := HD.out.ws
        go_wp2_with fail
        go_region
        have HQ3 := Aside0.mk HQ2.out.drew
        generalize wd.drew = we at HQ3 ⊢
        clear c0 c1 HQ2 hws hkt2
        obtain ⟨-, -, ⟨ov3, hb3, -⟩, -⟩ := HQ3.out
        have c2 := (kcl hb3 2).trans (show _ = some (.int .i64 line) from rfl)
        clear hb3
        have hok := HD.out.ok
        go_wp2_with (first | (go_at_call 88; refine (isDigit_ok _ _).mono ?_; rintro e w1 ⟨rfl, rfl⟩) | (go_at_call 15; refine (intOk_ok s (by have h1 := HD.out.ws; have h2 := HD.out.hs; rw [← h1, ByteArray.size_extract]; omega) _).mono ?_; rintro e w2 ⟨rfl, hB⟩; replace HQ3 := Aside0.mk (HQ3.out.below hB); replace c2 := B.cell_keep hB c2; clear hB) | (go_at_call 53; refine (put_w w0 b g t k line out _ HQ3.out ho 3 s line).mono ?_; rintro e w4 ⟨rfl, hp⟩; have HQ4 := Aside0.mk hp; clear hp))
        go_end0
        exact ⟨rfl, HQ4.out⟩
end Go.Proofs.Ytdlnhjcdifnnkaa.PR
namespace Go.Proofs.Ytdlnhjcdifnnkaa.PR
set_option linter.unusedVariables false
set_option linter.unusedSimpArgs false
open Go.Proofs.Ytdlnhjcdifnnkaa.B (digB letB intB isLetter_ok isDigit_ok intOk_ok)
open Go.RowKit Go.Proofs.YtdlnhjcdifnnkaaW.PrintWords Go.Proofs.YtdlnhjcdifnnkaaW.PrintLast Go.Proofs.YtdlnhjcdifnnkaaW.PrintMore
set_option linter.unusedVariables false
set_option linter.unusedSimpArgs false
theorem dig_not {c : Int} (h : digB c = true) : (c == 32) = false ∧ (c == 10) = false ∧ (c == 35) = false := by
  unfold digB at h
  simp only [Bool.and_eq_true, decide_eq_true_eq] at h
  refine ⟨?_, ?_, ?_⟩ <;> simp <;> omega
def frB (v : Value) : Nat := match v with | .bool true => 1 | _ => 0
set_option maxRecDepth 100000 in
set_option maxHeartbeats 8000000 in
theorem run_w (w0 : World) (b g : Nat) (t s : ByteArray) (n : Nat) (hD : Dt t s n) (hend : n = t.size ∨ t.size = n + 1) (w : World) (h : Lq w0 b g t 0 1 [] w) :
    Calls Try.prog 31 #[.pointer (some ⟨b, 0, none⟩)] w fun e w' => e = .returned (.tuple #[]) ∧ ∃ at_ line : Int, Lq w0 b g t at_ line [(3, s, 1), (6, ⟨#[]⟩, 1)] w' := by
  have HQ := Aside0.mk h
  have HD := Aside0.mk hD
  have HE := Aside0.mk hend
  have hn1 := hD.n1
  have hnt := hD.nt
  have hts := hD.hs
  have ht0 : 0 < t.size := by omega
  obtain ⟨q1, q2⟩ := hD.dg 0 ht0 (by omega)
  clear h hend hD
  go_enter Try.func31, Try.ntmps31
  go_wp2_with fail
  go_loopw [2] (fun u2 wr => (u2 = .bool true ∧ Aside0 (Lq w0 b g t 0 1 [] wr)) ∨ (u2 = .bool false ∧ Aside0 (Lq w0 b g t 0 1 [] wr)) ∨ (u2 = .bool false ∧ Aside0 (Lq w0 b g t n 1 [(3, s, 1)] wr)) ∨ (t.size = n + 1 ∧ u2 = .bool true ∧ Aside0 (Lq w0 b g t (n + 1) 2 [(3, s, 1), (6, ⟨#[]⟩, 1)] wr))) (fun u2 wr => 2 * (t.size + 1 - atOf b wr) + frB u2)
  case atStart => exact .inl ⟨rfl, HQ⟩
  case round =>
    clear HQ
    rcases hrel with ⟨rfl, HQ⟩ | ⟨rfl, HQ⟩ | ⟨rfl, HQ⟩ | ⟨hen, rfl, HQ⟩
    · have HAT := Aside0.mk HQ.out.atOf
      have d1 : decide (0 < t.size) = true := by simpa using ht0
      have d2 : ((0 : Int) == (t.size : Int)) = false := by simp; omega
      obtain ⟨n1, n2, n3⟩ := dig_not q1
      go_wp2_with fail
      obtain ⟨-, hbb, ⟨ov, hb, -⟩, -⟩ := HQ.out
      have c0 := (kcl hb 0).trans (show _ = some (.string t) from rfl)
      have c1 := (kcl hb 1).trans (show _ = some (.int .i64 0) from rfl)
      have c2 := (kcl hb 2).trans (show _ = some (.int .i64 1) from rfl)
      have c3 := (kcl hb 3).trans (show _ = some (.slice (some ⟨g, 0, none⟩) 1 1) from rfl)
      have c4 := (kcl hb 4).trans (show _ = some (.slice none 0 0) from rfl)
      have f1 := kfz hb 1
      have f2 := kfz hb 2
      clear hb
      refine start_ (n := 14) (S := fun w' => w'.cell? ⟨b, 0, none⟩ = some (.string t) ∧ w'.cell? ⟨b, 1, none⟩ = some (.int .i64 0) ∧ Aside0 (Lq w0 b g t 0 1 [] w')) (ds := []) #[false, false, false, false, false, false, false, false, false, false, false, false, false, false] (by kernel_rfl) rfl rfl ⟨c0, c1, ⟨HQ.out.drew⟩⟩ (fun hHeld => ?_)
      refine pure_ (i := 0) (N := some 5) (v := ?_) (a' := ?_) #[true, false, false, false, false, false, false, false, false, false, false, false, false, false] rfl rfl (by kernel_rfl) (fun _ _ _ h => h) (Or.inl ⟨by rfl, ?_⟩) ?_ ?_
      rotate_left
      · intro w'
        go_simp
        with_reducible rfl
      rotate_left
      · simp only [Act.put, List.setIfInBounds_toArray, List.set_cons_zero, List.set_cons_succ, i64_w, i32_w]
        rfl
      refine pure_ (i := 1) (N := some 6) (v := ?_) (a' := ?_) #[true, true, false, false, false, false, false, false, false, false, false, false, false, false] rfl rfl (by kernel_rfl) (fun _ _ _ h => h) (Or.inl ⟨by rfl, ?_⟩) ?_ ?_
      rotate_left
      · intro w'
        go_simp
        with_reducible rfl
      rotate_left
      · simp only [Act.put, List.setIfInBounds_toArray, List.set_cons_zero, List.set_cons_succ, i64_w, i32_w]
        rfl
      refine pure_ (i := 2) (N := some 7) (v := ?_) (a' := ?_) #[true, true, true, false, false, false, false, false, false, false, false, false, false, false] rfl rfl (by kernel_rfl) (fun _ _ _ h => h) (Or.inl ⟨by rfl, ?_⟩) ?_ ?_
      rotate_left
      · intro w'
        go_simp
        with_reducible rfl
      rotate_left
      · simp only [Act.put, List.setIfInBounds_toArray, List.set_cons_zero, List.set_cons_succ, i64_w, i32_w]
        rfl
      refine pure_ (i := 4) (N := some 9) (v := ?_) (a' := ?_) #[true, true, true, false, true, false, false, false, false, false, false, false, false, false] rfl rfl (by kernel_rfl) (fun _ _ _ h => h) (Or.inl ⟨by rfl, ?_⟩) ?_ ?_
      rotate_left
      · intro w'
        go_simp
        with_reducible rfl
      rotate_left
      · simp only [Act.put, List.setIfInBounds_toArray, List.set_cons_zero, List.set_cons_succ, i64_w, i32_w]
        rfl
      refine pure_ (i := 5) (N := some 10) (v := ?_) (a' := ?_) #[true, true, true, false, true, true, false, false, false, false, false, false, false, false] rfl rfl (by kernel_rfl) (fun _ _ _ h => h) (Or.inl ⟨by rfl, ?_⟩) ?_ ?_
      rotate_left
      · intro w'
        go_simp
        with_reducible rfl
      rotate_left
      · simp only [Act.put, List.setIfInBounds_toArray, List.set_cons_zero, List.set_cons_succ, i64_w, i32_w]
        rfl
      refine pure_ (i := 6) (N := some 11) (v := ?_) (a' := ?_) #[true, true, true, false, true, true, true, false, false, false, false, false, false, false] rfl rfl (by kernel_rfl) (fun _ _ _ h => h) (Or.inl ⟨by rfl, ?_⟩) ?_ ?_
      rotate_left
      · intro w'
        go_simp
        with_reducible rfl
      rotate_left
      · simp only [Act.put, List.setIfInBounds_toArray, List.set_cons_zero, List.set_cons_succ, i64_w, i32_w]
        rfl
      refine take_ (i := 3) (N := some 8) (v := ?_) (a' := ?_) #[true, true, true, true, true, true, true, false, false, false, false, false, false, false] rfl rfl (by kernel_rfl) (fun _ _ _ h => h) (Or.inl ⟨by rfl, ?_⟩) hHeld ?_ ?_
      rotate_left
      · rintro w' ⟨s0, s1, s2⟩
        go_simp
        with_reducible rfl
      rotate_left
      · simp only [Act.put, List.setIfInBounds_toArray, List.set_cons_zero, List.set_cons_succ, i64_w, i32_w]
        rfl
      refine take_ (i := 7) (N := some 12) (v := ?_) (a' := ?_) #[true, true, true, true, true, true, true, true, false, false, false, false, false, false] rfl rfl (by kernel_rfl) (fun _ _ _ h => h) (Or.inl ⟨by rfl, ?_⟩) hHeld ?_ ?_
      rotate_left
      · rintro w' ⟨s0, s1, s2⟩
        go_simp
        with_reducible rfl
      rotate_left
      · simp only [Act.put, List.setIfInBounds_toArray, List.set_cons_zero, List.set_cons_succ, i64_w, i32_w]
        rfl
      refine pure_ (i := 8) (N := some 13) (v := ?_) (a' := ?_) #[true, true, true, true, true, true, true, true, true, false, false, false, false, false] rfl rfl (by kernel_rfl) (fun _ _ _ h => h) (Or.inl ⟨by rfl, ?_⟩) ?_ ?_
      rotate_left
      · intro w'
        go_simp
        with_reducible rfl
      rotate_left
      · simp only [Act.put, List.setIfInBounds_toArray, List.set_cons_zero, List.set_cons_succ, i64_w, i32_w]
        rfl
      refine pure_ (i := 9) (N := some 14) (v := ?_) (a' := ?_) #[true, true, true, true, true, true, true, true, true, true, false, false, false, false] rfl rfl (by kernel_rfl) (fun _ _ _ h => h) (Or.inl ⟨by rfl, ?_⟩) ?_ ?_
      rotate_left
      · intro w'
        go_simp
        with_reducible rfl
      rotate_left
      · simp only [Act.put, List.setIfInBounds_toArray, List.set_cons_zero, List.set_cons_succ, i64_w, i32_w]
        rfl
      refine pure_ (i := 10) (N := some 15) (v := ?_) (a' := ?_) #[true, true, true, true, true, true, true, true, true, true, true, false, false, false] rfl rfl (by kernel_rfl) (fun _ _ _ h => h) (Or.inl ⟨by rfl, ?_⟩) ?_ ?_
      rotate_left
      · intro w'
        go_simp
        with_reducible rfl
      rotate_left
      · simp only [Act.put, List.setIfInBounds_toArray, List.set_cons_zero, List.set_cons_succ, i64_w, i32_w]
        rfl
      refine pure_ (i := 11) (N := some 16) (v := ?_) (a' := ?_) #[true, true, true, true, true, true, true, true, true, true, true, true, false, false] rfl rfl (by kernel_rfl) (fun _ _ _ h => h) (Or.inl ⟨by rfl, ?_⟩) ?_ ?_
      rotate_left
      · intro w'
        go_simp
        with_reducible rfl
      rotate_left
      · simp only [Act.put, List.setIfInBounds_toArray, List.set_cons_zero, List.set_cons_succ, i64_w, i32_w]
        rfl
      refine one_ (i := 12) (N := some 17) #[true, true, true, true, true, true, true, true, true, true, true, true, true, false] rfl rfl (by kernel_rfl) (by decide) (fun K hK => ?_)
      refine goes_ Try.func32 (by kernel_rfl) rfl #[.pointer (some ⟨b, 0, none⟩)] (by rfl) rfl rfl (by simp only [List.map_toArray, List.map_cons, List.map_nil]; rfl) ?_
      with_reducible refine (fine_w w0 b g t 0 1 [] _ hHeld.2.2.out).mono ?_
      rintro e w3 ⟨rfl, rfl⟩
      refine ⟨_, rfl, ?_⟩
      refine hK.out _ _ ⟨hHeld.1, hHeld.2.1, hHeld.2.2⟩ (fun hHeld => ?_)
      clear hK K
      refine norm_ (a' := ?_) ?_ ?_
      rotate_left
      · show Act.put _ (some 17) _ = _
        simp only [Act.put, List.setIfInBounds_toArray, List.set_cons_zero, List.set_cons_succ, i64_w, i32_w]
        rfl
      refine pure_ (i := 13) (N := some 18) (v := ?_) (a' := ?_) #[true, true, true, true, true, true, true, true, true, true, true, true, true, true] rfl rfl (by kernel_rfl) (fun _ _ _ h => h) (Or.inl ⟨by rfl, ?_⟩) ?_ ?_
      rotate_left
      · intro w'
        go_simp
        with_reducible rfl
      rotate_left
      · simp only [Act.put, List.setIfInBounds_toArray, List.set_cons_zero, List.set_cons_succ, i64_w, i32_w]
        rfl
      refine done_ (by kernel_rfl) ?_
      clear c0 c1 c2 c3 c4 f1 f2 hbb
      clear HQ
      have HQ := hHeld.2.2
      clear hHeld
      generalize wr.drew = wa at HQ ⊢

      obtain ⟨-, hbb, ⟨ov, hb, -⟩, -⟩ := HQ.out
      have c0 := (kcl hb 0).trans (show _ = some (.string t) from rfl)
      have c1 := (kcl hb 1).trans (show _ = some (.int .i64 0) from rfl)
      have c2 := (kcl hb 2).trans (show _ = some (.int .i64 1) from rfl)
      have c3 := (kcl hb 3).trans (show _ = some (.slice (some ⟨g, 0, none⟩) 1 1) from rfl)
      have c4 := (kcl hb 4).trans (show _ = some (.slice none 0 0) from rfl)
      have f1 := kfz hb 1
      have f2 := kfz hb 2
      clear hb

      go_wp2_with fail
      clear c0 c1 c2 c3 c4 f1 f2 hbb

      go_loopw [3] (fun u3 wx => u3 = .int .i64 0 ∧ Aside0 (Lq w0 b g t 0 1 [] wx)) (fun _ _ => 0)
      case atStart => exact ⟨rfl, HQ⟩
      case round =>
        clear HQ
        obtain ⟨rfl, HQ⟩ := hrel
        have hw0 : wrap64 0 = 0 := by unfold wrap64; omega
        go_wp2_with fail
        obtain ⟨-, hbb, ⟨ov, hb, -⟩, -⟩ := HQ.out
        have c0 := (kcl hb 0).trans (show _ = some (.string t) from rfl)
        have c1 := (kcl hb 1).trans (show _ = some (.int .i64 0) from rfl)
        have c2 := (kcl hb 2).trans (show _ = some (.int .i64 1) from rfl)
        have c3 := (kcl hb 3).trans (show _ = some (.slice (some ⟨g, 0, none⟩) 1 1) from rfl)
        have c4 := (kcl hb 4).trans (show _ = some (.slice none 0 0) from rfl)
        have f1 := kfz hb 1
        have f2 := kfz hb 2
        clear hb
        refine start_ (n := 26) (S := fun w' => w'.cell? ⟨b, 0, none⟩ = some (.string t) ∧ w'.cell? ⟨b, 1, none⟩ = some (.int .i64 0) ∧ Aside0 (Lq w0 b g t 0 1 [] w')) (ds := []) #[false, false, false, false, false, false, false, false, false, false, false, false, false, false, false, false, false, false, false, false, false, false, false, false, false, false] (by kernel_rfl) rfl rfl ⟨c0, c1, ⟨HQ.out.drew⟩⟩ (fun hHeld => ?_)
        refine pure_ (i := 0) (N := some 28) (v := ?_) (a' := ?_) #[true, false, false, false, false, false, false, false, false, false, false, false, false, false, false, false, false, false, false, false, false, false, false, false, false, false] rfl rfl (by kernel_rfl) (fun _ _ _ h => h) (Or.inl ⟨by rfl, ?_⟩) ?_ ?_
        rotate_left
        · intro w'
          go_simp
          with_reducible rfl
        rotate_left
        · simp only [Act.put, List.setIfInBounds_toArray, List.set_cons_zero, List.set_cons_succ, i64_w, i32_w]
          rfl
        refine pure_ (i := 1) (N := some 29) (v := ?_) (a' := ?_) #[true, true, false, false, false, false, false, false, false, false, false, false, false, false, false, false, false, false, false, false, false, false, false, false, false, false] rfl rfl (by kernel_rfl) (fun _ _ _ h => h) (Or.inl ⟨by rfl, ?_⟩) ?_ ?_
        rotate_left
        · intro w'
          go_simp
          with_reducible rfl
        rotate_left
        · simp only [Act.put, List.setIfInBounds_toArray, List.set_cons_zero, List.set_cons_succ, i64_w, i32_w]
          rfl
        refine pure_ (i := 2) (N := some 30) (v := ?_) (a' := ?_) #[true, true, true, false, false, false, false, false, false, false, false, false, false, false, false, false, false, false, false, false, false, false, false, false, false, false] rfl rfl (by kernel_rfl) (fun _ _ _ h => h) (Or.inl ⟨by rfl, ?_⟩) ?_ ?_
        rotate_left
        · intro w'
          go_simp
          with_reducible rfl
        rotate_left
        · simp only [Act.put, List.setIfInBounds_toArray, List.set_cons_zero, List.set_cons_succ, i64_w, i32_w]
          rfl
        refine pure_ (i := 4) (N := some 32) (v := ?_) (a' := ?_) #[true, true, true, false, true, false, false, false, false, false, false, false, false, false, false, false, false, false, false, false, false, false, false, false, false, false] rfl rfl (by kernel_rfl) (fun _ _ _ h => h) (Or.inl ⟨by rfl, ?_⟩) ?_ ?_
        rotate_left
        · intro w'
          go_simp
          with_reducible rfl
        rotate_left
        · simp only [Act.put, List.setIfInBounds_toArray, List.set_cons_zero, List.set_cons_succ, i64_w, i32_w]
          rfl
        refine pure_ (i := 6) (N := some 34) (v := ?_) (a' := ?_) #[true, true, true, false, true, false, true, false, false, false, false, false, false, false, false, false, false, false, false, false, false, false, false, false, false, false] rfl rfl (by kernel_rfl) (fun _ _ _ h => h) (Or.inl ⟨by rfl, ?_⟩) ?_ ?_
        rotate_left
        · intro w'
          go_simp
          with_reducible rfl
        rotate_left
        · simp only [Act.put, List.setIfInBounds_toArray, List.set_cons_zero, List.set_cons_succ, i64_w, i32_w]
          rfl
        refine pure_ (i := 7) (N := some 35) (v := ?_) (a' := ?_) #[true, true, true, false, true, false, true, true, false, false, false, false, false, false, false, false, false, false, false, false, false, false, false, false, false, false] rfl rfl (by kernel_rfl) (fun _ _ _ h => h) (Or.inl ⟨by rfl, ?_⟩) ?_ ?_
        rotate_left
        · intro w'
          go_simp
          with_reducible rfl
        rotate_left
        · simp only [Act.put, List.setIfInBounds_toArray, List.set_cons_zero, List.set_cons_succ, i64_w, i32_w]
          rfl
        refine pure_ (i := 8) (N := some 36) (v := ?_) (a' := ?_) #[true, true, true, false, true, false, true, true, true, false, false, false, false, false, false, false, false, false, false, false, false, false, false, false, false, false] rfl rfl (by kernel_rfl) (fun _ _ _ h => h) (Or.inl ⟨by rfl, ?_⟩) ?_ ?_
        rotate_left
        · intro w'
          go_simp
          with_reducible rfl
        rotate_left
        · simp only [Act.put, List.setIfInBounds_toArray, List.set_cons_zero, List.set_cons_succ, i64_w, i32_w]
          rfl
        refine take_ (i := 3) (N := some 31) (v := ?_) (a' := ?_) #[true, true, true, true, true, false, true, true, true, false, false, false, false, false, false, false, false, false, false, false, false, false, false, false, false, false] rfl rfl (by kernel_rfl) (fun _ _ _ h => h) (Or.inl ⟨by rfl, ?_⟩) hHeld ?_ ?_
        rotate_left
        · rintro w' ⟨s0, s1, s2⟩
          go_simp
          with_reducible rfl
        rotate_left
        · simp only [Act.put, List.setIfInBounds_toArray, List.set_cons_zero, List.set_cons_succ, i64_w, i32_w]
          rfl
        refine pure_ (i := 5) (N := some 33) (v := ?_) (a' := ?_) #[true, true, true, true, true, true, true, true, true, false, false, false, false, false, false, false, false, false, false, false, false, false, false, false, false, false] rfl rfl (by kernel_rfl) (fun _ _ _ h => h) (Or.inl ⟨by rfl, ?_⟩) ?_ ?_
        rotate_left
        · intro w'
          go_simp
          with_reducible rfl
        rotate_left
        · simp only [Act.put, List.setIfInBounds_toArray, List.set_cons_zero, List.set_cons_succ, i64_w, i32_w]
          rfl
        refine take_ (i := 9) (N := some 37) (v := ?_) (a' := ?_) #[true, true, true, true, true, true, true, true, true, true, false, false, false, false, false, false, false, false, false, false, false, false, false, false, false, false] rfl rfl (by kernel_rfl) (fun _ _ _ h => h) (Or.inl ⟨by rfl, ?_⟩) hHeld ?_ ?_
        rotate_left
        · rintro w' ⟨s0, s1, s2⟩
          go_simp
          with_reducible rfl
        rotate_left
        · simp only [Act.put, List.setIfInBounds_toArray, List.set_cons_zero, List.set_cons_succ, i64_w, i32_w]
          rfl
        refine pure_ (i := 10) (N := some 38) (v := ?_) (a' := ?_) #[true, true, true, true, true, true, true, true, true, true, true, false, false, false, false, false, false, false, false, false, false, false, false, false, false, false] rfl rfl (by kernel_rfl) (fun _ _ _ h => h) (Or.inl ⟨by rfl, ?_⟩) ?_ ?_
        rotate_left
        · intro w'
          go_simp
          with_reducible rfl
        rotate_left
        · simp only [Act.put, List.setIfInBounds_toArray, List.set_cons_zero, List.set_cons_succ, i64_w, i32_w]
          rfl
        refine pure_ (i := 11) (N := some 39) (v := ?_) (a' := ?_) #[true, true, true, true, true, true, true, true, true, true, true, true, false, false, false, false, false, false, false, false, false, false, false, false, false, false] rfl rfl (by kernel_rfl) (fun _ _ _ h => h) (Or.inl ⟨by rfl, ?_⟩) ?_ ?_
        rotate_left
        · intro w'
          go_simp
          with_reducible rfl
        rotate_left
        · simp only [Act.put, List.setIfInBounds_toArray, List.set_cons_zero, List.set_cons_succ, i64_w, i32_w]
          rfl
        refine pure_ (i := 12) (N := some 40) (v := ?_) (a' := ?_) #[true, true, true, true, true, true, true, true, true, true, true, true, true, false, false, false, false, false, false, false, false, false, false, false, false, false] rfl rfl (by kernel_rfl) (fun _ _ _ h => h) (Or.inl ⟨by rfl, ?_⟩) ?_ ?_
        rotate_left
        · intro w'
          go_simp
          with_reducible rfl
        rotate_left
        · simp only [Act.put, List.setIfInBounds_toArray, List.set_cons_zero, List.set_cons_succ, i64_w, i32_w]
          rfl
        refine pure_ (i := 13) (N := some 41) (v := ?_) (a' := ?_) #[true, true, true, true, true, true, true, true, true, true, true, true, true, true, false, false, false, false, false, false, false, false, false, false, false, false] rfl rfl (by kernel_rfl) (fun _ _ _ h => h) (Or.inl ⟨by rfl, ?_⟩) ?_ ?_
        rotate_left
        · intro w'
          go_simp
          with_reducible rfl
        rotate_left
        · simp only [Act.put, List.setIfInBounds_toArray, List.set_cons_zero, List.set_cons_succ, i64_w, i32_w]
          rfl
        refine pure_ (i := 14) (N := some 42) (v := ?_) (a' := ?_) #[true, true, true, true, true, true, true, true, true, true, true, true, true, true, true, false, false, false, false, false, false, false, false, false, false, false] rfl rfl (by kernel_rfl) (fun _ _ _ h => h) (Or.inl ⟨by rfl, ?_⟩) ?_ ?_
        rotate_left
        · intro w'
          go_simp
          with_reducible rfl
        rotate_left
        · simp only [Act.put, List.setIfInBounds_toArray, List.set_cons_zero, List.set_cons_succ, i64_w, i32_w]
          rfl
        refine pure_ (i := 15) (N := some 43) (v := ?_) (a' := ?_) #[true, true, true, true, true, true, true, true, true, true, true, true, true, true, true, true, false, false, false, false, false, false, false, false, false, false] rfl rfl (by kernel_rfl) (fun _ _ _ h => h) (Or.inl ⟨by rfl, ?_⟩) ?_ ?_
        rotate_left
        · intro w'
          go_simp
          with_reducible rfl
        rotate_left
        · simp only [Act.put, List.setIfInBounds_toArray, List.set_cons_zero, List.set_cons_succ, i64_w, i32_w]
          rfl
        refine pure_ (i := 17) (N := some 45) (v := ?_) (a' := ?_) #[true, true, true, true, true, true, true, true, true, true, true, true, true, true, true, true, false, true, false, false, false, false, false, false, false, false] rfl rfl (by kernel_rfl) (fun _ _ _ h => h) (Or.inl ⟨by rfl, ?_⟩) ?_ ?_
        rotate_left
        · intro w'
          go_simp
          with_reducible rfl
        rotate_left
        · simp only [Act.put, List.setIfInBounds_toArray, List.set_cons_zero, List.set_cons_succ, i64_w, i32_w]
          rfl
        refine pure_ (i := 18) (N := some 46) (v := ?_) (a' := ?_) #[true, true, true, true, true, true, true, true, true, true, true, true, true, true, true, true, false, true, true, false, false, false, false, false, false, false] rfl rfl (by kernel_rfl) (fun _ _ _ h => h) (Or.inl ⟨by rfl, ?_⟩) ?_ ?_
        rotate_left
        · intro w'
          go_simp
          with_reducible rfl
        rotate_left
        · simp only [Act.put, List.setIfInBounds_toArray, List.set_cons_zero, List.set_cons_succ, i64_w, i32_w]
          rfl
        refine pure_ (i := 19) (N := some 47) (v := ?_) (a' := ?_) #[true, true, true, true, true, true, true, true, true, true, true, true, true, true, true, true, false, true, true, true, false, false, false, false, false, false] rfl rfl (by kernel_rfl) (fun _ _ _ h => h) (Or.inl ⟨by rfl, ?_⟩) ?_ ?_
        rotate_left
        · intro w'
          go_simp
          with_reducible rfl
        rotate_left
        · simp only [Act.put, List.setIfInBounds_toArray, List.set_cons_zero, List.set_cons_succ, i64_w, i32_w]
          rfl
        refine pure_ (i := 21) (N := some 49) (v := ?_) (a' := ?_) #[true, true, true, true, true, true, true, true, true, true, true, true, true, true, true, true, false, true, true, true, false, true, false, false, false, false] rfl rfl (by kernel_rfl) (fun _ _ _ h => h) (Or.inl ⟨by rfl, ?_⟩) ?_ ?_
        rotate_left
        · intro w'
          go_simp
          with_reducible rfl
        rotate_left
        · simp only [Act.put, List.setIfInBounds_toArray, List.set_cons_zero, List.set_cons_succ, i64_w, i32_w]
          rfl
        refine take_ (i := 16) (N := some 44) (v := ?_) (a' := ?_) #[true, true, true, true, true, true, true, true, true, true, true, true, true, true, true, true, true, true, true, true, false, true, false, false, false, false] rfl rfl (by kernel_rfl) (fun _ _ _ h => h) (Or.inl ⟨by rfl, ?_⟩) hHeld ?_ ?_
        rotate_left
        · rintro w' ⟨s0, s1, s2⟩
          go_simp
          with_reducible rfl
        rotate_left
        · simp only [Act.put, List.setIfInBounds_toArray, List.set_cons_zero, List.set_cons_succ, i64_w, i32_w]
          rfl
        refine take_ (i := 20) (N := some 48) (v := ?_) (a' := ?_) #[true, true, true, true, true, true, true, true, true, true, true, true, true, true, true, true, true, true, true, true, true, true, false, false, false, false] rfl rfl (by kernel_rfl) (fun _ _ _ h => h) (Or.inl ⟨by rfl, ?_⟩) hHeld ?_ ?_
        rotate_left
        · rintro w' ⟨s0, s1, s2⟩
          go_simp
          with_reducible rfl
        rotate_left
        · simp only [Act.put, List.setIfInBounds_toArray, List.set_cons_zero, List.set_cons_succ, i64_w, i32_w]
          rfl
        refine pure_ (i := 22) (N := some 50) (v := ?_) (a' := ?_) #[true, true, true, true, true, true, true, true, true, true, true, true, true, true, true, true, true, true, true, true, true, true, true, false, false, false] rfl rfl (by kernel_rfl) (fun _ _ _ h => h) (Or.inl ⟨by rfl, ?_⟩) ?_ ?_
        rotate_left
        · intro w'
          go_simp
          with_reducible rfl
        rotate_left
        · simp only [Act.put, List.setIfInBounds_toArray, List.set_cons_zero, List.set_cons_succ, i64_w, i32_w]
          rfl
        refine take_ (i := 23) (N := some 51) (v := ?_) (a' := ?_) #[true, true, true, true, true, true, true, true, true, true, true, true, true, true, true, true, true, true, true, true, true, true, true, true, false, false] rfl rfl (by kernel_rfl) (fun _ _ _ h => h) (Or.inl ⟨by rfl, ?_⟩) hHeld ?_ ?_
        rotate_left
        · rintro w' ⟨s0, s1, s2⟩
          go_simp
          with_reducible rfl
        rotate_left
        · simp only [Act.put, List.setIfInBounds_toArray, List.set_cons_zero, List.set_cons_succ, i64_w, i32_w]
          rfl
        refine pure_ (i := 24) (N := some 52) (v := ?_) (a' := ?_) #[true, true, true, true, true, true, true, true, true, true, true, true, true, true, true, true, true, true, true, true, true, true, true, true, true, false] rfl rfl (by kernel_rfl) (fun _ _ _ h => h) (Or.inl ⟨by rfl, ?_⟩) ?_ ?_
        rotate_left
        · intro w'
          go_simp
          with_reducible rfl
        rotate_left
        · simp only [Act.put, List.setIfInBounds_toArray, List.set_cons_zero, List.set_cons_succ, i64_w, i32_w]
          rfl
        refine pure_ (i := 25) (N := some 53) (v := ?_) (a' := ?_) #[true, true, true, true, true, true, true, true, true, true, true, true, true, true, true, true, true, true, true, true, true, true, true, true, true, true] rfl rfl (by kernel_rfl) (fun _ _ _ h => h) (Or.inl ⟨by rfl, ?_⟩) ?_ ?_
        rotate_left
        · intro w'
          go_simp
          with_reducible rfl
        rotate_left
        · simp only [Act.put, List.setIfInBounds_toArray, List.set_cons_zero, List.set_cons_succ, i64_w, i32_w]
          rfl
        refine done_ (by kernel_rfl) ?_
        clear c0 c1 c2 c3 c4 f1 f2 hbb
        clear HQ
        have HQ := hHeld.2.2
        clear hHeld
        generalize wr.drew = wb at HQ ⊢

        obtain ⟨-, hbb, ⟨ov, hb, -⟩, -⟩ := HQ.out
        have c0 := (kcl hb 0).trans (show _ = some (.string t) from rfl)
        have c1 := (kcl hb 1).trans (show _ = some (.int .i64 0) from rfl)
        have c2 := (kcl hb 2).trans (show _ = some (.int .i64 1) from rfl)
        have c3 := (kcl hb 3).trans (show _ = some (.slice (some ⟨g, 0, none⟩) 1 1) from rfl)
        have c4 := (kcl hb 4).trans (show _ = some (.slice none 0 0) from rfl)
        have f1 := kfz hb 1
        have f2 := kfz hb 2
        clear hb

        go_wp2_with fail
        clear c0 c1 c2 c3 c4 f1 f2 hbb
        have HQ9 := Aside0.mk (HQ.out.setAt 0)
        clear HQ
        have HQ := HQ9
        clear HQ9
        generalize wb.setCell ⟨b, 1, none⟩ (.int .i64 0) = wc at HQ ⊢

        obtain ⟨-, hbb, ⟨ov, hb, -⟩, -⟩ := HQ.out
        have c0 := (kcl hb 0).trans (show _ = some (.string t) from rfl)
        have c1 := (kcl hb 1).trans (show _ = some (.int .i64 0) from rfl)
        have c2 := (kcl hb 2).trans (show _ = some (.int .i64 1) from rfl)
        have c3 := (kcl hb 3).trans (show _ = some (.slice (some ⟨g, 0, none⟩) 1 1) from rfl)
        have c4 := (kcl hb 4).trans (show _ = some (.slice none 0 0) from rfl)
        have f1 := kfz hb 1
        have f2 := kfz hb 2
        clear hb
        refine start_ (n := 10) (S := fun w' => w'.cell? ⟨b, 0, none⟩ = some (.string t) ∧ w'.cell? ⟨b, 1, none⟩ = some (.int .i64 0) ∧ Aside0 (Lq w0 b g t 0 1 [] w')) (ds := []) #[false, false, false, false, false, false, false, false, false, false] (by kernel_rfl) rfl rfl ⟨c0, c1, ⟨HQ.out.drew⟩⟩ (fun hHeld => ?_)
        refine pure_ (i := 0) (N := some 64) (v := ?_) (a' := ?_) #[true, false, false, false, false, false, false, false, false, false] rfl rfl (by kernel_rfl) (fun _ _ _ h => h) (Or.inl ⟨by rfl, ?_⟩) ?_ ?_
        rotate_left
        · intro w'
          go_simp
          with_reducible rfl
        rotate_left
        · simp only [Act.put, List.setIfInBounds_toArray, List.set_cons_zero, List.set_cons_succ, i64_w, i32_w]
          rfl
        refine pure_ (i := 1) (N := some 65) (v := ?_) (a' := ?_) #[true, true, false, false, false, false, false, false, false, false] rfl rfl (by kernel_rfl) (fun _ _ _ h => h) (Or.inl ⟨by rfl, ?_⟩) ?_ ?_
        rotate_left
        · intro w'
          go_simp
          with_reducible rfl
        rotate_left
        · simp only [Act.put, List.setIfInBounds_toArray, List.set_cons_zero, List.set_cons_succ, i64_w, i32_w]
          rfl
        refine pure_ (i := 2) (N := some 66) (v := ?_) (a' := ?_) #[true, true, true, false, false, false, false, false, false, false] rfl rfl (by kernel_rfl) (fun _ _ _ h => h) (Or.inl ⟨by rfl, ?_⟩) ?_ ?_
        rotate_left
        · intro w'
          go_simp
          with_reducible rfl
        rotate_left
        · simp only [Act.put, List.setIfInBounds_toArray, List.set_cons_zero, List.set_cons_succ, i64_w, i32_w]
          rfl
        refine pure_ (i := 4) (N := some 68) (v := ?_) (a' := ?_) #[true, true, true, false, true, false, false, false, false, false] rfl rfl (by kernel_rfl) (fun _ _ _ h => h) (Or.inl ⟨by rfl, ?_⟩) ?_ ?_
        rotate_left
        · intro w'
          go_simp
          with_reducible rfl
        rotate_left
        · simp only [Act.put, List.setIfInBounds_toArray, List.set_cons_zero, List.set_cons_succ, i64_w, i32_w]
          rfl
        refine pure_ (i := 5) (N := some 69) (v := ?_) (a' := ?_) #[true, true, true, false, true, true, false, false, false, false] rfl rfl (by kernel_rfl) (fun _ _ _ h => h) (Or.inl ⟨by rfl, ?_⟩) ?_ ?_
        rotate_left
        · intro w'
          go_simp
          with_reducible rfl
        rotate_left
        · simp only [Act.put, List.setIfInBounds_toArray, List.set_cons_zero, List.set_cons_succ, i64_w, i32_w]
          rfl
        refine pure_ (i := 6) (N := some 70) (v := ?_) (a' := ?_) #[true, true, true, false, true, true, true, false, false, false] rfl rfl (by kernel_rfl) (fun _ _ _ h => h) (Or.inl ⟨by rfl, ?_⟩) ?_ ?_
        rotate_left
        · intro w'
          go_simp
          with_reducible rfl
        rotate_left
        · simp only [Act.put, List.setIfInBounds_toArray, List.set_cons_zero, List.set_cons_succ, i64_w, i32_w]
          rfl
        refine take_ (i := 3) (N := some 67) (v := ?_) (a' := ?_) #[true, true, true, true, true, true, true, false, false, false] rfl rfl (by kernel_rfl) (fun _ _ _ h => h) (Or.inl ⟨by rfl, ?_⟩) hHeld ?_ ?_
        rotate_left
        · rintro w' ⟨s0, s1, s2⟩
          go_simp
          with_reducible rfl
        rotate_left
        · simp only [Act.put, List.setIfInBounds_toArray, List.set_cons_zero, List.set_cons_succ, i64_w, i32_w]
          rfl
        refine take_ (i := 7) (N := some 71) (v := ?_) (a' := ?_) #[true, true, true, true, true, true, true, true, false, false] rfl rfl (by kernel_rfl) (fun _ _ _ h => h) (Or.inl ⟨by rfl, ?_⟩) hHeld ?_ ?_
        rotate_left
        · rintro w' ⟨s0, s1, s2⟩
          go_simp
          with_reducible rfl
        rotate_left
        · simp only [Act.put, List.setIfInBounds_toArray, List.set_cons_zero, List.set_cons_succ, i64_w, i32_w]
          rfl
        refine pure_ (i := 8) (N := some 72) (v := ?_) (a' := ?_) #[true, true, true, true, true, true, true, true, true, false] rfl rfl (by kernel_rfl) (fun _ _ _ h => h) (Or.inl ⟨by rfl, ?_⟩) ?_ ?_
        rotate_left
        · intro w'
          go_simp
          with_reducible rfl
        rotate_left
        · simp only [Act.put, List.setIfInBounds_toArray, List.set_cons_zero, List.set_cons_succ, i64_w, i32_w]
          rfl
        refine pure_ (i := 9) (N := some 73) (v := ?_) (a' := ?_) #[true, true, true, true, true, true, true, true, true, true] rfl rfl (by kernel_rfl) (fun _ _ _ h => h) (Or.inl ⟨by rfl, ?_⟩) ?_ ?_
        rotate_left
        · intro w'
          go_simp
          with_reducible rfl
        rotate_left
        · simp only [Act.put, List.setIfInBounds_toArray, List.set_cons_zero, List.set_cons_succ, i64_w, i32_w]
          rfl
        refine done_ (by kernel_rfl) ?_
        clear c0 c1 c2 c3 c4 f1 f2 hbb
        clear HQ
        have HQ := hHeld.2.2
        clear hHeld
        generalize wc.drew = wd at HQ ⊢

        go_wp2_with fail
        obtain ⟨-, hbb, ⟨ov, hb, -⟩, -⟩ := HQ.out
        have c0 := (kcl hb 0).trans (show _ = some (.string t) from rfl)
        have c1 := (kcl hb 1).trans (show _ = some (.int .i64 0) from rfl)
        have c2 := (kcl hb 2).trans (show _ = some (.int .i64 1) from rfl)
        have c3 := (kcl hb 3).trans (show _ = some (.slice (some ⟨g, 0, none⟩) 1 1) from rfl)
        have c4 := (kcl hb 4).trans (show _ = some (.slice none 0 0) from rfl)
        have f1 := kfz hb 1
        have f2 := kfz hb 2
        clear hb
        refine start_ (n := 10) (S := fun w' => w'.cell? ⟨b, 0, none⟩ = some (.string t) ∧ w'.cell? ⟨b, 1, none⟩ = some (.int .i64 0) ∧ Aside0 (Lq w0 b g t 0 1 [] w')) (ds := []) #[false, false, false, false, false, false, false, false, false, false] (by kernel_rfl) rfl rfl ⟨c0, c1, ⟨HQ.out.drew⟩⟩ (fun hHeld => ?_)
        refine pure_ (i := 0) (N := some 74) (v := ?_) (a' := ?_) #[true, false, false, false, false, false, false, false, false, false] rfl rfl (by kernel_rfl) (fun _ _ _ h => h) (Or.inl ⟨by rfl, ?_⟩) ?_ ?_
        rotate_left
        · intro w'
          go_simp
          with_reducible rfl
        rotate_left
        · simp only [Act.put, List.setIfInBounds_toArray, List.set_cons_zero, List.set_cons_succ, i64_w, i32_w]
          rfl
        refine pure_ (i := 1) (N := some 75) (v := ?_) (a' := ?_) #[true, true, false, false, false, false, false, false, false, false] rfl rfl (by kernel_rfl) (fun _ _ _ h => h) (Or.inl ⟨by rfl, ?_⟩) ?_ ?_
        rotate_left
        · intro w'
          go_simp
          with_reducible rfl
        rotate_left
        · simp only [Act.put, List.setIfInBounds_toArray, List.set_cons_zero, List.set_cons_succ, i64_w, i32_w]
          rfl
        refine pure_ (i := 2) (N := some 76) (v := ?_) (a' := ?_) #[true, true, true, false, false, false, false, false, false, false] rfl rfl (by kernel_rfl) (fun _ _ _ h => h) (Or.inl ⟨by rfl, ?_⟩) ?_ ?_
        rotate_left
        · intro w'
          go_simp
          with_reducible rfl
        rotate_left
        · simp only [Act.put, List.setIfInBounds_toArray, List.set_cons_zero, List.set_cons_succ, i64_w, i32_w]
          rfl
        refine pure_ (i := 4) (N := some 78) (v := ?_) (a' := ?_) #[true, true, true, false, true, false, false, false, false, false] rfl rfl (by kernel_rfl) (fun _ _ _ h => h) (Or.inl ⟨by rfl, ?_⟩) ?_ ?_
        rotate_left
        · intro w'
          go_simp
          with_reducible rfl
        rotate_left
        · simp only [Act.put, List.setIfInBounds_toArray, List.set_cons_zero, List.set_cons_succ, i64_w, i32_w]
          rfl
        refine pure_ (i := 5) (N := some 79) (v := ?_) (a' := ?_) #[true, true, true, false, true, true, false, false, false, false] rfl rfl (by kernel_rfl) (fun _ _ _ h => h) (Or.inl ⟨by rfl, ?_⟩) ?_ ?_
        rotate_left
        · intro w'
          go_simp
          with_reducible rfl
        rotate_left
        · simp only [Act.put, List.setIfInBounds_toArray, List.set_cons_zero, List.set_cons_succ, i64_w, i32_w]
          rfl
        refine pure_ (i := 6) (N := some 80) (v := ?_) (a' := ?_) #[true, true, true, false, true, true, true, false, false, false] rfl rfl (by kernel_rfl) (fun _ _ _ h => h) (Or.inl ⟨by rfl, ?_⟩) ?_ ?_
        rotate_left
        · intro w'
          go_simp
          with_reducible rfl
        rotate_left
        · simp only [Act.put, List.setIfInBounds_toArray, List.set_cons_zero, List.set_cons_succ, i64_w, i32_w]
          rfl
        refine take_ (i := 3) (N := some 77) (v := ?_) (a' := ?_) #[true, true, true, true, true, true, true, false, false, false] rfl rfl (by kernel_rfl) (fun _ _ _ h => h) (Or.inl ⟨by rfl, ?_⟩) hHeld ?_ ?_
        rotate_left
        · rintro w' ⟨s0, s1, s2⟩
          go_simp
          with_reducible rfl
        rotate_left
        · simp only [Act.put, List.setIfInBounds_toArray, List.set_cons_zero, List.set_cons_succ, i64_w, i32_w]
          rfl
        refine take_ (i := 7) (N := some 81) (v := ?_) (a' := ?_) #[true, true, true, true, true, true, true, true, false, false] rfl rfl (by kernel_rfl) (fun _ _ _ h => h) (Or.inl ⟨by rfl, ?_⟩) hHeld ?_ ?_
        rotate_left
        · rintro w' ⟨s0, s1, s2⟩
          go_simp
          with_reducible rfl
        rotate_left
        · simp only [Act.put, List.setIfInBounds_toArray, List.set_cons_zero, List.set_cons_succ, i64_w, i32_w]
          rfl
        refine take_ (i := 8) (N := some 82) (v := ?_) (a' := ?_) #[true, true, true, true, true, true, true, true, true, false] rfl rfl (by kernel_rfl) (fun _ _ _ h => h) (Or.inl ⟨by rfl, ?_⟩) hHeld ?_ ?_
        rotate_left
        · rintro w' ⟨s0, s1, s2⟩
          go_simp
          with_reducible rfl
        rotate_left
        · simp only [Act.put, List.setIfInBounds_toArray, List.set_cons_zero, List.set_cons_succ, i64_w, i32_w]
          rfl
        refine pure_ (i := 9) (N := some 83) (v := ?_) (a' := ?_) #[true, true, true, true, true, true, true, true, true, true] rfl rfl (by kernel_rfl) (fun _ _ _ h => h) (Or.inl ⟨by rfl, ?_⟩) ?_ ?_
        rotate_left
        · intro w'
          go_simp
          with_reducible rfl
        rotate_left
        · simp only [Act.put, List.setIfInBounds_toArray, List.set_cons_zero, List.set_cons_succ, i64_w, i32_w]
          rfl
        refine done_ (by kernel_rfl) ?_
        clear c0 c1 c2 c3 c4 f1 f2 hbb
        clear HQ
        have HQ := hHeld.2.2
        clear hHeld
        generalize wd.drew = we at HQ ⊢

        go_wp2_with fail
        obtain ⟨-, hbb, ⟨ov, hb, -⟩, -⟩ := HQ.out
        have c0 := (kcl hb 0).trans (show _ = some (.string t) from rfl)
        have c1 := (kcl hb 1).trans (show _ = some (.int .i64 0) from rfl)
        have c2 := (kcl hb 2).trans (show _ = some (.int .i64 1) from rfl)
        have c3 := (kcl hb 3).trans (show _ = some (.slice (some ⟨g, 0, none⟩) 1 1) from rfl)
        have c4 := (kcl hb 4).trans (show _ = some (.slice none 0 0) from rfl)
        have f1 := kfz hb 1
        have f2 := kfz hb 2
        clear hb
        refine start_ (n := 10) (S := fun w' => w'.cell? ⟨b, 0, none⟩ = some (.string t) ∧ w'.cell? ⟨b, 1, none⟩ = some (.int .i64 0) ∧ Aside0 (Lq w0 b g t 0 1 [] w')) (ds := []) #[false, false, false, false, false, false, false, false, false, false] (by kernel_rfl) rfl rfl ⟨c0, c1, ⟨HQ.out.drew⟩⟩ (fun hHeld => ?_)
        refine pure_ (i := 0) (N := some 98) (v := ?_) (a' := ?_) #[true, false, false, false, false, false, false, false, false, false] rfl rfl (by kernel_rfl) (fun _ _ _ h => h) (Or.inl ⟨by rfl, ?_⟩) ?_ ?_
        rotate_left
        · intro w'
          go_simp
          with_reducible rfl
        rotate_left
        · simp only [Act.put, List.setIfInBounds_toArray, List.set_cons_zero, List.set_cons_succ, i64_w, i32_w]
          rfl
        refine pure_ (i := 1) (N := some 99) (v := ?_) (a' := ?_) #[true, true, false, false, false, false, false, false, false, false] rfl rfl (by kernel_rfl) (fun _ _ _ h => h) (Or.inl ⟨by rfl, ?_⟩) ?_ ?_
        rotate_left
        · intro w'
          go_simp
          with_reducible rfl
        rotate_left
        · simp only [Act.put, List.setIfInBounds_toArray, List.set_cons_zero, List.set_cons_succ, i64_w, i32_w]
          rfl
        refine pure_ (i := 2) (N := some 100) (v := ?_) (a' := ?_) #[true, true, true, false, false, false, false, false, false, false] rfl rfl (by kernel_rfl) (fun _ _ _ h => h) (Or.inl ⟨by rfl, ?_⟩) ?_ ?_
        rotate_left
        · intro w'
          go_simp
          with_reducible rfl
        rotate_left
        · simp only [Act.put, List.setIfInBounds_toArray, List.set_cons_zero, List.set_cons_succ, i64_w, i32_w]
          rfl
        refine pure_ (i := 4) (N := some 102) (v := ?_) (a' := ?_) #[true, true, true, false, true, false, false, false, false, false] rfl rfl (by kernel_rfl) (fun _ _ _ h => h) (Or.inl ⟨by rfl, ?_⟩) ?_ ?_
        rotate_left
        · intro w'
          go_simp
          with_reducible rfl
        rotate_left
        · simp only [Act.put, List.setIfInBounds_toArray, List.set_cons_zero, List.set_cons_succ, i64_w, i32_w]
          rfl
        refine pure_ (i := 5) (N := some 103) (v := ?_) (a' := ?_) #[true, true, true, false, true, true, false, false, false, false] rfl rfl (by kernel_rfl) (fun _ _ _ h => h) (Or.inl ⟨by rfl, ?_⟩) ?_ ?_
        rotate_left
        · intro w'
          go_simp
          with_reducible rfl
        rotate_left
        · simp only [Act.put, List.setIfInBounds_toArray, List.set_cons_zero, List.set_cons_succ, i64_w, i32_w]
          rfl
        refine pure_ (i := 6) (N := some 104) (v := ?_) (a' := ?_) #[true, true, true, false, true, true, true, false, false, false] rfl rfl (by kernel_rfl) (fun _ _ _ h => h) (Or.inl ⟨by rfl, ?_⟩) ?_ ?_
        rotate_left
        · intro w'
          go_simp
          with_reducible rfl
        rotate_left
        · simp only [Act.put, List.setIfInBounds_toArray, List.set_cons_zero, List.set_cons_succ, i64_w, i32_w]
          rfl
        refine take_ (i := 3) (N := some 101) (v := ?_) (a' := ?_) #[true, true, true, true, true, true, true, false, false, false] rfl rfl (by kernel_rfl) (fun _ _ _ h => h) (Or.inl ⟨by rfl, ?_⟩) hHeld ?_ ?_
        rotate_left
        · rintro w' ⟨s0, s1, s2⟩
          go_simp
          with_reducible rfl
        rotate_left
        · simp only [Act.put, List.setIfInBounds_toArray, List.set_cons_zero, List.set_cons_succ, i64_w, i32_w]
          rfl
        refine take_ (i := 7) (N := some 105) (v := ?_) (a' := ?_) #[true, true, true, true, true, true, true, true, false, false] rfl rfl (by kernel_rfl) (fun _ _ _ h => h) (Or.inl ⟨by rfl, ?_⟩) hHeld ?_ ?_
        rotate_left
        · rintro w' ⟨s0, s1, s2⟩
          go_simp
          with_reducible rfl
        rotate_left
        · simp only [Act.put, List.setIfInBounds_toArray, List.set_cons_zero, List.set_cons_succ, i64_w, i32_w]
          rfl
        refine take_ (i := 8) (N := some 106) (v := ?_) (a' := ?_) #[true, true, true, true, true, true, true, true, true, false] rfl rfl (by kernel_rfl) (fun _ _ _ h => h) (Or.inl ⟨by rfl, ?_⟩) hHeld ?_ ?_
        rotate_left
        · rintro w' ⟨s0, s1, s2⟩
          go_simp
          with_reducible rfl
        rotate_left
        · simp only [Act.put, List.setIfInBounds_toArray, List.set_cons_zero, List.set_cons_succ, i64_w, i32_w]
          rfl
        refine pure_ (i := 9) (N := some 107) (v := ?_) (a' := ?_) #[true, true, true, true, true, true, true, true, true, true] rfl rfl (by kernel_rfl) (fun _ _ _ h => h) (Or.inl ⟨by rfl, ?_⟩) ?_ ?_
        rotate_left
        · intro w'
          go_simp
          with_reducible rfl
        rotate_left
        · simp only [Act.put, List.setIfInBounds_toArray, List.set_cons_zero, List.set_cons_succ, i64_w, i32_w]
          rfl
        refine done_ (by kernel_rfl) ?_
        clear c0 c1 c2 c3 c4 f1 f2 hbb
        clear HQ
        have HQ := hHeld.2.2
        clear hHeld
        generalize we.drew = wf at HQ ⊢

        go_wp2_with (first | (go_at_call 52; refine (indent_w w0 b g t 0 1 [] _ HQ.out).mono ?_; rintro e w6 ⟨rfl, hB⟩; replace HQ := Aside0.mk (HQ.out.below hB); clear hB))
        have h9 := HQ.out.atOf
        go_roundw
        case rel => exact .inr (.inl ⟨rfl, HQ⟩)
        case measure =>
          rw [h9, HAT.out]
          simp [frB]
    · have HAT := Aside0.mk HQ.out.atOf
      have d1 : decide (0 < t.size) = true := by simpa using ht0
      obtain ⟨n1, n2, n3⟩ := dig_not q1
      go_wp2_with fail
      obtain ⟨-, hbb, ⟨ov, hb, -⟩, -⟩ := HQ.out
      have c0 := (kcl hb 0).trans (show _ = some (.string t) from rfl)
      have c1 := (kcl hb 1).trans (show _ = some (.int .i64 0) from rfl)
      have c2 := (kcl hb 2).trans (show _ = some (.int .i64 1) from rfl)
      have c3 := (kcl hb 3).trans (show _ = some (.slice (some ⟨g, 0, none⟩) 1 1) from rfl)
      have c4 := (kcl hb 4).trans (show _ = some (.slice none 0 0) from rfl)
      have f1 := kfz hb 1
      have f2 := kfz hb 2
      clear hb
      refine start_ (n := 14) (S := fun w' => w'.cell? ⟨b, 0, none⟩ = some (.string t) ∧ w'.cell? ⟨b, 1, none⟩ = some (.int .i64 0) ∧ Aside0 (Lq w0 b g t 0 1 [] w')) (ds := []) #[false, false, false, false, false, false, false, false, false, false, false, false, false, false] (by kernel_rfl) rfl rfl ⟨c0, c1, ⟨HQ.out.drew⟩⟩ (fun hHeld => ?_)
      refine pure_ (i := 0) (N := some 5) (v := ?_) (a' := ?_) #[true, false, false, false, false, false, false, false, false, false, false, false, false, false] rfl rfl (by kernel_rfl) (fun _ _ _ h => h) (Or.inl ⟨by rfl, ?_⟩) ?_ ?_
      rotate_left
      · intro w'
        go_simp
        with_reducible rfl
      rotate_left
      · simp only [Act.put, List.setIfInBounds_toArray, List.set_cons_zero, List.set_cons_succ, i64_w, i32_w]
        rfl
      refine pure_ (i := 1) (N := some 6) (v := ?_) (a' := ?_) #[true, true, false, false, false, false, false, false, false, false, false, false, false, false] rfl rfl (by kernel_rfl) (fun _ _ _ h => h) (Or.inl ⟨by rfl, ?_⟩) ?_ ?_
      rotate_left
      · intro w'
        go_simp
        with_reducible rfl
      rotate_left
      · simp only [Act.put, List.setIfInBounds_toArray, List.set_cons_zero, List.set_cons_succ, i64_w, i32_w]
        rfl
      refine pure_ (i := 2) (N := some 7) (v := ?_) (a' := ?_) #[true, true, true, false, false, false, false, false, false, false, false, false, false, false] rfl rfl (by kernel_rfl) (fun _ _ _ h => h) (Or.inl ⟨by rfl, ?_⟩) ?_ ?_
      rotate_left
      · intro w'
        go_simp
        with_reducible rfl
      rotate_left
      · simp only [Act.put, List.setIfInBounds_toArray, List.set_cons_zero, List.set_cons_succ, i64_w, i32_w]
        rfl
      refine pure_ (i := 4) (N := some 9) (v := ?_) (a' := ?_) #[true, true, true, false, true, false, false, false, false, false, false, false, false, false] rfl rfl (by kernel_rfl) (fun _ _ _ h => h) (Or.inl ⟨by rfl, ?_⟩) ?_ ?_
      rotate_left
      · intro w'
        go_simp
        with_reducible rfl
      rotate_left
      · simp only [Act.put, List.setIfInBounds_toArray, List.set_cons_zero, List.set_cons_succ, i64_w, i32_w]
        rfl
      refine pure_ (i := 5) (N := some 10) (v := ?_) (a' := ?_) #[true, true, true, false, true, true, false, false, false, false, false, false, false, false] rfl rfl (by kernel_rfl) (fun _ _ _ h => h) (Or.inl ⟨by rfl, ?_⟩) ?_ ?_
      rotate_left
      · intro w'
        go_simp
        with_reducible rfl
      rotate_left
      · simp only [Act.put, List.setIfInBounds_toArray, List.set_cons_zero, List.set_cons_succ, i64_w, i32_w]
        rfl
      refine pure_ (i := 6) (N := some 11) (v := ?_) (a' := ?_) #[true, true, true, false, true, true, true, false, false, false, false, false, false, false] rfl rfl (by kernel_rfl) (fun _ _ _ h => h) (Or.inl ⟨by rfl, ?_⟩) ?_ ?_
      rotate_left
      · intro w'
        go_simp
        with_reducible rfl
      rotate_left
      · simp only [Act.put, List.setIfInBounds_toArray, List.set_cons_zero, List.set_cons_succ, i64_w, i32_w]
        rfl
      refine take_ (i := 3) (N := some 8) (v := ?_) (a' := ?_) #[true, true, true, true, true, true, true, false, false, false, false, false, false, false] rfl rfl (by kernel_rfl) (fun _ _ _ h => h) (Or.inl ⟨by rfl, ?_⟩) hHeld ?_ ?_
      rotate_left
      · rintro w' ⟨s0, s1, s2⟩
        go_simp
        with_reducible rfl
      rotate_left
      · simp only [Act.put, List.setIfInBounds_toArray, List.set_cons_zero, List.set_cons_succ, i64_w, i32_w]
        rfl
      refine take_ (i := 7) (N := some 12) (v := ?_) (a' := ?_) #[true, true, true, true, true, true, true, true, false, false, false, false, false, false] rfl rfl (by kernel_rfl) (fun _ _ _ h => h) (Or.inl ⟨by rfl, ?_⟩) hHeld ?_ ?_
      rotate_left
      · rintro w' ⟨s0, s1, s2⟩
        go_simp
        with_reducible rfl
      rotate_left
      · simp only [Act.put, List.setIfInBounds_toArray, List.set_cons_zero, List.set_cons_succ, i64_w, i32_w]
        rfl
      refine pure_ (i := 8) (N := some 13) (v := ?_) (a' := ?_) #[true, true, true, true, true, true, true, true, true, false, false, false, false, false] rfl rfl (by kernel_rfl) (fun _ _ _ h => h) (Or.inl ⟨by rfl, ?_⟩) ?_ ?_
      rotate_left
      · intro w'
        go_simp
        with_reducible rfl
      rotate_left
      · simp only [Act.put, List.setIfInBounds_toArray, List.set_cons_zero, List.set_cons_succ, i64_w, i32_w]
        rfl
      refine pure_ (i := 9) (N := some 14) (v := ?_) (a' := ?_) #[true, true, true, true, true, true, true, true, true, true, false, false, false, false] rfl rfl (by kernel_rfl) (fun _ _ _ h => h) (Or.inl ⟨by rfl, ?_⟩) ?_ ?_
      rotate_left
      · intro w'
        go_simp
        with_reducible rfl
      rotate_left
      · simp only [Act.put, List.setIfInBounds_toArray, List.set_cons_zero, List.set_cons_succ, i64_w, i32_w]
        rfl
      refine pure_ (i := 10) (N := some 15) (v := ?_) (a' := ?_) #[true, true, true, true, true, true, true, true, true, true, true, false, false, false] rfl rfl (by kernel_rfl) (fun _ _ _ h => h) (Or.inl ⟨by rfl, ?_⟩) ?_ ?_
      rotate_left
      · intro w'
        go_simp
        with_reducible rfl
      rotate_left
      · simp only [Act.put, List.setIfInBounds_toArray, List.set_cons_zero, List.set_cons_succ, i64_w, i32_w]
        rfl
      refine pure_ (i := 11) (N := some 16) (v := ?_) (a' := ?_) #[true, true, true, true, true, true, true, true, true, true, true, true, false, false] rfl rfl (by kernel_rfl) (fun _ _ _ h => h) (Or.inl ⟨by rfl, ?_⟩) ?_ ?_
      rotate_left
      · intro w'
        go_simp
        with_reducible rfl
      rotate_left
      · simp only [Act.put, List.setIfInBounds_toArray, List.set_cons_zero, List.set_cons_succ, i64_w, i32_w]
        rfl
      refine one_ (i := 12) (N := some 17) #[true, true, true, true, true, true, true, true, true, true, true, true, true, false] rfl rfl (by kernel_rfl) (by decide) (fun K hK => ?_)
      refine goes_ Try.func32 (by kernel_rfl) rfl #[.pointer (some ⟨b, 0, none⟩)] (by rfl) rfl rfl (by simp only [List.map_toArray, List.map_cons, List.map_nil]; rfl) ?_
      with_reducible refine (fine_w w0 b g t 0 1 [] _ hHeld.2.2.out).mono ?_
      rintro e w3 ⟨rfl, rfl⟩
      refine ⟨_, rfl, ?_⟩
      refine hK.out _ _ ⟨hHeld.1, hHeld.2.1, hHeld.2.2⟩ (fun hHeld => ?_)
      clear hK K
      refine norm_ (a' := ?_) ?_ ?_
      rotate_left
      · show Act.put _ (some 17) _ = _
        simp only [Act.put, List.setIfInBounds_toArray, List.set_cons_zero, List.set_cons_succ, i64_w, i32_w]
        rfl
      refine pure_ (i := 13) (N := some 18) (v := ?_) (a' := ?_) #[true, true, true, true, true, true, true, true, true, true, true, true, true, true] rfl rfl (by kernel_rfl) (fun _ _ _ h => h) (Or.inl ⟨by rfl, ?_⟩) ?_ ?_
      rotate_left
      · intro w'
        go_simp
        with_reducible rfl
      rotate_left
      · simp only [Act.put, List.setIfInBounds_toArray, List.set_cons_zero, List.set_cons_succ, i64_w, i32_w]
        rfl
      refine done_ (by kernel_rfl) ?_
      clear c0 c1 c2 c3 c4 f1 f2 hbb
      clear HQ
      have HQ := hHeld.2.2
      clear hHeld
      generalize wr.drew = wa at HQ ⊢

      go_wp2_with fail
      obtain ⟨-, hbb, ⟨ov, hb, -⟩, -⟩ := HQ.out
      have c0 := (kcl hb 0).trans (show _ = some (.string t) from rfl)
      have c1 := (kcl hb 1).trans (show _ = some (.int .i64 0) from rfl)
      have c2 := (kcl hb 2).trans (show _ = some (.int .i64 1) from rfl)
      have c3 := (kcl hb 3).trans (show _ = some (.slice (some ⟨g, 0, none⟩) 1 1) from rfl)
      have c4 := (kcl hb 4).trans (show _ = some (.slice none 0 0) from rfl)
      have f1 := kfz hb 1
      have f2 := kfz hb 2
      clear hb
      refine start_ (n := 10) (S := fun w' => w'.cell? ⟨b, 0, none⟩ = some (.string t) ∧ w'.cell? ⟨b, 1, none⟩ = some (.int .i64 0) ∧ Aside0 (Lq w0 b g t 0 1 [] w')) (ds := []) #[false, false, false, false, false, false, false, false, false, false] (by kernel_rfl) rfl rfl ⟨c0, c1, ⟨HQ.out.drew⟩⟩ (fun hHeld => ?_)
      refine pure_ (i := 0) (N := some 113) (v := ?_) (a' := ?_) #[true, false, false, false, false, false, false, false, false, false] rfl rfl (by kernel_rfl) (fun _ _ _ h => h) (Or.inl ⟨by rfl, ?_⟩) ?_ ?_
      rotate_left
      · intro w'
        go_simp
        with_reducible rfl
      rotate_left
      · simp only [Act.put, List.setIfInBounds_toArray, List.set_cons_zero, List.set_cons_succ, i64_w, i32_w]
        rfl
      refine pure_ (i := 1) (N := some 114) (v := ?_) (a' := ?_) #[true, true, false, false, false, false, false, false, false, false] rfl rfl (by kernel_rfl) (fun _ _ _ h => h) (Or.inl ⟨by rfl, ?_⟩) ?_ ?_
      rotate_left
      · intro w'
        go_simp
        with_reducible rfl
      rotate_left
      · simp only [Act.put, List.setIfInBounds_toArray, List.set_cons_zero, List.set_cons_succ, i64_w, i32_w]
        rfl
      refine pure_ (i := 2) (N := some 115) (v := ?_) (a' := ?_) #[true, true, true, false, false, false, false, false, false, false] rfl rfl (by kernel_rfl) (fun _ _ _ h => h) (Or.inl ⟨by rfl, ?_⟩) ?_ ?_
      rotate_left
      · intro w'
        go_simp
        with_reducible rfl
      rotate_left
      · simp only [Act.put, List.setIfInBounds_toArray, List.set_cons_zero, List.set_cons_succ, i64_w, i32_w]
        rfl
      refine pure_ (i := 4) (N := some 117) (v := ?_) (a' := ?_) #[true, true, true, false, true, false, false, false, false, false] rfl rfl (by kernel_rfl) (fun _ _ _ h => h) (Or.inl ⟨by rfl, ?_⟩) ?_ ?_
      rotate_left
      · intro w'
        go_simp
        with_reducible rfl
      rotate_left
      · simp only [Act.put, List.setIfInBounds_toArray, List.set_cons_zero, List.set_cons_succ, i64_w, i32_w]
        rfl
      refine pure_ (i := 5) (N := some 118) (v := ?_) (a' := ?_) #[true, true, true, false, true, true, false, false, false, false] rfl rfl (by kernel_rfl) (fun _ _ _ h => h) (Or.inl ⟨by rfl, ?_⟩) ?_ ?_
      rotate_left
      · intro w'
        go_simp
        with_reducible rfl
      rotate_left
      · simp only [Act.put, List.setIfInBounds_toArray, List.set_cons_zero, List.set_cons_succ, i64_w, i32_w]
        rfl
      refine pure_ (i := 6) (N := some 119) (v := ?_) (a' := ?_) #[true, true, true, false, true, true, true, false, false, false] rfl rfl (by kernel_rfl) (fun _ _ _ h => h) (Or.inl ⟨by rfl, ?_⟩) ?_ ?_
      rotate_left
      · intro w'
        go_simp
        with_reducible rfl
      rotate_left
      · simp only [Act.put, List.setIfInBounds_toArray, List.set_cons_zero, List.set_cons_succ, i64_w, i32_w]
        rfl
      refine take_ (i := 3) (N := some 116) (v := ?_) (a' := ?_) #[true, true, true, true, true, true, true, false, false, false] rfl rfl (by kernel_rfl) (fun _ _ _ h => h) (Or.inl ⟨by rfl, ?_⟩) hHeld ?_ ?_
      rotate_left
      · rintro w' ⟨s0, s1, s2⟩
        go_simp
        with_reducible rfl
      rotate_left
      · simp only [Act.put, List.setIfInBounds_toArray, List.set_cons_zero, List.set_cons_succ, i64_w, i32_w]
        rfl
      refine take_ (i := 7) (N := some 120) (v := ?_) (a' := ?_) #[true, true, true, true, true, true, true, true, false, false] rfl rfl (by kernel_rfl) (fun _ _ _ h => h) (Or.inl ⟨by rfl, ?_⟩) hHeld ?_ ?_
      rotate_left
      · rintro w' ⟨s0, s1, s2⟩
        go_simp
        with_reducible rfl
      rotate_left
      · simp only [Act.put, List.setIfInBounds_toArray, List.set_cons_zero, List.set_cons_succ, i64_w, i32_w]
        rfl
      refine take_ (i := 8) (N := some 121) (v := ?_) (a' := ?_) #[true, true, true, true, true, true, true, true, true, false] rfl rfl (by kernel_rfl) (fun _ _ _ h => h) (Or.inl ⟨by rfl, ?_⟩) hHeld ?_ ?_
      rotate_left
      · rintro w' ⟨s0, s1, s2⟩
        go_simp
        with_reducible rfl
      rotate_left
      · simp only [Act.put, List.setIfInBounds_toArray, List.set_cons_zero, List.set_cons_succ, i64_w, i32_w]
        rfl
      refine pure_ (i := 9) (N := some 4) (v := ?_) (a' := ?_) #[true, true, true, true, true, true, true, true, true, true] rfl rfl (by kernel_rfl) (fun _ _ _ h => h) (Or.inl ⟨by rfl, ?_⟩) ?_ ?_
      rotate_left
      · intro w'
        go_simp
        with_reducible rfl
      rotate_left
      · simp only [Act.put, List.setIfInBounds_toArray, List.set_cons_zero, List.set_cons_succ, i64_w, i32_w]
        rfl
      refine done_ (by kernel_rfl) ?_
      clear c0 c1 c2 c3 c4 f1 f2 hbb
      clear HQ
      have HQ := hHeld.2.2
      clear hHeld
      generalize wa.drew = wb at HQ ⊢

      go_wp2_with (first | (go_at_call 54; refine (token_w w0 b g t s n HD.out 1 [] (by simp) _ HQ.out).mono ?_; rintro e w6 ⟨rfl, hp⟩; replace HQ := Aside0.mk hp; clear hp))
      have h9 := HQ.out.atOf
      go_roundw
      case rel => exact .inr (.inr (.inl ⟨rfl, HQ⟩))
      case measure =>
        rw [h9, HAT.out]
        simp [frB]
        omega
    · have HAT := Aside0.mk HQ.out.atOf
      rcases HE.out with he | he
      · have d1 : decide (n < t.size) = false := by simp; omega
        clear he
        go_wp2_with fail
        obtain ⟨-, hbb, ⟨ov, hb, -⟩, -⟩ := HQ.out
        have c0 := (kcl hb 0).trans (show _ = some (.string t) from rfl)
        have c1 := (kcl hb 1).trans (show _ = some (.int .i64 (n : Int)) from rfl)
        have c2 := (kcl hb 2).trans (show _ = some (.int .i64 1) from rfl)
        have c3 := (kcl hb 3).trans (show _ = some (.slice (some ⟨g, 0, none⟩) 1 1) from rfl)
        have c4 := (kcl hb 4).trans (show _ = some (.slice none 0 0) from rfl)
        have f1 := kfz hb 1
        have f2 := kfz hb 2
        clear hb
        refine start_ (n := 14) (S := fun w' => w'.cell? ⟨b, 0, none⟩ = some (.string t) ∧ w'.cell? ⟨b, 1, none⟩ = some (.int .i64 (n : Int)) ∧ Aside0 (Lq w0 b g t (n : Int) 1 [(3, s, 1)] w')) (ds := []) #[false, false, false, false, false, false, false, false, false, false, false, false, false, false] (by kernel_rfl) rfl rfl ⟨c0, c1, ⟨HQ.out.drew⟩⟩ (fun hHeld => ?_)
        refine pure_ (i := 0) (N := some 5) (v := ?_) (a' := ?_) #[true, false, false, false, false, false, false, false, false, false, false, false, false, false] rfl rfl (by kernel_rfl) (fun _ _ _ h => h) (Or.inl ⟨by rfl, ?_⟩) ?_ ?_
        rotate_left
        · intro w'
          go_simp
          with_reducible rfl
        rotate_left
        · simp only [Act.put, List.setIfInBounds_toArray, List.set_cons_zero, List.set_cons_succ, i64_w, i32_w]
          rfl
        refine pure_ (i := 1) (N := some 6) (v := ?_) (a' := ?_) #[true, true, false, false, false, false, false, false, false, false, false, false, false, false] rfl rfl (by kernel_rfl) (fun _ _ _ h => h) (Or.inl ⟨by rfl, ?_⟩) ?_ ?_
        rotate_left
        · intro w'
          go_simp
          with_reducible rfl
        rotate_left
        · simp only [Act.put, List.setIfInBounds_toArray, List.set_cons_zero, List.set_cons_succ, i64_w, i32_w]
          rfl
        refine pure_ (i := 2) (N := some 7) (v := ?_) (a' := ?_) #[true, true, true, false, false, false, false, false, false, false, false, false, false, false] rfl rfl (by kernel_rfl) (fun _ _ _ h => h) (Or.inl ⟨by rfl, ?_⟩) ?_ ?_
        rotate_left
        · intro w'
          go_simp
          with_reducible rfl
        rotate_left
        · simp only [Act.put, List.setIfInBounds_toArray, List.set_cons_zero, List.set_cons_succ, i64_w, i32_w]
          rfl
        refine pure_ (i := 4) (N := some 9) (v := ?_) (a' := ?_) #[true, true, true, false, true, false, false, false, false, false, false, false, false, false] rfl rfl (by kernel_rfl) (fun _ _ _ h => h) (Or.inl ⟨by rfl, ?_⟩) ?_ ?_
        rotate_left
        · intro w'
          go_simp
          with_reducible rfl
        rotate_left
        · simp only [Act.put, List.setIfInBounds_toArray, List.set_cons_zero, List.set_cons_succ, i64_w, i32_w]
          rfl
        refine pure_ (i := 5) (N := some 10) (v := ?_) (a' := ?_) #[true, true, true, false, true, true, false, false, false, false, false, false, false, false] rfl rfl (by kernel_rfl) (fun _ _ _ h => h) (Or.inl ⟨by rfl, ?_⟩) ?_ ?_
        rotate_left
        · intro w'
          go_simp
          with_reducible rfl
        rotate_left
        · simp only [Act.put, List.setIfInBounds_toArray, List.set_cons_zero, List.set_cons_succ, i64_w, i32_w]
          rfl
        refine pure_ (i := 6) (N := some 11) (v := ?_) (a' := ?_) #[true, true, true, false, true, true, true, false, false, false, false, false, false, false] rfl rfl (by kernel_rfl) (fun _ _ _ h => h) (Or.inl ⟨by rfl, ?_⟩) ?_ ?_
        rotate_left
        · intro w'
          go_simp
          with_reducible rfl
        rotate_left
        · simp only [Act.put, List.setIfInBounds_toArray, List.set_cons_zero, List.set_cons_succ, i64_w, i32_w]
          rfl
        refine take_ (i := 3) (N := some 8) (v := ?_) (a' := ?_) #[true, true, true, true, true, true, true, false, false, false, false, false, false, false] rfl rfl (by kernel_rfl) (fun _ _ _ h => h) (Or.inl ⟨by rfl, ?_⟩) hHeld ?_ ?_
        rotate_left
        · rintro w' ⟨s0, s1, s2⟩
          go_simp
          with_reducible rfl
        rotate_left
        · simp only [Act.put, List.setIfInBounds_toArray, List.set_cons_zero, List.set_cons_succ, i64_w, i32_w]
          rfl
        refine take_ (i := 7) (N := some 12) (v := ?_) (a' := ?_) #[true, true, true, true, true, true, true, true, false, false, false, false, false, false] rfl rfl (by kernel_rfl) (fun _ _ _ h => h) (Or.inl ⟨by rfl, ?_⟩) hHeld ?_ ?_
        rotate_left
        · rintro w' ⟨s0, s1, s2⟩
          go_simp
          with_reducible rfl
        rotate_left
        · simp only [Act.put, List.setIfInBounds_toArray, List.set_cons_zero, List.set_cons_succ, i64_w, i32_w]
          rfl
        refine pure_ (i := 8) (N := some 13) (v := ?_) (a' := ?_) #[true, true, true, true, true, true, true, true, true, false, false, false, false, false] rfl rfl (by kernel_rfl) (fun _ _ _ h => h) (Or.inl ⟨by rfl, ?_⟩) ?_ ?_
        rotate_left
        · intro w'
          go_simp
          with_reducible rfl
        rotate_left
        · simp only [Act.put, List.setIfInBounds_toArray, List.set_cons_zero, List.set_cons_succ, i64_w, i32_w]
          rfl
        refine pure_ (i := 9) (N := some 14) (v := ?_) (a' := ?_) #[true, true, true, true, true, true, true, true, true, true, false, false, false, false] rfl rfl (by kernel_rfl) (fun _ _ _ h => h) (Or.inl ⟨by rfl, ?_⟩) ?_ ?_
        rotate_left
        · intro w'
          go_simp
          with_reducible rfl
        rotate_left
        · simp only [Act.put, List.setIfInBounds_toArray, List.set_cons_zero, List.set_cons_succ, i64_w, i32_w]
          rfl
        refine pure_ (i := 10) (N := some 15) (v := ?_) (a' := ?_) #[true, true, true, true, true, true, true, true, true, true, true, false, false, false] rfl rfl (by kernel_rfl) (fun _ _ _ h => h) (Or.inl ⟨by rfl, ?_⟩) ?_ ?_
        rotate_left
        · intro w'
          go_simp
          with_reducible rfl
        rotate_left
        · simp only [Act.put, List.setIfInBounds_toArray, List.set_cons_zero, List.set_cons_succ, i64_w, i32_w]
          rfl
        refine pure_ (i := 11) (N := some 16) (v := undef) (a' := ?_) #[true, true, true, true, true, true, true, true, true, true, true, true, false, false] rfl rfl (by kernel_rfl) (fun _ _ _ h => h) (Or.inr ⟨by rfl, rfl⟩) ?_ ?_
        rotate_left
        · simp only [Act.put, List.setIfInBounds_toArray, List.set_cons_zero, List.set_cons_succ, i64_w, i32_w]
          rfl
        refine pure_ (i := 12) (N := some 17) (v := undef) (a' := ?_) #[true, true, true, true, true, true, true, true, true, true, true, true, true, false] rfl rfl (by kernel_rfl) (fun _ _ _ h => h) (Or.inr ⟨by rfl, rfl⟩) ?_ ?_
        rotate_left
        · simp only [Act.put, List.setIfInBounds_toArray, List.set_cons_zero, List.set_cons_succ, i64_w, i32_w]
          rfl
        refine pure_ (i := 13) (N := some 18) (v := ?_) (a' := ?_) #[true, true, true, true, true, true, true, true, true, true, true, true, true, true] rfl rfl (by kernel_rfl) (fun _ _ _ h => h) (Or.inl ⟨by rfl, ?_⟩) ?_ ?_
        rotate_left
        · intro w'
          go_simp
          with_reducible rfl
        rotate_left
        · simp only [Act.put, List.setIfInBounds_toArray, List.set_cons_zero, List.set_cons_succ, i64_w, i32_w]
          rfl
        refine done_ (by kernel_rfl) ?_
        clear c0 c1 c2 c3 c4 f1 f2 hbb
        clear HQ
        have HQ := hHeld.2.2
        clear hHeld
        generalize wr.drew = wa at HQ ⊢

        obtain ⟨-, hbb, ⟨ov, hb, -⟩, -⟩ := HQ.out
        have c0 := (kcl hb 0).trans (show _ = some (.string t) from rfl)
        have c1 := (kcl hb 1).trans (show _ = some (.int .i64 (n : Int)) from rfl)
        have c2 := (kcl hb 2).trans (show _ = some (.int .i64 1) from rfl)
        have c3 := (kcl hb 3).trans (show _ = some (.slice (some ⟨g, 0, none⟩) 1 1) from rfl)
        have c4 := (kcl hb 4).trans (show _ = some (.slice none 0 0) from rfl)
        have f1 := kfz hb 1
        have f2 := kfz hb 2
        clear hb

        go_wp2_with (first | (go_at_call 32; refine (fine_w w0 b g t _ _ _ _ HQ.out).mono ?_; rintro e w5 ⟨rfl, rfl⟩) | (go_at_call 53; refine (put_w w0 b g t n 1 [(3, s, 1)] _ HQ.out (by simp) 6 ⟨#[]⟩ 1).mono ?_; rintro e w6 ⟨rfl, hp⟩; replace HQ := Aside0.mk hp; clear hp; clear c0 c1 c2 c3 c4 f1 f2 hbb; obtain ⟨-, hbb, ⟨ov, hb, -⟩, -⟩ := HQ.out; have c0 := (kcl hb 0).trans (show _ = some (.string t) from rfl); have c1 := (kcl hb 1).trans (show _ = some (.int .i64 (n : Int)) from rfl); have c2 := (kcl hb 2).trans (show _ = some (.int .i64 1) from rfl); have c3 := (kcl hb 3).trans (show _ = some (.slice (some ⟨g, 0, none⟩) 1 1) from rfl); have c4 := (kcl hb 4).trans (show _ = some (.slice none 0 0) from rfl); have f1 := kfz hb 1; have f2 := kfz hb 2; clear hb))
        go_loopw [195] (fun u wx => u = .int .i64 0 ∧ Aside0 (∃ at_ line : Int, Lq w0 b g t at_ line [(3, s, 1), (6, ⟨#[]⟩, 1)] wx)) (fun _ _ => 0)
        case atStart => exact ⟨rfl, ⟨_, _, HQ.out⟩⟩
        case round =>
          obtain ⟨rfl, HZ⟩ := hrel
          go_wp2_with fail
          go_end0
          exact ⟨rfl, HZ.out⟩

      · have d1 : decide (n < t.size) = true := by simp; omega
        have hnn : n < t.size := by omega
        have hc10 : ((t[n]'hnn).toNat : Int) = 10 := by
          rcases HD.out.en with h | ⟨_, h⟩
          · omega
          · exact h
        have HEE := Lib.hid he
        clear he
        go_wp2_with fail
        obtain ⟨-, hbb, ⟨ov, hb, -⟩, -⟩ := HQ.out
        have c0 := (kcl hb 0).trans (show _ = some (.string t) from rfl)
        have c1 := (kcl hb 1).trans (show _ = some (.int .i64 (n : Int)) from rfl)
        have c2 := (kcl hb 2).trans (show _ = some (.int .i64 1) from rfl)
        have c3 := (kcl hb 3).trans (show _ = some (.slice (some ⟨g, 0, none⟩) 1 1) from rfl)
        have c4 := (kcl hb 4).trans (show _ = some (.slice none 0 0) from rfl)
        have f1 := kfz hb 1
        have f2 := kfz hb 2
        clear hb
        refine start_ (n := 14) (S := fun w' => w'.cell? ⟨b, 0, none⟩ = some (.string t) ∧ w'.cell? ⟨b, 1, none⟩ = some (.int .i64 (n : Int)) ∧ Aside0 (Lq w0 b g t (n : Int) 1 [(3, s, 1)] w')) (ds := []) #[false, false, false, false, false, false, false, false, false, false, false, false, false, false] (by kernel_rfl) rfl rfl ⟨c0, c1, ⟨HQ.out.drew⟩⟩ (fun hHeld => ?_)
        refine pure_ (i := 0) (N := some 5) (v := ?_) (a' := ?_) #[true, false, false, false, false, false, false, false, false, false, false, false, false, false] rfl rfl (by kernel_rfl) (fun _ _ _ h => h) (Or.inl ⟨by rfl, ?_⟩) ?_ ?_
        rotate_left
        · intro w'
          go_simp
          with_reducible rfl
        rotate_left
        · simp only [Act.put, List.setIfInBounds_toArray, List.set_cons_zero, List.set_cons_succ, i64_w, i32_w]
          rfl
        refine pure_ (i := 1) (N := some 6) (v := ?_) (a' := ?_) #[true, true, false, false, false, false, false, false, false, false, false, false, false, false] rfl rfl (by kernel_rfl) (fun _ _ _ h => h) (Or.inl ⟨by rfl, ?_⟩) ?_ ?_
        rotate_left
        · intro w'
          go_simp
          with_reducible rfl
        rotate_left
        · simp only [Act.put, List.setIfInBounds_toArray, List.set_cons_zero, List.set_cons_succ, i64_w, i32_w]
          rfl
        refine pure_ (i := 2) (N := some 7) (v := ?_) (a' := ?_) #[true, true, true, false, false, false, false, false, false, false, false, false, false, false] rfl rfl (by kernel_rfl) (fun _ _ _ h => h) (Or.inl ⟨by rfl, ?_⟩) ?_ ?_
        rotate_left
        · intro w'
          go_simp
          with_reducible rfl
        rotate_left
        · simp only [Act.put, List.setIfInBounds_toArray, List.set_cons_zero, List.set_cons_succ, i64_w, i32_w]
          rfl
        refine pure_ (i := 4) (N := some 9) (v := ?_) (a' := ?_) #[true, true, true, false, true, false, false, false, false, false, false, false, false, false] rfl rfl (by kernel_rfl) (fun _ _ _ h => h) (Or.inl ⟨by rfl, ?_⟩) ?_ ?_
        rotate_left
        · intro w'
          go_simp
          with_reducible rfl
        rotate_left
        · simp only [Act.put, List.setIfInBounds_toArray, List.set_cons_zero, List.set_cons_succ, i64_w, i32_w]
          rfl
        refine pure_ (i := 5) (N := some 10) (v := ?_) (a' := ?_) #[true, true, true, false, true, true, false, false, false, false, false, false, false, false] rfl rfl (by kernel_rfl) (fun _ _ _ h => h) (Or.inl ⟨by rfl, ?_⟩) ?_ ?_
        rotate_left
        · intro w'
          go_simp
          with_reducible rfl
        rotate_left
        · simp only [Act.put, List.setIfInBounds_toArray, List.set_cons_zero, List.set_cons_succ, i64_w, i32_w]
          rfl
        refine pure_ (i := 6) (N := some 11) (v := ?_) (a' := ?_) #[true, true, true, false, true, true, true, false, false, false, false, false, false, false] rfl rfl (by kernel_rfl) (fun _ _ _ h => h) (Or.inl ⟨by rfl, ?_⟩) ?_ ?_
        rotate_left
        · intro w'
          go_simp
          with_reducible rfl
        rotate_left
        · simp only [Act.put, List.setIfInBounds_toArray, List.set_cons_zero, List.set_cons_succ, i64_w, i32_w]
          rfl
        refine take_ (i := 3) (N := some 8) (v := ?_) (a' := ?_) #[true, true, true, true, true, true, true, false, false, false, false, false, false, false] rfl rfl (by kernel_rfl) (fun _ _ _ h => h) (Or.inl ⟨by rfl, ?_⟩) hHeld ?_ ?_
        rotate_left
        · rintro w' ⟨s0, s1, s2⟩
          go_simp
          with_reducible rfl
        rotate_left
        · simp only [Act.put, List.setIfInBounds_toArray, List.set_cons_zero, List.set_cons_succ, i64_w, i32_w]
          rfl
        refine take_ (i := 7) (N := some 12) (v := ?_) (a' := ?_) #[true, true, true, true, true, true, true, true, false, false, false, false, false, false] rfl rfl (by kernel_rfl) (fun _ _ _ h => h) (Or.inl ⟨by rfl, ?_⟩) hHeld ?_ ?_
        rotate_left
        · rintro w' ⟨s0, s1, s2⟩
          go_simp
          with_reducible rfl
        rotate_left
        · simp only [Act.put, List.setIfInBounds_toArray, List.set_cons_zero, List.set_cons_succ, i64_w, i32_w]
          rfl
        refine pure_ (i := 8) (N := some 13) (v := ?_) (a' := ?_) #[true, true, true, true, true, true, true, true, true, false, false, false, false, false] rfl rfl (by kernel_rfl) (fun _ _ _ h => h) (Or.inl ⟨by rfl, ?_⟩) ?_ ?_
        rotate_left
        · intro w'
          go_simp
          with_reducible rfl
        rotate_left
        · simp only [Act.put, List.setIfInBounds_toArray, List.set_cons_zero, List.set_cons_succ, i64_w, i32_w]
          rfl
        refine pure_ (i := 9) (N := some 14) (v := ?_) (a' := ?_) #[true, true, true, true, true, true, true, true, true, true, false, false, false, false] rfl rfl (by kernel_rfl) (fun _ _ _ h => h) (Or.inl ⟨by rfl, ?_⟩) ?_ ?_
        rotate_left
        · intro w'
          go_simp
          with_reducible rfl
        rotate_left
        · simp only [Act.put, List.setIfInBounds_toArray, List.set_cons_zero, List.set_cons_succ, i64_w, i32_w]
          rfl
        refine pure_ (i := 10) (N := some 15) (v := ?_) (a' := ?_) #[true, true, true, true, true, true, true, true, true, true, true, false, false, false] rfl rfl (by kernel_rfl) (fun _ _ _ h => h) (Or.inl ⟨by rfl, ?_⟩) ?_ ?_
        rotate_left
        · intro w'
          go_simp
          with_reducible rfl
        rotate_left
        · simp only [Act.put, List.setIfInBounds_toArray, List.set_cons_zero, List.set_cons_succ, i64_w, i32_w]
          rfl
        refine pure_ (i := 11) (N := some 16) (v := ?_) (a' := ?_) #[true, true, true, true, true, true, true, true, true, true, true, true, false, false] rfl rfl (by kernel_rfl) (fun _ _ _ h => h) (Or.inl ⟨by rfl, ?_⟩) ?_ ?_
        rotate_left
        · intro w'
          go_simp
          with_reducible rfl
        rotate_left
        · simp only [Act.put, List.setIfInBounds_toArray, List.set_cons_zero, List.set_cons_succ, i64_w, i32_w]
          rfl
        refine one_ (i := 12) (N := some 17) #[true, true, true, true, true, true, true, true, true, true, true, true, true, false] rfl rfl (by kernel_rfl) (by decide) (fun K hK => ?_)
        refine goes_ Try.func32 (by kernel_rfl) rfl #[.pointer (some ⟨b, 0, none⟩)] (by rfl) rfl rfl (by simp only [List.map_toArray, List.map_cons, List.map_nil]; rfl) ?_
        with_reducible refine (fine_w w0 b g t (n : Int) 1 [(3, s, 1)] _ hHeld.2.2.out).mono ?_
        rintro e w3 ⟨rfl, rfl⟩
        refine ⟨_, rfl, ?_⟩
        refine hK.out _ _ ⟨hHeld.1, hHeld.2.1, hHeld.2.2⟩ (fun hHeld => ?_)
        clear hK K
        refine norm_ (a' := ?_) ?_ ?_
        rotate_left
        · show Act.put _ (some 17) _ = _
          simp only [Act.put, List.setIfInBounds_toArray, List.set_cons_zero, List.set_cons_succ, i64_w, i32_w]
          rfl
        refine pure_ (i := 13) (N := some 18) (v := ?_) (a' := ?_) #[true, true, true, true, true, true, true, true, true, true, true, true, true, true] rfl rfl (by kernel_rfl) (fun _ _ _ h => h) (Or.inl ⟨by rfl, ?_⟩) ?_ ?_
        rotate_left
        · intro w'
          go_simp
          with_reducible rfl
        rotate_left
        · simp only [Act.put, List.setIfInBounds_toArray, List.set_cons_zero, List.set_cons_succ, i64_w, i32_w]
          rfl
        refine done_ (by kernel_rfl) ?_
        clear c0 c1 c2 c3 c4 f1 f2 hbb
        clear HQ
        have HQ := hHeld.2.2
        clear hHeld
        generalize wr.drew = wa at HQ ⊢

        go_wp2_with fail
        obtain ⟨-, hbb, ⟨ov, hb, -⟩, -⟩ := HQ.out
        have c0 := (kcl hb 0).trans (show _ = some (.string t) from rfl)
        have c1 := (kcl hb 1).trans (show _ = some (.int .i64 (n : Int)) from rfl)
        have c2 := (kcl hb 2).trans (show _ = some (.int .i64 1) from rfl)
        have c3 := (kcl hb 3).trans (show _ = some (.slice (some ⟨g, 0, none⟩) 1 1) from rfl)
        have c4 := (kcl hb 4).trans (show _ = some (.slice none 0 0) from rfl)
        have f1 := kfz hb 1
        have f2 := kfz hb 2
        clear hb
        refine start_ (n := 10) (S := fun w' => w'.cell? ⟨b, 0, none⟩ = some (.string t) ∧ w'.cell? ⟨b, 1, none⟩ = some (.int .i64 (n : Int)) ∧ Aside0 (Lq w0 b g t (n : Int) 1 [(3, s, 1)] w')) (ds := []) #[false, false, false, false, false, false, false, false, false, false] (by kernel_rfl) rfl rfl ⟨c0, c1, ⟨HQ.out.drew⟩⟩ (fun hHeld => ?_)
        refine pure_ (i := 0) (N := some 113) (v := ?_) (a' := ?_) #[true, false, false, false, false, false, false, false, false, false] rfl rfl (by kernel_rfl) (fun _ _ _ h => h) (Or.inl ⟨by rfl, ?_⟩) ?_ ?_
        rotate_left
        · intro w'
          go_simp
          with_reducible rfl
        rotate_left
        · simp only [Act.put, List.setIfInBounds_toArray, List.set_cons_zero, List.set_cons_succ, i64_w, i32_w]
          rfl
        refine pure_ (i := 1) (N := some 114) (v := ?_) (a' := ?_) #[true, true, false, false, false, false, false, false, false, false] rfl rfl (by kernel_rfl) (fun _ _ _ h => h) (Or.inl ⟨by rfl, ?_⟩) ?_ ?_
        rotate_left
        · intro w'
          go_simp
          with_reducible rfl
        rotate_left
        · simp only [Act.put, List.setIfInBounds_toArray, List.set_cons_zero, List.set_cons_succ, i64_w, i32_w]
          rfl
        refine pure_ (i := 2) (N := some 115) (v := ?_) (a' := ?_) #[true, true, true, false, false, false, false, false, false, false] rfl rfl (by kernel_rfl) (fun _ _ _ h => h) (Or.inl ⟨by rfl, ?_⟩) ?_ ?_
        rotate_left
        · intro w'
          go_simp
          with_reducible rfl
        rotate_left
        · simp only [Act.put, List.setIfInBounds_toArray, List.set_cons_zero, List.set_cons_succ, i64_w, i32_w]
          rfl
        refine pure_ (i := 4) (N := some 117) (v := ?_) (a' := ?_) #[true, true, true, false, true, false, false, false, false, false] rfl rfl (by kernel_rfl) (fun _ _ _ h => h) (Or.inl ⟨by rfl, ?_⟩) ?_ ?_
        rotate_left
        · intro w'
          go_simp
          with_reducible rfl
        rotate_left
        · simp only [Act.put, List.setIfInBounds_toArray, List.set_cons_zero, List.set_cons_succ, i64_w, i32_w]
          rfl
        refine pure_ (i := 5) (N := some 118) (v := ?_) (a' := ?_) #[true, true, true, false, true, true, false, false, false, false] rfl rfl (by kernel_rfl) (fun _ _ _ h => h) (Or.inl ⟨by rfl, ?_⟩) ?_ ?_
        rotate_left
        · intro w'
          go_simp
          with_reducible rfl
        rotate_left
        · simp only [Act.put, List.setIfInBounds_toArray, List.set_cons_zero, List.set_cons_succ, i64_w, i32_w]
          rfl
        refine pure_ (i := 6) (N := some 119) (v := ?_) (a' := ?_) #[true, true, true, false, true, true, true, false, false, false] rfl rfl (by kernel_rfl) (fun _ _ _ h => h) (Or.inl ⟨by rfl, ?_⟩) ?_ ?_
        rotate_left
        · intro w'
          go_simp
          with_reducible rfl
        rotate_left
        · simp only [Act.put, List.setIfInBounds_toArray, List.set_cons_zero, List.set_cons_succ, i64_w, i32_w]
          rfl
        refine take_ (i := 3) (N := some 116) (v := ?_) (a' := ?_) #[true, true, true, true, true, true, true, false, false, false] rfl rfl (by kernel_rfl) (fun _ _ _ h => h) (Or.inl ⟨by rfl, ?_⟩) hHeld ?_ ?_
        rotate_left
        · rintro w' ⟨s0, s1, s2⟩
          go_simp
          with_reducible rfl
        rotate_left
        · simp only [Act.put, List.setIfInBounds_toArray, List.set_cons_zero, List.set_cons_succ, i64_w, i32_w]
          rfl
        refine take_ (i := 7) (N := some 120) (v := ?_) (a' := ?_) #[true, true, true, true, true, true, true, true, false, false] rfl rfl (by kernel_rfl) (fun _ _ _ h => h) (Or.inl ⟨by rfl, ?_⟩) hHeld ?_ ?_
        rotate_left
        · rintro w' ⟨s0, s1, s2⟩
          go_simp
          with_reducible rfl
        rotate_left
        · simp only [Act.put, List.setIfInBounds_toArray, List.set_cons_zero, List.set_cons_succ, i64_w, i32_w]
          rfl
        refine take_ (i := 8) (N := some 121) (v := ?_) (a' := ?_) #[true, true, true, true, true, true, true, true, true, false] rfl rfl (by kernel_rfl) (fun _ _ _ h => h) (Or.inl ⟨by rfl, ?_⟩) hHeld ?_ ?_
        rotate_left
        · rintro w' ⟨s0, s1, s2⟩
          go_simp
          with_reducible rfl
        rotate_left
        · simp only [Act.put, List.setIfInBounds_toArray, List.set_cons_zero, List.set_cons_succ, i64_w, i32_w]
          rfl
        refine pure_ (i := 9) (N := some 4) (v := ?_) (a' := ?_) #[true, true, true, true, true, true, true, true, true, true] rfl rfl (by kernel_rfl) (fun _ _ _ h => h) (Or.inl ⟨by rfl, ?_⟩) ?_ ?_
        rotate_left
        · intro w'
          go_simp
          with_reducible rfl
        rotate_left
        · simp only [Act.put, List.setIfInBounds_toArray, List.set_cons_zero, List.set_cons_succ, i64_w, i32_w]
          rfl
        refine done_ (by kernel_rfl) ?_
        clear c0 c1 c2 c3 c4 f1 f2 hbb
        clear HQ
        have HQ := hHeld.2.2
        clear hHeld
        generalize wa.drew = wb at HQ ⊢

        obtain ⟨-, hbb, ⟨ov, hb, -⟩, -⟩ := HQ.out
        have c0 := (kcl hb 0).trans (show _ = some (.string t) from rfl)
        have c1 := (kcl hb 1).trans (show _ = some (.int .i64 (n : Int)) from rfl)
        have c2 := (kcl hb 2).trans (show _ = some (.int .i64 1) from rfl)
        have c3 := (kcl hb 3).trans (show _ = some (.slice (some ⟨g, 0, none⟩) 1 1) from rfl)
        have c4 := (kcl hb 4).trans (show _ = some (.slice none 0 0) from rfl)
        have f1 := kfz hb 1
        have f2 := kfz hb 2
        clear hb

        have hw1 : wrap64 ((n : Int) + 1) = (n : Int) + 1 := by unfold wrap64; omega
        go_upto_region 25 with (fail)
        clear c0 c1 c2 c3 c4 f1 f2 hbb
        have HQ9 := Aside0.mk (HQ.out.setAt ((n : Int) + 1))
        clear HQ
        have HQ := HQ9
        clear HQ9
        generalize wb.setCell ⟨b, 1, none⟩ (.int .i64 ((n : Int) + 1)) = wc at HQ ⊢

        clear hw1
        obtain ⟨-, hbb, ⟨ov, hb, -⟩, -⟩ := HQ.out
        have c0 := (kcl hb 0).trans (show _ = some (.string t) from rfl)
        have c1 := (kcl hb 1).trans (show _ = some (.int .i64 ((n : Int) + 1)) from rfl)
        have c2 := (kcl hb 2).trans (show _ = some (.int .i64 1) from rfl)
        have c3 := (kcl hb 3).trans (show _ = some (.slice (some ⟨g, 0, none⟩) 1 1) from rfl)
        have c4 := (kcl hb 4).trans (show _ = some (.slice none 0 0) from rfl)
        have f1 := kfz hb 1
        have f2 := kfz hb 2
        clear hb

        go_wp2_with (first | (go_at_call 53; refine (put_w w0 b g t ((n : Int) + 1) 1 [(3, s, 1)] _ HQ.out (by simp) 6 ⟨#[]⟩ 1).mono ?_; rintro e w6 ⟨rfl, hp⟩; replace HQ := Aside0.mk hp; clear hp; clear c0 c1 c2 c3 c4 f1 f2 hbb; obtain ⟨-, hbb, ⟨ov, hb, -⟩, -⟩ := HQ.out; have c0 := (kcl hb 0).trans (show _ = some (.string t) from rfl); have c1 := (kcl hb 1).trans (show _ = some (.int .i64 ((n : Int) + 1)) from rfl); have c2 := (kcl hb 2).trans (show _ = some (.int .i64 1) from rfl); have c3 := (kcl hb 3).trans (show _ = some (.slice (some ⟨g, 0, none⟩) 1 1) from rfl); have c4 := (kcl hb 4).trans (show _ = some (.slice none 0 0) from rfl); have f1 := kfz hb 1; have f2 := kfz hb 2; clear hb))
        have h8 := HQ.out.setLine 2
        have h9 := h8.atOf
        have hw2 : wrap64 2 = 2 := by unfold wrap64; omega
        go_roundw
        case rel => exact .inr (.inr (.inr ⟨HEE.out, rfl, ⟨by first | exact h8 | (rw [hw2]; exact h8)⟩⟩))
        case measure =>
          first
            | rw [h9, HAT.out]
            | rw [hw2, h9, HAT.out]
          have := HEE.out
          simp [frB]
          omega
    · have HAT := Aside0.mk HQ.out.atOf
      have d1 : decide (n + 1 < t.size) = false := by simp; omega
      have d2 : decide ((n : Int) + 1 < (t.size : Int)) = false := by simp; omega
      clear hen
      go_wp2_with fail
      obtain ⟨-, hbb, ⟨ov, hb, -⟩, -⟩ := HQ.out
      have c0 := (kcl hb 0).trans (show _ = some (.string t) from rfl)
      have c1 := (kcl hb 1).trans (show _ = some (.int .i64 ((n : Int) + 1)) from rfl)
      have c2 := (kcl hb 2).trans (show _ = some (.int .i64 2) from rfl)
      have c3 := (kcl hb 3).trans (show _ = some (.slice (some ⟨g, 0, none⟩) 1 1) from rfl)
      have c4 := (kcl hb 4).trans (show _ = some (.slice none 0 0) from rfl)
      have f1 := kfz hb 1
      have f2 := kfz hb 2
      clear hb
      refine start_ (n := 14) (S := fun w' => w'.cell? ⟨b, 0, none⟩ = some (.string t) ∧ w'.cell? ⟨b, 1, none⟩ = some (.int .i64 ((n : Int) + 1)) ∧ Aside0 (Lq w0 b g t ((n : Int) + 1) 2 [(3, s, 1), (6, ⟨#[]⟩, 1)] w')) (ds := []) #[false, false, false, false, false, false, false, false, false, false, false, false, false, false] (by kernel_rfl) rfl rfl ⟨c0, c1, ⟨HQ.out.drew⟩⟩ (fun hHeld => ?_)
      refine pure_ (i := 0) (N := some 5) (v := ?_) (a' := ?_) #[true, false, false, false, false, false, false, false, false, false, false, false, false, false] rfl rfl (by kernel_rfl) (fun _ _ _ h => h) (Or.inl ⟨by rfl, ?_⟩) ?_ ?_
      rotate_left
      · intro w'
        go_simp
        with_reducible rfl
      rotate_left
      · simp only [Act.put, List.setIfInBounds_toArray, List.set_cons_zero, List.set_cons_succ, i64_w, i32_w]
        rfl
      refine pure_ (i := 1) (N := some 6) (v := ?_) (a' := ?_) #[true, true, false, false, false, false, false, false, false, false, false, false, false, false] rfl rfl (by kernel_rfl) (fun _ _ _ h => h) (Or.inl ⟨by rfl, ?_⟩) ?_ ?_
      rotate_left
      · intro w'
        go_simp
        with_reducible rfl
      rotate_left
      · simp only [Act.put, List.setIfInBounds_toArray, List.set_cons_zero, List.set_cons_succ, i64_w, i32_w]
        rfl
      refine pure_ (i := 2) (N := some 7) (v := ?_) (a' := ?_) #[true, true, true, false, false, false, false, false, false, false, false, false, false, false] rfl rfl (by kernel_rfl) (fun _ _ _ h => h) (Or.inl ⟨by rfl, ?_⟩) ?_ ?_
      rotate_left
      · intro w'
        go_simp
        with_reducible rfl
      rotate_left
      · simp only [Act.put, List.setIfInBounds_toArray, List.set_cons_zero, List.set_cons_succ, i64_w, i32_w]
        rfl
      refine pure_ (i := 4) (N := some 9) (v := ?_) (a' := ?_) #[true, true, true, false, true, false, false, false, false, false, false, false, false, false] rfl rfl (by kernel_rfl) (fun _ _ _ h => h) (Or.inl ⟨by rfl, ?_⟩) ?_ ?_
      rotate_left
      · intro w'
        go_simp
        with_reducible rfl
      rotate_left
      · simp only [Act.put, List.setIfInBounds_toArray, List.set_cons_zero, List.set_cons_succ, i64_w, i32_w]
        rfl
      refine pure_ (i := 5) (N := some 10) (v := ?_) (a' := ?_) #[true, true, true, false, true, true, false, false, false, false, false, false, false, false] rfl rfl (by kernel_rfl) (fun _ _ _ h => h) (Or.inl ⟨by rfl, ?_⟩) ?_ ?_
      rotate_left
      · intro w'
        go_simp
        with_reducible rfl
      rotate_left
      · simp only [Act.put, List.setIfInBounds_toArray, List.set_cons_zero, List.set_cons_succ, i64_w, i32_w]
        rfl
      refine pure_ (i := 6) (N := some 11) (v := ?_) (a' := ?_) #[true, true, true, false, true, true, true, false, false, false, false, false, false, false] rfl rfl (by kernel_rfl) (fun _ _ _ h => h) (Or.inl ⟨by rfl, ?_⟩) ?_ ?_
      rotate_left
      · intro w'
        go_simp
        with_reducible rfl
      rotate_left
      · simp only [Act.put, List.setIfInBounds_toArray, List.set_cons_zero, List.set_cons_succ, i64_w, i32_w]
        rfl
      refine take_ (i := 3) (N := some 8) (v := ?_) (a' := ?_) #[true, true, true, true, true, true, true, false, false, false, false, false, false, false] rfl rfl (by kernel_rfl) (fun _ _ _ h => h) (Or.inl ⟨by rfl, ?_⟩) hHeld ?_ ?_
      rotate_left
      · rintro w' ⟨s0, s1, s2⟩
        go_simp
        with_reducible rfl
      rotate_left
      · simp only [Act.put, List.setIfInBounds_toArray, List.set_cons_zero, List.set_cons_succ, i64_w, i32_w]
        rfl
      refine take_ (i := 7) (N := some 12) (v := ?_) (a' := ?_) #[true, true, true, true, true, true, true, true, false, false, false, false, false, false] rfl rfl (by kernel_rfl) (fun _ _ _ h => h) (Or.inl ⟨by rfl, ?_⟩) hHeld ?_ ?_
      rotate_left
      · rintro w' ⟨s0, s1, s2⟩
        go_simp
        with_reducible rfl
      rotate_left
      · simp only [Act.put, List.setIfInBounds_toArray, List.set_cons_zero, List.set_cons_succ, i64_w, i32_w]
        rfl
      refine pure_ (i := 8) (N := some 13) (v := ?_) (a' := ?_) #[true, true, true, true, true, true, true, true, true, false, false, false, false, false] rfl rfl (by kernel_rfl) (fun _ _ _ h => h) (Or.inl ⟨by rfl, ?_⟩) ?_ ?_
      rotate_left
      · intro w'
        go_simp
        with_reducible rfl
      rotate_left
      · simp only [Act.put, List.setIfInBounds_toArray, List.set_cons_zero, List.set_cons_succ, i64_w, i32_w]
        rfl
      refine pure_ (i := 9) (N := some 14) (v := ?_) (a' := ?_) #[true, true, true, true, true, true, true, true, true, true, false, false, false, false] rfl rfl (by kernel_rfl) (fun _ _ _ h => h) (Or.inl ⟨by rfl, ?_⟩) ?_ ?_
      rotate_left
      · intro w'
        go_simp
        with_reducible rfl
      rotate_left
      · simp only [Act.put, List.setIfInBounds_toArray, List.set_cons_zero, List.set_cons_succ, i64_w, i32_w]
        rfl
      refine pure_ (i := 10) (N := some 15) (v := ?_) (a' := ?_) #[true, true, true, true, true, true, true, true, true, true, true, false, false, false] rfl rfl (by kernel_rfl) (fun _ _ _ h => h) (Or.inl ⟨by rfl, ?_⟩) ?_ ?_
      rotate_left
      · intro w'
        go_simp
        with_reducible rfl
      rotate_left
      · simp only [Act.put, List.setIfInBounds_toArray, List.set_cons_zero, List.set_cons_succ, i64_w, i32_w]
        rfl
      refine pure_ (i := 11) (N := some 16) (v := undef) (a' := ?_) #[true, true, true, true, true, true, true, true, true, true, true, true, false, false] rfl rfl (by kernel_rfl) (fun _ _ _ h => h) (Or.inr ⟨by rfl, rfl⟩) ?_ ?_
      rotate_left
      · simp only [Act.put, List.setIfInBounds_toArray, List.set_cons_zero, List.set_cons_succ, i64_w, i32_w]
        rfl
      refine pure_ (i := 12) (N := some 17) (v := undef) (a' := ?_) #[true, true, true, true, true, true, true, true, true, true, true, true, true, false] rfl rfl (by kernel_rfl) (fun _ _ _ h => h) (Or.inr ⟨by rfl, rfl⟩) ?_ ?_
      rotate_left
      · simp only [Act.put, List.setIfInBounds_toArray, List.set_cons_zero, List.set_cons_succ, i64_w, i32_w]
        rfl
      refine pure_ (i := 13) (N := some 18) (v := ?_) (a' := ?_) #[true, true, true, true, true, true, true, true, true, true, true, true, true, true] rfl rfl (by kernel_rfl) (fun _ _ _ h => h) (Or.inl ⟨by rfl, ?_⟩) ?_ ?_
      rotate_left
      · intro w'
        go_simp
        with_reducible rfl
      rotate_left
      · simp only [Act.put, List.setIfInBounds_toArray, List.set_cons_zero, List.set_cons_succ, i64_w, i32_w]
        rfl
      refine done_ (by kernel_rfl) ?_
      clear c0 c1 c2 c3 c4 f1 f2 hbb
      clear HQ
      have HQ := hHeld.2.2
      clear hHeld
      generalize wr.drew = wa at HQ ⊢

      obtain ⟨-, hbb, ⟨ov, hb, -⟩, -⟩ := HQ.out
      have c0 := (kcl hb 0).trans (show _ = some (.string t) from rfl)
      have c1 := (kcl hb 1).trans (show _ = some (.int .i64 ((n : Int) + 1)) from rfl)
      have c2 := (kcl hb 2).trans (show _ = some (.int .i64 2) from rfl)
      have c3 := (kcl hb 3).trans (show _ = some (.slice (some ⟨g, 0, none⟩) 1 1) from rfl)
      have c4 := (kcl hb 4).trans (show _ = some (.slice none 0 0) from rfl)
      have f1 := kfz hb 1
      have f2 := kfz hb 2
      clear hb

      go_wp2_with (first | (go_at_call 32; refine (fine_w w0 b g t _ _ _ _ HQ.out).mono ?_; rintro e w5 ⟨rfl, rfl⟩))
      go_loopw [195] (fun u wx => u = .int .i64 0 ∧ Aside0 (∃ at_ line : Int, Lq w0 b g t at_ line [(3, s, 1), (6, ⟨#[]⟩, 1)] wx)) (fun _ _ => 0)
      case atStart => exact ⟨rfl, ⟨_, _, HQ.out⟩⟩
      case round =>
        obtain ⟨rfl, HZ⟩ := hrel
        go_wp2_with fail
        go_end0
        exact ⟨rfl, HZ.out⟩
end Go.Proofs.Ytdlnhjcdifnnkaa.PR
namespace Go.Proofs.Ytdlnhjcdifnnkaa.PR
set_option linter.unusedVariables false
set_option linter.unusedSimpArgs false
open Go.Proofs.Ytdlnhjcdifnnkaa.B (digB letB intB isLetter_ok isDigit_ok intOk_ok)
open Go.RowKit Go.Proofs.YtdlnhjcdifnnkaaW.PrintWords Go.Proofs.YtdlnhjcdifnnkaaW.PrintLast Go.Proofs.YtdlnhjcdifnnkaaW.PrintMore
set_option linter.unusedVariables false
set_option linter.unusedSimpArgs false
theorem sib_same {c : Array Value} {k : Nat} {u : Value} (h : c[k]? = some u) : c.setIfInBounds k u = c := by
  apply Array.ext_getElem?
  intro i
  rw [Array.getElem?_setIfInBounds]
  split
  next e => subst e; rw [h]; obtain ⟨h3, h4⟩ := Array.getElem?_eq_some_iff.1 h; simp [h3]
  · rfl
theorem setCell_same {w : World} {a : Addr} {u : Value} (h : w.cell? a = some u) : w.setCell a u = w := by
  have hh : (w.setCell a u).heap = w.heap := by
    apply Array.ext_getElem?
    intro i
    by_cases hi : i = a.block
    · subst hi
      unfold World.cell? at h
      split at h
      next c t fr hb =>
        split at h
        · cases h
        next hs =>
          simp only [World.setCell, Array.getElem?_modify, hb, if_true, Option.map_some, hs, if_false, Bool.false_eq_true]
          rw [sib_same h]
      next => cases h
    · exact Below.heap_setCell w a u i hi
  show { w with heap := (w.setCell a u).heap } = w
  rw [hh]
structure Tk (g : Nat) (s : ByteArray) (w : World) : Prop where
  a0 : w.cell? ⟨g, 0, none⟩ = some (.int .i64 3)
  a1 : w.cell? ⟨g, 1, none⟩ = some (.string s)
  a2 : w.cell? ⟨g, 2, none⟩ = some (.int .i64 1)
  b0 : w.cell? ⟨g, 3, none⟩ = some (.int .i64 6)
  b1 : w.cell? ⟨g, 4, none⟩ = some (.string ⟨#[]⟩)
  b2 : w.cell? ⟨g, 5, none⟩ = some (.int .i64 1)
theorem Tk.below {g : Nat} {s : ByteArray} {w w' : World} (h : Tk g s w) (hb : Below w.heap.size w w') : Tk g s w' :=
  ⟨B.cell_keep hb h.a0, B.cell_keep hb h.a1, B.cell_keep hb h.a2, B.cell_keep hb h.b0, B.cell_keep hb h.b1, B.cell_keep hb h.b2⟩
theorem tk_own {w : World} {base : Nat} {v : Value} {s : ByteArray} (h : w.ownsRow base 45 3 v 2 (toksC [(3, s, 1), (6, ⟨#[]⟩, 1)])) : ∃ g c, v = .slice (some ⟨g, 0, none⟩) 2 c ∧ 2 ≤ c ∧ Tk g s w := by
  have hf := World.ownsRowF_of h
  rcases h.2 with ⟨_, h0⟩ | ⟨g, cap, cur, rfl, _, _, hc, _⟩
  · omega
  · have hc' := fun j u (hj : (toksC [(3, s, 1), (6, ⟨#[]⟩, 1)])[j]? = some u) => hf.cells (g := g) rfl j u hj
    refine ⟨g, cap, rfl, hc, ?_, ?_, ?_, ?_, ?_, ?_⟩
    · have := hc' 0 _ rfl; rwa [add_plain] at this
    · have := hc' 1 _ rfl; rwa [add_plain] at this
    · have := hc' 2 _ rfl; rwa [add_plain] at this
    · have := hc' 3 _ rfl; rwa [add_plain] at this
    · have := hc' 4 _ rfl; rwa [add_plain] at this
    · have := hc' 5 _ rfl; rwa [add_plain] at this
set_option maxRecDepth 100000 in
set_option maxHeartbeats 1000000 in
theorem lex_w (t s : ByteArray) (n : Nat) (hD : Dt t s n) (hend : n = t.size ∨ t.size = n + 1) (w : World) :
    Calls Try.prog 17 #[.string t] w fun e w' => ∃ g c, e = .returned (.tuple #[.slice (some ⟨g, 0, none⟩) 2 c, .agg #[.int .i64 0, .int .i64 0]]) ∧ 2 ≤ c ∧ Tk g s w' ∧ Below w.heap.size w w' := by
  have hts := hD.hs
  have HD := Aside0.mk hD
  have HE := Aside0.mk hend
  clear hD hend
  obtain ⟨W0, hW0⟩ : ∃ W0 : World, W0 = w.alloc (.cells #[.int .i64 0, .int .i64 0] 39) := ⟨_, rfl⟩
  obtain ⟨W, hW⟩ : ∃ W : World, W = (W0.alloc (.cells #[.int .i64 0] 3)).alloc (.cells #[.string t, .int .i64 0, .int .i64 1, .slice (some ⟨W0.heap.size, 0, none⟩) 1 1, .slice none 0 0, .slice none 0 0, .int .i64 0, .int .i64 0] 62) := ⟨_, rfl⟩
  have hz : W0.heap[w.heap.size]? = some (.cells #[.int .i64 0, .int .i64 0] 39 (0, 0)) := by rw [hW0]; exact blk_new _ _
  have hs0 : W0.heap.size = w.heap.size + 1 := by rw [hW0]; simp
  have HB0 := Aside0.mk (show Below w.heap.size w W0 by rw [hW0]; exact bla (Below.refl _ _) _)
  have HQ := Aside0.mk (show Lq W0 (W0.heap.size + 1) W0.heap.size t 0 1 [] W by
    rw [hW]
    have e1 := blk_new (W0.alloc (.cells #[.int .i64 0] 3)) (.cells #[.string t, .int .i64 0, .int .i64 1, .slice (some ⟨W0.heap.size, 0, none⟩) 1 1, .slice none 0 0, .slice none 0 0, .int .i64 0, .int .i64 0] 62)
    rw [World.size_alloc] at e1
    exact ⟨bla (bla (Below.refl _ _) _) _, by omega, ⟨_, e1, own_nil _ _ _ _⟩, kla (blk_new _ _) _⟩)
  go_enter Try.func17, Try.ntmps17
  go_upto_region 4 with (fail)
  rw [hs0] at hW HQ
  rw [← hW0, ← hW]
  have hblt := hs0
  clear hW hW0
  obtain ⟨b, hb⟩ : ∃ b, b = w.heap.size + 1 + 1 := ⟨_, rfl⟩
  obtain ⟨g, hg⟩ : ∃ g, g = w.heap.size + 1 := ⟨_, rfl⟩
  rw [← hb]
  rw [← hb, ← hg] at HQ
  clear hb hg hs0 hblt
  go_upto_region 5 with (first | (go_at_call 31; refine (run_w W0 b g t s n HD.out HE.out _ HQ.out).mono ?_; rintro e w5 ⟨rfl, at_, line, hq⟩; replace HQ := Aside0.mk hq; clear hq))
  have HZ := Aside0.mk (kbw hz HQ.out.bl)
  clear hz
  obtain ⟨-, -, ⟨ov, hbb, hown⟩, -⟩ := HQ.out
  obtain ⟨g5, c5, rfl, hc5, htk⟩ := tk_own hown
  have HTK := Aside0.mk htk
  have c5c := (kcl hbb 5).trans (show _ = some (.slice (some ⟨g5, 0, none⟩) 2 c5) from rfl)
  have r0 := (kcl HZ.out 0).trans (show _ = some (.int .i64 0) from rfl)
  have r1 := (kcl HZ.out 1).trans (show _ = some (.int .i64 0) from rfl)
  have fr0 := kfz HZ.out 0
  have fr1 := kfz HZ.out 1
  clear hbb hown htk
  go_wp2_with (first | (go_at_call 32; refine (fine_w W0 b g t _ _ _ _ HQ.out).mono ?_; rintro e w6 ⟨rfl, rfl⟩))
  rw [setCell_same r0, setCell_same r1]
  refine bodyPost_ret (results_tc rfl _ w6 w.heap.size 39 #[.int .i64 0, .int .i64 0] (0, 0) _ rfl HZ.out Try.underlying39 rfl (by kernel_rfl)) rfl ?_
  exact ⟨g5, c5, rfl, hc5, HTK.out, bst HB0.out HQ.out.bl⟩
end Go.Proofs.Ytdlnhjcdifnnkaa.PR
namespace Go.Proofs.Ytdlnhjcdifnnkaa.PR
set_option linter.unusedVariables false
set_option linter.unusedSimpArgs false
open Go.RowKit Go.Proofs.YtdlnhjcdifnnkaaW.PrintWords Go.Proofs.YtdlnhjcdifnnkaaW.PrintLast Go.Proofs.YtdlnhjcdifnnkaaW.PrintMore
set_option linter.unusedVariables false
set_option linter.unusedSimpArgs false
structure Rq (w0 : World) (b g c : Nat) (s : ByteArray) (p : Nat) (w : World) : Prop where
  bl : Below w0.heap.size w0 w
  hb : w0.heap.size ≤ b
  blk : w.heap[b]? = some (.cells #[.slice (some ⟨g, 0, none⟩) 2 c, .int .i64 (p : Int), .bool false] 66 (0, 0))
  tk : Tk g s w
  gb : g < w0.heap.size
theorem Rq.below {w0 : World} {b g c : Nat} {s : ByteArray} {p : Nat} {w w' : World} (h : Rq w0 b g c s p w) (hb : Below w.heap.size w w') : Rq w0 b g c s p w' := ⟨bst h.bl hb, h.hb, kbw h.blk hb, h.tk.below hb, h.gb⟩
theorem Rq.next {w0 : World} {b g c : Nat} {s : ByteArray} {p : Nat} {w : World} (h : Rq w0 b g c s p w) (q : Nat) : Rq w0 b g c s q (w.setCell ⟨b, 1, none⟩ (.int .i64 (q : Int))) := by
  have hgb : g ≠ b := by have := h.gb; have := h.hb; omega
  have far : ∀ i u, w.cell? ⟨g, i, none⟩ = some u → (w.setCell ⟨b, 1, none⟩ (.int .i64 (q : Int))).cell? ⟨g, i, none⟩ = some u := by
    intro i u hu
    have hk : (w.setCell ⟨b, 1, none⟩ (.int .i64 (q : Int))).heap[g]? = w.heap[g]? := Below.heap_setCell _ _ _ _ (fun e => hgb e)
    unfold World.cell? at hu ⊢
    rw [hk]
    exact hu
  exact ⟨h.bl.setCell (p := ⟨b, 1, none⟩) h.hb _, h.hb, blk_set h.blk 1 _, ⟨far _ _ h.tk.a0, far _ _ h.tk.a1, far _ _ h.tk.a2, far _ _ h.tk.b0, far _ _ h.tk.b1, far _ _ h.tk.b2⟩, h.gb⟩
def tkK (p : Nat) : Int := if p = 0 then 3 else 6
def tkX (p : Nat) (s : ByteArray) : ByteArray := if p = 0 then s else ⟨#[]⟩
set_option maxRecDepth 100000 in
set_option maxHeartbeats 1000000 in
theorem peek_w (w0 : World) (b g c : Nat) (s : ByteArray) (p : Nat) (hp : p ≤ 1) (w : World) (h : Rq w0 b g c s p w) :
    Calls Try.prog 61 #[.pointer (some ⟨b, 0, none⟩)] w fun e w' => e = .returned (.agg #[.int .i64 (tkK p), .string (tkX p s), .int .i64 1]) ∧ Below w.heap.size w w' := by
  obtain ⟨W, hW⟩ : ∃ W : World, W = w.alloc (.cells #[.int .i64 0, .string ⟨#[]⟩, .int .i64 0] 45) := ⟨_, rfl⟩
  have hB : Below w.heap.size w W := by rw [hW]; exact bla (Below.refl _ _) _
  have hz : W.heap[w.heap.size]? = some (.cells #[.int .i64 0, .string ⟨#[]⟩, .int .i64 0] 45 (0, 0)) := by rw [hW]; exact blk_new _ _
  have h' := h.below hB
  have c0 := (kcl h'.blk 0).trans (show _ = some (.slice (some ⟨g, 0, none⟩) 2 c) from rfl)
  have c1 := (kcl h'.blk 1).trans (show _ = some (.int .i64 (p : Int)) from rfl)
  obtain ⟨a0, a1, a2, b0, b1, b2⟩ := h'.tk
  have f0 := kfz hz 0
  have f1 := kfz hz 1
  have f2 := kfz hz 2
  have z0 := (kcl hz 0).trans (show _ = some (.int .i64 0) from rfl)
  have z1 := (kcl hz 1).trans (show _ = some (.string ⟨#[]⟩) from rfl)
  have z2 := (kcl hz 2).trans (show _ = some (.int .i64 0) from rfl)
  have HB := Aside0.mk hB
  have HZ := Aside0.mk hz
  have HW := Lib.hid hW
  clear h h' hW hB hz
  have fin : ∀ (K : Int) (X : ByteArray) (tmps : Array Value), tmps.getD 2 undef = .pointer (some ⟨w.heap.size, 0, none⟩) →
      (results Try.f61 tmps).run Try.prog ((((W.setCell ⟨w.heap.size, 0, none⟩ (.int .i64 K)).setCell ⟨w.heap.size, 1, none⟩ (.string X)).setCell ⟨w.heap.size, 2, none⟩ (.int .i64 1)).drew.drew) = .ok (.agg #[.int .i64 K, .string X, .int .i64 1]) ((((W.setCell ⟨w.heap.size, 0, none⟩ (.int .i64 K)).setCell ⟨w.heap.size, 1, none⟩ (.string X)).setCell ⟨w.heap.size, 2, none⟩ (.int .i64 1)).drew.drew) := by
    intro K X tmps ht
    have h3 := blk_set (blk_set (blk_set HZ.out 0 (.int .i64 K)) 1 (.string X)) 2 (.int .i64 1)
    exact B.res_c rfl tmps _ w.heap.size 45 #[.int .i64 K, .string X, .int .i64 1] (0, 0) _ ht h3 Try.underlying45 rfl (by kernel_rfl)
  have bel : ∀ (K : Int) (X : ByteArray), Below w.heap.size w ((((W.setCell ⟨w.heap.size, 0, none⟩ (.int .i64 K)).setCell ⟨w.heap.size, 1, none⟩ (.string X)).setCell ⟨w.heap.size, 2, none⟩ (.int .i64 1)).drew.drew) := fun K X =>
    below_drew (below_drew (((HB.out.setCell (p := ⟨w.heap.size, 0, none⟩) (Nat.le_refl _) _).setCell (p := ⟨w.heap.size, 1, none⟩) (Nat.le_refl _) _).setCell (p := ⟨w.heap.size, 2, none⟩) (Nat.le_refl _) _))
  have FIN := Aside0.mk fin
  have BEL := Aside0.mk bel
  clear fin bel
  obtain rfl | rfl : p = 0 ∨ p = 1 := by omega
  all_goals
    go_enter Try.func61, Try.ntmps61
    go_upto_region 1 with (fail)
    rw [← HW.out]
    go_wp2_with fail
    go_region
    go_wp2_with fail
    go_region
    go_wp2_with fail
    exact bodyPost_ret (FIN.out _ _ _ rfl) rfl ⟨rfl, BEL.out _ _⟩
theorem tkK_not (p : Nat) : (tkK p == 5) = false ∧ (tkK p == 2) = false := by
  unfold tkK
  split <;> exact ⟨rfl, rfl⟩
set_option maxRecDepth 100000 in
set_option maxHeartbeats 1000000 in
theorem is_w (w0 : World) (b g c : Nat) (s : ByteArray) (p : Nat) (hp : p ≤ 1) (x : ByteArray) (w : World) (h : Rq w0 b g c s p w) :
    Calls Try.prog 92 #[.pointer (some ⟨b, 0, none⟩), .string x] w fun e w' => e = .returned (.bool false) ∧ Below w.heap.size w w' := by
  obtain ⟨n1, n2⟩ := tkK_not p
  have HP := Aside0.mk (peek_w w0 b g c s p hp w h)
  have HQ := Aside0.mk h
  clear h
  go_enter Try.func92, Try.ntmps92
  go_wp2_with (first | (go_at_call 61; refine HP.out.mono ?_; rintro e w1 ⟨rfl, hB⟩; have HB := Aside0.mk hB; have c2 := (kcl (HQ.out.below hB).blk 2).trans (show _ = some (.bool false) from rfl); have hlt := blk_lt (HQ.out.below hB).blk; clear hB))
  go_ret
  exact ⟨rfl, bla HB.out _⟩
set_option maxRecDepth 100000 in
set_option maxHeartbeats 1000000 in
theorem take_w (w0 : World) (b g c : Nat) (s : ByteArray) (p : Nat) (hp : p ≤ 1) (x : ByteArray) (w : World) (h : Rq w0 b g c s p w) :
    Calls Try.prog 57 #[.pointer (some ⟨b, 0, none⟩), .string x] w fun e w' => e = .returned (.bool false) ∧ Below w.heap.size w w' := by
  have HP := Aside0.mk (is_w w0 b g c s p hp x w h)
  clear h
  go_enter Try.func57, Try.ntmps57
  go_wp2_with (first | (go_at_call 92; refine HP.out.mono ?_; rintro e w1 ⟨rfl, hB⟩; have HB := Aside0.mk hB; clear hB))
  go_ret
  exact ⟨rfl, HB.out⟩
end Go.Proofs.Ytdlnhjcdifnnkaa.PR
namespace Go.Proofs.Ytdlnhjcdifnnkaa.PR
set_option linter.unusedVariables false
set_option linter.unusedSimpArgs false
open Go.RowKit Go.Proofs.YtdlnhjcdifnnkaaW.PrintWords Go.Proofs.YtdlnhjcdifnnkaaW.PrintLast Go.Proofs.YtdlnhjcdifnnkaaW.PrintMore
set_option linter.unusedVariables false
set_option linter.unusedSimpArgs false
theorem rs_of {w : World} {A : Option Addr} {n : Nat} {xs : List ByteArray} (h : Kd.C Kd.string w A n xs) (hl : xs.length ≤ 1000) : B.RS w A xs := by
  have hn : xs.length = n := h.1
  refine ⟨by omega, fun h0 => ?_⟩
  obtain ⟨ad, c, e, _⟩ := Kd.C_get h (⟨#[]⟩ : ByteArray) 0 (by omega) (by omega)
  refine ⟨ad, e, fun i hi => ?_⟩
  obtain ⟨ad', c', e', _, hK, hc⟩ := Kd.C_get h (⟨#[]⟩ : ByteArray) (i : Int) (by omega) (by omega)
  rw [e] at e'
  injection e' with e'
  subst e'
  have hK' : c' = [.string (xs.getD (i : Int).toNat (⟨#[]⟩ : ByteArray))] := hK
  subst hK'
  have := hc 0 _ rfl
  rw [show (xs.getD (i : Int).toNat (⟨#[]⟩ : ByteArray)) = xs[i] by simp [List.getD_eq_getElem?_getD, hi]] at this
  simpa [show (Kd.string).sz = 1 from rfl] using this
theorem opLevel_ex (x : ByteArray) : ∃ r, impl_opLevel.f 5 x = some r := by
  simp only [impl_opLevel.f, impl_opLevel.j0, impl_opLevel.j1]
  repeat' split
  all_goals exact ⟨_, rfl⟩
def Kb (b : Nat) (w w' : World) : Prop := ∀ k o, w.heap[k]? = some o → k ≠ b → w'.heap[k]? = some o
theorem Kb.of {b : Nat} {w w' : World} (h : Below w.heap.size w w') : Kb b w w' := fun k o hk _ => kbw hk h
theorem Kb.trans {b : Nat} {w w' w'' : World} (h : Kb b w w') (h' : Kb b w' w'') : Kb b w w'' := fun k o hk hb => h' k o (h k o hk hb) hb
theorem Kb.set {b : Nat} {w w' : World} (h : Kb b w w') (i : Nat) (u : Value) : Kb b w (w'.setCell ⟨b, i, none⟩ u) := fun k o hk hb => (Below.heap_setCell w' ⟨b, i, none⟩ u k (fun e => hb e)).trans (h k o hk hb)
set_option maxRecDepth 100000 in
set_option maxHeartbeats 1000000 in
theorem kind2_w (w0 : World) (b g c : Nat) (s : ByteArray) (p : Nat) (hp : p ≤ 1) (K : Int) (hK : K = tkK p) (w : World) (h : Rq w0 b g c s p w) :
    Calls Try.prog 34 #[.pointer (some ⟨b, 0, none⟩), .int .i64 K] w fun e w' => e = .returned (.bool true) ∧ Rq w0 b g c s (p + 1) w' ∧ Kb b w w' := by
  subst hK
  have HP := Aside0.mk (peek_w w0 b g c s p hp w h)
  have HQ := Aside0.mk h
  have c2 := (kcl h.blk 2).trans (show _ = some (.bool false) from rfl)
  clear h
  have hfd : ∀ w : World, (Instr.field 45 (.agg #[.int .i64 (tkK p), .string (tkX p s), .int .i64 1]) 0).run Try.prog w = .ok (.int .i64 (tkK p)) w := fun _ => by kernel_rfl
  go_enter Try.func34, Try.ntmps34
  go_wp2_with (first | (go_at_call 61; refine HP.out.mono ?_; rintro e w1 ⟨rfl, hB⟩; replace HQ := Aside0.mk (HQ.out.below hB); have c1 := (kcl HQ.out.blk 1).trans (show _ = some (.int .i64 (p : Int)) from rfl); have f1 := kfz HQ.out.blk 1; have HKB := Aside0.mk (Kb.of (b := b) hB); clear hB))
  go_ret
  have hw : wrap64 ((p : Int) + 1) = ((p + 1 : Nat) : Int) := by unfold wrap64; omega
  refine ⟨rfl, ?_⟩
  first | rw [hw] | skip
  exact ⟨HQ.out.next (p + 1), HKB.out.set 1 _⟩
set_option maxRecDepth 100000 in
set_option maxHeartbeats 2000000 in
theorem op_w (w0 : World) (b g c : Nat) (s : ByteArray) (p : Nat) (hp : p ≤ 1) (L : Int) (w : World) (h : Rq w0 b g c s p w) :
    Calls Try.prog 59 #[.pointer (some ⟨b, 0, none⟩), .int .i64 L] w fun e w' => e = .returned (.string ⟨#[]⟩) ∧ Below w.heap.size w w' := by
  obtain ⟨xs, hxs, hx14⟩ : ∃ xs, impl_binaryOps.f = some xs ∧ xs.length = 14 := ⟨_, rfl, rfl⟩
  have HQ := Aside0.mk h
  clear h
  go_enter Try.func59, Try.ntmps59
  go_wp2_with (first | (go_at_call 73; refine (impl_binaryOps.calls xs _ hxs).mono ?_; rintro e w1 ⟨v0, rfl, hr, hB⟩; obtain ⟨g7, cap7, rfl, -⟩ := Kd.R_form hr (by omega); have HR := Aside0.mk (rs_of (Kd.R_reads' hr).2.2 (by omega)); have HB := Aside0.mk hB; clear hr hB))
  go_loopw [9] (fun u9 wr => ∃ k : Nat, u9 = .int .i64 k ∧ k ≤ 14 ∧ Aside0 (Below w1.heap.size w1 wr)) (fun u9 _ => 14 - (intOf u9).toNat)
  case atStart => exact ⟨0, rfl, Nat.zero_le _, ⟨Below.refl _ _⟩⟩
  case round =>
    obtain ⟨k, rfl, hk, HW⟩ := hrel
    by_cases hkn : k < 14
    · have hkx : k < xs.length := by omega
      obtain ⟨ad, had, hcells⟩ := HR.out.2 (by omega)
      injection had with had
      subst had
      have hck := B.cell_keep HW.out (hcells k hkx)
      rw [add_plain] at hck
      clear hcells
      obtain ⟨r, hr⟩ := opLevel_ex xs[k]
      have HRR := Aside0.mk hr
      have HQ2 := Aside0.mk ((HQ.out.below HB.out).below HW.out)
      have hk14 : (k : Int) < 14 := by omega
      clear hr
      by_cases hL : r = L
      · subst hL
        go_wp2_with (first | (go_at_call 83; refine (impl_opLevel.calls 5 _ r _ HRR.out).mono ?_; rintro e w3 ⟨rfl, hd⟩; have hB3 := hd.below; have HB3 := Aside0.mk (bth HW.out HW.out.size hB3); replace HQ2 := Aside0.mk (HQ2.out.below hB3); clear hB3 hd) | (go_at_call 57; refine (take_w w0 b g c s p hp _ _ HQ2.out).mono ?_; rintro e w4 ⟨rfl, hB4⟩; replace HB3 := Aside0.mk (bth HB3.out HB3.out.size hB4); clear hB4))
        go_roundw
        case rel => exact ⟨k + 1, by go_num, by omega, HB3⟩
        case measure => simp [intOf]; omega
      · have hL' : (r == L) = false := by simpa using hL
        clear hL
        go_wp2_with (first | (go_at_call 83; refine (impl_opLevel.calls 5 _ r _ HRR.out).mono ?_; rintro e w3 ⟨rfl, hd⟩; have hB3 := hd.below; have HB3 := Aside0.mk (bth HW.out HW.out.size hB3); clear hB3 hd))
        go_roundw
        case rel => exact ⟨k + 1, by go_num, by omega, HB3⟩
        case measure => simp [intOf]; omega
    · obtain rfl : k = 14 := by omega
      go_wp2_with fail
      go_ret
      exact ⟨rfl, bst HB.out HW.out⟩
def EV (s : ByteArray) : Value := .agg #[.int .i64 4, .string s, .slice none 0 0, .slice none 0 0]
def set4 (w : World) (R : Nat) (s : ByteArray) : World := (((w.setCell ⟨R, 0, none⟩ (.int .i64 4)).setCell ⟨R, 1, none⟩ (.string s)).setCell ⟨R, 2, none⟩ (.slice none 0 0)).setCell ⟨R, 3, none⟩ (.slice none 0 0)
theorem Rq.far {w0 : World} {b g c : Nat} {s : ByteArray} {p : Nat} {w : World} (h : Rq w0 b g c s p w) {R : Nat} (hR : w0.heap.size ≤ R) (hb : R ≠ b) (i : Nat) (u : Value) : Rq w0 b g c s p (w.setCell ⟨R, i, none⟩ u) := by
  have hgb : g ≠ R := by have := h.gb; omega
  have far : ∀ i' u', w.cell? ⟨g, i', none⟩ = some u' → (w.setCell ⟨R, i, none⟩ u).cell? ⟨g, i', none⟩ = some u' := by
    intro i' u' hu
    have hk : (w.setCell ⟨R, i, none⟩ u).heap[g]? = w.heap[g]? := Below.heap_setCell _ _ _ _ (fun e => hgb e)
    unfold World.cell? at hu ⊢
    rw [hk]
    exact hu
  exact ⟨h.bl.setCell (p := ⟨R, i, none⟩) hR _, h.hb, blk_far h.blk (p := ⟨R, i, none⟩) (fun e => hb e.symm) _, ⟨far _ _ h.tk.a0, far _ _ h.tk.a1, far _ _ h.tk.a2, far _ _ h.tk.b0, far _ _ h.tk.b1, far _ _ h.tk.b2⟩, h.gb⟩
theorem Rq.set4 {w0 : World} {b g c : Nat} {s : ByteArray} {p : Nat} {w : World} (h : Rq w0 b g c s p w) {R : Nat} (hR : w0.heap.size ≤ R) (hb : R ≠ b) (x : ByteArray) : Rq w0 b g c s p (set4 w R x) := (((h.far hR hb _ _).far hR hb _ _).far hR hb _ _).far hR hb _ _
theorem Kb.set4 {b : Nat} {w W : World} {R : Nat} (h : Kb b w W) (hR : w.heap.size ≤ R) (x : ByteArray) : Kb b w (set4 W R x) := by
  intro k o hk hb
  have hlt := blk_lt hk
  have e : ∀ (V : World) (i : Nat) (u : Value), (V.setCell ⟨R, i, none⟩ u).heap[k]? = V.heap[k]? := fun V i u => Below.heap_setCell V ⟨R, i, none⟩ u k (fun e => by have : R = k := e.symm; omega)
  unfold PR.set4
  rw [e, e, e, e]
  exact h k o hk hb
theorem fin26 (f : Func) (hres : f.results = #[.cell 2 26]) (tmps : Array Value) (w : World) (R : Nat) (x : ByteArray) (a0 a1 a2 a3 : Value) (hz : w.heap[R]? = some (.cells #[a0, a1, a2, a3] 26 (0, 0))) (ht : tmps.getD 2 undef = .pointer (some ⟨R, 0, none⟩)) :
    (results f tmps).run Try.prog (set4 w R x) = .ok (EV x) (set4 w R x) := by
  have h3 := blk_set (blk_set (blk_set (blk_set hz 0 (.int .i64 4)) 1 (.string x)) 2 (.slice none 0 0)) 3 (.slice none 0 0)
  exact B.res_c hres tmps _ R 26 #[.int .i64 4, .string x, .slice none 0 0, .slice none 0 0] (0, 0) _ ht h3 Try.underlying26 rfl (by kernel_rfl)
def EP (w0 : World) (b g c : Nat) (s : ByteArray) (w : World) (e : Ending) (w' : World) : Prop := e = .returned (EV s) ∧ Rq w0 b g c s 1 w' ∧ Kb b w w'
set_option maxRecDepth 100000 in
set_option maxHeartbeats 2000000 in
theorem atom_w (w0 : World) (b g c : Nat) (s : ByteArray) (w : World) (h : Rq w0 b g c s 0 w) :
    Calls Try.prog 94 #[.pointer (some ⟨b, 0, none⟩)] w (EP w0 b g c s w) := by
  obtain ⟨W, hW⟩ : ∃ W : World, W = w.alloc (.cells #[.int .i64 0, .string ⟨#[]⟩, .slice none 0 0, .slice none 0 0] 26) := ⟨_, rfl⟩
  have hB : Below w.heap.size w W := by rw [hW]; exact bla (Below.refl _ _) _
  have hz : W.heap[w.heap.size]? = some (.cells #[.int .i64 0, .string ⟨#[]⟩, .slice none 0 0, .slice none 0 0] 26 (0, 0)) := by rw [hW]; exact blk_new _ _
  have HQ := Aside0.mk (h.below hB)
  have HZ := Aside0.mk hz
  have HB := Aside0.mk hB
  have HW := Lib.hid hW
  have hR0 : w0.heap.size ≤ w.heap.size := h.bl.size
  have hbl : b < w.heap.size := blk_lt h.blk
  have hRb : w.heap.size ≠ b := by omega
  clear h hW hB hz
  go_enter Try.func94, Try.ntmps94
  go_upto_region 1 with (fail)
  rw [← HW.out]
  go_upto_region 2 with (first | (go_at_call 61; refine (peek_w w0 b g c s 0 (by decide) _ HQ.out).mono ?_; rintro e w1 ⟨rfl, hB1⟩; have HB1 := Aside0.mk hB1; clear hB1))
  obtain ⟨W2, hW2⟩ : ∃ W2 : World, W2 = w1.alloc (.cells #[.int .i64 (tkK 0), .string (tkX 0 s), .int .i64 1] 45) := ⟨_, rfl⟩
  have hB2 : Below w1.heap.size w1 W2 := by rw [hW2]; exact bla (Below.refl _ _) _
  have hT : W2.heap[w1.heap.size]? = some (.cells #[.int .i64 (tkK 0), .string (tkX 0 s), .int .i64 1] 45 (0, 0)) := by rw [hW2]; exact blk_new _ _
  rw [← hW2]
  replace HQ := Aside0.mk ((HQ.out.below HB1.out).below hB2)
  replace HZ := Aside0.mk (kbw (kbw HZ.out HB1.out) hB2)
  have HKB := Aside0.mk (Kb.of (b := b) (bth (bth HB.out HB.out.size HB1.out) (bth HB.out HB.out.size HB1.out).size hB2))
  have HT := Aside0.mk hT
  have hTb : w1.heap.size ≠ b := by have := HB1.out.size; have := HB.out.size; omega
  clear hW2 hB2 hT HB1 hbl
  go_wp2_with (first | (go_at_call 57; refine (take_w w0 b g c s 0 (by decide) _ _ HQ.out).mono ?_; rintro e w5 ⟨rfl, hB⟩; replace HQ := Aside0.mk (HQ.out.below hB); replace HZ := Aside0.mk (kbw HZ.out hB); replace HT := Aside0.mk (kbw HT.out hB); replace HKB := Aside0.mk (HKB.out.trans (Kb.of hB)); clear hB) | (go_at_call 34; refine (kind2_w w0 b g c s 0 (by decide) 3 rfl _ HQ.out).mono ?_; rintro e w6 ⟨rfl, hq, hk⟩; replace HQ := Aside0.mk hq; replace HZ := Aside0.mk (hk _ _ HZ.out hRb); replace HT := Aside0.mk (hk _ _ HT.out hTb); replace HKB := Aside0.mk (HKB.out.trans hk); have t1 := (kcl HT.out 1).trans (show _ = some (.string s) from rfl); have f0 := kfz HZ.out 0; have f1 := kfz HZ.out 1; have f2 := kfz HZ.out 2; have f3 := kfz HZ.out 3; have z0 := (kcl HZ.out 0).trans (show _ = some (.int .i64 0) from rfl); have z1 := (kcl HZ.out 1).trans (show _ = some (.string ⟨#[]⟩) from rfl); have z2 := (kcl HZ.out 2).trans (show _ = some (.slice none 0 0) from rfl); have z3 := (kcl HZ.out 3).trans (show _ = some (.slice none 0 0) from rfl); clear hq hk))
  exact bodyPost_ret (fin26 _ rfl _ w6 _ s _ _ _ _ HZ.out rfl) rfl ⟨rfl, HQ.out.set4 hR0 hRb s, HKB.out.set4 (Nat.le_refl _) s⟩
end Go.Proofs.Ytdlnhjcdifnnkaa.PR
namespace Go.Proofs.Ytdlnhjcdifnnkaa.PR
set_option linter.unusedVariables false
set_option linter.unusedSimpArgs false
open Go.RowKit Go.Proofs.YtdlnhjcdifnnkaaW.PrintWords Go.Proofs.YtdlnhjcdifnnkaaW.PrintLast Go.Proofs.YtdlnhjcdifnnkaaW.PrintMore
set_option linter.unusedVariables false
set_option linter.unusedSimpArgs false
theorem fin26p (f : Func) (p : Nat) (hres : f.results = #[.cell p 26]) (tmps : Array Value) (w : World) (R : Nat) (x : ByteArray) (a0 a1 a2 a3 : Value) (hz : w.heap[R]? = some (.cells #[a0, a1, a2, a3] 26 (0, 0))) (ht : tmps.getD p undef = .pointer (some ⟨R, 0, none⟩)) :
    (results f tmps).run Try.prog (set4 w R x) = .ok (EV x) (set4 w R x) := by
  have h3 := blk_set (blk_set (blk_set (blk_set hz 0 (.int .i64 4)) 1 (.string x)) 2 (.slice none 0 0)) 3 (.slice none 0 0)
  exact B.res_c hres tmps _ R 26 #[.int .i64 4, .string x, .slice none 0 0, .slice none 0 0] (0, 0) _ ht h3 Try.underlying26 rfl (by kernel_rfl)
theorem EP.open {w0 : World} {b g c : Nat} {s : ByteArray} {w w' : World} {e : Ending} (h : EP w0 b g c s w e w') : e = .returned (.agg #[.int .i64 4, .string s, .slice none 0 0, .slice none 0 0]) ∧ Rq w0 b g c s 1 w' ∧ Kb b w w' := h
structure Ez (w0 : World) (b g c : Nat) (s : ByteArray) (p : Nat) (w : World) (R : Nat) (X : World) : Prop where
  rq : Rq w0 b g c s p X
  z : X.heap[R]? = some (.cells #[.int .i64 0, .string ⟨#[]⟩, .slice none 0 0, .slice none 0 0] 26 (0, 0))
  k : Kb b w X
structure Ex (w0 : World) (b g c : Nat) (s : ByteArray) (p : Nat) (w : World) (R T : Nat) (X : World) : Prop where
  ez : Ez w0 b g c s p w R X
  t : X.heap[T]? = some (.cells #[.int .i64 4, .string s, .slice none 0 0, .slice none 0 0] 26 (0, 0))
theorem Ez.below {w0 : World} {b g c : Nat} {s : ByteArray} {p : Nat} {w : World} {R : Nat} {X Y : World} (h : Ez w0 b g c s p w R X) (hb : Below X.heap.size X Y) : Ez w0 b g c s p w R Y := ⟨h.rq.below hb, kbw h.z hb, h.k.trans (Kb.of hb)⟩
theorem Ex.below {w0 : World} {b g c : Nat} {s : ByteArray} {p : Nat} {w : World} {R T : Nat} {X Y : World} (h : Ex w0 b g c s p w R T X) (hb : Below X.heap.size X Y) : Ex w0 b g c s p w R T Y := ⟨h.ez.below hb, kbw h.t hb⟩
theorem Ez.ep {w0 : World} {b g c : Nat} {s : ByteArray} {p : Nat} {w : World} {R : Nat} {X Y : World} (h : Ez w0 b g c s p w R X) (hb : R ≠ b) (hq : Rq w0 b g c s 1 Y) (hk : Kb b X Y) : Ez w0 b g c s 1 w R Y := ⟨hq, hk _ _ h.z hb, h.k.trans hk⟩
theorem Ez.box {w0 : World} {b g c : Nat} {s : ByteArray} {p : Nat} {w : World} {R : Nat} {X : World} (h : Ez w0 b g c s p w R X) : Ex w0 b g c s p w R X.heap.size (X.alloc (.cells #[.int .i64 4, .string s, .slice none 0 0, .slice none 0 0] 26)) := ⟨h.below (bla (Below.refl _ _) _), blk_new _ _⟩
theorem Ez.end_ {w0 : World} {b g c : Nat} {s : ByteArray} {w : World} {R : Nat} {X : World} (h : Ez w0 b g c s 1 w R X) (hR : w0.heap.size ≤ R) (hb : R ≠ b) (hw : w.heap.size ≤ R) : EP w0 b g c s w (.returned (EV s)) (set4 X R s) := ⟨rfl, h.rq.set4 hR hb s, h.k.set4 hw s⟩
theorem ez_new {w0 : World} {b g c : Nat} {s : ByteArray} {p : Nat} {w : World} (h : Rq w0 b g c s p w) : Ez w0 b g c s p w w.heap.size (w.alloc (.cells #[.int .i64 0, .string ⟨#[]⟩, .slice none 0 0, .slice none 0 0] 26)) := ⟨h.below (bla (Below.refl _ _) _), blk_new _ _, Kb.of (bla (Below.refl _ _) _)⟩
set_option maxRecDepth 100000 in
set_option maxHeartbeats 2000000 in
theorem postfix_w (w0 : World) (b g c : Nat) (s : ByteArray) (w : World) (h : Rq w0 b g c s 0 w) :
    Calls Try.prog 60 #[.pointer (some ⟨b, 0, none⟩)] w (EP w0 b g c s w) := by
  obtain ⟨W, hW⟩ : ∃ W : World, W = w.alloc (.cells #[.int .i64 0, .string ⟨#[]⟩, .slice none 0 0, .slice none 0 0] 26) := ⟨_, rfl⟩
  have HZ := Aside0.mk (show Ez w0 b g c s 0 w w.heap.size W by rw [hW]; exact ez_new h)
  have HW := Lib.hid hW
  have hR0 : w0.heap.size ≤ w.heap.size := h.bl.size
  have hRb : w.heap.size ≠ b := by have := blk_lt h.blk; omega
  obtain ⟨R, hRR⟩ : ∃ R, R = w.heap.size := ⟨_, rfl⟩
  have HRR := Lib.hid hRR
  have hwR : w.heap.size ≤ R := by omega
  rw [← hRR] at HZ hR0 hRb
  clear h hW
  go_enter Try.func60, Try.ntmps60
  go_upto_region 1 with (fail)
  rw [← HW.out, ← hRR]
  clear hRR
  go_upto_region 2 with (first | (go_at_call 94; refine (atom_w w0 b g c s _ HZ.out.rq).mono ?_; rintro e w5 hep; obtain ⟨rfl, hq, hk⟩ := hep.open; replace HZ := Aside0.mk (HZ.out.ep hRb hq hk); clear hep hq hk))
  obtain ⟨T, hT⟩ : ∃ T, T = w5.heap.size := ⟨_, rfl⟩
  obtain ⟨W2, hW2⟩ : ∃ W2 : World, W2 = w5.alloc (.cells #[.int .i64 4, .string s, .slice none 0 0, .slice none 0 0] 26) := ⟨_, rfl⟩
  have HX := Aside0.mk (show Ex w0 b g c s 1 w R T W2 by rw [hW2, hT]; exact HZ.out.box)
  rw [← hW2, ← hT]
  clear hW2 hT HZ
  go_loopw [10] (fun u wr => Aside0 (Ex w0 b g c s 1 w R T wr)) (fun _ _ => 0)
  case atStart => exact HX
  case round =>
    clear HX
    have HX := hrel
    have c2 := (kcl HX.out.ez.rq.blk 2).trans (show _ = some (.bool false) from rfl)
    go_wp2_with (first | (go_at_call 57; refine (take_w w0 b g c s 1 (by decide) _ _ HX.out.ez.rq).mono ?_; rintro e w6 ⟨rfl, hB⟩; replace HX := Aside0.mk (HX.out.below hB); clear hB; have f0 := kfz HX.out.ez.z 0; have f1 := kfz HX.out.ez.z 1; have f2 := kfz HX.out.ez.z 2; have f3 := kfz HX.out.ez.z 3; have z0 := (kcl HX.out.ez.z 0).trans (show _ = some (.int .i64 0) from rfl); have z1 := (kcl HX.out.ez.z 1).trans (show _ = some (.string ⟨#[]⟩) from rfl); have z2 := (kcl HX.out.ez.z 2).trans (show _ = some (.slice none 0 0) from rfl); have z3 := (kcl HX.out.ez.z 3).trans (show _ = some (.slice none 0 0) from rfl); have t0 := (kcl HX.out.t 0).trans (show _ = some (.int .i64 4) from rfl); have t1 := (kcl HX.out.t 1).trans (show _ = some (.string s) from rfl); have t2 := (kcl HX.out.t 2).trans (show _ = some (.slice none 0 0) from rfl); have t3 := (kcl HX.out.t 3).trans (show _ = some (.slice none 0 0) from rfl)))
    exact bodyPost_ret (fin26p _ 2 rfl _ _ R s _ _ _ _ HX.out.ez.z rfl) rfl (HX.out.ez.end_ hR0 hRb hwR)
set_option maxRecDepth 100000 in
set_option maxHeartbeats 2000000 in
theorem expr10_w (w0 : World) (b g c : Nat) (s : ByteArray) (w : World) (h : Rq w0 b g c s 0 w) :
    Calls Try.prog 33 #[.pointer (some ⟨b, 0, none⟩), .int .i64 10] w (EP w0 b g c s w) := by
  obtain ⟨W, hW⟩ : ∃ W : World, W = w.alloc (.cells #[.int .i64 0, .string ⟨#[]⟩, .slice none 0 0, .slice none 0 0] 26) := ⟨_, rfl⟩
  have HZ := Aside0.mk (show Ez w0 b g c s 0 w w.heap.size W by rw [hW]; exact ez_new h)
  have HW := Lib.hid hW
  have hR0 : w0.heap.size ≤ w.heap.size := h.bl.size
  have hRb : w.heap.size ≠ b := by have := blk_lt h.blk; omega
  obtain ⟨R, hRR⟩ : ∃ R, R = w.heap.size := ⟨_, rfl⟩
  have HRR := Lib.hid hRR
  have hwR : w.heap.size ≤ R := by omega
  rw [← hRR] at HZ hR0 hRb
  clear h hW
  go_enter Try.func33, Try.ntmps33
  go_upto_region 1 with (fail)
  rw [← HW.out, ← hRR]
  clear hRR
  have c2 := (kcl HZ.out.rq.blk 2).trans (show _ = some (.bool false) from rfl)
  go_wp2_with (first | (go_at_call 57; refine (take_w w0 b g c s 0 (by decide) _ _ HZ.out.rq).mono ?_; rintro e w4 ⟨rfl, hB⟩; replace HZ := Aside0.mk (HZ.out.below hB); clear hB) | (go_at_call 60; refine (postfix_w w0 b g c s _ HZ.out.rq).mono ?_; rintro e w5 hep; obtain ⟨rfl, hq, hk⟩ := hep.open; replace HZ := Aside0.mk (HZ.out.ep hRb hq hk); clear hep hq hk; have f0 := kfz HZ.out.z 0; have f1 := kfz HZ.out.z 1; have f2 := kfz HZ.out.z 2; have f3 := kfz HZ.out.z 3; have z0 := (kcl HZ.out.z 0).trans (show _ = some (.int .i64 0) from rfl); have z1 := (kcl HZ.out.z 1).trans (show _ = some (.string ⟨#[]⟩) from rfl); have z2 := (kcl HZ.out.z 2).trans (show _ = some (.slice none 0 0) from rfl); have z3 := (kcl HZ.out.z 3).trans (show _ = some (.slice none 0 0) from rfl)))
  exact bodyPost_ret (fin26p _ 4 rfl _ _ R s _ _ _ _ HZ.out.z rfl) rfl (HZ.out.end_ hR0 hRb hwR)
set_option maxRecDepth 100000 in
set_option maxHeartbeats 2000000 in
theorem expr9_w (w0 : World) (b g c : Nat) (s : ByteArray) (hrec : ∀ w, Rq w0 b g c s 0 w → Calls Try.prog 33 #[.pointer (some ⟨b, 0, none⟩), .int .i64 10] w (EP w0 b g c s w)) (w : World) (h : Rq w0 b g c s 0 w) :
    Calls Try.prog 33 #[.pointer (some ⟨b, 0, none⟩), .int .i64 9] w (EP w0 b g c s w) := by
  obtain ⟨W, hW⟩ : ∃ W : World, W = w.alloc (.cells #[.int .i64 0, .string ⟨#[]⟩, .slice none 0 0, .slice none 0 0] 26) := ⟨_, rfl⟩
  have HZ := Aside0.mk (show Ez w0 b g c s 0 w w.heap.size W by rw [hW]; exact ez_new h)
  have HW := Lib.hid hW
  have hR0 : w0.heap.size ≤ w.heap.size := h.bl.size
  have hRb : w.heap.size ≠ b := by have := blk_lt h.blk; omega
  obtain ⟨R, hRR⟩ : ∃ R, R = w.heap.size := ⟨_, rfl⟩
  have HRR := Lib.hid hRR
  have hwR : w.heap.size ≤ R := by omega
  rw [← hRR] at HZ hR0 hRb
  clear h hW
  go_enter Try.func33, Try.ntmps33
  go_upto_region 1 with (fail)
  rw [← HW.out, ← hRR]
  clear hRR
  have c2 := (kcl HZ.out.rq.blk 2).trans (show _ = some (.bool false) from rfl)
  go_upto_region 44 with (first | (go_at_call 33; refine (hrec _ HZ.out.rq).mono ?_; rintro e w5 hep; obtain ⟨rfl, hq, hk⟩ := hep.open; replace HZ := Aside0.mk (HZ.out.ep hRb hq hk); clear hep hq hk))
  obtain ⟨T, hT⟩ : ∃ T, T = w5.heap.size := ⟨_, rfl⟩
  obtain ⟨W2, hW2⟩ : ∃ W2 : World, W2 = w5.alloc (.cells #[.int .i64 4, .string s, .slice none 0 0, .slice none 0 0] 26) := ⟨_, rfl⟩
  have HX := Aside0.mk (show Ex w0 b g c s 1 w R T W2 by rw [hW2, hT]; exact HZ.out.box)
  rw [← hW2, ← hT]
  clear hW2 hT HZ
  go_wp2_with (first | (go_at_call 57; refine (take_w w0 b g c s 1 (by decide) _ _ HX.out.ez.rq).mono ?_; rintro e w6 ⟨rfl, hB⟩; replace HX := Aside0.mk (HX.out.below hB); clear hB; have f0 := kfz HX.out.ez.z 0; have f1 := kfz HX.out.ez.z 1; have f2 := kfz HX.out.ez.z 2; have f3 := kfz HX.out.ez.z 3; have z0 := (kcl HX.out.ez.z 0).trans (show _ = some (.int .i64 0) from rfl); have z1 := (kcl HX.out.ez.z 1).trans (show _ = some (.string ⟨#[]⟩) from rfl); have z2 := (kcl HX.out.ez.z 2).trans (show _ = some (.slice none 0 0) from rfl); have z3 := (kcl HX.out.ez.z 3).trans (show _ = some (.slice none 0 0) from rfl); have t0 := (kcl HX.out.t 0).trans (show _ = some (.int .i64 4) from rfl); have t1 := (kcl HX.out.t 1).trans (show _ = some (.string s) from rfl); have t2 := (kcl HX.out.t 2).trans (show _ = some (.slice none 0 0) from rfl); have t3 := (kcl HX.out.t 3).trans (show _ = some (.slice none 0 0) from rfl)))
  exact bodyPost_ret (fin26p _ 4 rfl _ _ R s _ _ _ _ HX.out.ez.z rfl) rfl (HX.out.ez.end_ hR0 hRb hwR)
set_option maxRecDepth 100000 in
set_option maxHeartbeats 2000000 in
theorem expr8_w (w0 : World) (b g c : Nat) (s : ByteArray) (hrec : ∀ w, Rq w0 b g c s 0 w → Calls Try.prog 33 #[.pointer (some ⟨b, 0, none⟩), .int .i64 9] w (EP w0 b g c s w)) (w : World) (h : Rq w0 b g c s 0 w) :
    Calls Try.prog 33 #[.pointer (some ⟨b, 0, none⟩), .int .i64 8] w (EP w0 b g c s w) := by
  obtain ⟨W, hW⟩ : ∃ W : World, W = w.alloc (.cells #[.int .i64 0, .string ⟨#[]⟩, .slice none 0 0, .slice none 0 0] 26) := ⟨_, rfl⟩
  have HZ := Aside0.mk (show Ez w0 b g c s 0 w w.heap.size W by rw [hW]; exact ez_new h)
  have HW := Lib.hid hW
  have hR0 : w0.heap.size ≤ w.heap.size := h.bl.size
  have hRb : w.heap.size ≠ b := by have := blk_lt h.blk; omega
  obtain ⟨R, hRR⟩ : ∃ R, R = w.heap.size := ⟨_, rfl⟩
  have HRR := Lib.hid hRR
  have hwR : w.heap.size ≤ R := by omega
  rw [← hRR] at HZ hR0 hRb
  clear h hW
  go_enter Try.func33, Try.ntmps33
  go_upto_region 1 with (fail)
  rw [← HW.out, ← hRR]
  clear hRR
  have c2 := (kcl HZ.out.rq.blk 2).trans (show _ = some (.bool false) from rfl)
  go_wp2_with (first | (go_at_call 57; refine (take_w w0 b g c s 0 (by decide) _ _ HZ.out.rq).mono ?_; rintro e w4 ⟨rfl, hB⟩; replace HZ := Aside0.mk (HZ.out.below hB); clear hB) | (go_at_call 33; refine (hrec _ HZ.out.rq).mono ?_; rintro e w5 hep; obtain ⟨rfl, hq, hk⟩ := hep.open; replace HZ := Aside0.mk (HZ.out.ep hRb hq hk); clear hep hq hk; have f0 := kfz HZ.out.z 0; have f1 := kfz HZ.out.z 1; have f2 := kfz HZ.out.z 2; have f3 := kfz HZ.out.z 3; have z0 := (kcl HZ.out.z 0).trans (show _ = some (.int .i64 0) from rfl); have z1 := (kcl HZ.out.z 1).trans (show _ = some (.string ⟨#[]⟩) from rfl); have z2 := (kcl HZ.out.z 2).trans (show _ = some (.slice none 0 0) from rfl); have z3 := (kcl HZ.out.z 3).trans (show _ = some (.slice none 0 0) from rfl)))
  exact bodyPost_ret (fin26p _ 4 rfl _ _ R s _ _ _ _ HZ.out.z rfl) rfl (HZ.out.end_ hR0 hRb hwR)
set_option maxRecDepth 100000 in
set_option maxHeartbeats 2000000 in
theorem expr7_w (w0 : World) (b g c : Nat) (s : ByteArray) (hrec : ∀ w, Rq w0 b g c s 0 w → Calls Try.prog 33 #[.pointer (some ⟨b, 0, none⟩), .int .i64 8] w (EP w0 b g c s w)) (w : World) (h : Rq w0 b g c s 0 w) :
    Calls Try.prog 33 #[.pointer (some ⟨b, 0, none⟩), .int .i64 7] w (EP w0 b g c s w) := by
  obtain ⟨W, hW⟩ : ∃ W : World, W = w.alloc (.cells #[.int .i64 0, .string ⟨#[]⟩, .slice none 0 0, .slice none 0 0] 26) := ⟨_, rfl⟩
  have HZ := Aside0.mk (show Ez w0 b g c s 0 w w.heap.size W by rw [hW]; exact ez_new h)
  have HW := Lib.hid hW
  have hR0 : w0.heap.size ≤ w.heap.size := h.bl.size
  have hRb : w.heap.size ≠ b := by have := blk_lt h.blk; omega
  obtain ⟨R, hRR⟩ : ∃ R, R = w.heap.size := ⟨_, rfl⟩
  have HRR := Lib.hid hRR
  have hwR : w.heap.size ≤ R := by omega
  rw [← hRR] at HZ hR0 hRb
  clear h hW
  go_enter Try.func33, Try.ntmps33
  go_upto_region 1 with (fail)
  rw [← HW.out, ← hRR]
  clear hRR
  have c2 := (kcl HZ.out.rq.blk 2).trans (show _ = some (.bool false) from rfl)
  go_upto_region 33 with (first | (go_at_call 33; refine (hrec _ HZ.out.rq).mono ?_; rintro e w5 hep; obtain ⟨rfl, hq, hk⟩ := hep.open; replace HZ := Aside0.mk (HZ.out.ep hRb hq hk); clear hep hq hk))
  obtain ⟨T, hT⟩ : ∃ T, T = w5.heap.size := ⟨_, rfl⟩
  obtain ⟨W2, hW2⟩ : ∃ W2 : World, W2 = w5.alloc (.cells #[.int .i64 4, .string s, .slice none 0 0, .slice none 0 0] 26) := ⟨_, rfl⟩
  have HX := Aside0.mk (show Ex w0 b g c s 1 w R T W2 by rw [hW2, hT]; exact HZ.out.box)
  rw [← hW2, ← hT]
  clear hW2 hT HZ
  go_wp2_with (first | (go_at_call 59; refine (op_w w0 b g c s 1 (by decide) _ _ HX.out.ez.rq).mono ?_; rintro e w6 ⟨rfl, hB⟩; replace HX := Aside0.mk (HX.out.below hB); clear hB))
  go_loopw [12] (fun u wr => u = .string ⟨#[]⟩ ∧ Aside0 (Ex w0 b g c s 1 w R T wr)) (fun _ _ => 0)
  case atStart => exact ⟨rfl, HX⟩
  case round =>
    clear HX
    obtain ⟨rfl, HX⟩ := hrel
    have f0 := kfz HX.out.ez.z 0
    have f1 := kfz HX.out.ez.z 1
    have f2 := kfz HX.out.ez.z 2
    have f3 := kfz HX.out.ez.z 3
    have z0 := (kcl HX.out.ez.z 0).trans (show _ = some (.int .i64 0) from rfl)
    have z1 := (kcl HX.out.ez.z 1).trans (show _ = some (.string ⟨#[]⟩) from rfl)
    have z2 := (kcl HX.out.ez.z 2).trans (show _ = some (.slice none 0 0) from rfl)
    have z3 := (kcl HX.out.ez.z 3).trans (show _ = some (.slice none 0 0) from rfl)
    have t0 := (kcl HX.out.t 0).trans (show _ = some (.int .i64 4) from rfl)
    have t1 := (kcl HX.out.t 1).trans (show _ = some (.string s) from rfl)
    have t2 := (kcl HX.out.t 2).trans (show _ = some (.slice none 0 0) from rfl)
    have t3 := (kcl HX.out.t 3).trans (show _ = some (.slice none 0 0) from rfl)
    go_wp2_with fail
    exact bodyPost_ret (fin26p _ 4 rfl _ _ R s _ _ _ _ HX.out.ez.z rfl) rfl (HX.out.ez.end_ hR0 hRb hwR)
set_option maxRecDepth 100000 in
set_option maxHeartbeats 2000000 in
theorem expr6_w (w0 : World) (b g c : Nat) (s : ByteArray) (hrec : ∀ w, Rq w0 b g c s 0 w → Calls Try.prog 33 #[.pointer (some ⟨b, 0, none⟩), .int .i64 7] w (EP w0 b g c s w)) (w : World) (h : Rq w0 b g c s 0 w) :
    Calls Try.prog 33 #[.pointer (some ⟨b, 0, none⟩), .int .i64 6] w (EP w0 b g c s w) := by
  obtain ⟨W, hW⟩ : ∃ W : World, W = w.alloc (.cells #[.int .i64 0, .string ⟨#[]⟩, .slice none 0 0, .slice none 0 0] 26) := ⟨_, rfl⟩
  have HZ := Aside0.mk (show Ez w0 b g c s 0 w w.heap.size W by rw [hW]; exact ez_new h)
  have HW := Lib.hid hW
  have hR0 : w0.heap.size ≤ w.heap.size := h.bl.size
  have hRb : w.heap.size ≠ b := by have := blk_lt h.blk; omega
  obtain ⟨R, hRR⟩ : ∃ R, R = w.heap.size := ⟨_, rfl⟩
  have HRR := Lib.hid hRR
  have hwR : w.heap.size ≤ R := by omega
  rw [← hRR] at HZ hR0 hRb
  clear h hW
  go_enter Try.func33, Try.ntmps33
  go_upto_region 1 with (fail)
  rw [← HW.out, ← hRR]
  clear hRR
  have c2 := (kcl HZ.out.rq.blk 2).trans (show _ = some (.bool false) from rfl)
  go_upto_region 33 with (first | (go_at_call 33; refine (hrec _ HZ.out.rq).mono ?_; rintro e w5 hep; obtain ⟨rfl, hq, hk⟩ := hep.open; replace HZ := Aside0.mk (HZ.out.ep hRb hq hk); clear hep hq hk))
  obtain ⟨T, hT⟩ : ∃ T, T = w5.heap.size := ⟨_, rfl⟩
  obtain ⟨W2, hW2⟩ : ∃ W2 : World, W2 = w5.alloc (.cells #[.int .i64 4, .string s, .slice none 0 0, .slice none 0 0] 26) := ⟨_, rfl⟩
  have HX := Aside0.mk (show Ex w0 b g c s 1 w R T W2 by rw [hW2, hT]; exact HZ.out.box)
  rw [← hW2, ← hT]
  clear hW2 hT HZ
  go_wp2_with (first | (go_at_call 59; refine (op_w w0 b g c s 1 (by decide) _ _ HX.out.ez.rq).mono ?_; rintro e w6 ⟨rfl, hB⟩; replace HX := Aside0.mk (HX.out.below hB); clear hB))
  go_loopw [12] (fun u wr => u = .string ⟨#[]⟩ ∧ Aside0 (Ex w0 b g c s 1 w R T wr)) (fun _ _ => 0)
  case atStart => exact ⟨rfl, HX⟩
  case round =>
    clear HX
    obtain ⟨rfl, HX⟩ := hrel
    have f0 := kfz HX.out.ez.z 0
    have f1 := kfz HX.out.ez.z 1
    have f2 := kfz HX.out.ez.z 2
    have f3 := kfz HX.out.ez.z 3
    have z0 := (kcl HX.out.ez.z 0).trans (show _ = some (.int .i64 0) from rfl)
    have z1 := (kcl HX.out.ez.z 1).trans (show _ = some (.string ⟨#[]⟩) from rfl)
    have z2 := (kcl HX.out.ez.z 2).trans (show _ = some (.slice none 0 0) from rfl)
    have z3 := (kcl HX.out.ez.z 3).trans (show _ = some (.slice none 0 0) from rfl)
    have t0 := (kcl HX.out.t 0).trans (show _ = some (.int .i64 4) from rfl)
    have t1 := (kcl HX.out.t 1).trans (show _ = some (.string s) from rfl)
    have t2 := (kcl HX.out.t 2).trans (show _ = some (.slice none 0 0) from rfl)
    have t3 := (kcl HX.out.t 3).trans (show _ = some (.slice none 0 0) from rfl)
    go_wp2_with fail
    exact bodyPost_ret (fin26p _ 4 rfl _ _ R s _ _ _ _ HX.out.ez.z rfl) rfl (HX.out.ez.end_ hR0 hRb hwR)
set_option maxRecDepth 100000 in
set_option maxHeartbeats 2000000 in
theorem expr5_w (w0 : World) (b g c : Nat) (s : ByteArray) (hrec : ∀ w, Rq w0 b g c s 0 w → Calls Try.prog 33 #[.pointer (some ⟨b, 0, none⟩), .int .i64 6] w (EP w0 b g c s w)) (w : World) (h : Rq w0 b g c s 0 w) :
    Calls Try.prog 33 #[.pointer (some ⟨b, 0, none⟩), .int .i64 5] w (EP w0 b g c s w) := by
  obtain ⟨W, hW⟩ : ∃ W : World, W = w.alloc (.cells #[.int .i64 0, .string ⟨#[]⟩, .slice none 0 0, .slice none 0 0] 26) := ⟨_, rfl⟩
  have HZ := Aside0.mk (show Ez w0 b g c s 0 w w.heap.size W by rw [hW]; exact ez_new h)
  have HW := Lib.hid hW
  have hR0 : w0.heap.size ≤ w.heap.size := h.bl.size
  have hRb : w.heap.size ≠ b := by have := blk_lt h.blk; omega
  obtain ⟨R, hRR⟩ : ∃ R, R = w.heap.size := ⟨_, rfl⟩
  have HRR := Lib.hid hRR
  have hwR : w.heap.size ≤ R := by omega
  rw [← hRR] at HZ hR0 hRb
  clear h hW
  go_enter Try.func33, Try.ntmps33
  go_upto_region 1 with (fail)
  rw [← HW.out, ← hRR]
  clear hRR
  have c2 := (kcl HZ.out.rq.blk 2).trans (show _ = some (.bool false) from rfl)
  go_upto_region 26 with (first | (go_at_call 33; refine (hrec _ HZ.out.rq).mono ?_; rintro e w5 hep; obtain ⟨rfl, hq, hk⟩ := hep.open; replace HZ := Aside0.mk (HZ.out.ep hRb hq hk); clear hep hq hk))
  obtain ⟨T, hT⟩ : ∃ T, T = w5.heap.size := ⟨_, rfl⟩
  obtain ⟨W2, hW2⟩ : ∃ W2 : World, W2 = w5.alloc (.cells #[.int .i64 4, .string s, .slice none 0 0, .slice none 0 0] 26) := ⟨_, rfl⟩
  have HX := Aside0.mk (show Ex w0 b g c s 1 w R T W2 by rw [hW2, hT]; exact HZ.out.box)
  rw [← hW2, ← hT]
  clear hW2 hT HZ
  go_wp2_with (first | (go_at_call 59; refine (op_w w0 b g c s 1 (by decide) _ _ HX.out.ez.rq).mono ?_; rintro e w6 ⟨rfl, hB⟩; replace HX := Aside0.mk (HX.out.below hB); clear hB; have f0 := kfz HX.out.ez.z 0; have f1 := kfz HX.out.ez.z 1; have f2 := kfz HX.out.ez.z 2; have f3 := kfz HX.out.ez.z 3; have z0 := (kcl HX.out.ez.z 0).trans (show _ = some (.int .i64 0) from rfl); have z1 := (kcl HX.out.ez.z 1).trans (show _ = some (.string ⟨#[]⟩) from rfl); have z2 := (kcl HX.out.ez.z 2).trans (show _ = some (.slice none 0 0) from rfl); have z3 := (kcl HX.out.ez.z 3).trans (show _ = some (.slice none 0 0) from rfl); have t0 := (kcl HX.out.t 0).trans (show _ = some (.int .i64 4) from rfl); have t1 := (kcl HX.out.t 1).trans (show _ = some (.string s) from rfl); have t2 := (kcl HX.out.t 2).trans (show _ = some (.slice none 0 0) from rfl); have t3 := (kcl HX.out.t 3).trans (show _ = some (.slice none 0 0) from rfl)))
  exact bodyPost_ret (fin26p _ 4 rfl _ _ R s _ _ _ _ HX.out.ez.z rfl) rfl (HX.out.ez.end_ hR0 hRb hwR)
set_option maxRecDepth 100000 in
set_option maxHeartbeats 2000000 in
theorem expr4_w (w0 : World) (b g c : Nat) (s : ByteArray) (hrec : ∀ w, Rq w0 b g c s 0 w → Calls Try.prog 33 #[.pointer (some ⟨b, 0, none⟩), .int .i64 5] w (EP w0 b g c s w)) (w : World) (h : Rq w0 b g c s 0 w) :
    Calls Try.prog 33 #[.pointer (some ⟨b, 0, none⟩), .int .i64 4] w (EP w0 b g c s w) := by
  obtain ⟨W, hW⟩ : ∃ W : World, W = w.alloc (.cells #[.int .i64 0, .string ⟨#[]⟩, .slice none 0 0, .slice none 0 0] 26) := ⟨_, rfl⟩
  have HZ := Aside0.mk (show Ez w0 b g c s 0 w w.heap.size W by rw [hW]; exact ez_new h)
  have HW := Lib.hid hW
  have hR0 : w0.heap.size ≤ w.heap.size := h.bl.size
  have hRb : w.heap.size ≠ b := by have := blk_lt h.blk; omega
  obtain ⟨R, hRR⟩ : ∃ R, R = w.heap.size := ⟨_, rfl⟩
  have HRR := Lib.hid hRR
  have hwR : w.heap.size ≤ R := by omega
  rw [← hRR] at HZ hR0 hRb
  clear h hW
  go_enter Try.func33, Try.ntmps33
  go_upto_region 1 with (fail)
  rw [← HW.out, ← hRR]
  clear hRR
  have c2 := (kcl HZ.out.rq.blk 2).trans (show _ = some (.bool false) from rfl)
  go_wp2_with (first | (go_at_call 57; refine (take_w w0 b g c s 0 (by decide) _ _ HZ.out.rq).mono ?_; rintro e w4 ⟨rfl, hB⟩; replace HZ := Aside0.mk (HZ.out.below hB); clear hB) | (go_at_call 33; refine (hrec _ HZ.out.rq).mono ?_; rintro e w5 hep; obtain ⟨rfl, hq, hk⟩ := hep.open; replace HZ := Aside0.mk (HZ.out.ep hRb hq hk); clear hep hq hk; have f0 := kfz HZ.out.z 0; have f1 := kfz HZ.out.z 1; have f2 := kfz HZ.out.z 2; have f3 := kfz HZ.out.z 3; have z0 := (kcl HZ.out.z 0).trans (show _ = some (.int .i64 0) from rfl); have z1 := (kcl HZ.out.z 1).trans (show _ = some (.string ⟨#[]⟩) from rfl); have z2 := (kcl HZ.out.z 2).trans (show _ = some (.slice none 0 0) from rfl); have z3 := (kcl HZ.out.z 3).trans (show _ = some (.slice none 0 0) from rfl)))
  exact bodyPost_ret (fin26p _ 4 rfl _ _ R s _ _ _ _ HZ.out.z rfl) rfl (HZ.out.end_ hR0 hRb hwR)
set_option maxRecDepth 100000 in
set_option maxHeartbeats 2000000 in
theorem expr3_w (w0 : World) (b g c : Nat) (s : ByteArray) (hrec : ∀ w, Rq w0 b g c s 0 w → Calls Try.prog 33 #[.pointer (some ⟨b, 0, none⟩), .int .i64 4] w (EP w0 b g c s w)) (w : World) (h : Rq w0 b g c s 0 w) :
    Calls Try.prog 33 #[.pointer (some ⟨b, 0, none⟩), .int .i64 3] w (EP w0 b g c s w) := by
  obtain ⟨W, hW⟩ : ∃ W : World, W = w.alloc (.cells #[.int .i64 0, .string ⟨#[]⟩, .slice none 0 0, .slice none 0 0] 26) := ⟨_, rfl⟩
  have HZ := Aside0.mk (show Ez w0 b g c s 0 w w.heap.size W by rw [hW]; exact ez_new h)
  have HW := Lib.hid hW
  have hR0 : w0.heap.size ≤ w.heap.size := h.bl.size
  have hRb : w.heap.size ≠ b := by have := blk_lt h.blk; omega
  obtain ⟨R, hRR⟩ : ∃ R, R = w.heap.size := ⟨_, rfl⟩
  have HRR := Lib.hid hRR
  have hwR : w.heap.size ≤ R := by omega
  rw [← hRR] at HZ hR0 hRb
  clear h hW
  go_enter Try.func33, Try.ntmps33
  go_upto_region 1 with (fail)
  rw [← HW.out, ← hRR]
  clear hRR
  have c2 := (kcl HZ.out.rq.blk 2).trans (show _ = some (.bool false) from rfl)
  go_upto_region 16 with (fail)
  obtain ⟨W1, hW1⟩ : ∃ W1 : World, W1 = W.alloc (.cells #[.string ⟨#[111, 114]⟩, .string ⟨#[97, 110, 100]⟩] 9) := ⟨_, rfl⟩
  have hB1 : Below W.heap.size W W1 := by rw [hW1]; exact bla (Below.refl _ _) _
  rw [← hW1]
  clear hW1 c2
  replace HZ := Aside0.mk (HZ.out.below hB1)
  clear hB1
  go_upto_region 17 with (first | (go_at_call 33; refine (hrec _ HZ.out.rq).mono ?_; rintro e w5 hep; obtain ⟨rfl, hq, hk⟩ := hep.open; replace HZ := Aside0.mk (HZ.out.ep hRb hq hk); clear hep hq hk))
  obtain ⟨T, hT⟩ : ∃ T, T = w5.heap.size := ⟨_, rfl⟩
  obtain ⟨W2, hW2⟩ : ∃ W2 : World, W2 = w5.alloc (.cells #[.int .i64 4, .string s, .slice none 0 0, .slice none 0 0] 26) := ⟨_, rfl⟩
  have HX := Aside0.mk (show Ex w0 b g c s 1 w R T W2 by rw [hW2, hT]; exact HZ.out.box)
  rw [← hW2, ← hT]
  clear hW2 hT HZ
  go_loopw [56] (fun u wr => Aside0 (Ex w0 b g c s 1 w R T wr)) (fun _ _ => 0)
  case atStart => exact HX
  case round =>
    clear HX
    have HX := hrel
    go_wp2_with (first | (go_at_call 57; refine (take_w w0 b g c s 1 (by decide) _ _ HX.out.ez.rq).mono ?_; rintro e w6 ⟨rfl, hB⟩; replace HX := Aside0.mk (HX.out.below hB); clear hB; have f0 := kfz HX.out.ez.z 0; have f1 := kfz HX.out.ez.z 1; have f2 := kfz HX.out.ez.z 2; have f3 := kfz HX.out.ez.z 3; have z0 := (kcl HX.out.ez.z 0).trans (show _ = some (.int .i64 0) from rfl); have z1 := (kcl HX.out.ez.z 1).trans (show _ = some (.string ⟨#[]⟩) from rfl); have z2 := (kcl HX.out.ez.z 2).trans (show _ = some (.slice none 0 0) from rfl); have z3 := (kcl HX.out.ez.z 3).trans (show _ = some (.slice none 0 0) from rfl); have t0 := (kcl HX.out.t 0).trans (show _ = some (.int .i64 4) from rfl); have t1 := (kcl HX.out.t 1).trans (show _ = some (.string s) from rfl); have t2 := (kcl HX.out.t 2).trans (show _ = some (.slice none 0 0) from rfl); have t3 := (kcl HX.out.t 3).trans (show _ = some (.slice none 0 0) from rfl)))
    exact bodyPost_ret (fin26p _ 4 rfl _ _ R s _ _ _ _ HX.out.ez.z rfl) rfl (HX.out.ez.end_ hR0 hRb hwR)
set_option maxRecDepth 100000 in
set_option maxHeartbeats 2000000 in
theorem expr2_w (w0 : World) (b g c : Nat) (s : ByteArray) (hrec : ∀ w, Rq w0 b g c s 0 w → Calls Try.prog 33 #[.pointer (some ⟨b, 0, none⟩), .int .i64 3] w (EP w0 b g c s w)) (w : World) (h : Rq w0 b g c s 0 w) :
    Calls Try.prog 33 #[.pointer (some ⟨b, 0, none⟩), .int .i64 2] w (EP w0 b g c s w) := by
  obtain ⟨W, hW⟩ : ∃ W : World, W = w.alloc (.cells #[.int .i64 0, .string ⟨#[]⟩, .slice none 0 0, .slice none 0 0] 26) := ⟨_, rfl⟩
  have HZ := Aside0.mk (show Ez w0 b g c s 0 w w.heap.size W by rw [hW]; exact ez_new h)
  have HW := Lib.hid hW
  have hR0 : w0.heap.size ≤ w.heap.size := h.bl.size
  have hRb : w.heap.size ≠ b := by have := blk_lt h.blk; omega
  obtain ⟨R, hRR⟩ : ∃ R, R = w.heap.size := ⟨_, rfl⟩
  have HRR := Lib.hid hRR
  have hwR : w.heap.size ≤ R := by omega
  rw [← hRR] at HZ hR0 hRb
  clear h hW
  go_enter Try.func33, Try.ntmps33
  go_upto_region 1 with (fail)
  rw [← HW.out, ← hRR]
  clear hRR
  have c2 := (kcl HZ.out.rq.blk 2).trans (show _ = some (.bool false) from rfl)
  go_upto_region 16 with (fail)
  obtain ⟨W1, hW1⟩ : ∃ W1 : World, W1 = W.alloc (.cells #[.string ⟨#[111, 114]⟩, .string ⟨#[97, 110, 100]⟩] 9) := ⟨_, rfl⟩
  have hB1 : Below W.heap.size W W1 := by rw [hW1]; exact bla (Below.refl _ _) _
  rw [← hW1]
  clear hW1 c2
  replace HZ := Aside0.mk (HZ.out.below hB1)
  clear hB1
  go_upto_region 17 with (first | (go_at_call 33; refine (hrec _ HZ.out.rq).mono ?_; rintro e w5 hep; obtain ⟨rfl, hq, hk⟩ := hep.open; replace HZ := Aside0.mk (HZ.out.ep hRb hq hk); clear hep hq hk))
  obtain ⟨T, hT⟩ : ∃ T, T = w5.heap.size := ⟨_, rfl⟩
  obtain ⟨W2, hW2⟩ : ∃ W2 : World, W2 = w5.alloc (.cells #[.int .i64 4, .string s, .slice none 0 0, .slice none 0 0] 26) := ⟨_, rfl⟩
  have HX := Aside0.mk (show Ex w0 b g c s 1 w R T W2 by rw [hW2, hT]; exact HZ.out.box)
  rw [← hW2, ← hT]
  clear hW2 hT HZ
  go_loopw [56] (fun u wr => Aside0 (Ex w0 b g c s 1 w R T wr)) (fun _ _ => 0)
  case atStart => exact HX
  case round =>
    clear HX
    have HX := hrel
    go_wp2_with (first | (go_at_call 57; refine (take_w w0 b g c s 1 (by decide) _ _ HX.out.ez.rq).mono ?_; rintro e w6 ⟨rfl, hB⟩; replace HX := Aside0.mk (HX.out.below hB); clear hB; have f0 := kfz HX.out.ez.z 0; have f1 := kfz HX.out.ez.z 1; have f2 := kfz HX.out.ez.z 2; have f3 := kfz HX.out.ez.z 3; have z0 := (kcl HX.out.ez.z 0).trans (show _ = some (.int .i64 0) from rfl); have z1 := (kcl HX.out.ez.z 1).trans (show _ = some (.string ⟨#[]⟩) from rfl); have z2 := (kcl HX.out.ez.z 2).trans (show _ = some (.slice none 0 0) from rfl); have z3 := (kcl HX.out.ez.z 3).trans (show _ = some (.slice none 0 0) from rfl); have t0 := (kcl HX.out.t 0).trans (show _ = some (.int .i64 4) from rfl); have t1 := (kcl HX.out.t 1).trans (show _ = some (.string s) from rfl); have t2 := (kcl HX.out.t 2).trans (show _ = some (.slice none 0 0) from rfl); have t3 := (kcl HX.out.t 3).trans (show _ = some (.slice none 0 0) from rfl)))
    exact bodyPost_ret (fin26p _ 4 rfl _ _ R s _ _ _ _ HX.out.ez.z rfl) rfl (HX.out.ez.end_ hR0 hRb hwR)
set_option maxRecDepth 100000 in
set_option maxHeartbeats 2000000 in
theorem expr1_w (w0 : World) (b g c : Nat) (s : ByteArray) (hrec : ∀ w, Rq w0 b g c s 0 w → Calls Try.prog 33 #[.pointer (some ⟨b, 0, none⟩), .int .i64 2] w (EP w0 b g c s w)) (w : World) (h : Rq w0 b g c s 0 w) :
    Calls Try.prog 33 #[.pointer (some ⟨b, 0, none⟩), .int .i64 1] w (EP w0 b g c s w) := by
  obtain ⟨W, hW⟩ : ∃ W : World, W = w.alloc (.cells #[.int .i64 0, .string ⟨#[]⟩, .slice none 0 0, .slice none 0 0] 26) := ⟨_, rfl⟩
  have HZ := Aside0.mk (show Ez w0 b g c s 0 w w.heap.size W by rw [hW]; exact ez_new h)
  have HW := Lib.hid hW
  have hR0 : w0.heap.size ≤ w.heap.size := h.bl.size
  have hRb : w.heap.size ≠ b := by have := blk_lt h.blk; omega
  obtain ⟨R, hRR⟩ : ∃ R, R = w.heap.size := ⟨_, rfl⟩
  have HRR := Lib.hid hRR
  have hwR : w.heap.size ≤ R := by omega
  rw [← hRR] at HZ hR0 hRb
  clear h hW
  go_enter Try.func33, Try.ntmps33
  go_upto_region 1 with (fail)
  rw [← HW.out, ← hRR]
  clear hRR
  have c2 := (kcl HZ.out.rq.blk 2).trans (show _ = some (.bool false) from rfl)
  go_upto_region 8 with (first | (go_at_call 33; refine (hrec _ HZ.out.rq).mono ?_; rintro e w5 hep; obtain ⟨rfl, hq, hk⟩ := hep.open; replace HZ := Aside0.mk (HZ.out.ep hRb hq hk); clear hep hq hk))
  obtain ⟨T, hT⟩ : ∃ T, T = w5.heap.size := ⟨_, rfl⟩
  obtain ⟨W2, hW2⟩ : ∃ W2 : World, W2 = w5.alloc (.cells #[.int .i64 4, .string s, .slice none 0 0, .slice none 0 0] 26) := ⟨_, rfl⟩
  have HX := Aside0.mk (show Ex w0 b g c s 1 w R T W2 by rw [hW2, hT]; exact HZ.out.box)
  rw [← hW2, ← hT]
  clear hW2 hT HZ
  go_wp2_with (first | (go_at_call 57; refine (take_w w0 b g c s 1 (by decide) _ _ HX.out.ez.rq).mono ?_; rintro e w6 ⟨rfl, hB⟩; replace HX := Aside0.mk (HX.out.below hB); clear hB; have f0 := kfz HX.out.ez.z 0; have f1 := kfz HX.out.ez.z 1; have f2 := kfz HX.out.ez.z 2; have f3 := kfz HX.out.ez.z 3; have z0 := (kcl HX.out.ez.z 0).trans (show _ = some (.int .i64 0) from rfl); have z1 := (kcl HX.out.ez.z 1).trans (show _ = some (.string ⟨#[]⟩) from rfl); have z2 := (kcl HX.out.ez.z 2).trans (show _ = some (.slice none 0 0) from rfl); have z3 := (kcl HX.out.ez.z 3).trans (show _ = some (.slice none 0 0) from rfl); have t0 := (kcl HX.out.t 0).trans (show _ = some (.int .i64 4) from rfl); have t1 := (kcl HX.out.t 1).trans (show _ = some (.string s) from rfl); have t2 := (kcl HX.out.t 2).trans (show _ = some (.slice none 0 0) from rfl); have t3 := (kcl HX.out.t 3).trans (show _ = some (.slice none 0 0) from rfl)))
  exact bodyPost_ret (fin26p _ 4 rfl _ _ R s _ _ _ _ HX.out.ez.z rfl) rfl (HX.out.ez.end_ hR0 hRb hwR)
set_option maxRecDepth 100000 in
set_option maxHeartbeats 2000000 in
theorem loosest_w (w0 : World) (b g c : Nat) (s : ByteArray) (hrec : ∀ w, Rq w0 b g c s 0 w → Calls Try.prog 33 #[.pointer (some ⟨b, 0, none⟩), .int .i64 1] w (EP w0 b g c s w)) (w : World) (h : Rq w0 b g c s 0 w) :
    Calls Try.prog 56 #[.pointer (some ⟨b, 0, none⟩)] w (EP w0 b g c s w) := by
  obtain ⟨W, hW⟩ : ∃ W : World, W = w.alloc (.cells #[.int .i64 0, .string ⟨#[]⟩, .slice none 0 0, .slice none 0 0] 26) := ⟨_, rfl⟩
  have HZ := Aside0.mk (show Ez w0 b g c s 0 w w.heap.size W by rw [hW]; exact ez_new h)
  have HW := Lib.hid hW
  have hR0 : w0.heap.size ≤ w.heap.size := h.bl.size
  have hRb : w.heap.size ≠ b := by have := blk_lt h.blk; omega
  obtain ⟨R, hRR⟩ : ∃ R, R = w.heap.size := ⟨_, rfl⟩
  have HRR := Lib.hid hRR
  have hwR : w.heap.size ≤ R := by omega
  rw [← hRR] at HZ hR0 hRb
  clear h hW
  go_enter Try.func56, Try.ntmps56
  go_upto_region 1 with (fail)
  rw [← HW.out, ← hRR]
  clear hRR
  go_wp2_with (first | (go_at_call 57; refine (take_w w0 b g c s 0 (by decide) _ _ HZ.out.rq).mono ?_; rintro e w4 ⟨rfl, hB⟩; replace HZ := Aside0.mk (HZ.out.below hB); clear hB) | (go_at_call 33; refine (hrec _ HZ.out.rq).mono ?_; rintro e w5 hep; obtain ⟨rfl, hq, hk⟩ := hep.open; replace HZ := Aside0.mk (HZ.out.ep hRb hq hk); clear hep hq hk; have f0 := kfz HZ.out.z 0; have f1 := kfz HZ.out.z 1; have f2 := kfz HZ.out.z 2; have f3 := kfz HZ.out.z 3; have z0 := (kcl HZ.out.z 0).trans (show _ = some (.int .i64 0) from rfl); have z1 := (kcl HZ.out.z 1).trans (show _ = some (.string ⟨#[]⟩) from rfl); have z2 := (kcl HZ.out.z 2).trans (show _ = some (.slice none 0 0) from rfl); have z3 := (kcl HZ.out.z 3).trans (show _ = some (.slice none 0 0) from rfl)))
  exact bodyPost_ret (fin26p _ 2 rfl _ _ R s _ _ _ _ HZ.out.z rfl) rfl (HZ.out.end_ hR0 hRb hwR)
set_option maxRecDepth 100000 in
set_option maxHeartbeats 2000000 in
theorem expr0_w (w0 : World) (b g c : Nat) (s : ByteArray) (hrec : ∀ w, Rq w0 b g c s 0 w → Calls Try.prog 56 #[.pointer (some ⟨b, 0, none⟩)] w (EP w0 b g c s w)) (w : World) (h : Rq w0 b g c s 0 w) :
    Calls Try.prog 33 #[.pointer (some ⟨b, 0, none⟩), .int .i64 0] w (EP w0 b g c s w) := by
  obtain ⟨W, hW⟩ : ∃ W : World, W = w.alloc (.cells #[.int .i64 0, .string ⟨#[]⟩, .slice none 0 0, .slice none 0 0] 26) := ⟨_, rfl⟩
  have HZ := Aside0.mk (show Ez w0 b g c s 0 w w.heap.size W by rw [hW]; exact ez_new h)
  have HW := Lib.hid hW
  have hR0 : w0.heap.size ≤ w.heap.size := h.bl.size
  have hRb : w.heap.size ≠ b := by have := blk_lt h.blk; omega
  obtain ⟨R, hRR⟩ : ∃ R, R = w.heap.size := ⟨_, rfl⟩
  have HRR := Lib.hid hRR
  have hwR : w.heap.size ≤ R := by omega
  rw [← hRR] at HZ hR0 hRb
  clear h hW
  go_enter Try.func33, Try.ntmps33
  go_upto_region 1 with (fail)
  rw [← HW.out, ← hRR]
  clear hRR
  have c2 := (kcl HZ.out.rq.blk 2).trans (show _ = some (.bool false) from rfl)
  go_wp2_with (first | (go_at_call 57; refine (take_w w0 b g c s 0 (by decide) _ _ HZ.out.rq).mono ?_; rintro e w4 ⟨rfl, hB⟩; replace HZ := Aside0.mk (HZ.out.below hB); clear hB) | (go_at_call 56; refine (hrec _ HZ.out.rq).mono ?_; rintro e w5 hep; obtain ⟨rfl, hq, hk⟩ := hep.open; replace HZ := Aside0.mk (HZ.out.ep hRb hq hk); clear hep hq hk; have f0 := kfz HZ.out.z 0; have f1 := kfz HZ.out.z 1; have f2 := kfz HZ.out.z 2; have f3 := kfz HZ.out.z 3; have z0 := (kcl HZ.out.z 0).trans (show _ = some (.int .i64 0) from rfl); have z1 := (kcl HZ.out.z 1).trans (show _ = some (.string ⟨#[]⟩) from rfl); have z2 := (kcl HZ.out.z 2).trans (show _ = some (.slice none 0 0) from rfl); have z3 := (kcl HZ.out.z 3).trans (show _ = some (.slice none 0 0) from rfl)))
  exact bodyPost_ret (fin26p _ 4 rfl _ _ R s _ _ _ _ HZ.out.z rfl) rfl (HZ.out.end_ hR0 hRb hwR)
theorem expr_w (w0 : World) (b g c : Nat) (s : ByteArray) (w : World) (h : Rq w0 b g c s 0 w) :
    Calls Try.prog 33 #[.pointer (some ⟨b, 0, none⟩), .int .i64 0] w (EP w0 b g c s w) := by
  have e10 := expr10_w w0 b g c s
  have e9 := expr9_w w0 b g c s e10
  have e8 := expr8_w w0 b g c s e9
  have e7 := expr7_w w0 b g c s e8
  have e6 := expr6_w w0 b g c s e7
  have e5 := expr5_w w0 b g c s e6
  have e4 := expr4_w w0 b g c s e5
  have e3 := expr3_w w0 b g c s e4
  have e2 := expr2_w w0 b g c s e3
  have e1 := expr1_w w0 b g c s e2
  have e0 := loosest_w w0 b g c s e1
  exact expr0_w w0 b g c s e0 w h
end Go.Proofs.Ytdlnhjcdifnnkaa.PR
namespace Go.Proofs.Ytdlnhjcdifnnkaa.PR
set_option linter.unusedVariables false
set_option linter.unusedSimpArgs false
open Go.Proofs.Ytdlnhjcdifnnkaa.B (digB letB intB isLetter_ok isDigit_ok intOk_ok)
open Go.RowKit Go.Proofs.YtdlnhjcdifnnkaaW.PrintWords Go.Proofs.YtdlnhjcdifnnkaaW.PrintLast Go.Proofs.YtdlnhjcdifnnkaaW.PrintMore
set_option linter.unusedVariables false
set_option linter.unusedSimpArgs false
set_option maxRecDepth 100000 in
set_option maxHeartbeats 2000000 in
theorem shape_w (s : ByteArray) (hs : s.size ≤ 1000) (hok : intB s = true) (h0 : 0 < s.size) (hd : (((s[0]'h0).toNat : Int) != 45) = true) (w : World) :
    Calls Try.prog 40 #[.agg #[.int .i64 4, .string s, .slice none 0 0, .slice none 0 0]] w fun e w' => e = .returned (.bool true) ∧ Below w.heap.size w w' := by
  go_enter Try.func40, Try.ntmps40
  go_wp2_with fail
  go_region
  · go_upto_region 11 with (fail)
    obtain ⟨W, hW⟩ : ∃ W : World, W = (((w.alloc (.cells #[.int .i64 4, .string s, .slice none 0 0, .slice none 0 0] 26)).alloc (.cells #[.int .i64 0] 3)).alloc (.cells #[.string s] 9)).drew := ⟨_, rfl⟩
    have e1 : W.heap[w.heap.size + 1]? = some (.cells #[.int .i64 0] 3 (0, 0)) := by
      have e := kla (blk_new (w.alloc (.cells #[.int .i64 4, .string s, .slice none 0 0, .slice none 0 0] 26)) (.cells #[.int .i64 0] 3)) (.cells #[.string s] 9)
      rw [World.size_alloc] at e
      rw [hW]
      exact e
    have e2 : W.heap[w.heap.size + 1 + 1]? = some (.cells #[.string s] 9 (0, 0)) := by
      have e := blk_new ((w.alloc (.cells #[.int .i64 4, .string s, .slice none 0 0, .slice none 0 0] 26)).alloc (.cells #[.int .i64 0] 3)) (.cells #[.string s] 9)
      rw [World.size_alloc, World.size_alloc] at e
      rw [hW]
      exact e
    have HB := Aside0.mk (show Below w.heap.size w W by rw [hW]; exact below_drew (bla (bla (bla (Below.refl _ _) _) _) _))
    have cs := (kcl e2 0).trans (show _ = some (.string s) from rfl)
    have ci := (kcl e1 0).trans (show _ = some (.int .i64 0) from rfl)
    rw [← hW]
    obtain ⟨b1, hb1⟩ : ∃ b1, b1 = w.heap.size + 1 := ⟨_, rfl⟩
    obtain ⟨b2, hb2⟩ : ∃ b2, b2 = b1 + 1 := ⟨_, rfl⟩
    first | rw [← hb1] at cs ci ⊢ | skip
    first | rw [← hb2] at cs ⊢ | rw [← hb2] at ci ⊢
    clear hW e1 e2 hb1 hb2
    go_wp2_with (first | (go_at_call 15; refine (intOk_ok s (by omega) _).mono ?_; rintro e w2 ⟨rfl, hB⟩; have cs2 := B.cell_keep hB cs; clear cs; have cs := cs2; clear cs2; replace HB := Aside0.mk (bth HB.out HB.out.size hB); clear hB))
    go_ret
    exact ⟨rfl, HB.out⟩
  · go_upto_region 11 with (fail)
    obtain ⟨W, hW⟩ : ∃ W : World, W = (((w.alloc (.cells #[.int .i64 4, .string s, .slice none 0 0, .slice none 0 0] 26)).alloc (.cells #[.string s] 9)).alloc (.cells #[.int .i64 0] 3)).drew := ⟨_, rfl⟩
    have e1 : W.heap[w.heap.size + 1]? = some (.cells #[.string s] 9 (0, 0)) := by
      have e := kla (blk_new (w.alloc (.cells #[.int .i64 4, .string s, .slice none 0 0, .slice none 0 0] 26)) (.cells #[.string s] 9)) (.cells #[.int .i64 0] 3)
      rw [World.size_alloc] at e
      rw [hW]
      exact e
    have e2 : W.heap[w.heap.size + 1 + 1]? = some (.cells #[.int .i64 0] 3 (0, 0)) := by
      have e := blk_new ((w.alloc (.cells #[.int .i64 4, .string s, .slice none 0 0, .slice none 0 0] 26)).alloc (.cells #[.string s] 9)) (.cells #[.int .i64 0] 3)
      rw [World.size_alloc, World.size_alloc] at e
      rw [hW]
      exact e
    have HB := Aside0.mk (show Below w.heap.size w W by rw [hW]; exact below_drew (bla (bla (bla (Below.refl _ _) _) _) _))
    have cs := (kcl e1 0).trans (show _ = some (.string s) from rfl)
    have ci := (kcl e2 0).trans (show _ = some (.int .i64 0) from rfl)
    rw [← hW]
    obtain ⟨b1, hb1⟩ : ∃ b1, b1 = w.heap.size + 1 := ⟨_, rfl⟩
    obtain ⟨b2, hb2⟩ : ∃ b2, b2 = b1 + 1 := ⟨_, rfl⟩
    first | rw [← hb1] at cs ci ⊢ | skip
    first | rw [← hb2] at cs ⊢ | rw [← hb2] at ci ⊢
    clear hW e1 e2 hb1 hb2
    go_wp2_with (first | (go_at_call 15; refine (intOk_ok s (by omega) _).mono ?_; rintro e w2 ⟨rfl, hB⟩; have cs2 := B.cell_keep hB cs; clear cs; have cs := cs2; clear cs2; replace HB := Aside0.mk (bth HB.out HB.out.size hB); clear hB))
    go_ret
    exact ⟨rfl, HB.out⟩
set_option maxRecDepth 100000 in
set_option maxHeartbeats 2000000 in
theorem fits_w (s : ByteArray) (hs : s.size ≤ 1000) (hok : intB s = true) (h0 : 0 < s.size) (hd : (((s[0]'h0).toNat : Int) != 45) = true) (w : World) :
    Calls Try.prog 21 #[.agg #[.int .i64 4, .string s, .slice none 0 0, .slice none 0 0], .int .i64 7] w fun e w' => e = .returned (.bool true) ∧ Below w.heap.size w w' := by
  have HS := Aside0.mk (fun w => shape_w s hs hok h0 hd w)
  obtain ⟨W, hW⟩ : ∃ W : World, W = w.alloc (.cells #[.int .i64 4, .string s, .slice none 0 0, .slice none 0 0] 26) := ⟨_, rfl⟩
  have HB := Aside0.mk (show Below w.heap.size w W by rw [hW]; exact bla (Below.refl _ _) _)
  have HE := Aside0.mk (show W.heap[w.heap.size]? = some (.cells #[.int .i64 4, .string s, .slice none 0 0, .slice none 0 0] 26 (0, 0)) by rw [hW]; exact blk_new _ _)
  have HW := Lib.hid hW
  have e0 := (kcl HE.out 0).trans (show _ = some (.int .i64 4) from rfl)
  have e1 := (kcl HE.out 1).trans (show _ = some (.string s) from rfl)
  have e2 := (kcl HE.out 2).trans (show _ = some (.slice none 0 0) from rfl)
  have e3 := (kcl HE.out 3).trans (show _ = some (.slice none 0 0) from rfl)
  clear hW hd
  go_enter Try.func21, Try.ntmps21
  go_upto_region 1 with (fail)
  rw [← HW.out]
  go_wp2_with (first | (go_at_call 40; refine (HS.out _).mono ?_; rintro e w2 ⟨rfl, hB⟩; have e32 := B.cell_keep hB e3; clear e0 e1 e2 e3; have e3 := e32; clear e32; replace HB := Aside0.mk (bth HB.out HB.out.size hB); clear hB))
  go_loopw [17] (fun u wr => u = .int .i64 0 ∧ Aside0 (Below w.heap.size w wr)) (fun _ _ => 0)
  case atStart => exact ⟨rfl, HB⟩
  case round =>
    obtain ⟨rfl, HQ⟩ := hrel
    go_wp2_with fail
    go_ret
    exact ⟨rfl, HQ.out⟩
set_option maxRecDepth 100000 in
set_option maxHeartbeats 2000000 in
theorem exprOk_w (s : ByteArray) (hs : s.size ≤ 1000) (hok : intB s = true) (h0 : 0 < s.size) (hd : (((s[0]'h0).toNat : Int) != 45) = true) (w : World) :
    Calls Try.prog 7 #[.agg #[.int .i64 4, .string s, .slice none 0 0, .slice none 0 0]] w fun e w' => e = .returned (.bool true) ∧ Below w.heap.size w w' := by
  have HS := Aside0.mk (fun w => fits_w s hs hok h0 hd w)
  clear hd
  go_enter Try.func7, Try.ntmps7
  go_wp2_with (first | (go_at_call 21; refine (HS.out _).mono ?_; rintro e w2 ⟨rfl, hB⟩))
  go_ret
  exact ⟨rfl, bth (bla (Below.refl _ _) _) (bla (Below.refl _ _) _).size hB⟩
end Go.Proofs.Ytdlnhjcdifnnkaa.PR
namespace Go.Proofs.Ytdlnhjcdifnnkaa.PR
set_option linter.unusedVariables false
set_option linter.unusedSimpArgs false
open Go.Proofs.Ytdlnhjcdifnnkaa.B (digB letB intB isLetter_ok isDigit_ok intOk_ok)
open Go.RowKit Go.Proofs.YtdlnhjcdifnnkaaW.PrintWords Go.Proofs.YtdlnhjcdifnnkaaW.PrintLast Go.Proofs.YtdlnhjcdifnnkaaW.PrintMore
set_option linter.unusedVariables false
set_option linter.unusedSimpArgs false
set_option maxRecDepth 100000 in
set_option maxHeartbeats 2000000 in
theorem exprGet_w (s : ByteArray) (hD : Dt s s s.size) (h0 : 0 < s.size) (hd : (((s[0]'h0).toNat : Int) != 45) = true) (w : World) :
    Calls Try.prog 18 #[.string s] w fun e w' => e = .returned (.tuple #[.agg #[.int .i64 4, .string s, .slice none 0 0, .slice none 0 0], .bool true]) ∧ Below w.heap.size w w' := by
  have HOK := Aside0.mk (fun w => exprOk_w s (by have := hD.hs; omega) hD.ok h0 hd w)
  have HLX := Aside0.mk (fun w => lex_w s s s.size hD (.inl rfl) w)
  obtain ⟨W, hW⟩ : ∃ W : World, W = w.alloc (.cells #[.int .i64 0, .string ⟨#[]⟩, .slice none 0 0, .slice none 0 0] 26) := ⟨_, rfl⟩
  have HB := Aside0.mk (show Below w.heap.size w W by rw [hW]; exact bla (Below.refl _ _) _)
  have HZ := Aside0.mk (show W.heap[w.heap.size]? = some (.cells #[.int .i64 0, .string ⟨#[]⟩, .slice none 0 0, .slice none 0 0] 26 (0, 0)) by rw [hW]; exact blk_new _ _)
  have HW := Lib.hid hW
  clear hW hd h0 hD
  go_enter Try.func18, Try.ntmps18
  go_upto_region 1 with (fail)
  rw [← HW.out]
  go_upto_region 2 with (first | (go_at_call 17; refine (HLX.out _).mono ?_; rintro e w1 ⟨g, c, rfl, hc, htk, hB⟩; have HTK := Aside0.mk htk; have HC := Aside0.mk hc; replace HZ := Aside0.mk (kbw HZ.out hB); have HB2 := Aside0.mk hB.size; replace HB := Aside0.mk (bth HB.out HB.out.size hB); clear htk hc hB))
  have hRlt : w.heap.size < w1.heap.size := blk_lt HZ.out
  have hgl : g < w1.heap.size := World.block_lt_of_cell? w1 ⟨g, 0, none⟩ HTK.out.a0
  go_upto_region 5 with (fail)
  obtain ⟨W0, hW0⟩ : ∃ W0 : World, W0 = w1.alloc (.cells #[.int .i64 0, .int .i64 0] 39) := ⟨_, rfl⟩
  have hB0 : Below w1.heap.size w1 W0 := by rw [hW0]; exact bla (Below.refl _ _) _
  have hs0 : W0.heap.size = w1.heap.size + 1 := by rw [hW0]; simp
  obtain ⟨b, hb⟩ : ∃ b, b = W0.heap.size := ⟨_, rfl⟩
  obtain ⟨W3, hW3⟩ : ∃ W3 : World, W3 = W0.alloc (.cells #[.slice (some ⟨g, 0, none⟩) 2 c, .int .i64 0, .bool false] 66) := ⟨_, rfl⟩
  have hB3 : Below W0.heap.size W0 W3 := by rw [hW3]; exact bla (Below.refl _ _) _
  have HQ := Aside0.mk (show Rq W0 b g c s 0 W3 by
    refine ⟨hB3, by omega, ?_, (HTK.out.below hB0).below hB3, by omega⟩
    rw [hW3, hb]
    exact blk_new _ _)
  replace HZ := Aside0.mk (kbw (kbw HZ.out hB0) hB3)
  have hRb : w.heap.size ≠ b := by omega
  have HBW := Aside0.mk (bth HB.out HB.out.size hB0)
  rw [← hW0, ← hW3]
  first | rw [← hs0, ← hb] | skip
  clear hW0 hW3 hB0 hB3 hgl hs0 hb HTK HB hRlt
  go_upto_region 6 with (first | (go_at_call 33; refine (expr_w W0 b g c s _ HQ.out).mono ?_; rintro e w5 hep; obtain ⟨rfl, hq, hk⟩ := hep.open; replace HQ := Aside0.mk hq; replace HZ := Aside0.mk (hk _ _ HZ.out hRb); have HK := Aside0.mk hk; clear hep hq hk))
  obtain ⟨T, hT⟩ : ∃ T, T = w5.heap.size := ⟨_, rfl⟩
  obtain ⟨W6, hW6⟩ : ∃ W6 : World, W6 = w5.alloc (.cells #[.int .i64 4, .string s, .slice none 0 0, .slice none 0 0] 26) := ⟨_, rfl⟩
  have hB6 : Below w5.heap.size w5 W6 := by rw [hW6]; exact bla (Below.refl _ _) _
  have HT := Aside0.mk (show W6.heap[T]? = some (.cells #[.int .i64 4, .string s, .slice none 0 0, .slice none 0 0] 26 (0, 0)) by rw [hW6, hT]; exact blk_new _ _)
  have hTb : T ≠ b := by have := blk_lt HQ.out.blk; omega
  rw [← hW6, ← hT]
  replace HQ := Aside0.mk (HQ.out.below hB6)
  replace HZ := Aside0.mk (kbw HZ.out hB6)
  clear hW6 hT hB6
  go_wp2_with (first | (go_at_call 34; refine (kind2_w W0 b g c s 1 (by decide) 6 rfl _ HQ.out).mono ?_; rintro e w7 ⟨rfl, hq, hk⟩; replace HQ := Aside0.mk hq; replace HZ := Aside0.mk (hk _ _ HZ.out hRb); replace HT := Aside0.mk (hk _ _ HT.out hTb); have c1 := (kcl HQ.out.blk 1).trans (show _ = some (.int .i64 2) from rfl); have t0 := (kcl HT.out 0).trans (show _ = some (.int .i64 4) from rfl); have t1 := (kcl HT.out 1).trans (show _ = some (.string s) from rfl); have t2 := (kcl HT.out 2).trans (show _ = some (.slice none 0 0) from rfl); have t3 := (kcl HT.out 3).trans (show _ = some (.slice none 0 0) from rfl); clear hq hk) | (go_at_call 7; refine (HOK.out _).mono ?_; rintro e w8 ⟨rfl, hB⟩; clear c1 t0 t1 t2 t3; replace HQ := Aside0.mk (HQ.out.below hB); replace HZ := Aside0.mk (kbw HZ.out hB); replace HT := Aside0.mk (kbw HT.out hB); have t0 := (kcl HT.out 0).trans (show _ = some (.int .i64 4) from rfl); have t1 := (kcl HT.out 1).trans (show _ = some (.string s) from rfl); have t2 := (kcl HT.out 2).trans (show _ = some (.slice none 0 0) from rfl); have t3 := (kcl HT.out 3).trans (show _ = some (.slice none 0 0) from rfl); have f0 := kfz HZ.out 0; have f1 := kfz HZ.out 1; have f2 := kfz HZ.out 2; have f3 := kfz HZ.out 3; have z0 := (kcl HZ.out 0).trans (show _ = some (.int .i64 0) from rfl); have z1 := (kcl HZ.out 1).trans (show _ = some (.string ⟨#[]⟩) from rfl); have z2 := (kcl HZ.out 2).trans (show _ = some (.slice none 0 0) from rfl); have z3 := (kcl HZ.out 3).trans (show _ = some (.slice none 0 0) from rfl); clear hB))
  have h3 := blk_set (blk_set (blk_set (blk_set HZ.out 0 (.int .i64 4)) 1 (.string s)) 2 (.slice none 0 0)) 3 (.slice none 0 0)
  refine bodyPost_ret (results_ct rfl _ _ w.heap.size 26 #[.int .i64 4, .string s, .slice none 0 0, .slice none 0 0] (0, 0) _ rfl h3 Try.underlying26 rfl (by kernel_rfl)) rfl ⟨rfl, ?_⟩
  exact ((((bst HBW.out HQ.out.bl).setCell (p := ⟨w.heap.size, 0, none⟩) (Nat.le_refl _) _).setCell (p := ⟨w.heap.size, 1, none⟩) (Nat.le_refl _) _).setCell (p := ⟨w.heap.size, 2, none⟩) (Nat.le_refl _) _).setCell (p := ⟨w.heap.size, 3, none⟩) (Nat.le_refl _) _
end Go.Proofs.Ytdlnhjcdifnnkaa.PR
namespace Go.Proofs.Ytdlnhjcdifnnkaa.PR
set_option linter.unusedVariables false
set_option linter.unusedSimpArgs false
open Go.RowKit Go.Proofs.YtdlnhjcdifnnkaaW.PrintWords Go.Proofs.YtdlnhjcdifnnkaaW.PrintLast Go.Proofs.YtdlnhjcdifnnkaaW.PrintMore
set_option linter.unusedVariables false
set_option linter.unusedSimpArgs false
def CsOk (cs : List Int) : Prop := cs.length ≤ 4000 ∧ ∀ c ∈ cs, 0 ≤ c ∧ c ≤ 255
theorem rd_cs {cs : List Int} (h : CsOk cs) (i : Int) : 0 ≤ rd cs i ∧ rd cs i ≤ 255 := by
  unfold rd
  rw [List.getD_eq_getElem?_getD]
  rcases Nat.lt_or_ge i.toNat cs.length with hl | hl
  · rw [List.getElem?_eq_getElem hl]; exact h.2 _ (List.getElem_mem hl)
  · rw [List.getElem?_eq_none hl]; simp
theorem w64 {x : Int} (h : -9223372036854775808 ≤ x ∧ x ≤ 9223372036854775807) : wrap64 x = x := by unfold wrap64; omega
theorem xor_nn (a b : Int) (ha : 0 ≤ a) (ha' : a < 1000000000) (hb : 0 ≤ b) (hb' : b < 1000000000) : 0 ≤ Go.bits .xor .i64 a b := by
  obtain ⟨a, rfl⟩ := Int.eq_ofNat_of_zero_le ha
  obtain ⟨b, rfl⟩ := Int.eq_ofNat_of_zero_le hb
  have h1 : a < 2 ^ 30 := by omega
  have h2 : b < 2 ^ 30 := by omega
  have h3 : a ^^^ b < 2 ^ 30 := Nat.xor_lt_two_pow h1 h2
  have e1 : a % 2 ^ IntKind.i64.bits = a := Nat.mod_eq_of_lt (Nat.lt_of_lt_of_le h1 (by decide))
  have e2 : b % 2 ^ IntKind.i64.bits = b := Nat.mod_eq_of_lt (Nat.lt_of_lt_of_le h2 (by decide))
  simp only [bits, BitVec.ofInt_natCast, BitVec.toNat_xor, BitVec.toNat_ofNat, e1, e2]
  rw [IntKind.wrap_i64]
  generalize a ^^^ b = c at h3
  omega
theorem mixv (A B t q : Int) (hA : 0 ≤ A ∧ A ≤ 255) (hB : 0 ≤ B ∧ B ≤ 255) (ht : 0 ≤ t ∧ t ≤ 1000000) (hq : 0 ≤ q ∧ q ≤ 1000000) :
    wrap64 ((wrap64 ((wrap64 ((wrap64 ((wrap64 A) * 131)) + (wrap64 ((wrap64 B) * 1117)))) + (wrap64 (t * 29)))) + (wrap64 ((wrap64 q) * 53))) = A * 131 + B * 1117 + t * 29 + q * 53 := by
  rw [w64 (x := A) (by omega), w64 (x := B) (by omega), w64 (x := q) (by omega), w64 (x := A * 131) (by omega), w64 (x := B * 1117) (by omega), w64 (x := t * 29) (by omega), w64 (x := q * 53) (by omega), w64 (x := A * 131 + B * 1117) (by omega), w64 (x := A * 131 + B * 1117 + t * 29) (by omega), w64 (by omega)]
theorem tmod_nn {a b : Int} (ha : 0 ≤ a) (hb : 0 < b) : 0 ≤ Int.tmod a b ∧ Int.tmod a b < b := by
  rw [Int.tmod_eq_emod_of_nonneg ha]
  exact ⟨Int.emod_nonneg _ (by omega), Int.emod_lt_of_pos _ hb⟩
theorem xr_tmod (v n : Int) (hv : 0 ≤ v ∧ v < 1000000000) (hn : 0 < n) : 0 ≤ Int.tmod (Go.bits .xor .i64 v (wrap64 (Int.tdiv v 64))) n ∧ Int.tmod (Go.bits .xor .i64 v (wrap64 (Int.tdiv v 64))) n < n := by
  refine tmod_nn ?_ hn
  have h1 : Int.tdiv v 64 = v / 64 := Int.tdiv_eq_ediv_of_nonneg hv.1
  rw [h1, w64 (by omega)]
  exact xor_nn _ _ hv.1 hv.2 (by omega) (by omega)
theorem pick_ex {cs : List Int} (t n : Int) (hc : CsOk cs) (h0 : 0 ≤ t) (h1 : t ≤ 1000000) (hn : n ≤ 1000000) : ∃ r t', spec_rnd_pick.f cs t n = some (r, t') ∧ t ≤ t' ∧ t' ≤ t + 1 ∧ 0 ≤ r ∧ (1 ≤ n → r < n) := by
  unfold spec_rnd_pick.f
  by_cases h2 : n < 2
  · rw [if_pos h2]; exact ⟨0, t, rfl, by omega, by omega, by omega, by omega⟩
  rw [if_neg h2]
  have et : wrap64 (t + 1) = t + 1 := w64 (by omega)
  by_cases hl : (cs.length : Int) > 0
  · have b1 := tmod_nn h0 hl
    have b2 := tmod_nn (show 0 ≤ t * 7 + 3 by omega) hl
    have e7 : wrap64 ((wrap64 (t * 7)) + 3) = t * 7 + 3 := by rw [w64 (x := t * 7) (by omega), w64 (by omega)]
    have hA := rd_cs hc (Int.tmod t (cs.length : Int))
    have hB := rd_cs hc (Int.tmod (t * 7 + 3) (cs.length : Int))
    have hq : 0 ≤ Int.tdiv t (cs.length : Int) ∧ Int.tdiv t (cs.length : Int) ≤ 1000000 := by
      rw [Int.tdiv_eq_ediv_of_nonneg h0]
      have h3 := Int.ediv_le_self (cs.length : Int) h0
      have h4 := Int.ediv_nonneg h0 (Int.le_of_lt hl)
      omega
    have hn0 : ¬ n = 0 := by omega
    rw [if_pos hl, if_neg (by omega), if_pos b1.1, if_pos b1.2, e7, if_pos b2.1, if_pos b2.2, mixv _ _ _ _ hA hB ⟨h0, h1⟩ hq, et]
    simp only [if_neg hn0]
    have hX := xr_tmod (rd cs (Int.tmod t (cs.length : Int)) * 131 + rd cs (Int.tmod (t * 7 + 3) (cs.length : Int)) * 1117 + t * 29 + Int.tdiv t (cs.length : Int) * 53) n (by omega) (by omega)
    have hY := tmod_nn (show 0 ≤ wrap64 (rd cs (Int.tmod t (cs.length : Int))) by rw [w64 (by omega)]; omega) (show 0 < n by omega)
    split
    · exact ⟨_, _, rfl, by omega, by omega, hX.1, fun _ => hX.2⟩
    · split
      · exact ⟨_, _, rfl, by omega, by omega, hX.1, fun _ => hX.2⟩
      · exact ⟨_, _, rfl, by omega, by omega, hY.1, fun _ => hY.2⟩
  · rw [if_neg hl, if_neg (by omega : ¬ n = 0), et, Int.zero_emod]
    exact ⟨_, _, rfl, by omega, by omega, by omega, by omega⟩
theorem one_ex {cs : List Int} (t : Int) (l : List Int) (hc : CsOk cs) (h0 : 0 ≤ t) (h1 : t ≤ 1000000) (hl : 0 < l.length) (hl' : l.length ≤ 1000) : ∃ r t', spec_rnd_one.f cs t l = some (r, t') ∧ t ≤ t' ∧ t' ≤ t + 1 ∧ r ∈ l := by
  obtain ⟨i, t', e, a, b, c, d⟩ := pick_ex t (l.length : Int) hc h0 h1 (by omega)
  have hd := d (by omega)
  unfold spec_rnd_one.f
  rw [e]
  simp only [Option.bind_some]
  rw [if_pos c, if_pos hd]
  refine ⟨_, _, rfl, a, b, ?_⟩
  unfold rd
  rw [List.getD_eq_getElem?_getD, List.getElem?_eq_getElem (by omega)]
  exact List.getElem_mem _
theorem of_ex {cs : List Int} (t : Int) (l : List ByteArray) (hc : CsOk cs) (h0 : 0 ≤ t) (h1 : t ≤ 1000000) (hl : 0 < l.length) (hl' : l.length ≤ 1000) : ∃ r t', spec_rnd_of.f cs t l = some (r, t') ∧ t ≤ t' ∧ t' ≤ t + 1 ∧ r ∈ l := by
  obtain ⟨i, t', e, a, b, c, d⟩ := pick_ex t (l.length : Int) hc h0 h1 (by omega)
  have hd := d (by omega)
  unfold spec_rnd_of.f
  rw [e]
  simp only [Option.bind_some]
  rw [if_pos c, if_pos hd]
  refine ⟨_, _, rfl, a, b, ?_⟩
  unfold rdOf
  rw [List.getD_eq_getElem?_getD, List.getElem?_eq_getElem (by omega)]
  exact List.getElem_mem _
theorem dec_all : ∀ i : Fin 2000, ((spec_decimal.f 20 ((i.val : Int) - 1000)).map fun s => decide (s.size ≤ 5)) = some true := by decide +kernel
theorem dec_ex (x : Int) (h0 : -1000 ≤ x) (h1 : x < 1000) (k : Nat) (hk : 20 ≤ k) : ∃ s, spec_decimal.f k x = some s ∧ s.size ≤ 5 := by
  have := dec_all ⟨(x + 1000).toNat, by omega⟩
  simp only [show (((x + 1000).toNat : Nat) : Int) - 1000 = x by omega] at this
  cases hs : spec_decimal.f 20 x with
  | none => rw [hs] at this; simp at this
  | some s =>
    rw [hs] at this
    exact ⟨s, at_rounds (fun k => spec_decimal.mono x k) hk hs, by simpa using this⟩
theorem app_size (x y : ByteArray) : (x ++ y).size = x.size + y.size := ByteArray.size_append
theorem l0_ex {cs : List Int} (hc : CsOk cs) : ∀ (d k : Nat) (x3 : ByteArray) (x4 x5 t : Int), x4 ≤ 41 → 0 ≤ x5 → (x4 - x5).toNat ≤ d → 2 * d + 25 ≤ k → x3.size ≤ 1000 - 10 * d → d ≤ 50 → 0 ≤ t → t ≤ 100000 - 10 * d → ∃ r t', spec_rnd_integer.l0 k x3 x4 x5 cs t = some (r, t') ∧ r.size ≤ 1001 := by
  intro d
  induction d with
  | zero =>
    intro k x3 x4 x5 t h4 h5 hd hk h3 hd5 ht ht1
    obtain ⟨k, rfl⟩ : ∃ m, k = m + 1 := ⟨k - 1, by omega⟩
    rw [spec_rnd_integer.l0, if_neg (by omega)]
    obtain ⟨r, t', hp, -, -, -, -⟩ := pick_ex t 2 hc ht (by omega) (by omega)
    rw [hp, Option.bind_some]
    by_cases hr : r = 0
    · rw [if_pos hr, if_pos (by omega)]
      exact ⟨_, _, rfl, by rw [app_size]; show 1 + x3.size ≤ 1001; omega⟩
    · rw [if_neg hr]
      exact ⟨_, _, rfl, by omega⟩
  | succ d ih =>
    intro k x3 x4 x5 t h4 h5 hd hk h3 hd5 ht ht1
    obtain ⟨k, rfl⟩ : ∃ m, k = m + 1 := ⟨k - 1, by omega⟩
    rw [spec_rnd_integer.l0]
    by_cases hlt : x5 < x4
    · rw [if_pos hlt]
      obtain ⟨r, t1, hp, hp1, hp2, hp3, hp4⟩ := pick_ex t 10 hc ht (by omega) (by omega)
      rw [hp, Option.bind_some]
      have hr10 := hp4 (by omega)
      have j2 : ∀ x6 : Int, 0 ≤ x6 → x6 < 1000 → ∃ r t', spec_rnd_integer.j2 k x3 x4 x5 x6 cs t1 = some (r, t') ∧ r.size ≤ 1001 := by
        intro x6 h60 h61
        obtain ⟨k, rfl⟩ : ∃ m, k = m + 1 := ⟨k - 1, by omega⟩
        rw [spec_rnd_integer.j2]
        obtain ⟨r2, t2, hq, hq1, hq2, hq3, hq4⟩ := pick_ex t1 9 hc (by omega) (by omega) (by omega)
        rw [hq, Option.bind_some]
        have hw : wrap64 (x5 + 1) = x5 + 1 := w64 (by omega)
        by_cases h20 : r2 = 0
        · rw [if_pos h20]
          obtain ⟨r3, t3, ho, ho1, ho2, ho3⟩ := one_ex t2 [9, 9, 1] hc (by omega) (by omega) (by decide) (by decide)
          rw [ho, Option.bind_some]
          have hr3 : 0 ≤ r3 ∧ r3 < 1000 := by
            simp only [List.mem_cons, List.not_mem_nil, or_false] at ho3
            omega
          obtain ⟨sd, hsd, hsl⟩ := dec_ex r3 (by omega) (by omega) k (by omega)
          rw [hsd, Option.bind_some, if_pos (by omega), hw]
          exact ih k _ x4 (x5 + 1) t3 h4 (by omega) (by omega) (by omega) (by rw [app_size]; omega) (by omega) (by omega) (by omega)
        · rw [if_neg h20]
          obtain ⟨sd, hsd, hsl⟩ := dec_ex x6 (by omega) (by omega) k (by omega)
          rw [hsd, Option.bind_some, if_pos (by omega), hw]
          exact ih k _ x4 (x5 + 1) t2 h4 (by omega) (by omega) (by omega) (by rw [app_size]; omega) (by omega) (by omega) (by omega)
      by_cases h50 : x5 = 0
      · rw [if_pos h50]
        exact j2 _ (by unfold mx; split <;> omega) (by unfold mx; split <;> omega)
      · rw [if_neg h50]
        exact j2 _ hp3 (by omega)
    · rw [if_neg hlt]
      obtain ⟨r, t', hp, -, -, -, -⟩ := pick_ex t 2 hc ht (by omega) (by omega)
      rw [hp, Option.bind_some]
      by_cases hr : r = 0
      · rw [if_pos hr, if_pos (by omega)]
        exact ⟨_, _, rfl, by rw [app_size]; show 1 + x3.size ≤ 1001; omega⟩
      · rw [if_neg hr]
        exact ⟨_, _, rfl, by omega⟩
theorem j0_ex {cs : List Int} (hc : CsOk cs) (x : Bool) (t : Int) (ht : 0 ≤ t) (ht1 : t ≤ 1000) : ∃ r t', spec_rnd_integer.j0 200 x cs t = some (r, t') ∧ r.size ≤ 1001 := by
  rw [spec_rnd_integer.j0]
  cases x
  · rw [if_neg (by simp)]
    obtain ⟨r3, t3, ho, ho1, ho2, ho3⟩ := one_ex t [2, 5, 12, 19, 20, 38, 39, 40, 40, 41] hc (by omega) (by omega) (by decide) (by decide)
    rw [ho, Option.bind_some]
    have hr : 0 ≤ r3 ∧ r3 ≤ 41 := by
      simp only [List.mem_cons, List.not_mem_nil, or_false] at ho3
      omega
    exact l0_ex hc 41 199 _ r3 0 t3 (by omega) (by omega) (by omega) (by omega) (by show (0 : Nat) ≤ _; omega) (by omega) (by omega) (by omega)
  · rw [if_pos rfl]
    obtain ⟨r, t', hp, hp1, hp2, hp3, hp4⟩ := pick_ex t 2000 hc ht (by omega) (by omega)
    rw [hp, Option.bind_some]
    have := hp4 (by omega)
    rw [show wrap64 (r - 1000) = r - 1000 from w64 (by omega)]
    obtain ⟨sd, hsd, hsl⟩ := dec_ex (r - 1000) (by omega) (by omega) 199 (by omega)
    rw [hsd, Option.bind_some]
    exact ⟨_, _, rfl, by omega⟩
theorem integer_ex {cs : List Int} (hc : CsOk cs) : ∃ r t', spec_rnd_integer.f 200 cs 0 = some (r, t') ∧ r.size ≤ 1001 := by
  unfold spec_rnd_integer.f
  obtain ⟨r, t', hp, hp1, hp2, hp3, hp4⟩ := pick_ex 0 14 hc (by omega) (by omega) (by omega)
  rw [hp, Option.bind_some]
  by_cases h0 : r = 0
  · rw [if_pos h0]
    obtain ⟨r3, t3, ho, ho1, ho2, ho3⟩ := of_ex t' [(⟨#[]⟩ : ByteArray), (⟨#[45]⟩ : ByteArray), (⟨#[45, 48]⟩ : ByteArray), (⟨#[48, 49]⟩ : ByteArray), (⟨#[49, 97]⟩ : ByteArray), (⟨#[32, 49]⟩ : ByteArray), (⟨#[43, 49]⟩ : ByteArray), (⟨#[48, 48]⟩ : ByteArray)] hc (by omega) (by omega) (by decide) (by decide)
    rw [ho, Option.bind_some]
    refine ⟨_, _, rfl, ?_⟩
    show r3.size ≤ 1001
    simp only [List.mem_cons, List.not_mem_nil, or_false] at ho3
    rcases ho3 with rfl | rfl | rfl | rfl | rfl | rfl | rfl | rfl <;> decide
  · rw [if_neg h0]
    by_cases h1 : r = 1
    · rw [if_pos h1]
      obtain ⟨r3, t3, ho, ho1, ho2, ho3⟩ := of_ex t' [(⟨#[48]⟩ : ByteArray), (⟨#[49]⟩ : ByteArray), (⟨#[45, 49]⟩ : ByteArray), (⟨#[57]⟩ : ByteArray), (⟨#[49, 48]⟩ : ByteArray), (⟨#[45, 49, 48]⟩ : ByteArray), (⟨#[57, 57]⟩ : ByteArray), (⟨#[49, 48, 48]⟩ : ByteArray)] hc (by omega) (by omega) (by decide) (by decide)
      rw [ho, Option.bind_some]
      refine ⟨_, _, rfl, ?_⟩
      show r3.size ≤ 1001
      simp only [List.mem_cons, List.not_mem_nil, or_false] at ho3
      rcases ho3 with rfl | rfl | rfl | rfl | rfl | rfl | rfl | rfl <;> decide
    · rw [if_neg h1]
      split
      · exact j0_ex hc _ t' (by omega) (by omega)
      · split
        · exact j0_ex hc _ t' (by omega) (by omega)
        · exact j0_ex hc _ t' (by omega) (by omega)
theorem drawInt_ex (l0 : List Int) (hw0 : ∀ x ∈ l0, 0 ≤ x ∧ x ≤ 255) : ∃ r, spec_DrawIntOk.f 200 l0 = some r ∧ r.size ≤ 1001 := by
  unfold spec_DrawIntOk.f
  have HF : spec_newRnd.f l0 = some (l0.take ((mn (l0.length : Int) 4000) : Int).toNat, 0) := by unfold spec_newRnd.f; rw [if_pos (by unfold mn; split <;> omega), if_pos (by unfold mn; split <;> omega)]
  have hc : CsOk (l0.take ((mn (l0.length : Int) 4000) : Int).toNat) := ⟨by rw [List.length_take]; unfold mn; split <;> omega, fun c h => hw0 c (List.mem_of_mem_take h)⟩
  rw [HF, Option.bind_some]
  obtain ⟨r, t', h, hr⟩ := integer_ex hc
  rw [h, Option.bind_some]
  exact ⟨_, rfl, hr⟩
end Go.Proofs.Ytdlnhjcdifnnkaa.PR
namespace Go.Proofs.Ytdlnhjcdifnnkaa.PR
set_option linter.unusedVariables false
set_option linter.unusedSimpArgs false
open Go.Proofs.Ytdlnhjcdifnnkaa.B (digB letB intB intOk_ok validInt_ok body hasDash isDig)
open Go.RowKit Go.Proofs.YtdlnhjcdifnnkaaW.PrintWords Go.Proofs.YtdlnhjcdifnnkaaW.PrintLast Go.Proofs.YtdlnhjcdifnnkaaW.PrintMore
set_option linter.unusedVariables false
set_option linter.unusedSimpArgs false
theorem int_facts {s : ByteArray} (h : intB s = true) : 0 < s.size ∧ (∀ h0 : 0 < s.size, (((s[0]'h0).toNat : Int) == 45) = false → s.size ≤ 40 ∧ ∀ k (hk : k < s.size), digB ((s[k]'hk).toNat : Int) = true ∧ letB ((s[k]'hk).toNat : Int) = false) := by
  unfold intB at h
  simp only [Bool.and_eq_true, decide_eq_true_eq] at h
  obtain ⟨⟨⟨h1, h2⟩, h3⟩, -⟩ := h
  have h0 : 0 < s.size := by
    unfold body at h1
    split at h1
    · rename_i hd
      unfold hasDash at hd
      split at hd
      · assumption
      · cases hd
    · omega
  refine ⟨h0, fun h0 hd => ?_⟩
  have hb : body s = s := by
    unfold body
    rw [if_neg]
    intro hh
    unfold hasDash at hh
    rw [dif_pos h0] at hh
    have : s[0] = 45 := by simpa using hh
    rw [this] at hd
    exact absurd hd (by decide)
  rw [hb] at h2 h3
  refine ⟨h2, fun k hk => ?_⟩
  have hm : s[k] ∈ s.data.toList := by
    have : k < s.data.toList.length := by rw [data_length]; exact hk
    exact List.mem_iff_getElem.2 ⟨k, this, rfl⟩
  have := List.all_eq_true.1 h3 _ hm
  unfold isDig at this
  simp only [Bool.and_eq_true, decide_eq_true_eq] at this
  unfold digB letB
  refine ⟨by simp only [Bool.and_eq_true, decide_eq_true_eq]; omega, ?_⟩
  simp only [Bool.or_eq_false_iff, beq_eq_false_iff_ne, Bool.and_eq_false_iff, decide_eq_false_iff_not]
  omega
theorem dt_self {s : ByteArray} (h : intB s = true) (h0 : 0 < s.size) (hd : (((s[0]'h0).toNat : Int) == 45) = false) : Dt s s s.size := by
  obtain ⟨h1, h2⟩ := (int_facts h).2 h0 hd
  exact ⟨h0, Nat.le_refl _, by omega, fun k hk _ => h2 k hk, .inl rfl, by simp, h⟩
theorem dt_line {s : ByteArray} (h : intB s = true) (h0 : 0 < s.size) (hd : (((s[0]'h0).toNat : Int) == 45) = false) : Dt (s ++ ⟨#[10]⟩) s s.size ∧ (s ++ ⟨#[10]⟩ : ByteArray).size = s.size + 1 := by
  obtain ⟨h1, h2⟩ := (int_facts h).2 h0 hd
  have hsz : (s ++ ⟨#[10]⟩ : ByteArray).size = s.size + 1 := by rw [ByteArray.size_append]; rfl
  refine ⟨⟨h0, by omega, by omega, fun k hk hlt => ?_, .inr ⟨by omega, ?_⟩, ByteArray.extract_append_eq_left rfl, h⟩, hsz⟩
  · rw [ByteArray.getElem_append_left hlt]
    exact h2 k hlt
  · rw [ByteArray.getElem_append_right (Nat.le_refl _)]
    simp
    rfl
set_option maxRecDepth 100000 in
set_option maxHeartbeats 2000000 in
theorem specIntOk_w (s : ByteArray) (hs : s.size ≤ 9223372036854775807) (w : World) : Calls Try.prog 16 #[.string s] w fun e w' => e = .returned (.bool (intB s)) ∧ w = w' := by
  go_enter Try.func16, Try.ntmps16
  go_wp2_with (first | (go_at_call 30; refine (validInt_ok s hs _).mono ?_; rintro e w2 ⟨rfl, rfl⟩))
  go_ret
  exact ⟨rfl, rfl⟩
set_option maxRecDepth 100000 in
set_option maxHeartbeats 1000000 in
theorem law5_w (a : Option Addr) (c0 : Nat) (l0 : List Int) (w : World) (hr0 : Kd.C (Kd.int .u8) w a l0.length l0) (hc0 : l0.length ≤ c0) (hw0 : ∀ x ∈ l0, 0 ≤ x ∧ x ≤ 255) :
    Calls Try.prog 5 #[.slice a l0.length c0] w fun e w' => e = .returned (.bool true) ∧ Below w.heap.size w w' := by
  obtain ⟨s, hs, hsl⟩ := drawInt_ex l0 hw0
  have HDR := Aside0.mk (spec_DrawIntOk.calls 200 a c0 l0 s w hr0 hc0 hs)
  clear hr0 hc0 hw0 hs
  generalize l0.length = q0 at HDR ⊢
  by_cases hq : (1048576 : Int) < (q0 : Int)
  · go_enter Try.func5, Try.ntmps5
    go_wp2
    go_ret
    exact ⟨rfl, Below.refl _ _⟩
  · cases hi : intB s
    · go_enter Try.func5, Try.ntmps5
      go_wp2_with (first | (go_at_call 14; refine HDR.out.mono ?_; rintro e w1 ⟨rfl, hB1⟩; have HB := Aside0.mk hB1; clear hB1) | (go_at_call 15; refine (intOk_ok s (by omega) _).mono ?_; rintro e w2 ⟨rfl, hB2⟩; replace HB := Aside0.mk (bth HB.out HB.out.size hB2); clear hB2) | (go_at_call 16; refine (specIntOk_w s (by omega) _).mono ?_; rintro e w3 ⟨rfl, rfl⟩))
      go_ret
      exact ⟨rfl, HB.out⟩
    · obtain ⟨h0, -⟩ := int_facts hi
      cases hd : (((s[0]'h0).toNat : Int) == 45)
      · have HD1 := Aside0.mk (dt_self hi h0 hd)
        have HD2 := Aside0.mk (dt_line hi h0 hd)
        have hdn : (((s[0]'h0).toNat : Int) != 45) = true := by rw [bne, hd]; rfl
        have HLEX := Aside0.mk (fun w => lex_w (s ++ ⟨#[10]⟩) s s.size HD2.out.1 (.inr HD2.out.2) w)
        have HGET := Aside0.mk (fun w => exprGet_w s HD1.out h0 hdn w)
        clear hdn
        go_enter Try.func5, Try.ntmps5
        go_upto_region 7 with (first | (go_at_call 14; refine HDR.out.mono ?_; rintro e w1 ⟨rfl, hB1⟩; have HB := Aside0.mk hB1; clear hB1) | (go_at_call 15; refine (intOk_ok s (by omega) _).mono ?_; rintro e w2 ⟨rfl, hB2⟩; replace HB := Aside0.mk (bth HB.out HB.out.size hB2); clear hB2) | (go_at_call 16; refine (specIntOk_w s (by omega) _).mono ?_; rintro e w3 ⟨rfl, rfl⟩))
        go_upto_region 8 with (first | (go_at_call 17; with_reducible refine (HLEX.out _).mono ?_; rintro e w4 ⟨g, c, rfl, hc, htk, hB4⟩; have HTK := Aside0.mk htk; replace HB := Aside0.mk (bth HB.out HB.out.size hB4); clear htk hB4))
        obtain ⟨F, hF⟩ : ∃ F, F = w4.heap.size := ⟨_, rfl⟩
        obtain ⟨W5, hW5⟩ : ∃ W5 : World, W5 = w4.alloc (.cells #[.int .i64 0, .int .i64 0] 39) := ⟨_, rfl⟩
        have hB5 : Below w4.heap.size w4 W5 := by rw [hW5]; exact bla (Below.refl _ _) _
        have HF := Aside0.mk (show W5.heap[F]? = some (.cells #[.int .i64 0, .int .i64 0] 39 (0, 0)) by rw [hW5, hF]; exact blk_new _ _)
        rw [← hW5, ← hF]
        replace HTK := Aside0.mk (HTK.out.below hB5)
        replace HB := Aside0.mk (bth HB.out HB.out.size hB5)
        clear hW5 hF hB5
        go_upto_region 9 with (first | (go_at_call 18; refine (HGET.out _).mono ?_; rintro e w6 ⟨rfl, hB6⟩; replace HTK := Aside0.mk (HTK.out.below hB6); replace HB := Aside0.mk (bth HB.out HB.out.size hB6); replace HF := Aside0.mk (kbw HF.out hB6); clear hB6))
        obtain ⟨T, hT⟩ : ∃ T, T = w6.heap.size := ⟨_, rfl⟩
        obtain ⟨W7, hW7⟩ : ∃ W7 : World, W7 = w6.alloc (.cells #[.int .i64 4, .string s, .slice none 0 0, .slice none 0 0] 26) := ⟨_, rfl⟩
        have hB7 : Below w6.heap.size w6 W7 := by rw [hW7]; exact bla (Below.refl _ _) _
        have HE := Aside0.mk (show W7.heap[T]? = some (.cells #[.int .i64 4, .string s, .slice none 0 0, .slice none 0 0] 26 (0, 0)) by rw [hW7, hT]; exact blk_new _ _)
        rw [← hW7, ← hT]
        replace HTK := Aside0.mk (HTK.out.below hB7)
        replace HB := Aside0.mk (bth HB.out HB.out.size hB7)
        replace HF := Aside0.mk (kbw HF.out hB7)
        clear hW7 hT hB7
        obtain ⟨a0, a1, a2, -, -, -⟩ := HTK.out
        have f1 := (kcl HF.out 1).trans (show _ = some (.int .i64 0) from rfl)
        have e0 := (kcl HE.out 0).trans (show _ = some (.int .i64 4) from rfl)
        have e1 := (kcl HE.out 1).trans (show _ = some (.string s) from rfl)
        go_wp2_with fail
        go_ret
        exact ⟨rfl, HB.out⟩
      · go_enter Try.func5, Try.ntmps5
        go_wp2_with (first | (go_at_call 14; refine HDR.out.mono ?_; rintro e w1 ⟨rfl, hB1⟩; have HB := Aside0.mk hB1; clear hB1) | (go_at_call 15; refine (intOk_ok s (by omega) _).mono ?_; rintro e w2 ⟨rfl, hB2⟩; replace HB := Aside0.mk (bth HB.out HB.out.size hB2); clear hB2) | (go_at_call 16; refine (specIntOk_w s (by omega) _).mono ?_; rintro e w3 ⟨rfl, rfl⟩))
        go_ret
        exact ⟨rfl, HB.out⟩
end Go.Proofs.Ytdlnhjcdifnnkaa.PR
