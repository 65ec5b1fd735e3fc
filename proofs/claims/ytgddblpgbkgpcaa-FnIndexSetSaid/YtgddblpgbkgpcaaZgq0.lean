/- Part of the proof of fnIndexSet_holds. -/
import Derived.Test.YtgddblpgbkgpcaaZgr0
import Derived.Lib.Hide
import Derived.WalkSpells
import Derived.Test.YtgddblpgbkgpcaaZgb0
import Derived.Test.YtgddblpgbkgpcaaZgb1
import Derived.Deep.Light
namespace Go.Proofs.Ytgddblpgbkgpcaa.PR
set_option linter.unusedVariables false
set_option linter.unusedSimpArgs false
open Go.RowKit Go.Proofs.YtgddblpgbkgpcaaW.PrintWords Go.Proofs.YtgddblpgbkgpcaaW.PrintLast Go.Proofs.YtgddblpgbkgpcaaW.PrintMore
set_option linter.unusedVariables false
set_option linter.unusedSimpArgs false
set_option maxRecDepth 100000 in
set_option maxHeartbeats 4000000 in
theorem clone137_w (A : Option Addr) (n c : Nat) (xs : List S35) (w : World) (hC : Kd.C k35 w A n xs) (hn : n ≤ 1000) :
    Calls Try.prog 137 #[.slice A n c] w fun e w' => ∃ v : Value, e = .returned v ∧ Kd.R k35 35 w' w.heap.size (fun _ => True) v xs ∧ Below w.heap.size w w' := by
  have hl : xs.length = n := hC.1
  have HL := Lib.hid hl
  have HC := Aside0.mk hC
  clear hl hC
  have HNIL := Lib.run_eql_slice_nil (P := Try.prog) w 26 35 A n c 0 0 Try.underlying26
  cases A with
  | none =>
    have hn0 : n = 0 := by
      rcases Nat.eq_zero_or_pos n with h | h
      · exact h
      · obtain ⟨ad, e, _⟩ := HC.out.2.2 h; simp at e
    have hx : xs = [] := by have := HL.out; exact List.eq_nil_of_length_eq_zero (by omega)
    subst hx
    subst hn0
    go_enter Try.func137, Try.ntmps137
    go_wp2
    go_ret
    exact ⟨_, rfl, Kd.R_nil _ _ _ _ _, Below.refl _ _⟩
  | some ad =>
    go_enter Try.func137, Try.ntmps137
    go_wp2_with (first
      | ((with_reducible refine gate_dst (N := 5) rfl ?_); refine Kd.R_lit k35 _ 35 ?hg (N := 5) ?hd (xs := ([] : List S35)) (inner := []) (ok := fun _ => True) (okp := fun _ => True) ?hr ?hp (fun _ hk => hk) trivial (Below.refl _ _) (Nat.le_refl _) (by simp) ?_; (case hd => rfl); (case hg => rfl); (case hr => first | (go_simp; done) | (go_simp; rfl)); (case hp => exact (Reps.none _ _)); intro v5 w2 ho3 hb hg_ hnew_; clear hg_ hnew_; have HO := Aside0.mk ho3; have HB := Aside0.mk hb; clear ho3 hb)
      | ((with_reducible refine gate_builtin (b := .append) (xs := #[.tmp 5, .tmp 6]) rfl ?_); at_builtin; refine Kd.R_append_rows k35 (w0 := w) w.heap.size rfl (.tmp 5) (.tmp 6) 26 35 (.agg #[(.int .i64 0), (.string ⟨#[]⟩), (.int .i64 0)]) 32 rfl Try.underlying26 info35 rfl (by decide) (by omega) v5 [] xs _ _ _ (fun _ => True) (fun _ => False) rfl rfl HO.out (Kd.C_below HC.out HB.out) (fun _ _ h => h) (fun _ h => h.elim) (fun _ _ => trivial) HB.out HB.out.size (by simp; omega) ?_; intro v7 w3 ho hb hg hat; rw [List.nil_append] at ho; have HO2 := Aside0.mk ho; have HB2 := Aside0.mk hb; clear ho hb hg hat))
    go_ret
    exact ⟨v7, rfl, HO2.out, HB2.out⟩
set_option maxRecDepth 100000 in
set_option maxHeartbeats 4000000 in
theorem clone138_w (A : Option Addr) (n c : Nat) (xs : List ByteArray) (w : World) (hC : Kd.C Kd.string w A n xs) (hn : n ≤ 1000) :
    Calls Try.prog 138 #[.slice A n c] w fun e w' => ∃ v : Value, e = .returned v ∧ Kd.R Kd.string 9 w' w.heap.size (fun _ => True) v xs ∧ Below w.heap.size w w' := by
  have hl : xs.length = n := hC.1
  have HL := Lib.hid hl
  have HC := Aside0.mk hC
  clear hl hC
  have HNIL := Lib.run_eql_slice_nil (P := Try.prog) w 44 9 A n c 0 0 Try.underlying44
  cases A with
  | none =>
    have hn0 : n = 0 := by
      rcases Nat.eq_zero_or_pos n with h | h
      · exact h
      · obtain ⟨ad, e, _⟩ := HC.out.2.2 h; simp at e
    have hx : xs = [] := by have := HL.out; exact List.eq_nil_of_length_eq_zero (by omega)
    subst hx
    subst hn0
    go_enter Try.func138, Try.ntmps138
    go_wp2
    go_ret
    exact ⟨_, rfl, Kd.R_nil _ _ _ _ _, Below.refl _ _⟩
  | some ad =>
    go_enter Try.func138, Try.ntmps138
    go_wp2_with (first
      | ((with_reducible refine gate_dst (N := 5) rfl ?_); refine Kd.R_lit Kd.string _ 9 ?hg (N := 5) ?hd (xs := ([] : List ByteArray)) (inner := []) (ok := fun _ => True) (okp := fun _ => True) ?hr ?hp (fun _ hk => hk) trivial (Below.refl _ _) (Nat.le_refl _) (by simp) ?_; (case hd => rfl); (case hg => rfl); (case hr => first | (go_simp; done) | (go_simp; rfl)); (case hp => exact (Reps.none _ _)); intro v5 w2 ho3 hb hg_ hnew_; clear hg_ hnew_; have HO := Aside0.mk ho3; have HB := Aside0.mk hb; clear ho3 hb)
      | ((with_reducible refine gate_builtin (b := .append) (xs := #[.tmp 5, .tmp 6]) rfl ?_); at_builtin; refine Kd.R_append_rows Kd.string (w0 := w) w.heap.size rfl (.tmp 5) (.tmp 6) 44 9 (.string ⟨#[]⟩) 16 rfl Try.underlying44 info9 rfl (by decide) (by omega) v5 [] xs _ _ _ (fun _ => True) (fun _ => False) rfl rfl HO.out (Kd.C_below HC.out HB.out) (fun _ _ h => h) (fun _ h => h.elim) (fun _ _ => trivial) HB.out HB.out.size (by simp; omega) ?_; intro v7 w3 ho hb hg hat; rw [List.nil_append] at ho; have HO2 := Aside0.mk ho; have HB2 := Aside0.mk hb; clear ho hb hg hat))
    go_ret
    exact ⟨v7, rfl, HO2.out, HB2.out⟩
end Go.Proofs.Ytgddblpgbkgpcaa.PR
namespace Go.Proofs.Ytgddblpgbkgpcaa.PR
set_option linter.unusedVariables false
set_option linter.unusedSimpArgs false
open Go.RowKit Go.Proofs.YtgddblpgbkgpcaaW.PrintWords Go.Proofs.YtgddblpgbkgpcaaW.PrintLast Go.Proofs.YtgddblpgbkgpcaaW.PrintMore
set_option linter.unusedVariables false
set_option linter.unusedSimpArgs false
theorem sform {α : Type} {d : Kd α} {e base : Nat} {ok : Nat → Prop} {w : World} {v : Value} {xs : List α} (h : d.R e w base ok v xs) : ∃ A n c, v = .slice A n c := by
  obtain ⟨A, c, rfl⟩ := Kd.R_slice h
  exact ⟨A, _, c, rfl⟩
def OPost (w : World) (x : S46) (e : Ending) (w' : World) : Prop :=
  ∃ v3 v4 v5 v6 : Value, e = .returned (.agg #[.int .i64 x.f0, .string x.f1, .int .i64 x.f2, v3, v4, v5, v6]) ∧ k35.R 35 w' w.heap.size (fun _ => True) v3 x.f3 ∧ k35.R 35 w' w.heap.size (fun _ => True) v4 x.f4 ∧ Kd.string.R 9 w' w.heap.size (fun _ => True) v5 x.f5 ∧ k35.R 35 w' w.heap.size (fun _ => True) v6 x.f6 ∧ Below w.heap.size w w'
theorem put7 {W : World} {b t : Nat} {z0 z1 z2 z3 z4 z5 z6 : Value} (h : W.heap[b]? = some (.cells #[z0, z1, z2, z3, z4, z5, z6] t (0, 0))) (a0 a1 a2 a3 a4 a5 a6 : Value) :
    (((((((W.setCell ⟨b, 0, none⟩ a0).setCell ⟨b, 1, none⟩ a1).setCell ⟨b, 2, none⟩ a2).setCell ⟨b, 3, none⟩ a3).setCell ⟨b, 4, none⟩ a4).setCell ⟨b, 5, none⟩ a5).setCell ⟨b, 6, none⟩ a6).heap[b]? = some (.cells #[a0, a1, a2, a3, a4, a5, a6] t (0, 0)) := by
  have t0 : (W.setCell ⟨b, 0, none⟩ a0).heap[b]? = some (.cells #[a0, z1, z2, z3, z4, z5, z6] t (0, 0)) := blk_put h 0 a0 rfl
  have t1 : ((W.setCell ⟨b, 0, none⟩ a0).setCell ⟨b, 1, none⟩ a1).heap[b]? = some (.cells #[a0, a1, z2, z3, z4, z5, z6] t (0, 0)) := blk_put t0 1 a1 rfl
  have t2 : (((W.setCell ⟨b, 0, none⟩ a0).setCell ⟨b, 1, none⟩ a1).setCell ⟨b, 2, none⟩ a2).heap[b]? = some (.cells #[a0, a1, a2, z3, z4, z5, z6] t (0, 0)) := blk_put t1 2 a2 rfl
  have t3 : ((((W.setCell ⟨b, 0, none⟩ a0).setCell ⟨b, 1, none⟩ a1).setCell ⟨b, 2, none⟩ a2).setCell ⟨b, 3, none⟩ a3).heap[b]? = some (.cells #[a0, a1, a2, a3, z4, z5, z6] t (0, 0)) := blk_put t2 3 a3 rfl
  have t4 : (((((W.setCell ⟨b, 0, none⟩ a0).setCell ⟨b, 1, none⟩ a1).setCell ⟨b, 2, none⟩ a2).setCell ⟨b, 3, none⟩ a3).setCell ⟨b, 4, none⟩ a4).heap[b]? = some (.cells #[a0, a1, a2, a3, a4, z5, z6] t (0, 0)) := blk_put t3 4 a4 rfl
  have t5 : ((((((W.setCell ⟨b, 0, none⟩ a0).setCell ⟨b, 1, none⟩ a1).setCell ⟨b, 2, none⟩ a2).setCell ⟨b, 3, none⟩ a3).setCell ⟨b, 4, none⟩ a4).setCell ⟨b, 5, none⟩ a5).heap[b]? = some (.cells #[a0, a1, a2, a3, a4, a5, z6] t (0, 0)) := blk_put t4 5 a5 rfl
  have t6 : (((((((W.setCell ⟨b, 0, none⟩ a0).setCell ⟨b, 1, none⟩ a1).setCell ⟨b, 2, none⟩ a2).setCell ⟨b, 3, none⟩ a3).setCell ⟨b, 4, none⟩ a4).setCell ⟨b, 5, none⟩ a5).setCell ⟨b, 6, none⟩ a6).heap[b]? = some (.cells #[a0, a1, a2, a3, a4, a5, a6] t (0, 0)) := blk_put t5 6 a6 rfl
  exact t6
theorem far7 {α : Type} {d : Kd α} {e base : Nat} {ok : Nat → Prop} {v : Value} {xs : List α} {W : World} {b : Nat} (h : d.R e W base ok v xs) (hok : ∀ k, ok k → k ≠ b) (a0 a1 a2 a3 a4 a5 a6 : Value) : d.R e (((((((W.setCell ⟨b, 0, none⟩ a0).setCell ⟨b, 1, none⟩ a1).setCell ⟨b, 2, none⟩ a2).setCell ⟨b, 3, none⟩ a3).setCell ⟨b, 4, none⟩ a4).setCell ⟨b, 5, none⟩ a5).setCell ⟨b, 6, none⟩ a6) base ok v xs :=
  Kd.R_far (Kd.R_far (Kd.R_far (Kd.R_far (Kd.R_far (Kd.R_far (Kd.R_far h hok a0) hok a1) hok a2) hok a3) hok a4) hok a5) hok a6
theorem below7 {w W : World} {b N : Nat} (h : Below N w W) (hb : N ≤ b) (a0 a1 a2 a3 a4 a5 a6 : Value) : Below N w (((((((W.setCell ⟨b, 0, none⟩ a0).setCell ⟨b, 1, none⟩ a1).setCell ⟨b, 2, none⟩ a2).setCell ⟨b, 3, none⟩ a3).setCell ⟨b, 4, none⟩ a4).setCell ⟨b, 5, none⟩ a5).setCell ⟨b, 6, none⟩ a6) :=
  ((((((h.setCell hb a0).setCell hb a1).setCell hb a2).setCell hb a3).setCell hb a4).setCell hb a5).setCell hb a6
theorem clone_fin (x : S46) {w Wb w10 y3 y4 y5 y6 : World} {b1 : Nat} {B3 : Option Addr} {m3 d3 : Nat} {B4 : Option Addr} {m4 d4 : Nat} {B5 : Option Addr} {m5 d5 : Nat} {B6 : Option Addr} {m6 d6 : Nat} {u3 u4 u5 u6 : Value}
    (hb : b1 = w.heap.size) (hwb : Below w.heap.size w Wb) (hsz : Wb.heap.size = w.heap.size + 2)
    (e1 : y6.heap[b1]? = some (.cells #[.int .i64 x.f0, .string x.f1, .int .i64 x.f2, u3, u4, u5, u6] 46 (0, 0))) (e2 : y6.heap[b1 + 1]? = some (.cells #[.int .i64 0, .string ⟨#[]⟩, .int .i64 0, .slice none 0 0, .slice none 0 0, .slice none 0 0, .slice none 0 0] 46 (0, 0)))
    (hq0 : Below Wb.heap.size Wb w10) (h3 : Below w10.heap.size w10 y3) (h4 : Below y3.heap.size y3 y4) (h5 : Below y4.heap.size y4 y5) (h6 : Below y5.heap.size y5 y6)
    (r3 : k35.R 35 y3 w10.heap.size (fun _ => True) (.slice B3 m3 d3) x.f3) (r4 : k35.R 35 y4 y3.heap.size (fun _ => True) (.slice B4 m4 d4) x.f4) (r5 : Kd.string.R 9 y5 y4.heap.size (fun _ => True) (.slice B5 m5 d5) x.f5) (r6 : k35.R 35 y6 y5.heap.size (fun _ => True) (.slice B6 m6 d6) x.f6) :
    ∀ W5 : World, W5 = ((((y6.setCell ⟨b1, 3, none⟩ (.slice B3 m3 d3)).setCell ⟨b1, 4, none⟩ (.slice B4 m4 d4)).setCell ⟨b1, 5, none⟩ (.slice B5 m5 d5)).setCell ⟨b1, 6, none⟩ (.slice B6 m6 d6)) →
    W5.heap[b1]? = some (.cells #[.int .i64 x.f0, .string x.f1, .int .i64 x.f2, .slice B3 m3 d3, .slice B4 m4 d4, .slice B5 m5 d5, .slice B6 m6 d6] 46 (0, 0)) ∧ W5.heap[b1 + 1]? = some (.cells #[.int .i64 0, .string ⟨#[]⟩, .int .i64 0, .slice none 0 0, .slice none 0 0, .slice none 0 0, .slice none 0 0] 46 (0, 0)) ∧
      k35.R 35 W5 w.heap.size (fun k => k ≠ b1 + 1) (.slice B3 m3 d3) x.f3 ∧ k35.R 35 W5 w.heap.size (fun k => k ≠ b1 + 1) (.slice B4 m4 d4) x.f4 ∧ Kd.string.R 9 W5 w.heap.size (fun k => k ≠ b1 + 1) (.slice B5 m5 d5) x.f5 ∧ k35.R 35 W5 w.heap.size (fun k => k ≠ b1 + 1) (.slice B6 m6 d6) x.f6 ∧ Below w.heap.size w W5 := by
  rintro W5 rfl
  have s0 := hq0.size
  have s3 := h3.size
  have s4 := h4.size
  have s5 := h5.size
  have s6 := h6.size
  have t1 : (y6.setCell ⟨b1, 3, none⟩ (.slice B3 m3 d3)).heap[b1]? = _ := blk_put e1 3 _ rfl
  have t2 : ((y6.setCell ⟨b1, 3, none⟩ (.slice B3 m3 d3)).setCell ⟨b1, 4, none⟩ (.slice B4 m4 d4)).heap[b1]? = _ := blk_put t1 4 _ rfl
  have t3 : (((y6.setCell ⟨b1, 3, none⟩ (.slice B3 m3 d3)).setCell ⟨b1, 4, none⟩ (.slice B4 m4 d4)).setCell ⟨b1, 5, none⟩ (.slice B5 m5 d5)).heap[b1]? = _ := blk_put t2 5 _ rfl
  have t4 : ((((y6.setCell ⟨b1, 3, none⟩ (.slice B3 m3 d3)).setCell ⟨b1, 4, none⟩ (.slice B4 m4 d4)).setCell ⟨b1, 5, none⟩ (.slice B5 m5 d5)).setCell ⟨b1, 6, none⟩ (.slice B6 m6 d6)).heap[b1]? = _ := blk_put t3 6 _ rfl
  have far : ∀ {α : Type} {d : Kd α} {e : Nat} {v : Value} {xs : List α} {ok : Nat → Prop}, d.R e y6 (w.heap.size + 2) ok v xs → d.R e ((((y6.setCell ⟨b1, 3, none⟩ (.slice B3 m3 d3)).setCell ⟨b1, 4, none⟩ (.slice B4 m4 d4)).setCell ⟨b1, 5, none⟩ (.slice B5 m5 d5)).setCell ⟨b1, 6, none⟩ (.slice B6 m6 d6)) w.heap.size (fun k => k ≠ b1 + 1) v xs := by
    intro α d e v xs ok h
    refine Kd.R_mono (Kd.R_lower (Kd.R_far (Kd.R_far (Kd.R_far (Kd.R_far (Kd.R_bound h) ?_ _) ?_ _) ?_ _) ?_ _) (by omega)) (fun k hk => by have := hk.2.1; omega)
    all_goals (intro k hk; have := hk.2.1; simp; omega)
  have up : ∀ {W W' : World}, Below W.heap.size W W' → ∀ {α : Type} {d : Kd α} {e base : Nat} {v : Value} {xs : List α} {ok : Nat → Prop}, d.R e W base ok v xs → d.R e W' base ok v xs := fun h _ _ _ _ _ _ _ hr => Kd.R_below hr h
  refine ⟨t4, blk_far (blk_far (blk_far (blk_far e2 (by simp) _) (by simp) _) (by simp) _) (by simp) _, far (Kd.R_lower (up h6 (up h5 (up h4 r3))) (by omega)), far (Kd.R_lower (up h6 (up h5 r4)) (by omega)), far (Kd.R_lower (up h6 r5) (by omega)), far (Kd.R_lower r6 (by omega)), ?_⟩
  have hb6 : Below w.heap.size w y6 := bst hwb (bth (bth (bth (bth hq0 s0 h3) (by omega) h4) (by omega) h5) (by omega) h6)
  exact (((hb6.setCell (by simp; omega) _).setCell (by simp; omega) _).setCell (by simp; omega) _).setCell (by simp; omega) _
end Go.Proofs.Ytgddblpgbkgpcaa.PR
namespace Go.Proofs.Ytgddblpgbkgpcaa.PR
set_option linter.unusedVariables false
set_option linter.unusedSimpArgs false
open Go.RowKit Go.Proofs.YtgddblpgbkgpcaaW.PrintWords Go.Proofs.YtgddblpgbkgpcaaW.PrintLast Go.Proofs.YtgddblpgbkgpcaaW.PrintMore
set_option linter.unusedVariables false
set_option linter.unusedSimpArgs false
def HPost (w : World) (l : List S46) (e : Ending) (w' : World) : Prop := ∃ v : Value, e = .returned (.agg #[v]) ∧ k46.R 46 w' w.heap.size (fun _ => True) v l ∧ Below w.heap.size w w'
section
variable {w wi w1 : World} {v : Value} {l : List S46}
end
theorem new_obj {w12 : World} {base N : Nat} {x : S46} {v3 v4 v5 v6 : Value} (r3 : k35.R 35 w12 N (fun _ => True) v3 x.f3) (r4 : k35.R 35 w12 N (fun _ => True) v4 x.f4) (r5 : Kd.string.R 9 w12 N (fun _ => True) v5 x.f5) (r6 : k35.R 35 w12 N (fun _ => True) v6 x.f6) (_h : base ≤ w12.heap.size) (hb : base ≤ N) :
    k46.M w12 base (fun k => N ≤ k) x [.int .i64 x.f0, .string x.f1, .int .i64 x.f2, v3, v4, v5, v6] :=
  k46_mkM w12 base _ x (Kd.R_lower (Kd.R_mono (Kd.R_bound r3) (fun _ hk => hk.2.1)) hb) (Kd.R_lower (Kd.R_mono (Kd.R_bound r4) (fun _ hk => hk.2.1)) hb) (Kd.R_lower (Kd.R_mono (Kd.R_bound r5) (fun _ hk => hk.2.1)) hb) (Kd.R_lower (Kd.R_mono (Kd.R_bound r6) (fun _ hk => hk.2.1)) hb)
theorem take_snoc46 {l : List S46} {k : Nat} {x : S46} (h : l[k]? = some x) : l.take (k + 1) = l.take k ++ [x] := by
  obtain ⟨hk, e⟩ := List.getElem?_eq_some_iff.1 h
  rw [List.take_succ_eq_append_getElem hk, e]
def oL (o : S46) : Prop := o.f3.length ≤ 1000 ∧ o.f4.length ≤ 1000 ∧ o.f5.length ≤ 1000 ∧ o.f6.length ≤ 1000
theorem obj_at {w : World} {A : Option Addr} {n : Nat} {l : List S46} (h : Kd.C k46 w A n l) (k : Nat) (hk : k < n) :
    ∃ (x : S46) (ad : Addr) (A3 : Option Addr) (c3 : Nat) (A4 : Option Addr) (c4 : Nat) (A5 : Option Addr) (c5 : Nat) (A6 : Option Addr) (c6 : Nat), l[k]? = some x ∧ A = some ad ∧ w.cell? (ad.add (k * 7)) = some (.int .i64 x.f0) ∧ w.cell? ⟨(ad.add (k * 7)).block, (ad.add (k * 7)).off + 1, none⟩ = some (.string x.f1) ∧ w.cell? ⟨(ad.add (k * 7)).block, (ad.add (k * 7)).off + 2, none⟩ = some (.int .i64 x.f2) ∧
      w.cell? ⟨(ad.add (k * 7)).block, (ad.add (k * 7)).off + 3, none⟩ = some (.slice A3 x.f3.length c3) ∧ w.cell? ⟨(ad.add (k * 7)).block, (ad.add (k * 7)).off + 4, none⟩ = some (.slice A4 x.f4.length c4) ∧ w.cell? ⟨(ad.add (k * 7)).block, (ad.add (k * 7)).off + 5, none⟩ = some (.slice A5 x.f5.length c5) ∧ w.cell? ⟨(ad.add (k * 7)).block, (ad.add (k * 7)).off + 6, none⟩ = some (.slice A6 x.f6.length c6) ∧
      (x.f3.length ≤ c3 ∧ Kd.C k35 w A3 x.f3.length x.f3) ∧ (x.f4.length ≤ c4 ∧ Kd.C k35 w A4 x.f4.length x.f4) ∧ (x.f5.length ≤ c5 ∧ Kd.C Kd.string w A5 x.f5.length x.f5) ∧ (x.f6.length ≤ c6 ∧ Kd.C k35 w A6 x.f6.length x.f6) := by
  have hl : l.length = n := h.1
  have hkl : k < l.length := by omega
  obtain ⟨ad, A3, c3, A4, c4, A5, c5, A6, c6, e, g0, g1, g2, g3, g4, g5, g6, l3, r3, l4, r4, l5, r5, l6, r6⟩ := at_T46 h (k : Int) (by omega) (by omega)
  have er : rd_T46 l (k : Int) = l[k] := by unfold rd_T46; simp [List.getD_eq_getElem?_getD, hkl]
  rw [er] at g0 g1 g2 g3 g4 g5 g6 l3 r3 l4 r4 l5 r5 l6 r6
  exact ⟨l[k], ad, A3, c3, A4, c4, A5, c5, A6, c6, by simp [hkl], e, g0, g1, g2, g3, g4, g5, g6, ⟨l3, r3⟩, ⟨l4, r4⟩, ⟨l5, r5⟩, ⟨l6, r6⟩⟩
end Go.Proofs.Ytgddblpgbkgpcaa.PR
namespace Go.Proofs.Ytgddblpgbkgpcaa.PR
set_option linter.unusedVariables false
set_option linter.unusedSimpArgs false
open Go.RowKit Go.Proofs.YtgddblpgbkgpcaaW.PrintWords Go.Proofs.YtgddblpgbkgpcaaW.PrintLast Go.Proofs.YtgddblpgbkgpcaaW.PrintMore
def CsOk (cs : List Int) : Prop := cs.length ≤ 4000 ∧ ∀ c ∈ cs, 0 ≤ c ∧ c ≤ 255
theorem rd_cs {cs : List Int} (h : CsOk cs) (i : Int) : 0 ≤ rd cs i ∧ rd cs i ≤ 255 := by
  unfold rd
  rw [List.getD_eq_getElem?_getD]
  rcases Nat.lt_or_ge i.toNat cs.length with hl | hl
  · rw [List.getElem?_eq_getElem hl]; exact h.2 _ (List.getElem_mem hl)
  · rw [List.getElem?_eq_none hl]; simp
theorem w64 {x : Int} (h : -9223372036854775808 ≤ x ∧ x ≤ 9223372036854775807) : wrap64 x = x := by unfold wrap64; omega
theorem xor_nn (a b : Int) (ha : 0 ≤ a) (ha' : a < 1000000000) (hb : 0 ≤ b) (hb' : b < 1000000000) : 0 ≤ Go.bits .xor .i64 a b := by
  obtain ⟨a, rfl⟩ := Int.eq_ofNat_of_zero_le ha
  obtain ⟨b, rfl⟩ := Int.eq_ofNat_of_zero_le hb
  have h1 : a < 2 ^ 30 := by omega
  have h2 : b < 2 ^ 30 := by omega
  have h3 : a ^^^ b < 2 ^ 30 := Nat.xor_lt_two_pow h1 h2
  have e1 : a % 2 ^ IntKind.i64.bits = a := Nat.mod_eq_of_lt (Nat.lt_of_lt_of_le h1 (by decide))
  have e2 : b % 2 ^ IntKind.i64.bits = b := Nat.mod_eq_of_lt (Nat.lt_of_lt_of_le h2 (by decide))
  simp only [bits, BitVec.ofInt_natCast, BitVec.toNat_xor, BitVec.toNat_ofNat, e1, e2]
  rw [IntKind.wrap_i64]
  generalize a ^^^ b = c at h3
  omega
theorem mixv (A B t q : Int) (hA : 0 ≤ A ∧ A ≤ 255) (hB : 0 ≤ B ∧ B ≤ 255) (ht : 0 ≤ t ∧ t ≤ 1000000) (hq : 0 ≤ q ∧ q ≤ 1000000) :
    wrap64 ((wrap64 ((wrap64 ((wrap64 ((wrap64 A) * 131)) + (wrap64 ((wrap64 B) * 1117)))) + (wrap64 (t * 29)))) + (wrap64 ((wrap64 q) * 53))) = A * 131 + B * 1117 + t * 29 + q * 53 := by
  rw [w64 (x := A) (by omega), w64 (x := B) (by omega), w64 (x := q) (by omega), w64 (x := A * 131) (by omega), w64 (x := B * 1117) (by omega), w64 (x := t * 29) (by omega), w64 (x := q * 53) (by omega), w64 (x := A * 131 + B * 1117) (by omega), w64 (x := A * 131 + B * 1117 + t * 29) (by omega), w64 (by omega)]
theorem tmod_nn {a b : Int} (ha : 0 ≤ a) (hb : 0 < b) : 0 ≤ Int.tmod a b ∧ Int.tmod a b < b := by
  rw [Int.tmod_eq_emod_of_nonneg ha]
  exact ⟨Int.emod_nonneg _ (by omega), Int.emod_lt_of_pos _ hb⟩
theorem xr_tmod (v n : Int) (hv : 0 ≤ v ∧ v < 1000000000) (hn : 0 < n) : 0 ≤ Int.tmod (Go.bits .xor .i64 v (wrap64 (Int.tdiv v 64))) n ∧ Int.tmod (Go.bits .xor .i64 v (wrap64 (Int.tdiv v 64))) n < n := by
  refine tmod_nn ?_ hn
  have h1 : Int.tdiv v 64 = v / 64 := Int.tdiv_eq_ediv_of_nonneg hv.1
  rw [h1, w64 (by omega)]
  exact xor_nn _ _ hv.1 hv.2 (by omega) (by omega)
theorem pick_ex {cs : List Int} (t n : Int) (hc : CsOk cs) (h0 : 0 ≤ t) (h1 : t ≤ 1000000) (hn : n ≤ 1000000) : ∃ r t', spec_rnd_pick.f cs t n = some (r, t') ∧ t ≤ t' ∧ t' ≤ t + 1 ∧ 0 ≤ r ∧ (1 ≤ n → r < n) := by
  unfold spec_rnd_pick.f
  by_cases h2 : n < 2
  · rw [if_pos h2]; exact ⟨0, t, rfl, by omega, by omega, by omega, by omega⟩
  rw [if_neg h2]
  have et : wrap64 (t + 1) = t + 1 := w64 (by omega)
  by_cases hl : (cs.length : Int) > 0
  · have b1 := tmod_nn h0 hl
    have b2 := tmod_nn (show 0 ≤ t * 7 + 3 by omega) hl
    have e7 : wrap64 ((wrap64 (t * 7)) + 3) = t * 7 + 3 := by rw [w64 (x := t * 7) (by omega), w64 (by omega)]
    have hA := rd_cs hc (Int.tmod t (cs.length : Int))
    have hB := rd_cs hc (Int.tmod (t * 7 + 3) (cs.length : Int))
    have hq : 0 ≤ Int.tdiv t (cs.length : Int) ∧ Int.tdiv t (cs.length : Int) ≤ 1000000 := by
      rw [Int.tdiv_eq_ediv_of_nonneg h0]
      have h3 := Int.ediv_le_self (cs.length : Int) h0
      have h4 := Int.ediv_nonneg h0 (Int.le_of_lt hl)
      omega
    have hn0 : ¬ n = 0 := by omega
    rw [if_pos hl, if_neg (by omega), if_pos b1.1, if_pos b1.2, e7, if_pos b2.1, if_pos b2.2, mixv _ _ _ _ hA hB ⟨h0, h1⟩ hq, et]
    simp only [if_neg hn0]
    have hX := xr_tmod (rd cs (Int.tmod t (cs.length : Int)) * 131 + rd cs (Int.tmod (t * 7 + 3) (cs.length : Int)) * 1117 + t * 29 + Int.tdiv t (cs.length : Int) * 53) n (by omega) (by omega)
    have hY := tmod_nn (show 0 ≤ wrap64 (rd cs (Int.tmod t (cs.length : Int))) by rw [w64 (by omega)]; omega) (show 0 < n by omega)
    split
    · exact ⟨_, _, rfl, by omega, by omega, hX.1, fun _ => hX.2⟩
    · split
      · exact ⟨_, _, rfl, by omega, by omega, hX.1, fun _ => hX.2⟩
      · exact ⟨_, _, rfl, by omega, by omega, hY.1, fun _ => hY.2⟩
  · rw [if_neg hl, if_neg (by omega : ¬ n = 0), et, Int.zero_emod]
    exact ⟨_, _, rfl, by omega, by omega, by omega, by omega⟩
theorem one_ex {cs : List Int} (t : Int) (l : List Int) (hc : CsOk cs) (h0 : 0 ≤ t) (h1 : t ≤ 1000000) (hl : 0 < l.length) (hl' : l.length ≤ 1000) : ∃ r t', spec_rnd_one.f cs t l = some (r, t') ∧ t ≤ t' ∧ t' ≤ t + 1 ∧ r ∈ l := by
  obtain ⟨i, t', e, a, b, c, d⟩ := pick_ex t (l.length : Int) hc h0 h1 (by omega)
  have hd := d (by omega)
  unfold spec_rnd_one.f
  rw [e]
  simp only [Option.bind_some]
  rw [if_pos c, if_pos hd]
  refine ⟨_, _, rfl, a, b, ?_⟩
  unfold rd
  rw [List.getD_eq_getElem?_getD, List.getElem?_eq_getElem (by omega)]
  exact List.getElem_mem _
theorem of_ex {cs : List Int} (t : Int) (l : List ByteArray) (hc : CsOk cs) (h0 : 0 ≤ t) (h1 : t ≤ 1000000) (hl : 0 < l.length) (hl' : l.length ≤ 1000) : ∃ r t', spec_rnd_of.f cs t l = some (r, t') ∧ t ≤ t' ∧ t' ≤ t + 1 ∧ r ∈ l := by
  obtain ⟨i, t', e, a, b, c, d⟩ := pick_ex t (l.length : Int) hc h0 h1 (by omega)
  have hd := d (by omega)
  unfold spec_rnd_of.f
  rw [e]
  simp only [Option.bind_some]
  rw [if_pos c, if_pos hd]
  refine ⟨_, _, rfl, a, b, ?_⟩
  unfold rdOf
  rw [List.getD_eq_getElem?_getD, List.getElem?_eq_getElem (by omega)]
  exact List.getElem_mem _
theorem odd_ex {cs : List Int} (t : Int) (hc : CsOk cs) (h0 : 0 ≤ t) (h1 : t ≤ 1000000) : ∃ r t', spec_rnd_odd.f cs t = some (r, t') ∧ t ≤ t' ∧ t' ≤ t + 1 ∧ -9223372036854775808 ≤ r ∧ r ≤ 9223372036854775807 := by
  obtain ⟨r, t', e, a, b, c⟩ := one_ex t [(-1), 4611686018427387904, (-4611686018427387904), 1001, 7, 1000001, (-9223372036854775808), 9223372036854775807] hc h0 h1 (by decide) (by decide)
  unfold spec_rnd_odd.f
  rw [e]
  refine ⟨_, _, rfl, a, b, ?_⟩
  simp at c
  omega
theorem often_ex {cs : List Int} (t n : Int) (hc : CsOk cs) (h0 : 0 ≤ t) (h1 : t ≤ 999000) (hn : -9223372036854775808 ≤ n ∧ n ≤ 9223372036854775807) : ∃ r t', spec_rnd_often.f cs t n = some (r, t') ∧ t ≤ t' ∧ t' ≤ t + 2 ∧ -9223372036854775808 ≤ r ∧ r ≤ 9223372036854775807 := by
  obtain ⟨r, t', e, a, b, c, d⟩ := pick_ex t 16 hc h0 (by omega) (by omega)
  unfold spec_rnd_often.f
  rw [e]
  simp only [Option.bind_some]
  split
  · obtain ⟨r2, t2, e2, a2, b2, c2⟩ := odd_ex t' hc (by omega) (by omega)
    rw [e2]
    exact ⟨_, _, rfl, by omega, by omega, c2⟩
  · exact ⟨_, _, rfl, by omega, by omega, hn⟩
theorem dec_all : ∀ i : Fin 105, ((spec_decimal.f 20 ((i.val : Int) - 4)).map fun s => decide (s.size ≤ 5)) = some true := by decide +kernel
theorem dec_ex (x : Int) (h0 : -4 ≤ x) (h1 : x ≤ 100) : ∃ s, spec_decimal.f 20 x = some s ∧ s.size ≤ 5 := by
  have h := dec_all ⟨(x + 4).toNat, by omega⟩
  simp only at h
  rw [show (((x + 4).toNat : Nat) : Int) - 4 = x by omega] at h
  obtain ⟨s, e, hs⟩ := Option.map_eq_some_iff.1 h
  exact ⟨s, e, by simpa using hs⟩
theorem small_ex {cs : List Int} (t : Int) (hc : CsOk cs) (h0 : 0 ≤ t) (h1 : t ≤ 990000) : ∃ s t', spec_rnd_small.f 20 cs t = some (s, t') ∧ t ≤ t' ∧ t' ≤ t + 2 ∧ s.size ≤ 5 := by
  obtain ⟨r, t', e, a, b, c, d⟩ := pick_ex t 100 hc h0 (by omega) (by omega)
  obtain ⟨r2, t2, e2, a2, b2, c2⟩ := one_ex t' [0, 1, 2, 3, 4, 5, 7, 10, r] hc (by omega) (by omega) (by simp) (by simp)
  have hr := d (by omega)
  obtain ⟨s, e3, hs⟩ := dec_ex r2 (by simp at c2; omega) (by simp at c2; omega)
  unfold spec_rnd_small.f
  rw [e]; simp only [Option.bind_some]
  rw [e2]; simp only [Option.bind_some]
  rw [e3]
  exact ⟨_, _, rfl, by omega, by omega, hs⟩
def VOk (x : S35) : Prop := x.f1.size ≤ 5 ∧ -9223372036854775808 ≤ x.f0 ∧ x.f0 ≤ 9223372036854775807 ∧ -9223372036854775808 ≤ x.f2 ∧ x.f2 ≤ 9223372036854775807
end Go.Proofs.Ytgddblpgbkgpcaa.PR
namespace Go.Proofs.Ytgddblpgbkgpcaa.PR
set_option linter.unusedVariables false
set_option linter.unusedSimpArgs false
open Go.RowKit Go.Proofs.YtgddblpgbkgpcaaW.PrintWords Go.Proofs.YtgddblpgbkgpcaaW.PrintLast Go.Proofs.YtgddblpgbkgpcaaW.PrintMore
def Rn (w0 w : World) (g : Nat) (b : Int) : Prop := ∃ cs t, IsS102 w0 w g cs t ∧ CsOk cs ∧ 0 ≤ t ∧ t ≤ b
section
variable {w0 w w1 : World} {g : Nat} {b : Int}
theorem Rn.mono (h : Rn w0 w g b) {b' : Int} (hb : b ≤ b') : Rn w0 w g b' := by
  obtain ⟨cs, t, hI, hc, h0, h1⟩ := h
  exact ⟨cs, t, hI, hc, h0, by omega⟩
theorem Rn.grown (h : Rn w0 w g b) {row : Option Nat} (hg : w.grownBy w1 row) (hne : some g ≠ row) : Rn w0 w1 g b := by
  obtain ⟨cs, t, hI, hc⟩ := h
  exact ⟨cs, t, hI.grown hg hne, hc⟩
theorem Rn.below (h : Rn w0 w g b) (hb : Below w.heap.size w w1) : Rn w0 w1 g b := h.grown (grown_of_below hb none) (by simp)
theorem Rn.alloc (h : Rn w0 w g b) (o : Obj) : Rn w0 (w.alloc o) g b := h.below (bla (Below.refl _ _) o)
theorem Rn.drew (h : Rn w0 w g b) : Rn w0 w.drew g b := h.below (below_drew (Below.refl _ _))
theorem Rn.far (h : Rn w0 w g b) {p : Addr} (hne : g ≠ p.block) (u : Value) : Rn w0 (w.setCell p u) g b := by
  obtain ⟨cs, t, hI, hc⟩ := h
  exact ⟨cs, t, hI.far hne u, hc⟩
theorem Rn.lt (h : Rn w0 w g b) : g < w.heap.size := by
  obtain ⟨cs, t, hI, hc⟩ := h
  exact hI.lt
theorem Rn.ge (h : Rn w0 w g b) : w0.heap.size ≤ g := by
  obtain ⟨cs, t, hI, hc⟩ := h
  exact hI.ge
end
theorem C_ints (W : World) (l : List Int) (hl : l.length ≤ 9223372036854775807) (t : Nat) : Kd.C (Kd.int .i64) (W.alloc (.cells (l.map (Value.int .i64)).toArray t)) (some ⟨W.heap.size, 0, none⟩) l.length l := by
  refine Kd.C_of_reads (d := (0 : Int)) (h1 := fun _ => rfl) ⟨rfl, hl, fun _ => ⟨_, rfl, fun j hj => ?_⟩⟩
  rw [show (⟨W.heap.size, 0, none⟩ : Addr).add j = ⟨W.heap.size, j, none⟩ by unfold Addr.add; split <;> simp_all, kcl (blk_new W _) j]
  simp [hj]
theorem C_strs (W : World) (l : List ByteArray) (hl : l.length ≤ 9223372036854775807) (t : Nat) : Kd.C Kd.string (W.alloc (.cells (l.map Value.string).toArray t)) (some ⟨W.heap.size, 0, none⟩) l.length l := by
  refine Kd.C_of_reads (d := (ByteArray.empty : ByteArray)) (h1 := fun _ => rfl) ⟨rfl, hl, fun _ => ⟨_, rfl, fun j hj => ?_⟩⟩
  rw [show (⟨W.heap.size, 0, none⟩ : Addr).add j = ⟨W.heap.size, j, none⟩ by unfold Addr.add; split <;> simp_all, kcl (blk_new W _) j]
  simp [hj]
theorem pick_w (g : Nat) (n b : Int) (w0 w : World) (hR : Rn w0 w g b) (hB : Below w0.heap.size w0 w) (hb : b ≤ 1000000) (hn : n ≤ 1000000) :
    Calls Try.prog 51 #[.pointer (some ⟨g, 0, none⟩), .int .i64 n] w fun e w' => ∃ r : Int, e = .returned (.int .i64 r) ∧ 0 ≤ r ∧ (1 ≤ n → r < n) ∧ Rn w0 w' g (b + 1) ∧ Below w0.heap.size w0 w' ∧ KeepBut w w' g none := by
  obtain ⟨cs, t, hI, hc, h0, h1⟩ := hR
  obtain ⟨r, t', e, a, b', c, d⟩ := pick_ex t n hc h0 (by omega) hn
  refine (spec_rnd_pick.calls g cs t n r t' w0 w hI hB e).mono ?_
  rintro e w' ⟨rfl, hI', hB', hK⟩
  exact ⟨r, rfl, c, d, ⟨cs, t', hI', hc, by omega, by omega⟩, hB', hK⟩
theorem one_w (g : Nat) (A1 : Option Addr) (c1 : Nat) (l : List Int) (b : Int) (w0 w : World) (hR : Rn w0 w g b) (hB : Below w0.heap.size w0 w) (hb : b ≤ 1000000) (hr : Kd.C (Kd.int .i64) w A1 l.length l) (hc1 : l.length ≤ c1) (hf : ∀ ad, A1 = some ad → 0 < l.length → ad.block ≠ g) (hl : 0 < l.length) (hl' : l.length ≤ 1000) :
    Calls Try.prog 88 #[.pointer (some ⟨g, 0, none⟩), .slice A1 l.length c1] w fun e w' => ∃ r : Int, e = .returned (.int .i64 r) ∧ r ∈ l ∧ Rn w0 w' g (b + 1) ∧ Below w0.heap.size w0 w' ∧ KeepBut w w' g none := by
  obtain ⟨cs, t, hI, hc, h0, h1⟩ := hR
  obtain ⟨r, t', e, a, b', c⟩ := one_ex t l hc h0 (by omega) hl hl'
  refine (spec_rnd_one.calls g cs t A1 c1 l r t' w0 w hI hB hr hc1 hf e).mono ?_
  rintro e w' ⟨rfl, hI', hB', hK⟩
  exact ⟨r, rfl, c, ⟨cs, t', hI', hc, by omega, by omega⟩, hB', hK⟩
theorem of_w (g : Nat) (A1 : Option Addr) (c1 : Nat) (l : List ByteArray) (b : Int) (w0 w : World) (hR : Rn w0 w g b) (hB : Below w0.heap.size w0 w) (hb : b ≤ 1000000) (hr : Kd.C Kd.string w A1 l.length l) (hc1 : l.length ≤ c1) (hf : ∀ ad, A1 = some ad → 0 < l.length → ad.block ≠ g) (hl : 0 < l.length) (hl' : l.length ≤ 1000) :
    Calls Try.prog 90 #[.pointer (some ⟨g, 0, none⟩), .slice A1 l.length c1] w fun e w' => ∃ r : ByteArray, e = .returned (.string r) ∧ r ∈ l ∧ Rn w0 w' g (b + 1) ∧ Below w0.heap.size w0 w' ∧ KeepBut w w' g none := by
  obtain ⟨cs, t, hI, hc, h0, h1⟩ := hR
  obtain ⟨r, t', e, a, b', c⟩ := of_ex t l hc h0 (by omega) hl hl'
  refine (spec_rnd_of.calls g cs t A1 c1 l r t' w0 w hI hB hr hc1 hf e).mono ?_
  rintro e w' ⟨rfl, hI', hB', hK⟩
  exact ⟨r, rfl, c, ⟨cs, t', hI', hc, by omega, by omega⟩, hB', hK⟩
theorem odd_w (g : Nat) (b : Int) (w0 w : World) (hR : Rn w0 w g b) (hB : Below w0.heap.size w0 w) (hb : b ≤ 1000000) :
    Calls Try.prog 92 #[.pointer (some ⟨g, 0, none⟩)] w fun e w' => ∃ r : Int, e = .returned (.int .i64 r) ∧ -9223372036854775808 ≤ r ∧ r ≤ 9223372036854775807 ∧ Rn w0 w' g (b + 1) ∧ Below w0.heap.size w0 w' ∧ KeepBut w w' g none := by
  obtain ⟨cs, t, hI, hc, h0, h1⟩ := hR
  obtain ⟨r, t', e, a, b', c, d⟩ := odd_ex t hc h0 (by omega)
  refine (spec_rnd_odd.calls g cs t r t' w0 w hI hB e).mono ?_
  rintro e w' ⟨rfl, hI', hB', hK⟩
  exact ⟨r, rfl, c, d, ⟨cs, t', hI', hc, by omega, by omega⟩, hB', hK⟩
theorem often_w (g : Nat) (n b : Int) (w0 w : World) (hR : Rn w0 w g b) (hB : Below w0.heap.size w0 w) (hb : b ≤ 999000) (hn : -9223372036854775808 ≤ n ∧ n ≤ 9223372036854775807) :
    Calls Try.prog 93 #[.pointer (some ⟨g, 0, none⟩), .int .i64 n] w fun e w' => ∃ r : Int, e = .returned (.int .i64 r) ∧ -9223372036854775808 ≤ r ∧ r ≤ 9223372036854775807 ∧ Rn w0 w' g (b + 2) ∧ Below w0.heap.size w0 w' ∧ KeepBut w w' g none := by
  obtain ⟨cs, t, hI, hc, h0, h1⟩ := hR
  obtain ⟨r, t', e, a, b', c, d⟩ := often_ex t n hc h0 (by omega) hn
  refine (spec_rnd_often.calls g cs t n r t' w0 w hI hB e).mono ?_
  rintro e w' ⟨rfl, hI', hB', hK⟩
  exact ⟨r, rfl, c, d, ⟨cs, t', hI', hc, by omega, by omega⟩, hB', hK⟩
def nm4 : List ByteArray := [⟨#[97]⟩, ⟨#[98]⟩, ⟨#[99]⟩, ⟨#[116, 101, 120, 116]⟩]
def oB (o : S46) : Bool := decide (o.f1.size ≤ 100) && decide (o.f3.length ≤ 40) && decide (o.f4.length ≤ 40) && decide (o.f5.length ≤ 40) && decide (o.f6.length ≤ 40) &&
  o.f3.all (fun x => decide (x.f1.size ≤ 5)) && o.f4.all (fun x => decide (x.f1.size ≤ 5)) && o.f6.all (fun x => decide (x.f1.size ≤ 5)) && o.f5.all (fun s => nm4.any fun y => y.toList == s.toList)
def kB (o : S46) : Bool := o.f0 == 5 || o.f0 == 10
end Go.Proofs.Ytgddblpgbkgpcaa.PR
namespace Go.Proofs.Ytgddblpgbkgpcaa.PR
set_option linter.unusedVariables false
set_option linter.unusedSimpArgs false
open Go.RowKit Go.Proofs.YtgddblpgbkgpcaaW.PrintWords Go.Proofs.YtgddblpgbkgpcaaW.PrintLast Go.Proofs.YtgddblpgbkgpcaaW.PrintMore
set_option linter.unusedVariables false
set_option linter.unusedSimpArgs false
def VPost1 (w0 w : World) (g : Nat) (b : Int) (e : Ending) (w' : World) : Prop := ∃ x : S35, e = .returned (.agg #[.int .i64 x.f0, .string x.f1, .int .i64 x.f2]) ∧ VOk x ∧ Rn w0 w' g b ∧ Below w0.heap.size w0 w' ∧ KeepBut w w' g none
structure Vd (w0 w wi : World) (g : Nat) (b : Int) : Prop where
  rn : Rn w0 wi g b
  bl : Below w0.heap.size w0 wi
  kp : KeepBut w wi g none
  c : wi.heap[w.heap.size]? = some (.cells #[.int .i64 0, .string ⟨#[]⟩, .int .i64 0] 35 (0, 0))
  gw : g < w.heap.size
section
variable {w0 w wi w1 : World} {g : Nat} {b b' : Int}
theorem Vd.call (h : Vd w0 w wi g b) (hR : Rn w0 w1 g b') (hB : Below w0.heap.size w0 w1) (hK : KeepBut wi w1 g none) : Vd w0 w w1 g b' := by
  have := h.gw
  exact ⟨hR, hB, h.kp.trans hK (.inl rfl), hK.blk h.c (by omega) (by simp), h.gw⟩
theorem Vd.below (h : Vd w0 w wi g b) (hb : Below wi.heap.size wi w1) : Vd w0 w w1 g b := h.call (h.rn.below hb) (bst h.bl hb) (KeepBut.of_below hb g none)
theorem Vd.fin (h : Vd w0 w wi g b) (hb : b ≤ b') {x : S35} (hx : VOk x) :
    (((wi.setCell ⟨w.heap.size, 0, none⟩ (.int .i64 x.f0)).setCell ⟨w.heap.size, 1, none⟩ (.string x.f1)).setCell ⟨w.heap.size, 2, none⟩ (.int .i64 x.f2)).heap[w.heap.size]? = some (.cells #[.int .i64 x.f0, .string x.f1, .int .i64 x.f2] 35 (0, 0)) ∧
    VPost1 w0 w g b' (.returned (.agg #[.int .i64 x.f0, .string x.f1, .int .i64 x.f2])) (((wi.setCell ⟨w.heap.size, 0, none⟩ (.int .i64 x.f0)).setCell ⟨w.heap.size, 1, none⟩ (.string x.f1)).setCell ⟨w.heap.size, 2, none⟩ (.int .i64 x.f2)) := by
  have h1 := h.gw
  have h2 := h.rn.ge
  have e0 : (wi.setCell ⟨w.heap.size, 0, none⟩ (.int .i64 x.f0)).heap[w.heap.size]? = some (.cells #[.int .i64 x.f0, .string ⟨#[]⟩, .int .i64 0] 35 (0, 0)) := blk_put h.c 0 _ rfl
  have e1 : ((wi.setCell ⟨w.heap.size, 0, none⟩ (.int .i64 x.f0)).setCell ⟨w.heap.size, 1, none⟩ (.string x.f1)).heap[w.heap.size]? = some (.cells #[.int .i64 x.f0, .string x.f1, .int .i64 0] 35 (0, 0)) := blk_put e0 1 _ rfl
  exact ⟨blk_put e1 2 _ rfl, x, rfl, hx, (((h.rn.mono hb).far (by simp; omega) _).far (by simp; omega) _).far (by simp; omega) _, ((h.bl.setCell (by simp; omega) _).setCell (by simp; omega) _).setCell (by simp; omega) _, keep_far (keep_far (keep_far h.kp (by simp) _) (by simp) _) (by simp) _⟩
end
theorem boolVal_w (a : Bool) (w : World) : Calls Try.prog 94 #[.bool a] w fun e w' => ∃ x : S35, e = .returned (.agg #[.int .i64 x.f0, .string x.f1, .int .i64 x.f2]) ∧ VOk x ∧ Below w.heap.size w w' := by
  cases a
  · refine (spec_boolVal.calls false _ _ _ w (by unfold spec_boolVal.f; rfl)).mono ?_
    rintro e w' ⟨rfl, hb⟩
    exact ⟨⟨_, _, _⟩, rfl, ⟨by decide, by decide, by decide, by decide, by decide⟩, hb⟩
  · refine (spec_boolVal.calls true _ _ _ w (by unfold spec_boolVal.f; rfl)).mono ?_
    rintro e w' ⟨rfl, hb⟩
    exact ⟨⟨_, _, _⟩, rfl, ⟨by decide, by decide, by decide, by decide, by decide⟩, hb⟩
theorem intVal_w (s : ByteArray) (w : World) (hs : s.size ≤ 5) : Calls Try.prog 95 #[.string s] w fun e w' => ∃ x : S35, e = .returned (.agg #[.int .i64 x.f0, .string x.f1, .int .i64 x.f2]) ∧ VOk x ∧ Below w.heap.size w w' := by
  refine (spec_intVal.calls s _ _ _ w rfl).mono ?_
  rintro e w' ⟨rfl, hb⟩
  exact ⟨⟨_, _, _⟩, rfl, ⟨hs, by simp, by simp, by simp, by simp⟩, hb⟩
theorem textVal_w (s : ByteArray) (w : World) (hs : s.size ≤ 5) : Calls Try.prog 97 #[.string s] w fun e w' => ∃ x : S35, e = .returned (.agg #[.int .i64 x.f0, .string x.f1, .int .i64 x.f2]) ∧ VOk x ∧ Below w.heap.size w w' := by
  refine (spec_textVal.calls s _ _ _ w rfl).mono ?_
  rintro e w' ⟨rfl, hb⟩
  exact ⟨⟨_, _, _⟩, rfl, ⟨hs, by simp, by simp, by simp, by simp⟩, hb⟩
theorem refT_w (a : Int) (w : World) (ha : 0 ≤ a ∧ a ≤ 1000000) : Calls Try.prog 59 #[.int .i64 a] w fun e w' => ∃ x : S35, e = .returned (.agg #[.int .i64 x.f0, .string x.f1, .int .i64 x.f2]) ∧ VOk x ∧ Below w.heap.size w w' := by
  refine (spec_refTo.calls a _ _ _ w rfl).mono ?_
  rintro e w' ⟨rfl, hb⟩
  exact ⟨⟨_, _, _⟩, rfl, ⟨show (⟨#[]⟩ : ByteArray).size ≤ 5 by decide, by simp, by simp, by simp; omega, by simp; omega⟩, hb⟩
theorem decimal_w (a : Int) (w : World) (h0 : -4 ≤ a) (h1 : a ≤ 100) : Calls Try.prog 96 #[.int .i64 a] w fun e w' => ∃ s : ByteArray, e = .returned (.string s) ∧ s.size ≤ 5 ∧ Below w.heap.size w w' := by
  obtain ⟨s, hf, hs⟩ := dec_ex a h0 h1
  refine (spec_decimal.calls 20 a s w hf).mono ?_
  rintro e w' ⟨rfl, hb⟩
  exact ⟨s, rfl, hs, hb⟩
theorem small_w (g : Nat) (b : Int) (w0 w : World) (hR : Rn w0 w g b) (hB : Below w0.heap.size w0 w) (hb : b ≤ 990000) : Calls Try.prog 98 #[.pointer (some ⟨g, 0, none⟩)] w fun e w' => ∃ s : ByteArray, e = .returned (.string s) ∧ s.size ≤ 5 ∧ Rn w0 w' g (b + 2) ∧ Below w0.heap.size w0 w' ∧ KeepBut w w' g none := by
  obtain ⟨cs, t, hI, hc, h0, h1⟩ := hR
  obtain ⟨s, t', e, a, b', hs⟩ := small_ex t hc h0 (by omega)
  refine (spec_rnd_small.calls 20 g cs t s t' w0 w hI hB e).mono ?_
  rintro e w' ⟨rfl, hI', hB', hK⟩
  exact ⟨s, rfl, hs, ⟨cs, t', hI', hc, by omega, by omega⟩, hB', hK⟩
set_option maxRecDepth 100000 in
set_option maxHeartbeats 40000000 in
theorem value_w (g : Nat) (n b : Int) (w0 w : World) (hR : Rn w0 w g b) (hB : Below w0.heap.size w0 w) (hb : b ≤ 980000) (hn : 0 ≤ n) (hn' : n ≤ 100000) :
    Calls Try.prog 52 #[.pointer (some ⟨g, 0, none⟩), .int .i64 n] w (VPost1 w0 w g (b + 10)) := by
  have HV := Aside0.mk (show Vd w0 w (w.alloc (.cells #[.int .i64 0, .string ⟨#[]⟩, .int .i64 0] 35)) g b from ⟨hR.alloc _, bla hB _, KeepBut.of_below (bla (Below.refl _ _) _) g none, blk_new _ _, hR.lt⟩)
  clear hR hB
  go_enter Try.func52, Try.ntmps52
  go_wp2_with fail
  refine (pick_w g 7 b w0 _ (HV.out.rn.mono (by omega)) HV.out.bl (by omega) (by omega)).mono ?_
  rintro e y ⟨p, rfl, p0, p1, hR, hB, hK⟩
  replace HV := Aside0.mk (HV.out.call hR hB hK)
  clear hR hB hK
  replace p1 := p1 (by decide)
  by_cases h0 : p = 0
  · subst h0
    have hx : VOk ⟨0, ⟨#[]⟩, 0⟩ := ⟨by decide, by decide, by decide, by decide, by decide⟩
    have c0 := (kcl HV.out.c 0).trans (show _ = some (.int .i64 0) from rfl)
    have c1 := (kcl HV.out.c 1).trans (show _ = some (.string ⟨#[]⟩) from rfl)
    have c2 := (kcl HV.out.c 2).trans (show _ = some (.int .i64 0) from rfl)
    have f0 := kfz HV.out.c 0
    have f1 := kfz HV.out.c 1
    have f2 := kfz HV.out.c 2
    go_wp2_with fail
    obtain ⟨o1, o2⟩ := HV.out.fin (b' := b + 10) (by omega) hx
    refine bodyPost_ret (v := .agg #[.int .i64 0, .string ⟨#[]⟩, .int .i64 0]) (B.res_c rfl _ _ w.heap.size 35 _ (0, 0) _ rfl o1 Try.underlying35 rfl rfl) rfl o2
  by_cases h1 : p = 1
  · subst h1
    clear h0
    go_wp2_with fail
    refine (pick_w g 2 (b + 1) w0 _ (HV.out.rn.mono (by omega)) HV.out.bl (by omega) (by omega)).mono ?_
    rintro e y ⟨r, rfl, r0, r1, hR, hB, hK⟩
    replace HV := Aside0.mk (HV.out.call hR hB hK)
    clear hR hB hK
    go_wp2_with fail
    refine (boolVal_w _ _).mono ?_
    rintro e y ⟨x, rfl, hx, hb⟩
    replace HV := Aside0.mk (HV.out.below hb)
    clear hb
    have c0 := (kcl HV.out.c 0).trans (show _ = some (.int .i64 0) from rfl)
    have c1 := (kcl HV.out.c 1).trans (show _ = some (.string ⟨#[]⟩) from rfl)
    have c2 := (kcl HV.out.c 2).trans (show _ = some (.int .i64 0) from rfl)
    have f0 := kfz HV.out.c 0
    have f1 := kfz HV.out.c 1
    have f2 := kfz HV.out.c 2
    go_wp2_with fail
    obtain ⟨o1, o2⟩ := HV.out.fin (b' := b + 10) (by omega) hx
    refine bodyPost_ret (v := .agg #[.int .i64 x.f0, .string x.f1, .int .i64 x.f2]) (B.res_c rfl _ _ w.heap.size 35 _ (0, 0) _ rfl o1 Try.underlying35 rfl rfl) rfl o2
  by_cases h2 : p = 2
  · subst h2
    clear h0 h1
    go_wp2_with fail
    refine (pick_w g 9 (b + 1) w0 _ (HV.out.rn.mono (by omega)) HV.out.bl (by omega) (by omega)).mono ?_
    rintro e y ⟨r, rfl, r0, r1, hR, hB, hK⟩
    replace HV := Aside0.mk (HV.out.call hR hB hK)
    clear hR hB hK
    replace r1 := r1 (by decide)
    have e4 : wrap64 (r - 4) = r - 4 := by unfold wrap64; omega
    go_wp2_with fail
    refine (decimal_w (r - 4) _ (by omega) (by omega)).mono ?_
    rintro e y ⟨t, rfl, ht, hb⟩
    replace HV := Aside0.mk (HV.out.below hb)
    clear hb
    go_wp2_with fail
    refine (intVal_w t _ ht).mono ?_
    rintro e y ⟨x, rfl, hx, hb⟩
    replace HV := Aside0.mk (HV.out.below hb)
    clear hb
    have c0 := (kcl HV.out.c 0).trans (show _ = some (.int .i64 0) from rfl)
    have c1 := (kcl HV.out.c 1).trans (show _ = some (.string ⟨#[]⟩) from rfl)
    have c2 := (kcl HV.out.c 2).trans (show _ = some (.int .i64 0) from rfl)
    have f0 := kfz HV.out.c 0
    have f1 := kfz HV.out.c 1
    have f2 := kfz HV.out.c 2
    go_wp2_with fail
    obtain ⟨o1, o2⟩ := HV.out.fin (b' := b + 10) (by omega) hx
    refine bodyPost_ret (v := .agg #[.int .i64 x.f0, .string x.f1, .int .i64 x.f2]) (B.res_c rfl _ _ w.heap.size 35 _ (0, 0) _ rfl o1 Try.underlying35 rfl rfl) rfl o2
  by_cases h3 : p = 3
  · subst h3
    clear h0 h1 h2
    have HS := Aside0.mk (fun (W : World) => C_strs W [⟨#[]⟩, ⟨#[97]⟩, ⟨#[97, 98]⟩, ⟨#[98, 39]⟩] (by decide) 9)
    go_wp2_with fail
    have hgi := HV.out.rn.lt
    refine (of_w g _ 4 [⟨#[]⟩, ⟨#[97]⟩, ⟨#[97, 98]⟩, ⟨#[98, 39]⟩] (b + 1) w0 _ (HV.out.rn.alloc _) (bla HV.out.bl _) (by omega) (HS.out _) (by decide) (by intro ad e _; injection e with e; subst e; simp; omega) (by decide) (by decide)).mono ?_
    rintro e y2 ⟨t, rfl, ht, hR, hB, hK⟩
    replace HV := Aside0.mk ((HV.out.below (bla (Below.refl _ _) _)).call hR hB hK)
    have ht5 : t.size ≤ 5 := by simp at ht; rcases ht with rfl | rfl | rfl | rfl <;> decide
    clear hR hB hK hgi ht
    go_wp2_with fail
    refine (textVal_w t _ ht5).mono ?_
    rintro e y ⟨x, rfl, hx, hb⟩
    replace HV := Aside0.mk (HV.out.below hb)
    clear hb
    have c0 := (kcl HV.out.c 0).trans (show _ = some (.int .i64 0) from rfl)
    have c1 := (kcl HV.out.c 1).trans (show _ = some (.string ⟨#[]⟩) from rfl)
    have c2 := (kcl HV.out.c 2).trans (show _ = some (.int .i64 0) from rfl)
    have f0 := kfz HV.out.c 0
    have f1 := kfz HV.out.c 1
    have f2 := kfz HV.out.c 2
    go_wp2_with fail
    obtain ⟨o1, o2⟩ := HV.out.fin (b' := b + 10) (by omega) hx
    refine bodyPost_ret (v := .agg #[.int .i64 x.f0, .string x.f1, .int .i64 x.f2]) (B.res_c rfl _ _ w.heap.size 35 _ (0, 0) _ rfl o1 Try.underlying35 rfl rfl) rfl o2
  have g0 : (p == 0) = false := by simpa using h0
  have g1 : (p == 1) = false := by simpa using h1
  have g2 : (p == 2) = false := by simpa using h2
  have g3 : (p == 3) = false := by simpa using h3
  clear h0 h1 h2 h3
  by_cases h4 : p = 4
  · have g4 : (p == 4) = true := by simp [h4]
    go_wp2_with fail
    refine (pick_w g 12 (b + 1) w0 _ (HV.out.rn.mono (by omega)) HV.out.bl (by omega) (by omega)).mono ?_
    rintro e y ⟨r, rfl, r0, r1, hR, hB, hK⟩
    replace HV := Aside0.mk (HV.out.call hR hB hK)
    clear hR hB hK
    by_cases hr : r = 0
    · have gr : (r == 0) = true := by simp [hr]
      clear hr h4
      go_wp2_with fail
      refine (pick_w g 6 (b + 2) w0 _ (HV.out.rn.mono (by omega)) HV.out.bl (by omega) (by omega)).mono ?_
      rintro e y ⟨u, rfl, u0, u1, hR, hB, hK⟩
      replace HV := Aside0.mk (HV.out.call hR hB hK)
      clear hR hB hK
      replace u1 := u1 (by decide)
      go_wp2_with fail
      refine (often_w g u (b + 3) w0 _ (HV.out.rn.mono (by omega)) HV.out.bl (by omega) (by omega)).mono ?_
      rintro e y ⟨v, rfl, v0, v1, hR, hB, hK⟩
      replace HV := Aside0.mk (HV.out.call hR hB hK)
      clear hR hB hK
      have HS := Aside0.mk (fun (W : World) => C_strs W [⟨#[]⟩, ⟨#[48, 49]⟩] (by decide) 9)
      go_wp2_with fail
      have hgi := HV.out.rn.lt
      refine (of_w g _ 2 [⟨#[]⟩, ⟨#[48, 49]⟩] (b + 5) w0 _ ((HV.out.rn.mono (by omega)).alloc _) (bla HV.out.bl _) (by omega) (HS.out _) (by decide) (by intro ad e _; injection e with e; subst e; simp; omega) (by decide) (by decide)).mono ?_
      rintro e y2 ⟨t, rfl, ht, hR, hB, hK⟩
      replace HV := Aside0.mk ((HV.out.below (bla (Below.refl _ _) _)).call hR hB hK)
      have ht5 : t.size ≤ 5 := by simp at ht; rcases ht with rfl | rfl <;> decide
      clear hR hB hK hgi ht
      go_wp2_with fail
      refine (odd_w g (b + 6) w0 _ (HV.out.rn.mono (by omega)) HV.out.bl (by omega)).mono ?_
      rintro e y ⟨o, rfl, o0, o1, hR, hB, hK⟩
      replace HV := Aside0.mk (HV.out.call hR hB hK)
      clear hR hB hK
      have hx : VOk ⟨v, t, o⟩ := ⟨ht5, v0, v1, o0, o1⟩
      have c0 := (kcl HV.out.c 0).trans (show _ = some (.int .i64 0) from rfl)
      have c1 := (kcl HV.out.c 1).trans (show _ = some (.string ⟨#[]⟩) from rfl)
      have c2 := (kcl HV.out.c 2).trans (show _ = some (.int .i64 0) from rfl)
      have f0 := kfz HV.out.c 0
      have f1 := kfz HV.out.c 1
      have f2 := kfz HV.out.c 2
      go_wp2_with fail
      obtain ⟨o1, o2⟩ := HV.out.fin (b' := b + 10) (by omega) hx
      refine bodyPost_ret (v := .agg #[.int .i64 v, .string t, .int .i64 o]) (B.res_c rfl _ _ w.heap.size 35 _ (0, 0) _ rfl o1 Try.underlying35 rfl rfl) rfl o2
    · have gr : (r == 0) = false := by simpa using hr
      clear hr h4
      by_cases hn0 : n = 0
      · have gn : (n == 0) = true := by simp [hn0]
        go_wp2_with fail
        refine (small_w g (b + 2) w0 _ (HV.out.rn.mono (by omega)) HV.out.bl (by omega)).mono ?_
        rintro e y ⟨t, rfl, ht, hR, hB, hK⟩
        replace HV := Aside0.mk (HV.out.call hR hB hK)
        clear hR hB hK
        go_wp2_with fail
        refine (intVal_w t _ ht).mono ?_
        rintro e y ⟨x, rfl, hx, hb⟩
        replace HV := Aside0.mk (HV.out.below hb)
        clear hb
        have c0 := (kcl HV.out.c 0).trans (show _ = some (.int .i64 0) from rfl)
        have c1 := (kcl HV.out.c 1).trans (show _ = some (.string ⟨#[]⟩) from rfl)
        have c2 := (kcl HV.out.c 2).trans (show _ = some (.int .i64 0) from rfl)
        have f0 := kfz HV.out.c 0
        have f1 := kfz HV.out.c 1
        have f2 := kfz HV.out.c 2
        go_wp2_with fail
        obtain ⟨o1, o2⟩ := HV.out.fin (b' := b + 10) (by omega) hx
        refine bodyPost_ret (v := .agg #[.int .i64 x.f0, .string x.f1, .int .i64 x.f2]) (B.res_c rfl _ _ w.heap.size 35 _ (0, 0) _ rfl o1 Try.underlying35 rfl rfl) rfl o2
      · have gn : (n == 0) = false := by simpa using hn0
        by_cases hn19 : 19 < n
        · go_wp2_with fail
          refine (pick_w g 3 (b + 2) w0 _ (HV.out.rn.mono (by omega)) HV.out.bl (by omega) (by omega)).mono ?_
          rintro e y ⟨q, rfl, q0, q1, hR, hB, hK⟩
          replace HV := Aside0.mk (HV.out.call hR hB hK)
          clear hR hB hK
          by_cases hq : 0 < q
          · have e19 : wrap64 (n - 19) = n - 19 := by unfold wrap64; omega
            go_wp2_with fail
            refine (pick_w g (n - 19) ((b + 2) + 1) w0 _ (HV.out.rn.mono (by omega)) HV.out.bl (by omega) (by omega)).mono ?_
            rintro e y ⟨u, rfl, u0, u1, hR, hB, hK⟩
            replace HV := Aside0.mk (HV.out.call hR hB hK)
            clear hR hB hK
            replace u1 := u1 (by omega)
            have e20 : wrap64 (19 + u) = 19 + u := by unfold wrap64; omega
            go_wp2_with fail
            refine (refT_w (19 + u) _ (by omega)).mono ?_
            rintro e y ⟨x, rfl, hx, hb⟩
            replace HV := Aside0.mk (HV.out.below hb)
            clear hb
            have c0 := (kcl HV.out.c 0).trans (show _ = some (.int .i64 0) from rfl)
            have c1 := (kcl HV.out.c 1).trans (show _ = some (.string ⟨#[]⟩) from rfl)
            have c2 := (kcl HV.out.c 2).trans (show _ = some (.int .i64 0) from rfl)
            have f0 := kfz HV.out.c 0
            have f1 := kfz HV.out.c 1
            have f2 := kfz HV.out.c 2
            go_wp2_with fail
            obtain ⟨o1, o2⟩ := HV.out.fin (b' := b + 10) (by omega) hx
            refine bodyPost_ret (v := .agg #[.int .i64 x.f0, .string x.f1, .int .i64 x.f2]) (B.res_c rfl _ _ w.heap.size 35 _ (0, 0) _ rfl o1 Try.underlying35 rfl rfl) rfl o2
          · go_wp2_with fail
            refine (pick_w g n ((b + 2) + 1) w0 _ (HV.out.rn.mono (by omega)) HV.out.bl (by omega) (by omega)).mono ?_
            rintro e y ⟨u, rfl, u0, u1, hR, hB, hK⟩
            replace HV := Aside0.mk (HV.out.call hR hB hK)
            clear hR hB hK
            replace u1 := u1 (by omega)
            go_wp2_with fail
            refine (refT_w u _ (by omega)).mono ?_
            rintro e y ⟨x, rfl, hx, hb⟩
            replace HV := Aside0.mk (HV.out.below hb)
            clear hb
            have c0 := (kcl HV.out.c 0).trans (show _ = some (.int .i64 0) from rfl)
            have c1 := (kcl HV.out.c 1).trans (show _ = some (.string ⟨#[]⟩) from rfl)
            have c2 := (kcl HV.out.c 2).trans (show _ = some (.int .i64 0) from rfl)
            have f0 := kfz HV.out.c 0
            have f1 := kfz HV.out.c 1
            have f2 := kfz HV.out.c 2
            go_wp2_with fail
            obtain ⟨o1, o2⟩ := HV.out.fin (b' := b + 10) (by omega) hx
            refine bodyPost_ret (v := .agg #[.int .i64 x.f0, .string x.f1, .int .i64 x.f2]) (B.res_c rfl _ _ w.heap.size 35 _ (0, 0) _ rfl o1 Try.underlying35 rfl rfl) rfl o2
        · go_wp2_with fail
          refine (pick_w g n (b + 2) w0 _ (HV.out.rn.mono (by omega)) HV.out.bl (by omega) (by omega)).mono ?_
          rintro e y ⟨u, rfl, u0, u1, hR, hB, hK⟩
          replace HV := Aside0.mk (HV.out.call hR hB hK)
          clear hR hB hK
          replace u1 := u1 (by omega)
          go_wp2_with fail
          refine (refT_w u _ (by omega)).mono ?_
          rintro e y ⟨x, rfl, hx, hb⟩
          replace HV := Aside0.mk (HV.out.below hb)
          clear hb
          have c0 := (kcl HV.out.c 0).trans (show _ = some (.int .i64 0) from rfl)
          have c1 := (kcl HV.out.c 1).trans (show _ = some (.string ⟨#[]⟩) from rfl)
          have c2 := (kcl HV.out.c 2).trans (show _ = some (.int .i64 0) from rfl)
          have f0 := kfz HV.out.c 0
          have f1 := kfz HV.out.c 1
          have f2 := kfz HV.out.c 2
          go_wp2_with fail
          obtain ⟨o1, o2⟩ := HV.out.fin (b' := b + 10) (by omega) hx
          refine bodyPost_ret (v := .agg #[.int .i64 x.f0, .string x.f1, .int .i64 x.f2]) (B.res_c rfl _ _ w.heap.size 35 _ (0, 0) _ rfl o1 Try.underlying35 rfl rfl) rfl o2
  · have g4 : (p == 4) = false := by simpa using h4
    clear h4
    by_cases hn0 : n = 0
    · have gn : (n == 0) = true := by simp [hn0]
      go_wp2_with fail
      refine (small_w g (b + 1) w0 _ (HV.out.rn.mono (by omega)) HV.out.bl (by omega)).mono ?_
      rintro e y ⟨t, rfl, ht, hR, hB, hK⟩
      replace HV := Aside0.mk (HV.out.call hR hB hK)
      clear hR hB hK
      go_wp2_with fail
      refine (intVal_w t _ ht).mono ?_
      rintro e y ⟨x, rfl, hx, hb⟩
      replace HV := Aside0.mk (HV.out.below hb)
      clear hb
      have c0 := (kcl HV.out.c 0).trans (show _ = some (.int .i64 0) from rfl)
      have c1 := (kcl HV.out.c 1).trans (show _ = some (.string ⟨#[]⟩) from rfl)
      have c2 := (kcl HV.out.c 2).trans (show _ = some (.int .i64 0) from rfl)
      have f0 := kfz HV.out.c 0
      have f1 := kfz HV.out.c 1
      have f2 := kfz HV.out.c 2
      go_wp2_with fail
      obtain ⟨o1, o2⟩ := HV.out.fin (b' := b + 10) (by omega) hx
      refine bodyPost_ret (v := .agg #[.int .i64 x.f0, .string x.f1, .int .i64 x.f2]) (B.res_c rfl _ _ w.heap.size 35 _ (0, 0) _ rfl o1 Try.underlying35 rfl rfl) rfl o2
    · have gn : (n == 0) = false := by simpa using hn0
      by_cases hn19 : 19 < n
      · go_wp2_with fail
        refine (pick_w g 3 (b + 1) w0 _ (HV.out.rn.mono (by omega)) HV.out.bl (by omega) (by omega)).mono ?_
        rintro e y ⟨q, rfl, q0, q1, hR, hB, hK⟩
        replace HV := Aside0.mk (HV.out.call hR hB hK)
        clear hR hB hK
        by_cases hq : 0 < q
        · have e19 : wrap64 (n - 19) = n - 19 := by unfold wrap64; omega
          go_wp2_with fail
          refine (pick_w g (n - 19) ((b + 1) + 1) w0 _ (HV.out.rn.mono (by omega)) HV.out.bl (by omega) (by omega)).mono ?_
          rintro e y ⟨u, rfl, u0, u1, hR, hB, hK⟩
          replace HV := Aside0.mk (HV.out.call hR hB hK)
          clear hR hB hK
          replace u1 := u1 (by omega)
          have e20 : wrap64 (19 + u) = 19 + u := by unfold wrap64; omega
          go_wp2_with fail
          refine (refT_w (19 + u) _ (by omega)).mono ?_
          rintro e y ⟨x, rfl, hx, hb⟩
          replace HV := Aside0.mk (HV.out.below hb)
          clear hb
          have c0 := (kcl HV.out.c 0).trans (show _ = some (.int .i64 0) from rfl)
          have c1 := (kcl HV.out.c 1).trans (show _ = some (.string ⟨#[]⟩) from rfl)
          have c2 := (kcl HV.out.c 2).trans (show _ = some (.int .i64 0) from rfl)
          have f0 := kfz HV.out.c 0
          have f1 := kfz HV.out.c 1
          have f2 := kfz HV.out.c 2
          go_wp2_with fail
          obtain ⟨o1, o2⟩ := HV.out.fin (b' := b + 10) (by omega) hx
          refine bodyPost_ret (v := .agg #[.int .i64 x.f0, .string x.f1, .int .i64 x.f2]) (B.res_c rfl _ _ w.heap.size 35 _ (0, 0) _ rfl o1 Try.underlying35 rfl rfl) rfl o2
        · go_wp2_with fail
          refine (pick_w g n ((b + 1) + 1) w0 _ (HV.out.rn.mono (by omega)) HV.out.bl (by omega) (by omega)).mono ?_
          rintro e y ⟨u, rfl, u0, u1, hR, hB, hK⟩
          replace HV := Aside0.mk (HV.out.call hR hB hK)
          clear hR hB hK
          replace u1 := u1 (by omega)
          go_wp2_with fail
          refine (refT_w u _ (by omega)).mono ?_
          rintro e y ⟨x, rfl, hx, hb⟩
          replace HV := Aside0.mk (HV.out.below hb)
          clear hb
          have c0 := (kcl HV.out.c 0).trans (show _ = some (.int .i64 0) from rfl)
          have c1 := (kcl HV.out.c 1).trans (show _ = some (.string ⟨#[]⟩) from rfl)
          have c2 := (kcl HV.out.c 2).trans (show _ = some (.int .i64 0) from rfl)
          have f0 := kfz HV.out.c 0
          have f1 := kfz HV.out.c 1
          have f2 := kfz HV.out.c 2
          go_wp2_with fail
          obtain ⟨o1, o2⟩ := HV.out.fin (b' := b + 10) (by omega) hx
          refine bodyPost_ret (v := .agg #[.int .i64 x.f0, .string x.f1, .int .i64 x.f2]) (B.res_c rfl _ _ w.heap.size 35 _ (0, 0) _ rfl o1 Try.underlying35 rfl rfl) rfl o2
      · go_wp2_with fail
        refine (pick_w g n (b + 1) w0 _ (HV.out.rn.mono (by omega)) HV.out.bl (by omega) (by omega)).mono ?_
        rintro e y ⟨u, rfl, u0, u1, hR, hB, hK⟩
        replace HV := Aside0.mk (HV.out.call hR hB hK)
        clear hR hB hK
        replace u1 := u1 (by omega)
        go_wp2_with fail
        refine (refT_w u _ (by omega)).mono ?_
        rintro e y ⟨x, rfl, hx, hb⟩
        replace HV := Aside0.mk (HV.out.below hb)
        clear hb
        have c0 := (kcl HV.out.c 0).trans (show _ = some (.int .i64 0) from rfl)
        have c1 := (kcl HV.out.c 1).trans (show _ = some (.string ⟨#[]⟩) from rfl)
        have c2 := (kcl HV.out.c 2).trans (show _ = some (.int .i64 0) from rfl)
        have f0 := kfz HV.out.c 0
        have f1 := kfz HV.out.c 1
        have f2 := kfz HV.out.c 2
        go_wp2_with fail
        obtain ⟨o1, o2⟩ := HV.out.fin (b' := b + 10) (by omega) hx
        refine bodyPost_ret (v := .agg #[.int .i64 x.f0, .string x.f1, .int .i64 x.f2]) (B.res_c rfl _ _ w.heap.size 35 _ (0, 0) _ rfl o1 Try.underlying35 rfl rfl) rfl o2
end Go.Proofs.Ytgddblpgbkgpcaa.PR
namespace Go.Proofs.Ytgddblpgbkgpcaa.PR
set_option linter.unusedVariables false
set_option linter.unusedSimpArgs false
open Go.RowKit Go.Proofs.YtgddblpgbkgpcaaW.PrintWords Go.Proofs.YtgddblpgbkgpcaaW.PrintLast Go.Proofs.YtgddblpgbkgpcaaW.PrintMore
set_option linter.unusedVariables false
set_option linter.unusedSimpArgs false
theorem sfN {α : Type} {d : Kd α} {e base : Nat} {ok : Nat → Prop} {w : World} {v : Value} {xs : List α} (h : d.R e w base ok v xs) : ∃ A n c, v = .slice A n c := by
  obtain ⟨A, c, rfl⟩ := Kd.R_slice h
  exact ⟨A, _, c, rfl⟩
def refN (e : Int) : S35 := ⟨4, ⟨#[]⟩, e⟩
theorem sfN1 {w : World} {base : Nat} {ok : Nat → Prop} {v : Value} {x : S35} (h : k35.R 35 w base ok v [x]) : ∃ A c, v = .slice A 1 c := by
  obtain ⟨A, c, rfl⟩ := Kd.R_slice h
  exact ⟨A, c, rfl⟩
theorem r_after {X Y : World} {b8 N : Nat} {v : Value} {xs : List S35} (h : k35.R 35 Y X.heap.size (fun _ => True) v xs) (hb : b8 < X.heap.size) (hN : N ≤ X.heap.size) : k35.R 35 Y N (fun k => k ≠ b8) v xs :=
  Kd.R_lower (Kd.R_mono (Kd.R_bound h) (fun k hk => by have := hk.2.1; omega)) hN
theorem r_before {X Y : World} {b8 N : Nat} {v : Value} {xs : List S35} (h : k35.R 35 Y X.heap.size (fun _ => True) v xs) (hg : b8 = Y.heap.size) (hN : N ≤ X.heap.size) : k35.R 35 Y N (fun k => k ≠ b8) v xs :=
  Kd.R_lower (Kd.R_mono (Kd.R_bound h) (fun k hk => by have := hk.2.2.1; omega)) hN
structure Nh (w wi : World) (u : Value) (l : List S46) (gn cn m : Nat) (ns : List ByteArray) : Prop where
  bl : Below w.heap.size w wi
  c0 : wi.heap[w.heap.size]? = some (.cells #[.slice none 0 0] 25 (0, 0))
  c1 : wi.heap[w.heap.size + 1]? = some (.cells #[u] 25 (0, 0))
  hr : k46.R 46 wi (w.heap.size + 2) (fun _ => True) u l
  nm : Kd.string.R 9 wi (w.heap.size + 2) (fun _ => True) (.slice (some ⟨gn, 0, none⟩) m cn) ns
  all : ∀ o ∈ l, oB o = true ∧ kB o = true
structure Fr (w wi : World) (N b4 : Nat) (u : Value) (l : List S46) (gn cn m : Nat) (ns : List ByteArray) (cs : Array Value) (v3 : Value) (x3 : List S35) (v4 : Value) (x4 : List S35) : Prop where
  bl : Below w.heap.size w wi
  c0 : wi.heap[w.heap.size]? = some (.cells #[.slice none 0 0] 25 (0, 0))
  c1 : wi.heap[w.heap.size + 1]? = some (.cells #[u] 25 (0, 0))
  hr : k46.R 46 wi (w.heap.size + 2) (fun k => k < N) u l
  nm : Kd.string.R 9 wi (w.heap.size + 2) (fun k => k < N) (.slice (some ⟨gn, 0, none⟩) m cn) ns
  cb : wi.heap[b4]? = some (.cells cs 46 (0, 0))
  b4N : N ≤ b4
  N2 : w.heap.size + 2 ≤ N
  r3 : k35.R 35 wi N (fun k => k ≠ b4) v3 x3
  r4 : k35.R 35 wi N (fun k => k ≠ b4) v4 x4
section
variable {w wi w1 cur w10 : World} {N N4 b4 : Nat} {u v3 v4 : Value} {l : List S46} {gn cn m : Nat} {ns : List ByteArray} {cs cs' : Array Value} {x3 x4 : List S35}
theorem Nh.below (h : Nh w wi u l gn cn m ns) (hb : Below wi.heap.size wi w1) : Nh w w1 u l gn cn m ns := ⟨bst h.bl hb, kbw h.c0 hb, kbw h.c1 hb, Kd.R_below h.hr hb, Kd.R_below h.nm hb, h.all⟩
theorem Nh.alloc (h : Nh w wi u l gn cn m ns) (o : Obj) : Nh w (wi.alloc o) u l gn cn m ns := h.below (bla (Below.refl _ _) o)
theorem Nh.cell1 (h : Nh w wi u l gn cn m ns) : wi.cell? ⟨w.heap.size + 1, 0, none⟩ = some u := (kcl h.c1 0).trans rfl
theorem Nh.grow (h : Nh w wi u l gn cn m ns) (hg : wi.grownBy w1 u.ownBlock) : Below w.heap.size w w1 ∧ w1.heap[w.heap.size]? = some (.cells #[.slice none 0 0] 25 (0, 0)) ∧ w1.heap[w.heap.size + 1]? = some (.cells #[u] 25 (0, 0)) ∧ Kd.string.R 9 w1 (w.heap.size + 2) (fun _ => True) (.slice (some ⟨gn, 0, none⟩) m cn) ns := by
  have hb := Kd.R_base h.hr
  have ne : ∀ k, k < w.heap.size + 2 → some k ≠ u.ownBlock := fun k hk e => by have := hb k e.symm; omega
  exact ⟨pw_below_grown h.bl _ h.bl.size hg (fun k hk => by have := hb k hk; omega), kgr h.c0 hg (ne _ (by omega)), kgr h.c1 hg (ne _ (by omega)), Kd.R_over' h.nm (Kd.R_typed h.hr) (by decide) hg⟩
theorem Nh.put {u1 : Value} {o : S46} (h : Below w.heap.size w w1 ∧ w1.heap[w.heap.size]? = some (.cells #[.slice none 0 0] 25 (0, 0)) ∧ w1.heap[w.heap.size + 1]? = some (.cells #[u] 25 (0, 0)) ∧ Kd.string.R 9 w1 (w.heap.size + 2) (fun _ => True) (.slice (some ⟨gn, 0, none⟩) m cn) ns) (hr : k46.R 46 w1 (w.heap.size + 2) (fun _ => True) u1 (l ++ [o])) (ho : oB o = true ∧ kB o = true) (hall : ∀ o ∈ l, oB o = true ∧ kB o = true) :
    Nh w (w1.setCell ⟨w.heap.size + 1, 0, none⟩ u1) u1 (l ++ [o]) gn cn m ns := by
  refine ⟨h.1.setCell (show w.heap.size ≤ w.heap.size + 1 by omega) _, blk_far h.2.1 (by simp) _, blk_put h.2.2.1 0 _ rfl, ?_, ?_, fun x hx => ?_⟩
  · exact Kd.R_mono (Kd.R_far (Kd.R_bound hr) (fun k hk => by have := hk.2.1; simp; omega) _) (fun _ _ => trivial)
  · exact Kd.R_mono (Kd.R_far (Kd.R_bound h.2.2.2) (fun k hk => by have := hk.2.1; simp; omega) _) (fun _ _ => trivial)
  · rcases List.mem_append.1 hx with hx | hx
    · exact hall x hx
    · rw [List.mem_singleton.1 hx]; exact ho
theorem fr_close (h : Nh w wi u l gn cn m ns) (hq : Below wi.heap.size wi w10) (hh : Below w10.heap.size w10 cur) (cb : cur.heap[b4]? = some (.cells cs 46 (0, 0))) (hb4 : w10.heap.size ≤ b4) (r3 : k35.R 35 cur w10.heap.size (fun k => k ≠ b4) v3 x3) :
    Fr w cur w10.heap.size b4 u l gn cn m ns cs v3 x3 (.slice none 0 0) [] := by
  have h1 := (h.below hq)
  have l1 := blk_lt h1.c1
  exact ⟨bst h1.bl hh, kbw h1.c0 hh, kbw h1.c1 hh, Kd.R_below (Kd.R_mono (Kd.R_bound h1.hr) (fun k hk => hk.2.2.1)) hh, Kd.R_below (Kd.R_mono (Kd.R_bound h1.nm) (fun k hk => hk.2.2.1)) hh, cb, hb4, by omega, r3, Kd.R_nil _ _ _ _ _⟩
theorem Fr.below (h : Fr w wi N b4 u l gn cn m ns cs v3 x3 v4 x4) (hb : Below wi.heap.size wi w1) : Fr w w1 N b4 u l gn cn m ns cs v3 x3 v4 x4 :=
  ⟨bst h.bl hb, kbw h.c0 hb, kbw h.c1 hb, Kd.R_below h.hr hb, Kd.R_below h.nm hb, kbw h.cb hb, h.b4N, h.N2, Kd.R_below h.r3 hb, Kd.R_below h.r4 hb⟩
theorem Fr.drew (h : Fr w wi N b4 u l gn cn m ns cs v3 x3 v4 x4) : Fr w wi.drew N b4 u l gn cn m ns cs v3 x3 v4 x4 := h.below (below_drew (Below.refl _ _))
theorem Fr.set (h : Fr w wi N b4 u l gn cn m ns cs v3 x3 v4 x4) (j : Nat) (x : Value) (e : cs.setIfInBounds j x = cs') : Fr w (wi.setCell ⟨b4, j, none⟩ x) N b4 u l gn cn m ns cs' v3 x3 v4 x4 := by
  have h1 := h.b4N
  have h2 := h.N2
  exact ⟨h.bl.setCell (by simp; omega) _, blk_far h.c0 (by simp; omega) _, blk_far h.c1 (by simp; omega) _, Kd.R_far h.hr (fun k hk => by simp; omega) _, Kd.R_far h.nm (fun k hk => by simp; omega) _, blk_put h.cb j _ e, h1, h2, Kd.R_far h.r3 (fun k hk => hk) _, Kd.R_far h.r4 (fun k hk => hk) _⟩
theorem Fr.row4 (h : Fr w w1 N b4 u l gn cn m ns cs v3 x3 v4 x4) {v5 : Value} {x5 : List S35} (ho : k35.R 35 w1 N (fun k => k ≠ b4) v5 x5) : Fr w w1 N b4 u l gn cn m ns cs v3 x3 v5 x5 :=
  ⟨h.bl, h.c0, h.c1, h.hr, h.nm, h.cb, h.b4N, h.N2, h.r3, ho⟩
theorem Fr.grow3 (h : Fr w wi N b4 u l gn cn m ns cs v3 x3 v4 x4) (hr4 : k35.R 35 wi N4 (fun k => k ≠ b4) v4 x4) (h4 : N ≤ N4) (hs : ∀ k, v3.ownBlock = some k → k < N4) (hg : wi.grownBy w1 v3.ownBlock) {v5 : Value} {x5 : List S35} (ho : k35.R 35 w1 N (fun k => k ≠ b4) v5 x5) :
    w1.heap[b4]? = some (.cells cs 46 (0, 0)) ∧ ∀ (cs' : Array Value), cs.setIfInBounds 3 v5 = cs' → Fr w (w1.setCell ⟨b4, 3, none⟩ v5) N b4 u l gn cn m ns cs' v5 x5 v4 x4 := by
  have h1 := h.b4N
  have h2 := h.N2
  have hub := Kd.R_base h.r3
  have ne : ∀ k, k < N → some k ≠ v3.ownBlock := fun k hk e => by have := hub k e.symm; omega
  have neb : some b4 ≠ v3.ownBlock := fun e => h.r3.1 b4 e.symm rfl
  have r4 : k35.R 35 w1 N4 (fun k => k ≠ b4) v4 x4 := Kd.R_mono (Kd.R_grown (Kd.R_bound hr4) hg (fun k hk e => by have := hs k e.symm; have := hk.2.1; omega)) (fun _ hk => hk.1)
  have hbl : Below w.heap.size w w1 := pw_below_grown h.bl _ h.bl.size hg (fun k hk => by have := hub k hk; omega)
  refine ⟨kgr h.cb hg neb, fun cs' e => ⟨hbl.setCell (by simp; omega) _, blk_far (kgr h.c0 hg (ne _ (by omega))) (by simp; omega) _, blk_far (kgr h.c1 hg (ne _ (by omega))) (by simp; omega) _, Kd.R_far (Kd.R_grown h.hr hg (fun k hk => ne k hk)) (fun k hk => by simp; omega) _, Kd.R_far (Kd.R_grown h.nm hg (fun k hk => ne k hk)) (fun k hk => by simp; omega) _, blk_put (kgr h.cb hg neb) 3 _ e, h1, h2, Kd.R_far ho (fun k hk => hk) _, Kd.R_far (Kd.R_lower r4 h4) (fun k hk => hk) _⟩⟩
theorem Fr.cell3 {a0 a1 a2 a4 a5 a6 : Value} (h : Fr w wi N b4 u l gn cn m ns #[a0, a1, a2, v3, a4, a5, a6] v3 x3 v4 x4) : wi.cell? ⟨b4, 3, none⟩ = some v3 := (kcl h.cb 3).trans rfl
theorem Fr.sep (h : Fr w wi N b4 u l gn cn m ns cs v3 x3 v4 x4) {k : Nat} (hk : N ≤ k) : True ∧ some k ≠ u.ownBlock := ⟨trivial, fun e => by have := h.hr.1 k e.symm; omega⟩
theorem Fr.obj (h : Fr w wi N b4 u l gn cn m ns cs v3 x3 v4 x4) {nm : ByteArray} : k46.M wi (w.heap.size + 2) (fun k => N ≤ k) ⟨5, nm, 0, x3, x4, [], []⟩ [.int .i64 5, .string nm, .int .i64 0, v3, v4, .slice none 0 0, .slice none 0 0] := by
  have h2 := h.N2
  exact k46_mkM wi _ _ (⟨5, nm, 0, x3, x4, [], []⟩ : S46) (Kd.R_lower (Kd.R_mono (Kd.R_bound h.r3) (fun k hk => hk.2.1)) h2) (Kd.R_lower (Kd.R_mono (Kd.R_bound h.r4) (fun k hk => hk.2.1)) h2) (Kd.R_nil _ _ _ _ _) (Kd.R_nil _ _ _ _ _)
theorem Fr.growH (h : Fr w wi N b4 u l gn cn m ns cs v3 x3 v4 x4) (hg : wi.grownBy w1 u.ownBlock) : Below w.heap.size w w1 ∧ w1.heap[w.heap.size]? = some (.cells #[.slice none 0 0] 25 (0, 0)) ∧ w1.heap[w.heap.size + 1]? = some (.cells #[u] 25 (0, 0)) ∧ Kd.string.R 9 w1 (w.heap.size + 2) (fun _ => True) (.slice (some ⟨gn, 0, none⟩) m cn) ns := by
  have hb := Kd.R_base h.hr
  have ne : ∀ k, k < w.heap.size + 2 → some k ≠ u.ownBlock := fun k hk e => by have := hb k e.symm; omega
  exact ⟨pw_below_grown h.bl _ h.bl.size hg (fun k hk => by have := hb k hk; omega), kgr h.c0 hg (ne _ (by omega)), kgr h.c1 hg (ne _ (by omega)), Kd.R_mono (Kd.R_over' h.nm (Kd.R_typed h.hr) (by decide) hg) (fun _ _ => trivial)⟩
end
theorem errs_n (w : World) : Calls Try.prog 109 #[] w fun e w' => ∃ (g c : Nat) (ns : List ByteArray), e = .returned (.slice (some ⟨g, 0, none⟩) 13 c) ∧ Kd.string.R 9 w' w.heap.size (fun _ => True) (.slice (some ⟨g, 0, none⟩) 13 c) ns ∧ ns.length = 13 ∧ (∀ s ∈ ns, s.size ≤ 100) ∧ Below w.heap.size w w' := by
  have h : ∃ l, spec_errorNames.f = some l ∧ l.length = 13 ∧ ∀ s ∈ l, s.size ≤ 100 := ⟨_, rfl, rfl, by decide +kernel⟩
  obtain ⟨l, hf, hl, hs⟩ := h
  refine (spec_errorNames.calls l w hf).mono ?_
  rintro e w' ⟨v, rfl, hr, hb⟩
  obtain ⟨g, c, rfl, _⟩ := Kd.R_form hr (by omega)
  rw [hl] at hr
  exact ⟨g, c, l, by rw [hl], hr, hl, hs, hb⟩
theorem built_n (w : World) : Calls Try.prog 110 #[] w fun e w' => ∃ (g c : Nat) (ns : List ByteArray), e = .returned (.slice (some ⟨g, 0, none⟩) 6 c) ∧ Kd.string.R 9 w' w.heap.size (fun _ => True) (.slice (some ⟨g, 0, none⟩) 6 c) ns ∧ ns.length = 6 ∧ (∀ s ∈ ns, s.size ≤ 100) ∧ Below w.heap.size w w' := by
  have h : ∃ l, spec_builtNames.f = some l ∧ l.length = 6 ∧ ∀ s ∈ l, s.size ≤ 100 := ⟨_, rfl, rfl, by decide +kernel⟩
  obtain ⟨l, hf, hl, hs⟩ := h
  refine (spec_builtNames.calls l w hf).mono ?_
  rintro e w' ⟨v, rfl, hr, hb⟩
  obtain ⟨g, c, rfl, _⟩ := Kd.R_form hr (by omega)
  rw [hl] at hr
  exact ⟨g, c, l, by rw [hl], hr, hl, hs, hb⟩
theorem name_at {W : World} {base g n c : Nat} {ns : List ByteArray} (h : Kd.string.R 9 W base (fun _ => True) (.slice (some ⟨g, 0, none⟩) n c) ns) (hs : ∀ s ∈ ns, s.size ≤ 100) (k : Nat) (hk : k < n) : ∃ nm : ByteArray, W.cell? ⟨g, k, none⟩ = some (.string nm) ∧ nm.size ≤ 100 := by
  have hl := (Kd.R_reads' h).1
  have hc := (Kd.R_celln (⟨#[]⟩ : ByteArray) h (k : Int) (by omega) (by omega)).1
  rw [show (k : Int).toNat = k from rfl] at hc
  refine ⟨_, hc, hs _ ?_⟩
  unfold rdOf
  simp [List.getD_eq_getElem?_getD, show k < ns.length by omega]
theorem new5 {nm : ByteArray} (h : nm.size ≤ 100) (k : Int) : oB ⟨5, nm, 0, [refN k], [], [], []⟩ = true ∧ kB ⟨5, nm, 0, [refN k], [], [], []⟩ = true := by
  refine ⟨?_, rfl⟩
  simp [oB, refN, h]
  decide
theorem new5' {nm : ByteArray} (h : nm.size ≤ 100) (k : Int) : oB ⟨5, nm, 0, [refN k] ++ [refN 0], [refN 0], [], []⟩ = true ∧ kB ⟨5, nm, 0, [refN k] ++ [refN 0], [refN 0], [], []⟩ = true := by
  refine ⟨?_, rfl⟩
  simp [oB, refN, h]
  decide
theorem new10 {nm : ByteArray} (h : nm.size ≤ 100) : oB ⟨10, nm, 0, [], [], [], []⟩ = true ∧ kB ⟨10, nm, 0, [], [], [], []⟩ = true := by
  refine ⟨?_, rfl⟩
  simp [oB, h]
set_option maxRecDepth 100000 in
set_option maxHeartbeats 40000000 in
theorem newHeap_w (w : World) : Calls Try.prog 87 #[] w fun e w' => ∃ (v : Value) (l : List S46), e = .returned (.agg #[v]) ∧ k46.R 46 w' w.heap.size (fun _ => True) v l ∧ l.length = 19 ∧ l.all oB = true ∧ l.all kB = true ∧ Below w.heap.size w w' := by
  have e1 := blk_new (w.alloc (.cells #[.slice none 0 0] 25)) (.cells #[.slice none 0 0] 25)
  rw [show (w.alloc (.cells #[.slice none 0 0] 25)).heap.size = w.heap.size + 1 by simp] at e1
  have H0 := Aside0.mk (show Below w.heap.size w ((w.alloc (.cells #[.slice none 0 0] 25)).alloc (.cells #[.slice none 0 0] 25)) ∧ ((w.alloc (.cells #[.slice none 0 0] 25)).alloc (.cells #[.slice none 0 0] 25)).heap[w.heap.size]? = some (.cells #[.slice none 0 0] 25 (0, 0)) ∧ ((w.alloc (.cells #[.slice none 0 0] 25)).alloc (.cells #[.slice none 0 0] 25)).heap[w.heap.size + 1]? = some (.cells #[.slice none 0 0] 25 (0, 0)) ∧ ((w.alloc (.cells #[.slice none 0 0] 25)).alloc (.cells #[.slice none 0 0] 25)).heap.size = w.heap.size + 2 from ⟨bla (bla (Below.refl _ _) _) _, kla (blk_new _ _) _, e1, by simp⟩)
  clear e1
  go_enter Try.func87, Try.ntmps87
  go_wp2_with fail
  refine (errs_n _).mono ?_
  rintro e w2 ⟨gn, cn, ns, rfl, hr, hl, hs, hb⟩
  rw [H0.out.2.2.2] at hr
  have HN := Aside0.mk (show Nh w w2 (.slice none 0 0) [] gn cn 13 ns from ⟨bst H0.out.1 hb, kbw H0.out.2.1 hb, kbw H0.out.2.2.1 hb, Kd.R_nil _ _ _ _ _, hr, by simp⟩)
  have HS := Aside0.mk hs
  obtain ⟨m, hm⟩ : ∃ m : Nat, m = 13 := ⟨_, rfl⟩
  clear hr hl hs hb H0
  go_wp2_with fail
  go_loopw [3] (fun u3 wr => ∃ (k : Nat) (l : List S46) (A1 : Option Addr) (n1 c1 : Nat), u3 = .int .i64 k ∧ k ≤ 13 ∧ Aside0 (Nh w wr (.slice A1 n1 c1) l gn cn 13 ns) ∧ l.length = k) (fun u3 _ => 13 - (intOf u3).toNat)
  case atStart => exact ⟨0, [], none, 0, 0, rfl, by omega, ⟨HN.out⟩, rfl⟩
  case round =>
    clear HN
    obtain ⟨k, l, A1, n1, c1, rfl, hk13, HQ, hlk⟩ := hrel
    have hl40 : l.length ≤ 40 := by omega
    have HLK := Lib.hid hlk
    clear hlk
    by_cases hk : k < 13
    · have HALL := Aside0.mk HQ.out.all
      obtain ⟨nm, hnm, hnm1⟩ := name_at HQ.out.nm HS.out k hk
      have HNM := Aside0.mk hnm1
      clear hnm1
      go_wp2_with fail
      have hq0 : Below wr.heap.size wr wr.drew := below_drew (Below.refl _ _)
      refine start_ (n := 10) (S := fun w' => w'.cell? ⟨gn, k, none⟩ = some (.string nm)) (ds := [9]) #[false, false, false, false, false, false, false, false, false, false] (by kernel_rfl) rfl rfl (B.cell_keep hq0 hnm) (fun hHeld => ?_)
      generalize wr.drew = w10 at hq0 hHeld ⊢
      have hh : Below w10.heap.size w10 w10 := Below.refl _ _
      replace hnm := B.cell_keep hq0 hnm
      refine pure_ (i := 0) (N := some 15) (v := ?_) (a' := ?_) #[true, false, false, false, false, false, false, false, false, false] rfl rfl (by kernel_rfl) (fun _ _ _ h => h) (Or.inl ⟨by rfl, ?_⟩) ?_ ?_
      rotate_left
      · intro w'
        go_simp
        with_reducible rfl
      rotate_left
      · simp only [Act.put, List.setIfInBounds_toArray, List.set_cons_zero, List.set_cons_succ, i64_w, i32_w]
        rfl
      refine pure_ (i := 1) (N := some 16) (v := ?_) (a' := ?_) #[true, true, false, false, false, false, false, false, false, false] rfl rfl (by kernel_rfl) (fun _ _ _ h => h) (Or.inl ⟨by rfl, ?_⟩) ?_ ?_
      rotate_left
      · intro w'
        go_simp
        with_reducible rfl
      rotate_left
      · simp only [Act.put, List.setIfInBounds_toArray, List.set_cons_zero, List.set_cons_succ, i64_w, i32_w]
        rfl
      refine pure_ (i := 2) (N := some 17) (v := ?_) (a' := ?_) #[true, true, true, false, false, false, false, false, false, false] rfl rfl (by kernel_rfl) (fun _ _ _ h => h) (Or.inl ⟨by rfl, ?_⟩) ?_ ?_
      rotate_left
      · intro w'
        go_simp
        with_reducible rfl
      rotate_left
      · simp only [Act.put, List.setIfInBounds_toArray, List.set_cons_zero, List.set_cons_succ, i64_w, i32_w]
        rfl
      refine pure_ (i := 4) (N := some 19) (v := ?_) (a' := ?_) #[true, true, true, false, true, false, false, false, false, false] rfl rfl (by kernel_rfl) (fun _ _ _ h => h) (Or.inl ⟨by rfl, ?_⟩) ?_ ?_
      rotate_left
      · intro w'
        go_simp
        with_reducible rfl
      rotate_left
      · simp only [Act.put, List.setIfInBounds_toArray, List.set_cons_zero, List.set_cons_succ, i64_w, i32_w]
        rfl
      refine take_ (i := 3) (N := some 18) (v := ?_) (a' := ?_) #[true, true, true, true, true, false, false, false, false, false] rfl rfl (by kernel_rfl) (fun _ _ _ h => h) (Or.inl ⟨by rfl, ?_⟩) hHeld ?_ ?_
      rotate_left
      · intro w' s0
        go_simp
        with_reducible rfl
      rotate_left
      · simp only [Act.put, List.setIfInBounds_toArray, List.set_cons_zero, List.set_cons_succ, i64_w, i32_w]
        rfl
      refine join_ (σ := Option Addr × Nat × Nat) 1 #[true, true, true, true, true, true, true, true, true, false] (fun s_ => [(20, .agg #[.int .i64 4, .string ⟨#[]⟩, .int .i64 (k : Int)]), (21, .slice s_.1 1 s_.2.1), (4, .pointer (some ⟨s_.2.2, 0, none⟩)), (22, .agg #[.int .i64 5, .string nm, .int .i64 0, .slice s_.1 1 s_.2.1, .slice none 0 0, .slice none 0 0, .slice none 0 0])]) (fun s_ w' => w'.cell? ⟨gn, k, none⟩ = some (.string nm) ∧ Fr w w' w10.heap.size s_.2.2 (.slice A1 n1 c1) l gn cn 13 ns #[.int .i64 0, .string (⟨#[]⟩ : ByteArray), .int .i64 0, .slice none 0 0, .slice none 0 0, .slice none 0 0, .slice none 0 0] (.slice s_.1 1 s_.2.1) [refN k] (.slice none 0 0) []) ?_ ?_
      rotate_left
      · intro hCont
        refine two_ (i := 5) (j := 8) (Ni := some 20) (Nj := some 4) #[true, true, true, true, true, true, false, false, false, false] #[true, true, true, true, true, false, false, false, true, false] rfl rfl rfl rfl (by kernel_rfl) (by decide) (by decide) (fun K hK => ?_) (fun K hK => ?_)
        · skip
          refine goes_ Try.func59 (by kernel_rfl) rfl #[.int .i64 (k : Int)] (by rfl) rfl rfl (by simp only [List.map_toArray, List.map_cons, List.map_nil]; rfl) ?_
          with_reducible refine (spec_refTo.calls (k : Int) _ _ _ _ rfl).mono ?_
          rintro e y5 ⟨rfl, hb5⟩
          refine ⟨_, rfl, ?_⟩
          have hh5 := bth hh hh.size hb5
          refine hK.out _ _ (B.cell_keep hh5 hnm) (fun hHeld => ?_)
          clear hK K
          refine norm_ (a' := ?_) ?_ ?_
          rotate_left
          · show Act.put _ (some 20) _ = _
            simp only [Act.put, List.setIfInBounds_toArray, List.set_cons_zero, List.set_cons_succ, i64_w, i32_w]
            rfl
          refine two_ (i := 6) (j := 8) (Ni := some 21) (Nj := some 4) #[true, true, true, true, true, true, true, false, false, false] #[true, true, true, true, true, true, false, false, true, false] rfl rfl rfl rfl (by kernel_rfl) (by decide) (by decide) (fun K hK => ?_) (fun K hK => ?_)
          · skip
            refine Kd.R_lit_step k35 _ 35 ?hg (N := 21) ?hd (xs := ([(⟨4, ⟨#[]⟩, (k : Int)⟩ : S35)] : List S35)) (inner := [.int .i64 4, .string ⟨#[]⟩, .int .i64 (k : Int)]) (ok := fun _ => True) (okp := fun _ => True) ?hr ?hp (fun _ hk => hk) trivial (Below.refl _ _) (Nat.le_refl _) (by simp) ?_; (case hd => rfl); (case hg => rfl); (case hr => first | (go_simp; done) | (go_simp; rfl)); (case hp => exact (Reps.c3 (show Kd.M k35 _ _ _ (⟨4, ⟨#[]⟩, (k : Int)⟩ : S35) [.int .i64 4, .string ⟨#[]⟩, .int .i64 (k : Int)] from (k35_mkM _ _ _ (⟨4, ⟨#[]⟩, (k : Int)⟩ : S35))) (Reps.none _ _)))
            intro v6 y6 ho6 hb6 _ _
            obtain ⟨A6, c6, rfl⟩ := sfN1 ho6
            have hh56 := bth hh5 hh5.size hb6
            refine hK.out _ _ (B.cell_keep hh56 hnm) (fun hHeld => ?_)
            clear hK K
            refine norm_ (a' := ?_) ?_ ?_
            rotate_left
            · show Act.put _ (some 21) _ = _
              simp only [Act.put, List.setIfInBounds_toArray, List.set_cons_zero, List.set_cons_succ, i64_w, i32_w]
              rfl
            refine pure_ (i := 7) (N := some 22) (v := ?_) (a' := ?_) #[true, true, true, true, true, true, true, true, false, false] rfl rfl (by kernel_rfl) (fun _ _ _ h => h) (Or.inl ⟨by rfl, ?_⟩) ?_ ?_
            rotate_left
            · intro w'
              go_simp
              with_reducible rfl
            rotate_left
            · simp only [Act.put, List.setIfInBounds_toArray, List.set_cons_zero, List.set_cons_succ, i64_w, i32_w]
              rfl
            refine one_ (i := 8) (N := some 4) #[true, true, true, true, true, true, true, true, true, false] rfl rfl (by kernel_rfl) (by decide) (fun K hK => ?_)
            refine box_step ?hg (N := 4) ?hd (cs := #[.int .i64 0, .string (⟨#[]⟩ : ByteArray), .int .i64 0, .slice none 0 0, .slice none 0 0, .slice none 0 0, .slice none 0 0]) (t := 46) ?hr ?_; (case hd => rfl); (case hg => rfl); (case hr => first | (go_simp; done) | (go_simp; rfl))
            intro b8 hg8 y8 hbox hb8
            have hh568 := bth hh56 hh56.size hb8
            refine hK.out _ _ (B.cell_keep hh568 hnm) (fun hHeld => ?_)
            clear hK K
            refine norm_ (a' := ?_) ?_ ?_
            rotate_left
            · show Act.put _ (some 4) _ = _
              simp only [Act.put, List.setIfInBounds_toArray, List.set_cons_zero, List.set_cons_succ, i64_w, i32_w]
              rfl
            exact norm_ (by simp only [putAll, Act.put, List.setIfInBounds_toArray, List.set_cons_zero, List.set_cons_succ]) (hCont ⟨A6, c6, b8⟩ _ ⟨B.cell_keep hh568 hnm, fr_close HQ.out hq0 hh568 (hbox) (by show w10.heap.size ≤ b8; have := hh56.size; omega) (Kd.R_below (r_before ho6 hg8 (by have := hh5.size; omega)) hb8)⟩)
          · skip
            refine box_step ?hg (N := 4) ?hd (cs := #[.int .i64 0, .string (⟨#[]⟩ : ByteArray), .int .i64 0, .slice none 0 0, .slice none 0 0, .slice none 0 0, .slice none 0 0]) (t := 46) ?hr ?_; (case hd => rfl); (case hg => rfl); (case hr => first | (go_simp; done) | (go_simp; rfl))
            intro b8 hg8 y8 hbox hb8
            have hh58 := bth hh5 hh5.size hb8
            refine hK.out _ _ (B.cell_keep hh58 hnm) (fun hHeld => ?_)
            clear hK K
            refine norm_ (a' := ?_) ?_ ?_
            rotate_left
            · show Act.put _ (some 4) _ = _
              simp only [Act.put, List.setIfInBounds_toArray, List.set_cons_zero, List.set_cons_succ, i64_w, i32_w]
              rfl
            refine one_ (i := 6) (N := some 21) #[true, true, true, true, true, true, true, false, true, false] rfl rfl (by kernel_rfl) (by decide) (fun K hK => ?_)
            refine Kd.R_lit_step k35 _ 35 ?hg (N := 21) ?hd (xs := ([(⟨4, ⟨#[]⟩, (k : Int)⟩ : S35)] : List S35)) (inner := [.int .i64 4, .string ⟨#[]⟩, .int .i64 (k : Int)]) (ok := fun _ => True) (okp := fun _ => True) ?hr ?hp (fun _ hk => hk) trivial (Below.refl _ _) (Nat.le_refl _) (by simp) ?_; (case hd => rfl); (case hg => rfl); (case hr => first | (go_simp; done) | (go_simp; rfl)); (case hp => exact (Reps.c3 (show Kd.M k35 _ _ _ (⟨4, ⟨#[]⟩, (k : Int)⟩ : S35) [.int .i64 4, .string ⟨#[]⟩, .int .i64 (k : Int)] from (k35_mkM _ _ _ (⟨4, ⟨#[]⟩, (k : Int)⟩ : S35))) (Reps.none _ _)))
            intro v6 y6 ho6 hb6 _ _
            obtain ⟨A6, c6, rfl⟩ := sfN1 ho6
            have hh586 := bth hh58 hh58.size hb6
            refine hK.out _ _ (B.cell_keep hh586 hnm) (fun hHeld => ?_)
            clear hK K
            refine norm_ (a' := ?_) ?_ ?_
            rotate_left
            · show Act.put _ (some 21) _ = _
              simp only [Act.put, List.setIfInBounds_toArray, List.set_cons_zero, List.set_cons_succ, i64_w, i32_w]
              rfl
            refine pure_ (i := 7) (N := some 22) (v := ?_) (a' := ?_) #[true, true, true, true, true, true, true, true, true, false] rfl rfl (by kernel_rfl) (fun _ _ _ h => h) (Or.inl ⟨by rfl, ?_⟩) ?_ ?_
            rotate_left
            · intro w'
              go_simp
              with_reducible rfl
            rotate_left
            · simp only [Act.put, List.setIfInBounds_toArray, List.set_cons_zero, List.set_cons_succ, i64_w, i32_w]
              rfl
            exact norm_ (by simp only [putAll, Act.put, List.setIfInBounds_toArray, List.set_cons_zero, List.set_cons_succ]) (hCont ⟨A6, c6, b8⟩ _ ⟨B.cell_keep hh586 hnm, fr_close HQ.out hq0 hh586 (kbw hbox hb6) (by show w10.heap.size ≤ b8; have := hh5.size; omega) (r_after ho6 (blk_lt hbox) (by have := hh58.size; omega))⟩)
        · skip
          refine box_step ?hg (N := 4) ?hd (cs := #[.int .i64 0, .string (⟨#[]⟩ : ByteArray), .int .i64 0, .slice none 0 0, .slice none 0 0, .slice none 0 0, .slice none 0 0]) (t := 46) ?hr ?_; (case hd => rfl); (case hg => rfl); (case hr => first | (go_simp; done) | (go_simp; rfl))
          intro b8 hg8 y8 hbox hb8
          have hh8 := bth hh hh.size hb8
          refine hK.out _ _ (B.cell_keep hh8 hnm) (fun hHeld => ?_)
          clear hK K
          refine norm_ (a' := ?_) ?_ ?_
          rotate_left
          · show Act.put _ (some 4) _ = _
            simp only [Act.put, List.setIfInBounds_toArray, List.set_cons_zero, List.set_cons_succ, i64_w, i32_w]
            rfl
          refine one_ (i := 5) (N := some 20) #[true, true, true, true, true, true, false, false, true, false] rfl rfl (by kernel_rfl) (by decide) (fun K hK => ?_)
          refine goes_ Try.func59 (by kernel_rfl) rfl #[.int .i64 (k : Int)] (by rfl) rfl rfl (by simp only [List.map_toArray, List.map_cons, List.map_nil]; rfl) ?_
          with_reducible refine (spec_refTo.calls (k : Int) _ _ _ _ rfl).mono ?_
          rintro e y5 ⟨rfl, hb5⟩
          refine ⟨_, rfl, ?_⟩
          have hh85 := bth hh8 hh8.size hb5
          refine hK.out _ _ (B.cell_keep hh85 hnm) (fun hHeld => ?_)
          clear hK K
          refine norm_ (a' := ?_) ?_ ?_
          rotate_left
          · show Act.put _ (some 20) _ = _
            simp only [Act.put, List.setIfInBounds_toArray, List.set_cons_zero, List.set_cons_succ, i64_w, i32_w]
            rfl
          refine one_ (i := 6) (N := some 21) #[true, true, true, true, true, true, true, false, true, false] rfl rfl (by kernel_rfl) (by decide) (fun K hK => ?_)
          refine Kd.R_lit_step k35 _ 35 ?hg (N := 21) ?hd (xs := ([(⟨4, ⟨#[]⟩, (k : Int)⟩ : S35)] : List S35)) (inner := [.int .i64 4, .string ⟨#[]⟩, .int .i64 (k : Int)]) (ok := fun _ => True) (okp := fun _ => True) ?hr ?hp (fun _ hk => hk) trivial (Below.refl _ _) (Nat.le_refl _) (by simp) ?_; (case hd => rfl); (case hg => rfl); (case hr => first | (go_simp; done) | (go_simp; rfl)); (case hp => exact (Reps.c3 (show Kd.M k35 _ _ _ (⟨4, ⟨#[]⟩, (k : Int)⟩ : S35) [.int .i64 4, .string ⟨#[]⟩, .int .i64 (k : Int)] from (k35_mkM _ _ _ (⟨4, ⟨#[]⟩, (k : Int)⟩ : S35))) (Reps.none _ _)))
          intro v6 y6 ho6 hb6 _ _
          obtain ⟨A6, c6, rfl⟩ := sfN1 ho6
          have hh856 := bth hh85 hh85.size hb6
          refine hK.out _ _ (B.cell_keep hh856 hnm) (fun hHeld => ?_)
          clear hK K
          refine norm_ (a' := ?_) ?_ ?_
          rotate_left
          · show Act.put _ (some 21) _ = _
            simp only [Act.put, List.setIfInBounds_toArray, List.set_cons_zero, List.set_cons_succ, i64_w, i32_w]
            rfl
          refine pure_ (i := 7) (N := some 22) (v := ?_) (a' := ?_) #[true, true, true, true, true, true, true, true, true, false] rfl rfl (by kernel_rfl) (fun _ _ _ h => h) (Or.inl ⟨by rfl, ?_⟩) ?_ ?_
          rotate_left
          · intro w'
            go_simp
            with_reducible rfl
          rotate_left
          · simp only [Act.put, List.setIfInBounds_toArray, List.set_cons_zero, List.set_cons_succ, i64_w, i32_w]
            rfl
          exact norm_ (by simp only [putAll, Act.put, List.setIfInBounds_toArray, List.set_cons_zero, List.set_cons_succ]) (hCont ⟨A6, c6, b8⟩ _ ⟨B.cell_keep hh856 hnm, fr_close HQ.out hq0 hh856 (kbw (kbw hbox hb5) hb6) (by show w10.heap.size ≤ b8; omega) (r_after ho6 (by show b8 < y5.heap.size; have := hb5.size; have := blk_lt hbox; omega) (by have := hh85.size; omega))⟩)
      rintro ⟨A6, c6, b4⟩ w11 ⟨hHeld, HF⟩
      have z0 := (kcl HF.cb 0).trans (show _ = some (.int .i64 0) from rfl)
      have z1 := (kcl HF.cb 1).trans (show _ = some (.string (⟨#[]⟩ : ByteArray)) from rfl)
      have z2 := (kcl HF.cb 2).trans (show _ = some (.int .i64 0) from rfl)
      have z3 := (kcl HF.cb 3).trans (show _ = some (.slice none 0 0) from rfl)
      have z4 := (kcl HF.cb 4).trans (show _ = some (.slice none 0 0) from rfl)
      have z5 := (kcl HF.cb 5).trans (show _ = some (.slice none 0 0) from rfl)
      have z6 := (kcl HF.cb 6).trans (show _ = some (.slice none 0 0) from rfl)
      have f0 := kfz HF.cb 0
      have f1 := kfz HF.cb 1
      have f2 := kfz HF.cb 2
      have f3 := kfz HF.cb 3
      have f4 := kfz HF.cb 4
      have f5 := kfz HF.cb 5
      have f6 := kfz HF.cb 6
      refine norm_ (a' := ?_) ?_ ?_
      rotate_left
      · simp only [putAll, Act.put, List.setIfInBounds_toArray, List.set_cons_zero, List.set_cons_succ]
        rfl
      refine last_ (i := 9) (N := none) #[true, true, true, true, true, true, true, true, true, true] rfl rfl (by kernel_rfl) (by decide) (fun K hK => ?_)
      refine skip_ (w1 := ?_) (by rfl) rfl ?_ ?_
      rotate_left
      · go_simp
        rfl
      refine hK.out _ _ ?_
      clear hK K
      refine done_ (by kernel_rfl) ?_
      obtain ⟨W1, hW1⟩ : ∃ W1 : World, W1 = (((((((w11.setCell ⟨b4, 0, none⟩ (.int .i64 5)).setCell ⟨b4, 1, none⟩ (.string nm)).setCell ⟨b4, 2, none⟩ (.int .i64 0)).setCell ⟨b4, 3, none⟩ (.slice A6 1 c6)).setCell ⟨b4, 4, none⟩ (.slice none 0 0)).setCell ⟨b4, 5, none⟩ (.slice none 0 0)).setCell ⟨b4, 6, none⟩ (.slice none 0 0)) := ⟨_, rfl⟩
      rw [← hW1]
      obtain ⟨N, hN⟩ : ∃ N, N = w10.heap.size := ⟨_, rfl⟩
      rw [← hN] at HF
      have HF1 := Aside0.mk (show Fr w W1 N b4 (.slice A1 n1 c1) l gn cn 13 ns #[.int .i64 5, .string nm, .int .i64 0, .slice A6 1 c6, .slice none 0 0, .slice none 0 0, .slice none 0 0] (.slice A6 1 c6) [refN k] (.slice none 0 0) [] from by
        rw [hW1]
        exact ((((((HF.set 0 _ rfl).set 1 _ rfl).set 2 _ rfl).set 3 _ rfl).set 4 _ rfl).set 5 _ rfl).set 6 _ rfl)
      clear z0 z1 z2 z3 z4 z5 z6 f0 f1 f2 f3 f4 f5 f6 HF hHeld hW1 hN hnm hh hq0 HQ
      by_cases hk0 : 0 < k
      · go_wp2_with fail
        refine (spec_refTo.calls 0 _ _ _ _ rfl).mono ?_
        rintro e y ⟨rfl, hb⟩
        have HF2 := Aside0.mk (HF1.out.below hb)
        have d4 := (kcl HF2.out.cb 4).trans (show _ = some (.slice none 0 0) from rfl)
        clear HF1 hb
        go_upto_region 9 with (first
          | ((with_reducible refine gate_dst (N := 26) rfl ?_); refine Kd.R_lit k35 _ 35 ?hg (N := 26) ?hd (xs := ([(⟨4, ⟨#[]⟩, 0⟩ : S35)] : List S35)) (inner := [.int .i64 4, .string ⟨#[]⟩, .int .i64 0]) (ok := fun _ => True) (okp := fun _ => True) ?hr ?hp (fun _ hk => hk) trivial (Below.refl _ _) (Nat.le_refl _) (by simp) ?_; (case hd => rfl); (case hg => rfl); (case hr => first | (go_simp; done) | (go_simp; rfl)); (case hp => exact (Reps.c3 (show Kd.M k35 _ _ _ (⟨4, ⟨#[]⟩, 0⟩ : S35) [.int .i64 4, .string ⟨#[]⟩, .int .i64 0] from (k35_mkM _ _ _ (⟨4, ⟨#[]⟩, 0⟩ : S35))) (Reps.none _ _))); intro v7 y7 ho7 hb7 _ _; obtain ⟨A7, c7, rfl⟩ := sfN1 ho7; have HF3 := Aside0.mk (HF2.out.below hb7); have d4' := B.cell_keep hb7 d4; have df := kfz HF3.out.cb 4; have HR4 := Aside0.mk (r_after ho7 (blk_lt HF2.out.cb) (Nat.le_refl _)); have HN4 := Aside0.mk (show N ≤ y.heap.size by have := HF2.out.b4N; have := blk_lt HF2.out.cb; omega); have hs4 : ∀ k, (Value.slice A6 1 c6).ownBlock = some k → k < y.heap.size := Kd.R_lt HF2.out.r3; clear ho7 hb7 d4))
        obtain ⟨W3, hW3⟩ : ∃ W3 : World, W3 = y7.setCell ⟨b4, 4, none⟩ (.slice A7 1 c7) := ⟨_, rfl⟩
        rw [← hW3]
        have HF5 := Aside0.mk (show Fr w W3 N b4 (.slice A1 n1 c1) l gn cn 13 ns #[.int .i64 5, .string nm, .int .i64 0, .slice A6 1 c6, .slice A7 1 c7, .slice none 0 0, .slice none 0 0] (.slice A6 1 c6) [refN k] (.slice A7 1 c7) [refN 0] from by
          rw [hW3]
          exact (HF3.out.row4 (Kd.R_lower HR4.out HN4.out)).set 4 _ rfl)
        replace HR4 := Aside0.mk (show k35.R 35 W3 y.heap.size (fun k => k ≠ b4) (.slice A7 1 c7) [refN 0] by rw [hW3]; exact Kd.R_far HR4.out (fun k hk => hk) _)
        clear hW3 HF3 HF2 d4' df
        go_wp2_with fail
        have hF8 := HF5.out.drew
        have hR48 := Kd.R_drew HR4.out
        refine start_ (n := 7) (S := fun w' => w'.cell? ⟨b4, 3, none⟩ = some (.slice A6 1 c6)) (ds := [4, 6]) #[false, false, false, false, false, false, false] (by kernel_rfl) rfl rfl (hF8.cell3) (fun hHeld => ?_)
        generalize W3.drew = w10b at hF8 hR48 hHeld ⊢
        refine pure_ (i := 0) (N := some 28) (v := ?_) (a' := ?_) #[true, false, false, false, false, false, false] rfl rfl (by kernel_rfl) (fun _ _ _ h => h) (Or.inl ⟨by rfl, ?_⟩) ?_ ?_
        rotate_left
        · intro w'
          go_simp
          with_reducible rfl
        rotate_left
        · simp only [Act.put, List.setIfInBounds_toArray, List.set_cons_zero, List.set_cons_succ, i64_w, i32_w]
          rfl
        refine take_ (i := 1) (N := some 29) (v := ?_) (a' := ?_) #[true, true, false, false, false, false, false] rfl rfl (by kernel_rfl) (fun _ _ _ h => h) (Or.inl ⟨by rfl, ?_⟩) hHeld ?_ ?_
        rotate_left
        · intro w' s0
          go_simp
          with_reducible rfl
        rotate_left
        · simp only [Act.put, List.setIfInBounds_toArray, List.set_cons_zero, List.set_cons_succ, i64_w, i32_w]
          rfl
        refine one_ (i := 2) (N := some 30) #[true, true, true, false, false, false, false] rfl rfl (by kernel_rfl) (by decide) (fun K hK => ?_)
        refine goes_ Try.func59 (by kernel_rfl) rfl #[.int .i64 0] (by rfl) rfl rfl (by simp only [List.map_toArray, List.map_cons, List.map_nil]; rfl) ?_
        with_reducible refine (spec_refTo.calls 0 _ _ _ _ rfl).mono ?_
        rintro e y9 ⟨rfl, hb9⟩
        refine ⟨_, rfl, ?_⟩
        have hF9 := hF8.below hb9
        have hR49 := Kd.R_below hR48 hb9
        refine hK.out _ _ (hF9.cell3) (fun hHeld => ?_)
        clear hK K
        refine norm_ (a' := ?_) ?_ ?_
        rotate_left
        · show Act.put _ (some 30) _ = _
          simp only [Act.put, List.setIfInBounds_toArray, List.set_cons_zero, List.set_cons_succ, i64_w, i32_w]
          rfl
        refine one_ (i := 3) (N := some 31) #[true, true, true, true, false, false, false] rfl rfl (by kernel_rfl) (by decide) (fun K hK => ?_)
        refine value_ (w1 := ?_) (v := ?_) (by rfl) rfl ?_ ?_
        rotate_left 2
        · go_simp
          constructor
          · rfl
          · rfl
        refine hK.out _ _ ((hF9.below (bla (Below.refl _ _) _)).cell3) (fun hHeld => ?_)
        clear hK K
        refine norm_ (a' := ?_) ?_ ?_
        rotate_left
        · show Act.put _ (some 31) _ = _
          simp only [Act.put, List.setIfInBounds_toArray, List.set_cons_zero, List.set_cons_succ, i64_w, i32_w]
          rfl
        refine last_ (i := 4) (N := some 32) #[true, true, true, true, true, false, false] rfl rfl (by kernel_rfl) (by decide) (fun K hK => ?_)
        refine Kd.R_append_step k35 (w0 := y9) N (by rfl) (.tmp 29) (.tmp 31) 26 35 (.agg #[(.int .i64 0), (.string ⟨#[]⟩), (.int .i64 0)]) 32 rfl Try.underlying26 info35 rfl (by decide) (by omega) (.slice A6 1 c6) [refN k] (refN 0) [.int .i64 4, .string ⟨#[]⟩, .int .i64 0] (fun k => k ≠ b4) (fun _ => False) rfl rfl ?aP (fun _ hk => hk.elim) ?aF ?aO ?aB ?aS ?aL ?_
        case aP => exact k35_mkM _ _ _ (refN 0)
        case aF => exact fun k hk => by have := blk_lt hF9.cb; omega
        case aO => exact hF9.r3
        case aB => exact Below.refl _ _
        case aS => have := hF9.b4N; have := blk_lt hF9.cb; omega
        case aL => simp
        intro v1 w13 ho _ hg hat
        obtain ⟨A8, n8, c8, rfl⟩ := sfN ho
        have hF10 := hF9.grow3 hR49 HN4.out hs4 hg ho
        have q3 := (kcl hF10.1 3).trans (show _ = some (.slice A6 1 c6) from rfl)
        have qf := kfz hF10.1 3
        have HF11 := Aside0.mk (hF10.2 _ rfl)
        refine hK.out _ _ ?_
        clear hK K
        refine norm_ (a' := ?_) ?_ ?_
        rotate_left
        · show Act.put _ (some 32) _ = _
          simp only [Act.put, List.setIfInBounds_toArray, List.set_cons_zero, List.set_cons_succ, i64_w, i32_w]
          rfl
        refine pure_ (i := 5) (N := some 33) (v := ?_) (a' := ?_) #[true, true, true, true, true, true, false] rfl rfl (by kernel_rfl) (fun _ _ _ h => h) (Or.inl ⟨by rfl, ?_⟩) ?_ ?_
        rotate_left
        · intro w'
          go_simp
          with_reducible rfl
        rotate_left
        · simp only [Act.put, List.setIfInBounds_toArray, List.set_cons_zero, List.set_cons_succ, i64_w, i32_w]
          rfl
        refine last_ (i := 6) (N := none) #[true, true, true, true, true, true, true] rfl rfl (by kernel_rfl) (by decide) (fun K hK => ?_)
        refine skip_ (w1 := ?_) (by rfl) rfl ?_ ?_
        rotate_left
        · go_simp
          rfl
        refine hK.out _ _ ?_
        clear hK K
        refine done_ (by kernel_rfl) ?_
        obtain ⟨W4, hW4⟩ : ∃ W4 : World, W4 = w13.setCell ⟨b4, 3, none⟩ (.slice A8 n8 c8) := ⟨_, rfl⟩
        rw [← hW4] at HF11 ⊢
        clear hW4 q3 qf hF10 hF9 hF8 hR48 hR49 hs4 HF5 HR4 HN4 ho hg hat hb9 hHeld
        have z1 := (kcl HF11.out.c1 0).trans (show _ = some (.slice A1 n1 c1) from rfl)
        have k0 := (kcl HF11.out.cb 0).trans (show _ = some (.int .i64 5) from rfl)
        have k1 := (kcl HF11.out.cb 1).trans (show _ = some (.string nm) from rfl)
        have k2 := (kcl HF11.out.cb 2).trans (show _ = some (.int .i64 0) from rfl)
        have k3 := (kcl HF11.out.cb 3).trans (show _ = some (.slice A8 n8 c8) from rfl)
        have k4 := (kcl HF11.out.cb 4).trans (show _ = some (.slice A7 1 c7) from rfl)
        have k5 := (kcl HF11.out.cb 5).trans (show _ = some (.slice none 0 0) from rfl)
        have k6 := (kcl HF11.out.cb 6).trans (show _ = some (.slice none 0 0) from rfl)
        go_wp2_with (first
          | ((with_reducible refine gate_builtin (b := .append) (xs := #[.tmp 35, .tmp 37]) rfl ?_); at_builtin; refine Kd.R_append k46 (w0 := W4) (w.heap.size + 2) rfl (.tmp 35) (.tmp 37) 23 46 (.agg #[(.int .i64 0), (.string ⟨#[]⟩), (.int .i64 0), (.slice none 0 0), (.slice none 0 0), (.slice none 0 0), (.slice none 0 0)]) 128 rfl Try.underlying23 info46 rfl (by decide) (by omega) (.slice A1 n1 c1) l ⟨5, nm, 0, [refN k] ++ [refN 0], [refN 0], [], []⟩ [.int .i64 5, .string nm, .int .i64 0, .slice A8 n8 c8, .slice A7 1 c7, .slice none 0 0, .slice none 0 0] (fun _ => True) (fun k => N ≤ k) rfl (by rfl) HF11.out.obj (fun k hk => HF11.out.sep hk) (fun _ _ => trivial) (Kd.R_mono HF11.out.hr (fun _ _ => trivial)) (Below.refl _ _) (by have := blk_lt HF11.out.c1; omega) (by omega) ?_; intro v1 w13 ho _ hg _; have hp := HF11.out.growH hg; obtain ⟨A2, n2, c2, rfl⟩ := sfN ho; have q1 := (kcl hp.2.2.1 0).trans (show _ = some (.slice A1 n1 c1) from rfl); have qf1 := kfz hp.2.2.1 0; have HPUT := Aside0.mk (Nh.put hp ho (new5' HNM.out k) HALL.out); clear hp ho hg))
        go_roundw
        case rel => exact ⟨k + 1, _, A2, n2, c2, by go_num, by omega, ⟨HPUT.out⟩, by have := HLK.out; simp; omega⟩
        case measure => simp [intOf]; omega
      · have hk00 : k = 0 := by omega
        have z1 := (kcl HF1.out.c1 0).trans (show _ = some (.slice A1 n1 c1) from rfl)
        have k0 := (kcl HF1.out.cb 0).trans (show _ = some (.int .i64 5) from rfl)
        have k1 := (kcl HF1.out.cb 1).trans (show _ = some (.string nm) from rfl)
        have k2 := (kcl HF1.out.cb 2).trans (show _ = some (.int .i64 0) from rfl)
        have k3 := (kcl HF1.out.cb 3).trans (show _ = some (.slice A6 1 c6) from rfl)
        have k4 := (kcl HF1.out.cb 4).trans (show _ = some (.slice none 0 0) from rfl)
        have k5 := (kcl HF1.out.cb 5).trans (show _ = some (.slice none 0 0) from rfl)
        have k6 := (kcl HF1.out.cb 6).trans (show _ = some (.slice none 0 0) from rfl)
        go_wp2_with (first
          | ((with_reducible refine gate_builtin (b := .append) (xs := #[.tmp 35, .tmp 37]) rfl ?_); at_builtin; refine Kd.R_append k46 (w0 := W1) (w.heap.size + 2) rfl (.tmp 35) (.tmp 37) 23 46 (.agg #[(.int .i64 0), (.string ⟨#[]⟩), (.int .i64 0), (.slice none 0 0), (.slice none 0 0), (.slice none 0 0), (.slice none 0 0)]) 128 rfl Try.underlying23 info46 rfl (by decide) (by omega) (.slice A1 n1 c1) l ⟨5, nm, 0, [refN k], [], [], []⟩ [.int .i64 5, .string nm, .int .i64 0, .slice A6 1 c6, .slice none 0 0, .slice none 0 0, .slice none 0 0] (fun _ => True) (fun k => N ≤ k) rfl (by rfl) HF1.out.obj (fun k hk => HF1.out.sep hk) (fun _ _ => trivial) (Kd.R_mono HF1.out.hr (fun _ _ => trivial)) (Below.refl _ _) (by have := blk_lt HF1.out.c1; omega) (by omega) ?_; intro v1 w13 ho _ hg _; have hp := HF1.out.growH hg; obtain ⟨A2, n2, c2, rfl⟩ := sfN ho; have q1 := (kcl hp.2.2.1 0).trans (show _ = some (.slice A1 n1 c1) from rfl); have qf1 := kfz hp.2.2.1 0; have HPUT := Aside0.mk (Nh.put hp ho (new5 HNM.out k) HALL.out); clear hp ho hg))
        go_roundw
        case rel => exact ⟨k + 1, _, A2, n2, c2, by go_num, by omega, ⟨HPUT.out⟩, by have := HLK.out; simp; omega⟩
        case measure => simp [intOf]; omega
    · have HN := Aside0.mk HQ.out
      clear HQ
      go_wp2_with fail
      refine (built_n _).mono ?_
      rintro e w5 ⟨gn2, cn2, ns2, rfl, hr, hl, hs, hb⟩
      have hb2 := HN.out.below hb
      have HN2 := Aside0.mk (show Nh w w5 (.slice A1 n1 c1) l gn2 cn2 6 ns2 from ⟨hb2.bl, hb2.c0, hb2.c1, hb2.hr, Kd.R_lower hr (by have := blk_lt HN.out.c1; omega), hb2.all⟩)
      have HS2 := Aside0.mk hs
      clear hr hl hs hb hb2 HN
      go_wp2_with fail
      go_loopw [6] (fun u6 wr => ∃ (k : Nat) (l : List S46) (A1 : Option Addr) (n1 c1 : Nat), u6 = .int .i64 k ∧ k ≤ 6 ∧ Aside0 (Nh w wr (.slice A1 n1 c1) l gn2 cn2 6 ns2) ∧ l.length = 13 + k) (fun u6 _ => 6 - (intOf u6).toNat)
      case atStart => exact ⟨0, l, A1, n1, c1, rfl, by omega, ⟨HN2.out⟩, by have := HLK.out; omega⟩
      case round =>
        clear HN2
        obtain ⟨k, l, A1, n1, c1, rfl, hk6, HQ, hlk⟩ := hrel
        have hl40 : l.length ≤ 40 := by omega
        have HLK := Lib.hid hlk
        clear hlk
        by_cases hk : k < 6
        · obtain ⟨nm, hnm, hnm1⟩ := name_at HQ.out.nm HS2.out k hk
          have HNM := Aside0.mk hnm1
          clear hnm1
          go_wp2_with fail
          have hq0 : Below wr.heap.size wr wr.drew := below_drew (Below.refl _ _)
          have hD := HQ.out.below hq0
          refine start_ (n := 11) (S := fun w' => w'.cell? ⟨w.heap.size + 1, 0, none⟩ = some (.slice A1 n1 c1) ∧ w'.cell? ⟨gn2, k, none⟩ = some (.string nm)) (ds := [8, 10]) #[false, false, false, false, false, false, false, false, false, false, false] (by kernel_rfl) rfl rfl ⟨hD.cell1, B.cell_keep hq0 hnm⟩ (fun hHeld => ?_)
          generalize wr.drew = w10 at hq0 hD hHeld ⊢
          refine pure_ (i := 0) (N := some 47) (v := ?_) (a' := ?_) #[true, false, false, false, false, false, false, false, false, false, false] rfl rfl (by kernel_rfl) (fun _ _ _ h => h) (Or.inl ⟨by rfl, ?_⟩) ?_ ?_
          rotate_left
          · intro w'
            go_simp
            with_reducible rfl
          rotate_left
          · simp only [Act.put, List.setIfInBounds_toArray, List.set_cons_zero, List.set_cons_succ, i64_w, i32_w]
            rfl
          refine pure_ (i := 2) (N := some 49) (v := ?_) (a' := ?_) #[true, false, true, false, false, false, false, false, false, false, false] rfl rfl (by kernel_rfl) (fun _ _ _ h => h) (Or.inl ⟨by rfl, ?_⟩) ?_ ?_
          rotate_left
          · intro w'
            go_simp
            with_reducible rfl
          rotate_left
          · simp only [Act.put, List.setIfInBounds_toArray, List.set_cons_zero, List.set_cons_succ, i64_w, i32_w]
            rfl
          refine pure_ (i := 3) (N := some 50) (v := ?_) (a' := ?_) #[true, false, true, true, false, false, false, false, false, false, false] rfl rfl (by kernel_rfl) (fun _ _ _ h => h) (Or.inl ⟨by rfl, ?_⟩) ?_ ?_
          rotate_left
          · intro w'
            go_simp
            with_reducible rfl
          rotate_left
          · simp only [Act.put, List.setIfInBounds_toArray, List.set_cons_zero, List.set_cons_succ, i64_w, i32_w]
            rfl
          refine pure_ (i := 4) (N := some 51) (v := ?_) (a' := ?_) #[true, false, true, true, true, false, false, false, false, false, false] rfl rfl (by kernel_rfl) (fun _ _ _ h => h) (Or.inl ⟨by rfl, ?_⟩) ?_ ?_
          rotate_left
          · intro w'
            go_simp
            with_reducible rfl
          rotate_left
          · simp only [Act.put, List.setIfInBounds_toArray, List.set_cons_zero, List.set_cons_succ, i64_w, i32_w]
            rfl
          refine take_ (i := 1) (N := some 48) (v := ?_) (a' := ?_) #[true, true, true, true, true, false, false, false, false, false, false] rfl rfl (by kernel_rfl) (fun _ _ _ h => h) (Or.inl ⟨by rfl, ?_⟩) hHeld ?_ ?_
          rotate_left
          · rintro w' ⟨s0, s1⟩
            go_simp
            with_reducible rfl
          rotate_left
          · simp only [Act.put, List.setIfInBounds_toArray, List.set_cons_zero, List.set_cons_succ, i64_w, i32_w]
            rfl
          refine take_ (i := 5) (N := some 52) (v := ?_) (a' := ?_) #[true, true, true, true, true, true, false, false, false, false, false] rfl rfl (by kernel_rfl) (fun _ _ _ h => h) (Or.inl ⟨by rfl, ?_⟩) hHeld ?_ ?_
          rotate_left
          · rintro w' ⟨s0, s1⟩
            go_simp
            with_reducible rfl
          rotate_left
          · simp only [Act.put, List.setIfInBounds_toArray, List.set_cons_zero, List.set_cons_succ, i64_w, i32_w]
            rfl
          refine pure_ (i := 6) (N := some 53) (v := ?_) (a' := ?_) #[true, true, true, true, true, true, true, false, false, false, false] rfl rfl (by kernel_rfl) (fun _ _ _ h => h) (Or.inl ⟨by rfl, ?_⟩) ?_ ?_
          rotate_left
          · intro w'
            go_simp
            with_reducible rfl
          rotate_left
          · simp only [Act.put, List.setIfInBounds_toArray, List.set_cons_zero, List.set_cons_succ, i64_w, i32_w]
            rfl
          refine one_ (i := 7) (N := some 54) #[true, true, true, true, true, true, true, true, false, false, false] rfl rfl (by kernel_rfl) (by decide) (fun K hK => ?_)
          refine value_ (w1 := ?_) (v := ?_) (by rfl) rfl ?_ ?_
          rotate_left 2
          · go_simp
            constructor
            · rfl
            · rfl
          have hD2 := hD.alloc (.cells #[.int .i64 10, .string nm, .int .i64 0, .slice none 0 0, .slice none 0 0, .slice none 0 0, .slice none 0 0] 46)
          refine hK.out _ _ ⟨hD2.cell1, B.cell_keep (bth hq0 hq0.size (bla (Below.refl _ _) _)) hnm⟩ (fun hHeld => ?_)
          clear hK K
          refine norm_ (a' := ?_) ?_ ?_
          rotate_left
          · show Act.put _ (some 54) _ = _
            simp only [Act.put, List.setIfInBounds_toArray, List.set_cons_zero, List.set_cons_succ, i64_w, i32_w]
            rfl
          refine last_ (i := 8) (N := some 55) #[true, true, true, true, true, true, true, true, true, false, false] rfl rfl (by kernel_rfl) (by decide) (fun K hK => ?_)
          refine Kd.R_append_step k46 (w0 := w10) (w.heap.size + 2) (by rfl) (.tmp 48) (.tmp 54) 23 46 (.agg #[(.int .i64 0), (.string ⟨#[]⟩), (.int .i64 0), (.slice none 0 0), (.slice none 0 0), (.slice none 0 0), (.slice none 0 0)]) 128 rfl Try.underlying23 info46 rfl (by decide) (by omega) (.slice A1 n1 c1) l ⟨10, nm, 0, [], [], [], []⟩ [.int .i64 10, .string nm, .int .i64 0, .slice none 0 0, .slice none 0 0, .slice none 0 0, .slice none 0 0] (fun _ => True) (fun _ => False) rfl rfl ?aP (fun _ hk => hk.elim) (fun _ _ => trivial) ?aO ?aB ?aS ?aL ?_
          case aP => exact k46_mkM w10 _ _ (⟨10, nm, 0, [], [], [], []⟩ : S46) (Kd.R_nil _ _ _ _ _) (Kd.R_nil _ _ _ _ _) (Kd.R_nil _ _ _ _ _) (Kd.R_nil _ _ _ _ _)
          case aO => exact hD.hr
          case aB => exact Below.refl _ _
          case aS => have := blk_lt hD.c1; omega
          case aL => omega
          intro v1 w13 ho _ hg _
          have hp := hD.grow hg
          obtain ⟨A2, n2, c2, rfl⟩ := sfN ho
          have hq2' := (kcl hp.2.2.1 0).trans (show _ = some (.slice A1 n1 c1) from rfl)
          have hf2' := kfz hp.2.2.1 0
          have HPUT := Aside0.mk (Nh.put hp ho (new10 HNM.out) hD.all)
          refine hK.out _ _ ?_
          clear hK K
          refine norm_ (a' := ?_) ?_ ?_
          rotate_left
          · show Act.put _ (some 55) _ = _
            simp only [Act.put, List.setIfInBounds_toArray, List.set_cons_zero, List.set_cons_succ, i64_w, i32_w]
            rfl
          refine pure_ (i := 9) (N := some 56) (v := ?_) (a' := ?_) #[true, true, true, true, true, true, true, true, true, true, false] rfl rfl (by kernel_rfl) (fun _ _ _ h => h) (Or.inl ⟨by rfl, ?_⟩) ?_ ?_
          rotate_left
          · intro w'
            go_simp
            with_reducible rfl
          rotate_left
          · simp only [Act.put, List.setIfInBounds_toArray, List.set_cons_zero, List.set_cons_succ, i64_w, i32_w]
            rfl
          refine last_ (i := 10) (N := none) #[true, true, true, true, true, true, true, true, true, true, true] rfl rfl (by kernel_rfl) (by decide) (fun K hK => ?_)
          refine skip_ (w1 := ?_) (by rfl) rfl ?_ ?_
          rotate_left
          · go_simp
            rfl
          refine hK.out _ _ ?_
          clear hK K
          refine done_ (by kernel_rfl) ?_
          go_wp2_with fail
          go_roundw
          case rel => exact ⟨k + 1, _, A2, n2, c2, by go_num, by omega, ⟨HPUT.out⟩, by have := HLK.out; simp; omega⟩
          case measure => simp [intOf]; omega
        · have q1 := HQ.out.cell1
          have q0 := (kcl HQ.out.c0 0).trans (show _ = some (.slice none 0 0) from rfl)
          have qf := kfz HQ.out.c0 0
          go_wp2_with fail
          refine bodyPost_ret (v := .agg #[.slice A1 n1 c1]) (B.res_c rfl _ _ w.heap.size 25 _ (0, 0) _ rfl (blk_put HQ.out.c0 0 _ rfl) Try.underlying25 rfl rfl) rfl ⟨_, l, rfl, ?_, by have := HLK.out; omega, ?_, ?_, HQ.out.bl.setCell (Nat.le_refl _) _⟩
          · exact Kd.R_mono (Kd.R_lower (Kd.R_far (Kd.R_bound HQ.out.hr) (p := ⟨w.heap.size, 0, none⟩) (fun k hk => by have := hk.2.1; simp; omega) (.slice A1 n1 c1)) (by omega)) (fun _ _ => trivial)
          · exact List.all_eq_true.2 fun o ho => (HQ.out.all o ho).1
          · exact List.all_eq_true.2 fun o ho => (HQ.out.all o ho).2
end Go.Proofs.Ytgddblpgbkgpcaa.PR
namespace Go.Proofs.Ytgddblpgbkgpcaa.PR
set_option linter.unusedVariables false
set_option linter.unusedSimpArgs false
open Go.RowKit Go.Proofs.YtgddblpgbkgpcaaW.PrintWords Go.Proofs.YtgddblpgbkgpcaaW.PrintLast Go.Proofs.YtgddblpgbkgpcaaW.PrintMore
def apart (u v : Value) : Prop := ∀ k, u.ownBlock = some k → v.ownBlock ≠ some k
theorem apart.symm {u v : Value} (h : apart u v) : apart v u := fun k hk he => h k he hk
theorem apart.left {u u1 v : Value} (h : apart u v) {N : Nat} (hv : ∀ k, v.ownBlock = some k → k < N) (hat : u1.ownBlock = u.ownBlock ∨ ∃ b, u1.ownBlock = some b ∧ N ≤ b) : apart u1 v := by
  intro k hk he
  rcases hat with hat | ⟨b, hb, hle⟩
  · exact h k (by rw [← hat]; exact hk) he
  · rw [hk] at hb
    injection hb with hb
    have := hv k he
    omega
theorem apart_nil (v : Value) : apart (.slice none 0 0) v := fun k hk => by simp [Value.ownBlock] at hk
def nl {α : Type} (xs : List α) (v : Value) : Prop := xs = [] → v = .slice none 0 0
theorem nl_app {α : Type} (xs : List α) (x : α) (v : Value) : nl (xs ++ [x]) v := fun h => by simp at h
def nilc (x : S46) (cs : List Value) : Prop := x.f0 = 5 ∨ x.f0 = 10 ∨ (∀ v3 v4 v5 v6 : Value, ∀ a b c : Value, cs = [a, b, c, v3, v4, v5, v6] → nl x.f3 v3 ∧ nl x.f4 v4 ∧ nl x.f5 v5 ∧ nl x.f6 v6)
def k46n : Kd S46 where
  sz := k46.sz
  E := k46.E
  K := k46.K
  M := fun w base ok x cs => k46.M w base ok x cs ∧ nilc x cs
  K_len := k46.K_len
  K_one := k46.K_one
  K_below := k46.K_below
  K_of_M := fun h => k46.K_of_M h.1
  M_mono := fun hok h => ⟨k46.M_mono hok h.1, h.2⟩
  M_bound := fun h => ⟨k46.M_bound h.1, h.2⟩
  M_move := fun hm h => ⟨k46.M_move hm h.1, h.2⟩
  M_lower := fun hb h => ⟨k46.M_lower hb h.1, h.2⟩
theorem R_n {w : World} {base : Nat} {ok : Nat → Prop} {v : Value} {xs : List S46} (h : k46.R 46 w base ok v xs) (hx : ∀ x ∈ xs, x.f0 = 5 ∨ x.f0 = 10) : k46n.R 46 w base ok v xs := by
  obtain ⟨h0, inner, ho, hr⟩ := h
  refine ⟨h0, inner, ho, hr.1, fun j p hj => ⟨hr.2 j p hj, ?_⟩⟩
  rcases hx p (List.mem_of_getElem? hj) with h | h
  · exact .inl h
  · exact .inr (.inl h)
theorem n_R {w : World} {base : Nat} {ok : Nat → Prop} {v : Value} {xs : List S46} (h : k46n.R 46 w base ok v xs) : k46.R 46 w base ok v xs := by
  obtain ⟨h0, inner, ho, hr⟩ := h
  exact ⟨h0, inner, ho, hr.imp_ (fun _ _ hp => hp.1)⟩
structure Ob (w : World) (H : Nat) (o : S46) (v3 v4 v5 v6 : Value) : Prop where
  r3 : k35.R 35 w (H + 1) (fun _ => True) v3 o.f3
  r4 : k35.R 35 w (H + 1) (fun _ => True) v4 o.f4
  r5 : Kd.string.R 9 w (H + 1) (fun _ => True) v5 o.f5
  r6 : k35.R 35 w (H + 1) (fun _ => True) v6 o.f6
  n34 : apart v3 v4
  n36 : apart v3 v6
  n46 : apart v4 v6
  z3 : nl o.f3 v3
  z4 : nl o.f4 v4
  z5 : nl o.f5 v5
  z6 : nl o.f6 v6
section
variable {w w1 : World} {H : Nat} {o : S46} {v3 v4 v5 v6 : Value}
theorem R_up {α : Type} {d : Kd α} {e base : Nat} {ok : Nat → Prop} {v : Value} {xs : List α} (h : d.R e w base ok v xs) (hm : ∀ k, base ≤ k → k < w.heap.size → w1.heap[k]? = w.heap[k]?) : d.R e w1 base ok v xs :=
  Kd.R_mono (Kd.R_move (Kd.R_bound h) (fun k hk => hm k hk.2.1 hk.2.2.1)) (fun _ hk => hk.1)
theorem Ob.step (h : Ob w H o v3 v4 v5 v6) (hm : ∀ k, H + 1 ≤ k → k < w.heap.size → w1.heap[k]? = w.heap[k]?) : Ob w1 H o v3 v4 v5 v6 :=
  ⟨R_up h.r3 hm, R_up h.r4 hm, R_up h.r5 hm, R_up h.r6 hm, h.n34, h.n36, h.n46, h.z3, h.z4, h.z5, h.z6⟩
theorem Ob.keep (h : Ob w H o v3 v4 v5 v6) {g : Nat} (hk : KeepBut w w1 g none) (hg : g ≤ H) : Ob w1 H o v3 v4 v5 v6 := h.step (fun k h1 h2 => hk.2 k h2 (by omega) (by simp))
theorem Ob.far (h : Ob w H o v3 v4 v5 v6) {p : Addr} (hp : p.block ≤ H) (u : Value) : Ob (w.setCell p u) H o v3 v4 v5 v6 := h.step (fun k h1 _ => Below.heap_setCell w p u k (by omega))
theorem Ob.kind (h : Ob w H o v3 v4 v5 v6) (a : Int) : Ob w H { o with f2 := a } v3 v4 v5 v6 := ⟨h.r3, h.r4, h.r5, h.r6, h.n34, h.n36, h.n46, h.z3, h.z4, h.z5, h.z6⟩
theorem R_other {α β : Type} {d : Kd α} {d' : Kd β} {e e' base base' : Nat} {ok ok' : Nat → Prop} {u v : Value} {xs : List α} {ys : List β} (h : d.R e w base ok u xs) (hE : d.E = []) (_hv : d'.R e' w base' ok' v ys) (hn : apart u v) (hg : w.grownBy w1 v.ownBlock) : d.R e w1 base ok u xs :=
  Kd.R_grown2 h hE hg (fun k hk he => hn k he.symm hk)
theorem Ob.put3 (h : Ob w H o v3 v4 v5 v6) {v : Value} {xs : List S35} (hr : k35.R 35 w1 (H + 1) (fun _ => True) v xs) (hg : w.grownBy w1 v3.ownBlock) (hat : v.ownBlock = v3.ownBlock ∨ ∃ b, v.ownBlock = some b ∧ w.heap.size ≤ b) (hz : nl xs v) : Ob w1 H { o with f3 := xs } v v4 v5 v6 :=
  ⟨hr, R_other h.r4 rfl h.r3 h.n34.symm hg, Kd.R_over' h.r5 (Kd.R_typed h.r3) (by decide) hg, R_other h.r6 rfl h.r3 h.n36.symm hg, h.n34.left (Kd.R_lt h.r4) hat, h.n36.left (Kd.R_lt h.r6) hat, h.n46, hz, h.z4, h.z5, h.z6⟩
theorem Ob.put4 (h : Ob w H o v3 v4 v5 v6) {v : Value} {xs : List S35} (hr : k35.R 35 w1 (H + 1) (fun _ => True) v xs) (hg : w.grownBy w1 v4.ownBlock) (hat : v.ownBlock = v4.ownBlock ∨ ∃ b, v.ownBlock = some b ∧ w.heap.size ≤ b) (hz : nl xs v) : Ob w1 H { o with f4 := xs } v3 v v5 v6 :=
  ⟨R_other h.r3 rfl h.r4 h.n34 hg, hr, Kd.R_over' h.r5 (Kd.R_typed h.r4) (by decide) hg, R_other h.r6 rfl h.r4 h.n46.symm hg, (h.n34.symm.left (Kd.R_lt h.r3) hat).symm, h.n36, h.n46.left (Kd.R_lt h.r6) hat, h.z3, hz, h.z5, h.z6⟩
theorem Ob.put6 (h : Ob w H o v3 v4 v5 v6) {v : Value} {xs : List S35} (hr : k35.R 35 w1 (H + 1) (fun _ => True) v xs) (hg : w.grownBy w1 v6.ownBlock) (hat : v.ownBlock = v6.ownBlock ∨ ∃ b, v.ownBlock = some b ∧ w.heap.size ≤ b) (hz : nl xs v) : Ob w1 H { o with f6 := xs } v3 v4 v5 v :=
  ⟨R_other h.r3 rfl h.r6 h.n36 hg, R_other h.r4 rfl h.r6 h.n46 hg, Kd.R_over' h.r5 (Kd.R_typed h.r6) (by decide) hg, hr, h.n34, (h.n36.symm.left (Kd.R_lt h.r3) hat).symm, (h.n46.symm.left (Kd.R_lt h.r4) hat).symm, h.z3, h.z4, h.z5, hz⟩
theorem Ob.put5 (h : Ob w H o v3 v4 v5 v6) {v : Value} {xs : List ByteArray} (hr : Kd.string.R 9 w1 (H + 1) (fun _ => True) v xs) (hg : w.grownBy w1 v5.ownBlock) (hz : nl xs v) : Ob w1 H { o with f5 := xs } v3 v4 v v6 :=
  ⟨Kd.R_over' h.r3 (Kd.R_typed h.r5) (by decide) hg, Kd.R_over' h.r4 (Kd.R_typed h.r5) (by decide) hg, hr, Kd.R_over' h.r6 (Kd.R_typed h.r5) (by decide) hg, h.n34, h.n36, h.n46, h.z3, h.z4, hz, h.z6⟩
theorem Ob.new (w : World) (H : Nat) (k : Int) (nm : ByteArray) (p : Int) : Ob w H ⟨k, nm, p, [], [], [], []⟩ (.slice none 0 0) (.slice none 0 0) (.slice none 0 0) (.slice none 0 0) :=
  ⟨Kd.R_nil _ _ _ _ _, Kd.R_nil _ _ _ _ _, Kd.R_nil _ _ _ _ _, Kd.R_nil _ _ _ _ _, apart_nil _, apart_nil _, apart_nil _, fun _ => rfl, fun _ => rfl, fun _ => rfl, fun _ => rfl⟩
theorem R_fresh (w : World) (base : Nat) (hb : base ≤ w.heap.size) (xs : List S35) (hl : xs.length ≤ 1000) :
    k35.R 35 (w.alloc (.cells (xs.flatMap fun x => [Value.int .i64 x.f0, .string x.f1, .int .i64 x.f2]).toArray 35)) base (fun _ => True) (.slice (some ⟨w.heap.size, 0, none⟩) xs.length xs.length) xs := by
  have hlen : ∀ l : List S35, (l.flatMap fun x => [Value.int .i64 x.f0, .string x.f1, .int .i64 x.f2]).length = l.length * 3 := by
    intro l
    induction l with
    | nil => rfl
    | cons x l ih => simp only [List.flatMap_cons, List.length_append, List.length_cons, List.length_nil, ih]; omega
  refine ⟨fun _ _ => trivial, (xs.flatMap fun x => [Value.int .i64 x.f0, .string x.f1, .int .i64 x.f2]), ?_, ?_⟩
  · have h2 := World.ownsRow_lit (base := base) (e := 35) (size := 3) w (xs.flatMap fun x => [Value.int .i64 x.f0, .string x.f1, .int .i64 x.f2]).toArray xs.length hb (by unfold maxLen; omega) (by simpa using hlen xs)
    show World.ownsRow _ base 35 3 _ _ _
    simpa using h2
  · refine ⟨hlen xs, fun j p hj => ?_⟩
    have key : ∀ (l : List S35) (j : Nat) (p : S35), l[j]? = some p → ((l.flatMap fun x => [Value.int .i64 x.f0, .string x.f1, .int .i64 x.f2]).drop (j * 3)).take 3 = [Value.int .i64 p.f0, .string p.f1, .int .i64 p.f2] := by
      intro l
      induction l with
      | nil => intro j p h; simp at h
      | cons x l ih =>
        intro j p h
        cases j with
        | zero =>
          simp at h
          subst h
          simp
        | succ j =>
          have := ih j p (by simpa using h)
          rw [← this]
          simp [Nat.succ_mul, List.drop_append]
    show k35.M _ _ _ p (((xs.flatMap fun x => [Value.int .i64 x.f0, .string x.f1, .int .i64 x.f2]).drop (j * 3)).take 3)
    rw [key xs j p hj]
    exact k35_mkM _ _ _ p
theorem Ob.whole (h : Ob w H o v3 v4 v5 v6) {base : Nat} (hb : base ≤ H + 1) : k46n.M w base (fun k => H + 1 ≤ k) o [.int .i64 o.f0, .string o.f1, .int .i64 o.f2, v3, v4, v5, v6] := by
  have up : ∀ {α : Type} {d : Kd α} {e : Nat} {v : Value} {xs : List α}, d.R e w (H + 1) (fun _ => True) v xs → d.R e w base (fun k => H + 1 ≤ k) v xs :=
    fun h => Kd.R_lower (Kd.R_mono (Kd.R_bound h) (fun _ hk => hk.2.1)) hb
  refine ⟨k46_mkM w base _ o (up h.r3) (up h.r4) (up h.r5) (up h.r6), .inr (.inr ?_)⟩
  intro u3 u4 u5 u6 a b c e
  simp only [List.cons.injEq] at e
  obtain ⟨rfl, rfl, rfl, rfl, rfl, rfl, rfl, _⟩ := e
  exact ⟨h.z3, h.z4, h.z5, h.z6⟩
end
def vsz (l : List S35) : Prop := ∀ x ∈ l, x.f1.size ≤ 5
def oG (m : Nat) (o : S46) : Prop := o.f1.size ≤ 100 ∧ o.f3.length ≤ m + 2 ∧ o.f4.length ≤ m ∧ o.f5.length ≤ m ∧ o.f6.length ≤ m ∧ vsz o.f3 ∧ vsz o.f4 ∧ vsz o.f6 ∧ ∀ s ∈ o.f5, s ∈ nm4
theorem oG_oB {m : Nat} {o : S46} (h : oG m o) (hm : m ≤ 30) : oB o = true := by
  obtain ⟨h1, h2, h3, h4, h5, h6, h7, h8, h9⟩ := h
  unfold oB
  simp only [Bool.and_eq_true, decide_eq_true_eq, List.all_eq_true, List.any_eq_true]
  exact ⟨⟨⟨⟨⟨⟨⟨⟨h1, by omega⟩, by omega⟩, by omega⟩, by omega⟩, fun x hx => h6 x hx⟩, fun x hx => h7 x hx⟩, fun x hx => h8 x hx⟩, fun s hs => ⟨s, h9 s hs, by simp⟩⟩
theorem vsz_snoc {l : List S35} {x : S35} (h : vsz l) (hx : VOk x) : vsz (l ++ [x]) := by
  intro y hy
  rcases List.mem_append.1 hy with hy | hy
  · exact h y hy
  · rw [List.mem_singleton.1 hy]; exact hx.1
def un (o : S46) : Prop := ∃ k : Int, k ≠ 5 ∧ k ≠ 10 ∧ o = ⟨k, ⟨#[]⟩, 0, [], [], [], []⟩
theorem un_oG {o : S46} (h : un o) : oG 0 o := by
  obtain ⟨k, _, _, rfl⟩ := h
  exact ⟨by simp; decide, by simp, by simp, by simp, by simp, by intro x hx; simp at hx, by intro x hx; simp at hx, by intro x hx; simp at hx, by intro s hs; simp at hs⟩
end Go.Proofs.Ytgddblpgbkgpcaa.PR
namespace Go.Proofs.Ytgddblpgbkgpcaa.PR
set_option linter.unusedVariables false
set_option linter.unusedSimpArgs false
open Go.RowKit Go.Proofs.YtgddblpgbkgpcaaW.PrintWords Go.Proofs.YtgddblpgbkgpcaaW.PrintLast Go.Proofs.YtgddblpgbkgpcaaW.PrintMore
set_option linter.unusedVariables false
set_option linter.unusedSimpArgs false
def AP4 (v3 v4 v5 v6 : Value) : Prop := apart v3 v4 ∧ apart v3 v5 ∧ apart v3 v6 ∧ apart v4 v5 ∧ apart v4 v6 ∧ apart v5 v6
theorem ap_lt {α β : Type} {d : Kd α} {d' : Kd β} {e e' base base' : Nat} {ok ok' : Nat → Prop} {w w' : World} {u v : Value} {xs : List α} {ys : List β} (h : d.R e w base ok u xs) (h' : d'.R e' w' base' ok' v ys) (hl : w.heap.size ≤ base') : apart u v := by
  intro k hk hk'
  have h1 := Kd.R_lt h k hk
  have h2 := Kd.R_base h' k hk'
  omega
def OPostA (w : World) (x : S46) (e : Ending) (w' : World) : Prop :=
  ∃ v3 v4 v5 v6 : Value, e = .returned (.agg #[.int .i64 x.f0, .string x.f1, .int .i64 x.f2, v3, v4, v5, v6]) ∧ k35.R 35 w' w.heap.size (fun _ => True) v3 x.f3 ∧ k35.R 35 w' w.heap.size (fun _ => True) v4 x.f4 ∧ Kd.string.R 9 w' w.heap.size (fun _ => True) v5 x.f5 ∧ k35.R 35 w' w.heap.size (fun _ => True) v6 x.f6 ∧ Below w.heap.size w w' ∧ AP4 v3 v4 v5 v6
set_option maxRecDepth 100000 in
set_option maxHeartbeats 40000000 in
theorem cloneA_w (x : S46) (A3 : Option Addr) (n3 c3 : Nat) (A4 : Option Addr) (n4 c4 : Nat) (A5 : Option Addr) (n5 c5 : Nat) (A6 : Option Addr) (n6 c6 : Nat) (w : World)
    (h3 : Kd.C k35 w A3 n3 x.f3) (h4 : Kd.C k35 w A4 n4 x.f4) (h5 : Kd.C Kd.string w A5 n5 x.f5) (h6 : Kd.C k35 w A6 n6 x.f6) (l3 : n3 ≤ 1000) (l4 : n4 ≤ 1000) (l5 : n5 ≤ 1000) (l6 : n6 ≤ 1000) :
    Calls Try.prog 108 #[.agg #[.int .i64 x.f0, .string x.f1, .int .i64 x.f2, .slice A3 n3 c3, .slice A4 n4 c4, .slice A5 n5 c5, .slice A6 n6 c6]] w (OPostA w x) := by
  have hwb : Below w.heap.size w ((w.alloc (.cells #[.int .i64 x.f0, .string x.f1, .int .i64 x.f2, .slice A3 n3 c3, .slice A4 n4 c4, .slice A5 n5 c5, .slice A6 n6 c6] 46)).alloc (.cells #[.int .i64 0, .string ⟨#[]⟩, .int .i64 0, .slice none 0 0, .slice none 0 0, .slice none 0 0, .slice none 0 0] 46)) := bla (bla (Below.refl _ _) _) _
  obtain ⟨b1, hb1⟩ : ∃ b1, b1 = w.heap.size := ⟨_, rfl⟩
  obtain ⟨Wb, hWb⟩ : ∃ Wb : World, Wb = ((w.alloc (.cells #[.int .i64 x.f0, .string x.f1, .int .i64 x.f2, .slice A3 n3 c3, .slice A4 n4 c4, .slice A5 n5 c5, .slice A6 n6 c6] 46)).alloc (.cells #[.int .i64 0, .string ⟨#[]⟩, .int .i64 0, .slice none 0 0, .slice none 0 0, .slice none 0 0, .slice none 0 0] 46)) := ⟨_, rfl⟩
  have HBK := Aside0.mk (show Wb.heap[b1]? = some (.cells #[.int .i64 x.f0, .string x.f1, .int .i64 x.f2, .slice A3 n3 c3, .slice A4 n4 c4, .slice A5 n5 c5, .slice A6 n6 c6] 46 (0, 0)) ∧ Wb.heap[b1 + 1]? = some (.cells #[.int .i64 0, .string ⟨#[]⟩, .int .i64 0, .slice none 0 0, .slice none 0 0, .slice none 0 0, .slice none 0 0] 46 (0, 0)) from by
    rw [hWb, hb1]
    refine ⟨kla (blk_new _ _) _, ?_⟩
    have h := blk_new (w.alloc (.cells #[.int .i64 x.f0, .string x.f1, .int .i64 x.f2, .slice A3 n3 c3, .slice A4 n4 c4, .slice A5 n5 c5, .slice A6 n6 c6] 46)) (.cells #[.int .i64 0, .string ⟨#[]⟩, .int .i64 0, .slice none 0 0, .slice none 0 0, .slice none 0 0, .slice none 0 0] 46)
    rw [show (w.alloc (.cells #[.int .i64 x.f0, .string x.f1, .int .i64 x.f2, .slice A3 n3 c3, .slice A4 n4 c4, .slice A5 n5 c5, .slice A6 n6 c6] 46)).heap.size = w.heap.size + 1 by simp] at h
    exact h)
  rw [← hWb] at hwb
  replace h3 := Aside0.mk (Kd.C_below h3 hwb)
  replace h4 := Aside0.mk (Kd.C_below h4 hwb)
  replace h5 := Aside0.mk (Kd.C_below h5 hwb)
  replace h6 := Aside0.mk (Kd.C_below h6 hwb)
  have HWB := Aside0.mk hwb
  have k0 := (kcl HBK.out.1 0).trans (show _ = some (.int .i64 x.f0) from rfl)
  have k1 := (kcl HBK.out.1 1).trans (show _ = some (.string x.f1) from rfl)
  have k2 := (kcl HBK.out.1 2).trans (show _ = some (.int .i64 x.f2) from rfl)
  have k3 := (kcl HBK.out.1 3).trans (show _ = some (.slice A3 n3 c3) from rfl)
  have k4 := (kcl HBK.out.1 4).trans (show _ = some (.slice A4 n4 c4) from rfl)
  have k5 := (kcl HBK.out.1 5).trans (show _ = some (.slice A5 n5 c5) from rfl)
  have k6 := (kcl HBK.out.1 6).trans (show _ = some (.slice A6 n6 c6) from rfl)
  have HSZ := Lib.hid (show Wb.heap.size = w.heap.size + 2 by rw [hWb]; simp)
  have HW := Lib.hid hWb
  have HB := Lib.hid hb1
  clear hwb hWb hb1
  go_enter Try.func108, Try.ntmps108
  go_wp2_with fail
  rw [← HW.out, ← HB.out]
  have hq0 : Below Wb.heap.size Wb Wb.drew := below_drew (Below.refl _ _)
  refine start_ (n := 20) (S := fun w' => w'.cell? ⟨b1, 3, none⟩ = some (.slice A3 n3 c3) ∧ w'.cell? ⟨b1, 4, none⟩ = some (.slice A4 n4 c4) ∧ w'.cell? ⟨b1, 5, none⟩ = some (.slice A5 n5 c5) ∧ w'.cell? ⟨b1, 6, none⟩ = some (.slice A6 n6 c6)) (ds := [13, 15, 17, 19]) #[false, false, false, false, false, false, false, false, false, false, false, false, false, false, false, false, false, false, false, false] (by kernel_rfl) rfl rfl ⟨B.cell_keep hq0 k3, B.cell_keep hq0 k4, B.cell_keep hq0 k5, B.cell_keep hq0 k6⟩ (fun hHeld => ?_)
  generalize Wb.drew = w10 at hq0 hHeld ⊢
  refine pure_ (i := 0) (N := some 3) (v := ?_) (a' := ?_) #[true, false, false, false, false, false, false, false, false, false, false, false, false, false, false, false, false, false, false, false] rfl rfl (by kernel_rfl) (fun _ _ _ h => h) (Or.inl ⟨by rfl, ?_⟩) ?_ ?_
  rotate_left
  · intro w'
    go_simp
    with_reducible rfl
  rotate_left
  · simp only [Act.put, List.setIfInBounds_toArray, List.set_cons_zero, List.set_cons_succ, i64_w, i32_w]
    rfl
  refine pure_ (i := 3) (N := some 6) (v := ?_) (a' := ?_) #[true, false, false, true, false, false, false, false, false, false, false, false, false, false, false, false, false, false, false, false] rfl rfl (by kernel_rfl) (fun _ _ _ h => h) (Or.inl ⟨by rfl, ?_⟩) ?_ ?_
  rotate_left
  · intro w'
    go_simp
    with_reducible rfl
  rotate_left
  · simp only [Act.put, List.setIfInBounds_toArray, List.set_cons_zero, List.set_cons_succ, i64_w, i32_w]
    rfl
  refine pure_ (i := 6) (N := some 9) (v := ?_) (a' := ?_) #[true, false, false, true, false, false, true, false, false, false, false, false, false, false, false, false, false, false, false, false] rfl rfl (by kernel_rfl) (fun _ _ _ h => h) (Or.inl ⟨by rfl, ?_⟩) ?_ ?_
  rotate_left
  · intro w'
    go_simp
    with_reducible rfl
  rotate_left
  · simp only [Act.put, List.setIfInBounds_toArray, List.set_cons_zero, List.set_cons_succ, i64_w, i32_w]
    rfl
  refine pure_ (i := 9) (N := some 12) (v := ?_) (a' := ?_) #[true, false, false, true, false, false, true, false, false, true, false, false, false, false, false, false, false, false, false, false] rfl rfl (by kernel_rfl) (fun _ _ _ h => h) (Or.inl ⟨by rfl, ?_⟩) ?_ ?_
  rotate_left
  · intro w'
    go_simp
    with_reducible rfl
  rotate_left
  · simp only [Act.put, List.setIfInBounds_toArray, List.set_cons_zero, List.set_cons_succ, i64_w, i32_w]
    rfl
  refine take_ (i := 1) (N := some 4) (v := ?_) (a' := ?_) #[true, true, false, true, false, false, true, false, false, true, false, false, false, false, false, false, false, false, false, false] rfl rfl (by kernel_rfl) (fun _ _ _ h => h) (Or.inl ⟨by rfl, ?_⟩) hHeld ?_ ?_
  rotate_left
  · rintro w' ⟨s0, s1, s2, s3⟩
    go_simp
    with_reducible rfl
  rotate_left
  · simp only [Act.put, List.setIfInBounds_toArray, List.set_cons_zero, List.set_cons_succ, i64_w, i32_w]
    rfl
  refine take_ (i := 4) (N := some 7) (v := ?_) (a' := ?_) #[true, true, false, true, true, false, true, false, false, true, false, false, false, false, false, false, false, false, false, false] rfl rfl (by kernel_rfl) (fun _ _ _ h => h) (Or.inl ⟨by rfl, ?_⟩) hHeld ?_ ?_
  rotate_left
  · rintro w' ⟨s0, s1, s2, s3⟩
    go_simp
    with_reducible rfl
  rotate_left
  · simp only [Act.put, List.setIfInBounds_toArray, List.set_cons_zero, List.set_cons_succ, i64_w, i32_w]
    rfl
  refine take_ (i := 7) (N := some 10) (v := ?_) (a' := ?_) #[true, true, false, true, true, false, true, true, false, true, false, false, false, false, false, false, false, false, false, false] rfl rfl (by kernel_rfl) (fun _ _ _ h => h) (Or.inl ⟨by rfl, ?_⟩) hHeld ?_ ?_
  rotate_left
  · rintro w' ⟨s0, s1, s2, s3⟩
    go_simp
    with_reducible rfl
  rotate_left
  · simp only [Act.put, List.setIfInBounds_toArray, List.set_cons_zero, List.set_cons_succ, i64_w, i32_w]
    rfl
  refine take_ (i := 10) (N := some 13) (v := ?_) (a' := ?_) #[true, true, false, true, true, false, true, true, false, true, true, false, false, false, false, false, false, false, false, false] rfl rfl (by kernel_rfl) (fun _ _ _ h => h) (Or.inl ⟨by rfl, ?_⟩) hHeld ?_ ?_
  rotate_left
  · rintro w' ⟨s0, s1, s2, s3⟩
    go_simp
    with_reducible rfl
  rotate_left
  · simp only [Act.put, List.setIfInBounds_toArray, List.set_cons_zero, List.set_cons_succ, i64_w, i32_w]
    rfl
  refine one_ (i := 2) (N := some 5) #[true, true, true, true, true, false, true, true, false, true, true, false, false, false, false, false, false, false, false, false] rfl rfl (by kernel_rfl) (by decide) (fun K hK => ?_)
  refine goes_ Try.func137 (by kernel_rfl) rfl #[.slice A3 n3 c3] (by rfl) rfl rfl (by simp only [List.map_toArray, List.map_cons, List.map_nil]; rfl) ?_
  with_reducible refine (clone137_w A3 n3 c3 x.f3 _ (Kd.C_below h3.out hq0) (by omega)).mono ?_
  rintro e y3 ⟨v3, rfl, hr3, hb3⟩
  refine ⟨_, rfl, ?_⟩
  obtain ⟨B3, m3, d3, rfl⟩ := sform hr3
  have hq3 := bth hq0 hq0.size hb3
  refine hK.out _ _ ⟨B.cell_keep hq3 k3, B.cell_keep hq3 k4, B.cell_keep hq3 k5, B.cell_keep hq3 k6⟩ (fun hHeld => ?_)
  clear hK K
  refine norm_ (a' := ?_) ?_ ?_
  rotate_left
  · show Act.put _ (some 5) _ = _
    simp only [Act.put, List.setIfInBounds_toArray, List.set_cons_zero, List.set_cons_succ, i64_w, i32_w]
    rfl
  refine pure_ (i := 12) (N := some 15) (v := ?_) (a' := ?_) #[true, true, true, true, true, false, true, true, false, true, true, false, true, false, false, false, false, false, false, false] rfl rfl (by kernel_rfl) (fun _ _ _ h => h) (Or.inl ⟨by rfl, ?_⟩) ?_ ?_
  rotate_left
  · intro w'
    go_simp
    with_reducible rfl
  rotate_left
  · simp only [Act.put, List.setIfInBounds_toArray, List.set_cons_zero, List.set_cons_succ, i64_w, i32_w]
    rfl
  refine one_ (i := 5) (N := some 8) #[true, true, true, true, true, true, true, true, false, true, true, false, true, false, false, false, false, false, false, false] rfl rfl (by kernel_rfl) (by decide) (fun K hK => ?_)
  refine goes_ Try.func137 (by kernel_rfl) rfl #[.slice A4 n4 c4] (by rfl) rfl rfl (by simp only [List.map_toArray, List.map_cons, List.map_nil]; rfl) ?_
  with_reducible refine (clone137_w A4 n4 c4 x.f4 _ (Kd.C_below h4.out hq3) (by omega)).mono ?_
  rintro e y4 ⟨v4, rfl, hr4, hb4⟩
  refine ⟨_, rfl, ?_⟩
  obtain ⟨B4, m4, d4, rfl⟩ := sform hr4
  have hq4 := bth hq3 hq3.size hb4
  refine hK.out _ _ ⟨B.cell_keep hq4 k3, B.cell_keep hq4 k4, B.cell_keep hq4 k5, B.cell_keep hq4 k6⟩ (fun hHeld => ?_)
  clear hK K
  refine norm_ (a' := ?_) ?_ ?_
  rotate_left
  · show Act.put _ (some 8) _ = _
    simp only [Act.put, List.setIfInBounds_toArray, List.set_cons_zero, List.set_cons_succ, i64_w, i32_w]
    rfl
  refine one_ (i := 8) (N := some 11) #[true, true, true, true, true, true, true, true, true, true, true, false, true, false, false, false, false, false, false, false] rfl rfl (by kernel_rfl) (by decide) (fun K hK => ?_)
  refine goes_ Try.func138 (by kernel_rfl) rfl #[.slice A5 n5 c5] (by rfl) rfl rfl (by simp only [List.map_toArray, List.map_cons, List.map_nil]; rfl) ?_
  with_reducible refine (clone138_w A5 n5 c5 x.f5 _ (Kd.C_below h5.out hq4) (by omega)).mono ?_
  rintro e y5 ⟨v5, rfl, hr5, hb5⟩
  refine ⟨_, rfl, ?_⟩
  obtain ⟨B5, m5, d5, rfl⟩ := sform hr5
  have hq5 := bth hq4 hq4.size hb5
  refine hK.out _ _ ⟨B.cell_keep hq5 k3, B.cell_keep hq5 k4, B.cell_keep hq5 k5, B.cell_keep hq5 k6⟩ (fun hHeld => ?_)
  clear hK K
  refine norm_ (a' := ?_) ?_ ?_
  rotate_left
  · show Act.put _ (some 11) _ = _
    simp only [Act.put, List.setIfInBounds_toArray, List.set_cons_zero, List.set_cons_succ, i64_w, i32_w]
    rfl
  refine one_ (i := 11) (N := some 14) #[true, true, true, true, true, true, true, true, true, true, true, true, true, false, false, false, false, false, false, false] rfl rfl (by kernel_rfl) (by decide) (fun K hK => ?_)
  refine goes_ Try.func137 (by kernel_rfl) rfl #[.slice A6 n6 c6] (by rfl) rfl rfl (by simp only [List.map_toArray, List.map_cons, List.map_nil]; rfl) ?_
  with_reducible refine (clone137_w A6 n6 c6 x.f6 _ (Kd.C_below h6.out hq5) (by omega)).mono ?_
  rintro e y6 ⟨v6, rfl, hr6, hb6⟩
  refine ⟨_, rfl, ?_⟩
  obtain ⟨B6, m6, d6, rfl⟩ := sform hr6
  have hq6 := bth hq5 hq5.size hb6
  have z0 := B.cell_keep hq6 k0
  have z1 := B.cell_keep hq6 k1
  have z2 := B.cell_keep hq6 k2
  have z3 := B.cell_keep hq6 k3
  have z4 := B.cell_keep hq6 k4
  have z5 := B.cell_keep hq6 k5
  have z6 := B.cell_keep hq6 k6
  have hbk1 := kbw HBK.out.1 hq6
  have hbk2 := kbw HBK.out.2 hq6
  have f3 := kfz hbk1 3
  have f4 := kfz hbk1 4
  have f5 := kfz hbk1 5
  have f6 := kfz hbk1 6
  have HB1 := Aside0.mk hbk1
  have HB2 := Aside0.mk hbk2
  clear hbk1 hbk2
  refine hK.out _ _ ⟨B.cell_keep hq6 k3, B.cell_keep hq6 k4, B.cell_keep hq6 k5, B.cell_keep hq6 k6⟩ (fun hHeld => ?_)
  clear hK K
  refine norm_ (a' := ?_) ?_ ?_
  rotate_left
  · show Act.put _ (some 14) _ = _
    simp only [Act.put, List.setIfInBounds_toArray, List.set_cons_zero, List.set_cons_succ, i64_w, i32_w]
    rfl
  refine last_ (i := 13) (N := none) #[true, true, true, true, true, true, true, true, true, true, true, true, true, true, false, false, false, false, false, false] rfl rfl (by kernel_rfl) (by decide) (fun K hK => ?_)
  refine skip_ (w1 := ?_) (by rfl) rfl ?_ ?_
  rotate_left
  · go_simp
    rfl
  refine hK.out _ _ ?_
  clear hK K
  refine pure_ (i := 14) (N := some 16) (v := ?_) (a' := ?_) #[true, true, true, true, true, true, true, true, true, true, true, true, true, true, true, false, false, false, false, false] rfl rfl (by kernel_rfl) (fun _ _ _ h => h) (Or.inl ⟨by rfl, ?_⟩) ?_ ?_
  rotate_left
  · intro w'
    go_simp
    with_reducible rfl
  rotate_left
  · simp only [Act.put, List.setIfInBounds_toArray, List.set_cons_zero, List.set_cons_succ, i64_w, i32_w]
    rfl
  refine last_ (i := 15) (N := none) #[true, true, true, true, true, true, true, true, true, true, true, true, true, true, true, true, false, false, false, false] rfl rfl (by kernel_rfl) (by decide) (fun K hK => ?_)
  refine skip_ (w1 := ?_) (by rfl) rfl ?_ ?_
  rotate_left
  · go_simp
    rfl
  refine hK.out _ _ ?_
  clear hK K
  refine pure_ (i := 16) (N := some 17) (v := ?_) (a' := ?_) #[true, true, true, true, true, true, true, true, true, true, true, true, true, true, true, true, true, false, false, false] rfl rfl (by kernel_rfl) (fun _ _ _ h => h) (Or.inl ⟨by rfl, ?_⟩) ?_ ?_
  rotate_left
  · intro w'
    go_simp
    with_reducible rfl
  rotate_left
  · simp only [Act.put, List.setIfInBounds_toArray, List.set_cons_zero, List.set_cons_succ, i64_w, i32_w]
    rfl
  refine last_ (i := 17) (N := none) #[true, true, true, true, true, true, true, true, true, true, true, true, true, true, true, true, true, true, false, false] rfl rfl (by kernel_rfl) (by decide) (fun K hK => ?_)
  refine skip_ (w1 := ?_) (by rfl) rfl ?_ ?_
  rotate_left
  · go_simp
    rfl
  refine hK.out _ _ ?_
  clear hK K
  refine pure_ (i := 18) (N := some 18) (v := ?_) (a' := ?_) #[true, true, true, true, true, true, true, true, true, true, true, true, true, true, true, true, true, true, true, false] rfl rfl (by kernel_rfl) (fun _ _ _ h => h) (Or.inl ⟨by rfl, ?_⟩) ?_ ?_
  rotate_left
  · intro w'
    go_simp
    with_reducible rfl
  rotate_left
  · simp only [Act.put, List.setIfInBounds_toArray, List.set_cons_zero, List.set_cons_succ, i64_w, i32_w]
    rfl
  refine last_ (i := 19) (N := none) #[true, true, true, true, true, true, true, true, true, true, true, true, true, true, true, true, true, true, true, true] rfl rfl (by kernel_rfl) (by decide) (fun K hK => ?_)
  refine skip_ (w1 := ?_) (by rfl) rfl ?_ ?_
  rotate_left
  · go_simp
    rfl
  refine hK.out _ _ ?_
  clear hK K
  refine done_ (by kernel_rfl) ?_
  obtain ⟨W5, hW5⟩ : ∃ W5 : World, W5 = ((((y6.setCell ⟨b1, 3, none⟩ (.slice B3 m3 d3)).setCell ⟨b1, 4, none⟩ (.slice B4 m4 d4)).setCell ⟨b1, 5, none⟩ (.slice B5 m5 d5)).setCell ⟨b1, 6, none⟩ (.slice B6 m6 d6)) := ⟨_, rfl⟩
  rw [← hW5]
  have hN := clone_fin x HB.out HWB.out HSZ.out HB1.out HB2.out hq0 hb3 hb4 hb5 hb6 hr3 hr4 hr5 hr6 W5 hW5
  have HAP := Aside0.mk (show AP4 (.slice B3 m3 d3) (.slice B4 m4 d4) (.slice B5 m5 d5) (.slice B6 m6 d6) from by
    have s4 := hb4.size
    have s5 := hb5.size
    exact ⟨ap_lt hr3 hr4 (Nat.le_refl _), ap_lt hr3 hr5 s4, ap_lt hr3 hr6 (Nat.le_trans s4 s5), ap_lt hr4 hr5 (Nat.le_refl _), ap_lt hr4 hr6 s5, ap_lt hr5 hr6 (Nat.le_refl _)⟩)
  obtain ⟨p1, p2, hpost⟩ := hN
  have HP := Aside0.mk hpost
  have HP2 := Aside0.mk p2
  have p10 := (kcl p1 0).trans (show _ = some (.int .i64 x.f0) from rfl)
  have p11 := (kcl p1 1).trans (show _ = some (.string x.f1) from rfl)
  have p12 := (kcl p1 2).trans (show _ = some (.int .i64 x.f2) from rfl)
  have p13 := (kcl p1 3).trans (show _ = some (.slice B3 m3 d3) from rfl)
  have p14 := (kcl p1 4).trans (show _ = some (.slice B4 m4 d4) from rfl)
  have p15 := (kcl p1 5).trans (show _ = some (.slice B5 m5 d5) from rfl)
  have p16 := (kcl p1 6).trans (show _ = some (.slice B6 m6 d6) from rfl)
  have p20 := (kcl p2 0).trans (show _ = some (.int .i64 0) from rfl)
  have q20 := kfz p2 0
  have p21 := (kcl p2 1).trans (show _ = some (.string ⟨#[]⟩) from rfl)
  have q21 := kfz p2 1
  have p22 := (kcl p2 2).trans (show _ = some (.int .i64 0) from rfl)
  have q22 := kfz p2 2
  have p23 := (kcl p2 3).trans (show _ = some (.slice none 0 0) from rfl)
  have q23 := kfz p2 3
  have p24 := (kcl p2 4).trans (show _ = some (.slice none 0 0) from rfl)
  have q24 := kfz p2 4
  have p25 := (kcl p2 5).trans (show _ = some (.slice none 0 0) from rfl)
  have q25 := kfz p2 5
  have p26 := (kcl p2 6).trans (show _ = some (.slice none 0 0) from rfl)
  have q26 := kfz p2 6
  clear z0 z1 z2 z3 z4 z5 z6 f3 f4 f5 f6 k0 k1 k2 k3 k4 k5 k6 hq0 hq3 hq4 hq5 hq6 hb3 hb4 hb5 hb6 hr3 hr4 hr5 hr6 hW5 HB1 HB2 hHeld p1 p2 hpost
  go_wp2_with fail
  obtain ⟨g3, g4, g5, g6, gb⟩ := HP.out
  refine bodyPost_ret (v := .agg #[.int .i64 x.f0, .string x.f1, .int .i64 x.f2, .slice B3 m3 d3, .slice B4 m4 d4, .slice B5 m5 d5, .slice B6 m6 d6]) (B.res_c rfl _ _ (b1 + 1) 46 _ (0, 0) _ rfl (put7 HP2.out _ _ _ _ _ _ _) Try.underlying46 rfl rfl) rfl ⟨_, _, _, _, rfl, ?_, ?_, ?_, ?_, ?_, HAP.out⟩
  · exact Kd.R_mono (far7 g3 (fun _ hk => hk) _ _ _ _ _ _ _) (fun _ _ => trivial)
  · exact Kd.R_mono (far7 g4 (fun _ hk => hk) _ _ _ _ _ _ _) (fun _ _ => trivial)
  · exact Kd.R_mono (far7 g5 (fun _ hk => hk) _ _ _ _ _ _ _) (fun _ _ => trivial)
  · exact Kd.R_mono (far7 g6 (fun _ hk => hk) _ _ _ _ _ _ _) (fun _ _ => trivial)
  · exact below7 gb (by have := HB.out; omega) _ _ _ _ _ _ _
end Go.Proofs.Ytgddblpgbkgpcaa.PR
namespace Go.Proofs.Ytgddblpgbkgpcaa.PR
set_option linter.unusedVariables false
set_option linter.unusedSimpArgs false
open Go.RowKit Go.Proofs.YtgddblpgbkgpcaaW.PrintWords Go.Proofs.YtgddblpgbkgpcaaW.PrintLast Go.Proofs.YtgddblpgbkgpcaaW.PrintMore
set_option linter.unusedVariables false
set_option linter.unusedSimpArgs false
def apc (cs : List Value) : Prop := ∀ a b c v3 v4 v5 v6 : Value, cs = [a, b, c, v3, v4, v5, v6] → AP4 v3 v4 v5 v6
def k46t : Kd (S46 × Nat × Nat) where
  sz := k46.sz
  E := k46.E
  K := fun w x cs => k46.K w x.1 cs
  M := fun w base ok x cs => k46.M w base (fun k => ok k ∧ x.2.1 ≤ k ∧ k < x.2.2) x.1 cs ∧ apc cs
  K_len := fun h => k46.K_len h
  K_one := fun h => k46.K_one h
  K_below := fun hb h => k46.K_below hb h
  K_of_M := fun h => k46.K_of_M h.1
  M_mono := fun hok h => ⟨k46.M_mono (fun k hk => ⟨hok k hk.1, hk.2⟩) h.1, h.2⟩
  M_bound := fun h => ⟨k46.M_mono (fun k hk => ⟨⟨hk.1.1, hk.2⟩, hk.1.2⟩) (k46.M_bound h.1), h.2⟩
  M_move := fun hm h => ⟨k46.M_move (fun k hk => hm k hk.1) h.1, h.2⟩
  M_lower := fun hb h => ⟨k46.M_lower hb h.1, h.2⟩
theorem t_R {w : World} {base : Nat} {ok : Nat → Prop} {v : Value} {xs : List (S46 × Nat × Nat)} (h : k46t.R 46 w base ok v xs) : k46.R 46 w base ok v (xs.map (·.1)) := by
  obtain ⟨h0, inner, ho, hl, hr⟩ := h
  refine ⟨h0, inner, by rw [List.length_map]; exact ho, by rw [List.length_map]; exact hl, fun j p hj => ?_⟩
  rw [List.getElem?_map] at hj
  obtain ⟨q, hq, rfl⟩ := Option.map_eq_some_iff.1 hj
  exact k46.M_mono (fun k hk => hk.1) (hr j q hq).1
def Ris (tl : List (S46 × Nat × Nat)) (N : Nat) : Prop := (∀ t ∈ tl, t.2.2 ≤ N) ∧ tl.Pairwise fun a b => a.2.2 ≤ b.2.1
theorem Ris.mono {tl : List (S46 × Nat × Nat)} {N M : Nat} (h : Ris tl N) (hm : N ≤ M) : Ris tl M := ⟨fun t ht => Nat.le_trans (h.1 t ht) hm, h.2⟩
theorem Ris.snoc {tl : List (S46 × Nat × Nat)} {N lo hi : Nat} {x : S46} (h : Ris tl N) (hl : N ≤ lo) (hh : lo ≤ hi) : Ris (tl ++ [(x, lo, hi)]) hi := by
  refine ⟨fun t ht => ?_, List.pairwise_append.2 ⟨h.2, List.pairwise_singleton _ _, fun a ha b hb => ?_⟩⟩
  · rcases List.mem_append.1 ht with ht | ht
    · have := h.1 t ht; omega
    · rw [List.mem_singleton.1 ht]; exact Nat.le_refl _
  · rw [List.mem_singleton.1 hb]
    have := h.1 a ha
    show a.2.2 ≤ lo
    omega
def HPostT (w : World) (l : List S46) (e : Ending) (w' : World) : Prop := ∃ (v : Value) (tl : List (S46 × Nat × Nat)), e = .returned (.agg #[v]) ∧ k46t.R 46 w' w.heap.size (fun _ => True) v tl ∧ tl.map (·.1) = l ∧ Ris tl w'.heap.size ∧ Below w.heap.size w w'
structure HcT (w wi : World) (v : Value) (tl : List (S46 × Nat × Nat)) : Prop where
  bl : Below w.heap.size w wi
  c1 : wi.heap[w.heap.size + 1]? = some (.cells #[.slice none 0 0] 25 (0, 0))
  c2 : wi.heap[w.heap.size + 1 + 1]? = some (.cells #[v] 25 (0, 0))
  hr : k46t.R 46 wi w.heap.size (fun k => k ≠ w.heap.size + 1 ∧ k ≠ w.heap.size + 1 + 1) v tl
  rs : Ris tl wi.heap.size
section
variable {w wi w1 : World} {v : Value} {l : List (S46 × Nat × Nat)}
theorem HcT.below (h : HcT w wi v l) (hb : Below wi.heap.size wi w1) : HcT w w1 v l := ⟨bst h.bl hb, kbw h.c1 hb, kbw h.c2 hb, Kd.R_below h.hr hb, h.rs.mono hb.size⟩
theorem HcT.sep {N : Nat} (h : HcT w wi v l) (hN : w.heap.size + 3 ≤ N) (hv : ∀ k, v.ownBlock = some k → k < N) {k : Nat} (hk : N ≤ k) : (k ≠ w.heap.size + 1 ∧ k ≠ w.heap.size + 1 + 1) ∧ some k ≠ v.ownBlock :=
  ⟨⟨by omega, by omega⟩, fun e => by have := hv k e.symm; omega⟩
theorem HcT.grow (h : HcT w wi v l) (hg : wi.grownBy w1 v.ownBlock) : Below w.heap.size w w1 ∧ w1.heap[w.heap.size + 1]? = some (.cells #[.slice none 0 0] 25 (0, 0)) ∧ w1.heap[w.heap.size + 1 + 1]? = some (.cells #[v] 25 (0, 0)) :=
  ⟨pw_below_grown h.bl _ h.bl.size hg (fun k hk => Kd.R_base h.hr k hk), kgr h.c1 hg (fun e => (h.hr.1 _ e.symm).1 rfl), kgr h.c2 hg (fun e => (h.hr.1 _ e.symm).2 rfl)⟩
end
theorem HcT.fin {w w1 : World} {v v1 : Value} {l : List (S46 × Nat × Nat)} (hb : Below w.heap.size w w1) (h1 : w1.heap[w.heap.size + 1]? = some (.cells #[.slice none 0 0] 25 (0, 0))) (h2 : w1.heap[w.heap.size + 1 + 1]? = some (.cells #[v] 25 (0, 0))) (hr : k46t.R 46 w1 w.heap.size (fun k => k ≠ w.heap.size + 1 ∧ k ≠ w.heap.size + 1 + 1) v1 l) (hs : Ris l w1.heap.size) :
    HcT w (w1.setCell ⟨w.heap.size + 1 + 1, 0, none⟩ v1) v1 l :=
  ⟨hb.setCell (show w.heap.size ≤ w.heap.size + 1 + 1 by omega) _, blk_far h1 (by simp) _, blk_put h2 0 _ rfl, Kd.R_far hr (fun k hk => hk.2) _, by rw [World.size_setCell]; exact hs⟩
theorem new_objT {w12 : World} {base N : Nat} {x : S46} {v3 v4 v5 v6 : Value} (r3 : k35.R 35 w12 N (fun _ => True) v3 x.f3) (r4 : k35.R 35 w12 N (fun _ => True) v4 x.f4) (r5 : Kd.string.R 9 w12 N (fun _ => True) v5 x.f5) (r6 : k35.R 35 w12 N (fun _ => True) v6 x.f6) (_h : base ≤ w12.heap.size) (hb : base ≤ N) (ha : AP4 v3 v4 v5 v6) :
    k46t.M w12 base (fun k => N ≤ k) (x, N, w12.heap.size) [.int .i64 x.f0, .string x.f1, .int .i64 x.f2, v3, v4, v5, v6] := by
  have hm : ∀ {α : Type} {d : Kd α} {e : Nat} {v : Value} {xs : List α}, d.R e w12 N (fun _ => True) v xs → d.R e w12 base (fun k => N ≤ k ∧ N ≤ k ∧ k < w12.heap.size) v xs := fun h => Kd.R_lower (Kd.R_mono (Kd.R_bound h) (fun _ hk => ⟨hk.2.1, hk.2.1, hk.2.2.1⟩)) hb
  refine ⟨k46_mkM w12 base _ x (hm r3) (hm r4) (hm r5) (hm r6), fun a b c u3 u4 u5 u6 e => ?_⟩
  simp only [List.cons.injEq, and_true] at e
  obtain ⟨-, -, -, rfl, rfl, rfl, rfl⟩ := e
  exact ha
set_option maxRecDepth 100000 in
set_option maxHeartbeats 40000000 in
theorem hcloneT_w (A : Option Addr) (n c : Nat) (l : List S46) (w : World) (hC : Kd.C k46 w A n l) (hn : n ≤ 1000) (hol : ∀ o ∈ l, oL o) :
    Calls Try.prog 66 #[.agg #[.slice A n c]] w (HPostT w l) := by
  have HC := Aside0.mk hC
  have HOL := Aside0.mk hol
  have HNL := Lib.hid (show l.length = n from hC.1)
  clear hC hol
  go_enter Try.func66, Try.ntmps66
  go_wp2_with fail
  have HS := Aside0.mk (show HcT w (((w.alloc (.cells #[.slice A n c] 25)).alloc (.cells #[.slice none 0 0] 25)).alloc (.cells #[.slice none 0 0] 25)) (.slice none 0 0) [] from by
    have e1 := blk_new (w.alloc (.cells #[.slice A n c] 25)) (.cells #[.slice none 0 0] 25)
    have e2 := blk_new ((w.alloc (.cells #[.slice A n c] 25)).alloc (.cells #[.slice none 0 0] 25)) (.cells #[.slice none 0 0] 25)
    rw [show (w.alloc (.cells #[.slice A n c] 25)).heap.size = w.heap.size + 1 by simp] at e1
    rw [show ((w.alloc (.cells #[.slice A n c] 25)).alloc (.cells #[.slice none 0 0] 25)).heap.size = w.heap.size + 1 + 1 by simp] at e2
    exact ⟨bla (bla (bla (Below.refl _ _) _) _) _, kla e1 _, e2, Kd.R_nil _ _ _ _ _, ⟨by simp, List.Pairwise.nil⟩⟩)
  go_loopw [10] (fun u10 wr => ∃ (k : Nat) (A1 : Option Addr) (n1 c1 : Nat) (tl : List (S46 × Nat × Nat)), u10 = .int .i64 k ∧ k ≤ n ∧ Aside0 (HcT w wr (.slice A1 n1 c1) tl ∧ tl.map (·.1) = l.take k)) (fun u10 _ => n - (intOf u10).toNat)
  case atStart => exact ⟨0, none, 0, 0, [], rfl, Nat.zero_le _, ⟨HS.out, rfl⟩⟩
  case round =>
    clear HS
    obtain ⟨k, A1, n1, c1, tl, rfl, hkn, HQ2⟩ := hrel
    have HQ := Aside0.mk HQ2.out.1
    have HTL := Lib.hid HQ2.out.2
    clear HQ2
    by_cases hk : k < n
    · obtain ⟨x, ad, A3, c3, A4, c4, A5, c5, A6, c6, hx, hA, g0, g1, g2, g3, g4, g5, g6, h3, h4, h5, h6⟩ := obj_at (Kd.C_below HC.out HQ.out.bl) k hk
      have HXO := Aside0.mk (HOL.out x (List.mem_of_getElem? hx))
      have HX := Lib.hid hx
      have H3 := Aside0.mk h3
      have H4 := Aside0.mk h4
      have H5 := Aside0.mk h5
      have H6 := Aside0.mk h6
      subst hA
      clear hx h3 h4 h5 h6
      go_wp2_with fail
      have hbw : Below wr.heap.size wr (wr.alloc (.cells #[.int .i64 x.f0, .string x.f1, .int .i64 x.f2, .slice A3 x.f3.length c3, .slice A4 x.f4.length c4, .slice A5 x.f5.length c5, .slice A6 x.f6.length c6] 46)) := bla (Below.refl _ _) _
      obtain ⟨b5, hb5⟩ : ∃ b5, b5 = wr.heap.size := ⟨_, rfl⟩
      have hbk5 := blk_new wr (.cells #[.int .i64 x.f0, .string x.f1, .int .i64 x.f2, .slice A3 x.f3.length c3, .slice A4 x.f4.length c4, .slice A5 x.f5.length c5, .slice A6 x.f6.length c6] 46)
      have hsz5 : (wr.alloc (.cells #[.int .i64 x.f0, .string x.f1, .int .i64 x.f2, .slice A3 x.f3.length c3, .slice A4 x.f4.length c4, .slice A5 x.f5.length c5, .slice A6 x.f6.length c6] 46)).heap.size = wr.heap.size + 1 := by simp
      obtain ⟨wb, hwb⟩ : ∃ wb : World, wb = wr.alloc (.cells #[.int .i64 x.f0, .string x.f1, .int .i64 x.f2, .slice A3 x.f3.length c3, .slice A4 x.f4.length c4, .slice A5 x.f5.length c5, .slice A6 x.f6.length c6] 46) := ⟨_, rfl⟩
      rw [← hwb] at hbw hbk5 hsz5 ⊢
      have HC5 := Aside0.mk (HQ.out.below hbw)
      have HCL := Aside0.mk (fun (W' : World) (hb : Below wb.heap.size wb W') => cloneA_w x A3 x.f3.length c3 A4 x.f4.length c4 A5 x.f5.length c5 A6 x.f6.length c6 W' (Kd.C_below (Kd.C_below H3.out.2 hbw) hb) (Kd.C_below (Kd.C_below H4.out.2 hbw) hb) (Kd.C_below (Kd.C_below H5.out.2 hbw) hb) (Kd.C_below (Kd.C_below H6.out.2 hbw) hb) HXO.out.1 HXO.out.2.1 HXO.out.2.2.1 HXO.out.2.2.2)
      have HQ0 := Aside0.mk (show w.heap.size + 3 ≤ wb.heap.size by have := blk_lt HC5.out.c2; omega)
      have HNN := Aside0.mk (Kd.R_lt HC5.out.hr)
      have q := (kcl HC5.out.c2 0).trans (show _ = some (.slice A1 n1 c1) from rfl)
      rw [← hb5] at hbk5 ⊢
      have k0 := (kcl hbk5 0).trans (show _ = some (.int .i64 x.f0) from rfl)
      have k1 := (kcl hbk5 1).trans (show _ = some (.string x.f1) from rfl)
      have k2 := (kcl hbk5 2).trans (show _ = some (.int .i64 x.f2) from rfl)
      have k3 := (kcl hbk5 3).trans (show _ = some (.slice A3 x.f3.length c3) from rfl)
      have k4 := (kcl hbk5 4).trans (show _ = some (.slice A4 x.f4.length c4) from rfl)
      have k5 := (kcl hbk5 5).trans (show _ = some (.slice A5 x.f5.length c5) from rfl)
      have k6 := (kcl hbk5 6).trans (show _ = some (.slice A6 x.f6.length c6) from rfl)
      clear hwb hb5 hbw hbk5 hsz5 g0 g1 g2 g3 g4 g5 g6 HQ
      have hq0 : Below wb.heap.size wb wb.drew := below_drew (Below.refl _ _)
      refine start_ (n := 8) (S := fun w' => w'.cell? ⟨w.heap.size + 1 + 1, 0, none⟩ = some (.slice A1 n1 c1) ∧ w'.cell? ⟨b5, 0, none⟩ = some (.int .i64 x.f0) ∧ w'.cell? ⟨b5, 1, none⟩ = some (.string x.f1) ∧ w'.cell? ⟨b5, 2, none⟩ = some (.int .i64 x.f2) ∧ w'.cell? ⟨b5, 3, none⟩ = some (.slice A3 x.f3.length c3) ∧ w'.cell? ⟨b5, 4, none⟩ = some (.slice A4 x.f4.length c4) ∧ w'.cell? ⟨b5, 5, none⟩ = some (.slice A5 x.f5.length c5) ∧ w'.cell? ⟨b5, 6, none⟩ = some (.slice A6 x.f6.length c6)) (ds := [5, 7]) #[false, false, false, false, false, false, false, false] (by kernel_rfl) rfl rfl ⟨B.cell_keep hq0 q, B.cell_keep hq0 k0, B.cell_keep hq0 k1, B.cell_keep hq0 k2, B.cell_keep hq0 k3, B.cell_keep hq0 k4, B.cell_keep hq0 k5, B.cell_keep hq0 k6⟩ (fun hHeld => ?_)
      generalize wb.drew = w10 at hq0 hHeld ⊢
      refine pure_ (i := 0) (N := some 14) (v := ?_) (a' := ?_) #[true, false, false, false, false, false, false, false] rfl rfl (by kernel_rfl) (fun _ _ _ h => h) (Or.inl ⟨by rfl, ?_⟩) ?_ ?_
      rotate_left
      · intro w'
        go_simp
        with_reducible rfl
      rotate_left
      · simp only [Act.put, List.setIfInBounds_toArray, List.set_cons_zero, List.set_cons_succ, i64_w, i32_w]
        rfl
      refine take_ (i := 1) (N := some 15) (v := ?_) (a' := ?_) #[true, true, false, false, false, false, false, false] rfl rfl (by kernel_rfl) (fun _ _ _ h => h) (Or.inl ⟨by rfl, ?_⟩) hHeld ?_ ?_
      rotate_left
      · rintro w' ⟨s0, s1, s2, s3, s4, s5, s6, s7⟩
        go_simp
        with_reducible rfl
      rotate_left
      · simp only [Act.put, List.setIfInBounds_toArray, List.set_cons_zero, List.set_cons_succ, i64_w, i32_w]
        rfl
      refine take_ (i := 2) (N := some 16) (v := ?_) (a' := ?_) #[true, true, true, false, false, false, false, false] rfl rfl (by kernel_rfl) (fun _ _ _ h => h) (Or.inl ⟨by rfl, ?_⟩) hHeld ?_ ?_
      rotate_left
      · rintro w' ⟨s0, s1, s2, s3, s4, s5, s6, s7⟩
        go_simp
        with_reducible rfl
      rotate_left
      · simp only [Act.put, List.setIfInBounds_toArray, List.set_cons_zero, List.set_cons_succ, i64_w, i32_w]
        rfl
      refine one_ (i := 3) (N := some 17) #[true, true, true, true, false, false, false, false] rfl rfl (by kernel_rfl) (by decide) (fun K hK => ?_)
      refine goes_ Try.func108 (by kernel_rfl) rfl #[.agg #[.int .i64 x.f0, .string x.f1, .int .i64 x.f2, .slice A3 x.f3.length c3, .slice A4 x.f4.length c4, .slice A5 x.f5.length c5, .slice A6 x.f6.length c6]] (by rfl) rfl rfl (by simp only [List.map_toArray, List.map_cons, List.map_nil]; rfl) ?_
      with_reducible refine (HCL.out _ hq0).mono ?_
      rintro e w12 ⟨v3, v4, v5, v6, rfl, hr3, hr4, hr5, hr6, hb, hap⟩
      refine ⟨_, rfl, ?_⟩
      have hq1 := bth hq0 hq0.size hb
      refine hK.out _ _ ⟨B.cell_keep hq1 q, B.cell_keep hq1 k0, B.cell_keep hq1 k1, B.cell_keep hq1 k2, B.cell_keep hq1 k3, B.cell_keep hq1 k4, B.cell_keep hq1 k5, B.cell_keep hq1 k6⟩ (fun hHeld => ?_)
      clear hK K
      refine norm_ (a' := ?_) ?_ ?_
      rotate_left
      · show Act.put _ (some 17) _ = _
        simp only [Act.put, List.setIfInBounds_toArray, List.set_cons_zero, List.set_cons_succ, i64_w, i32_w]
        rfl
      refine one_ (i := 4) (N := some 18) #[true, true, true, true, true, false, false, false] rfl rfl (by kernel_rfl) (by decide) (fun K hK => ?_)
      refine value_ (w1 := ?_) (v := ?_) (by rfl) rfl ?_ ?_
      rotate_left 2
      · go_simp
        constructor
        · rfl
        · rfl
      have hq2 := bla hq1 (.cells #[.int .i64 x.f0, .string x.f1, .int .i64 x.f2, v3, v4, v5, v6] 46)
      refine hK.out _ _ ⟨B.cell_keep hq2 q, B.cell_keep hq2 k0, B.cell_keep hq2 k1, B.cell_keep hq2 k2, B.cell_keep hq2 k3, B.cell_keep hq2 k4, B.cell_keep hq2 k5, B.cell_keep hq2 k6⟩ (fun hHeld => ?_)
      clear hK K
      refine norm_ (a' := ?_) ?_ ?_
      rotate_left
      · show Act.put _ (some 18) _ = _
        simp only [Act.put, List.setIfInBounds_toArray, List.set_cons_zero, List.set_cons_succ, i64_w, i32_w]
        rfl
      refine last_ (i := 5) (N := some 19) #[true, true, true, true, true, true, false, false] rfl rfl (by kernel_rfl) (by decide) (fun K hK => ?_)
      have hc12 := HC5.out.below hq1
      refine Kd.R_append_step k46t (w0 := w12) w.heap.size (by rfl) (.tmp 15) (.tmp 18) 23 46 (.agg #[(.int .i64 0), (.string ⟨#[]⟩), (.int .i64 0), (.slice none 0 0), (.slice none 0 0), (.slice none 0 0), (.slice none 0 0)]) 128 rfl Try.underlying23 info46 rfl (by decide) (by omega) (.slice A1 n1 c1) tl (x, w10.heap.size, w12.heap.size) [.int .i64 x.f0, .string x.f1, .int .i64 x.f2, v3, v4, v5, v6] (fun k => k ≠ w.heap.size + 1 ∧ k ≠ w.heap.size + 1 + 1) (fun k => w10.heap.size ≤ k) rfl rfl ?aP ?aQ ?aF ?aO ?aB ?aS ?aL ?_
      case aP => exact new_objT hr3 hr4 hr5 hr6 hc12.bl.size (by have := HQ0.out; have := hq0.size; omega) hap
      case aQ => exact fun k hk => hc12.sep (by have := HQ0.out; have := hq0.size; omega) (fun k' hk' => by have := HNN.out k' hk'; have := hq0.size; omega) hk
      case aF => exact fun k hk => by have := blk_lt hc12.c2; omega
      case aO => exact hc12.hr
      case aB => exact Below.refl _ _
      case aS => have := blk_lt hc12.c2; omega
      case aL => have e := congrArg List.length HTL.out; rw [List.length_map, List.length_take] at e; omega
      intro v1 w13 ho _ hg _
      have hp := hc12.grow hg
      obtain ⟨A2, n2, c2, rfl⟩ := sform ho
      have hq2' := (kcl hp.2.2 0).trans (show _ = some (.slice A1 n1 c1) from rfl)
      have hf2' := kfz hp.2.2 0
      have HPUT := Aside0.mk (HcT.fin hp.1 hp.2.1 hp.2.2 ho (Ris.mono (Ris.snoc (HC5.out.rs.mono hq0.size) (Nat.le_refl _) hb.size) hg.size))
      refine hK.out _ _ ?_
      clear hK K
      refine norm_ (a' := ?_) ?_ ?_
      rotate_left
      · show Act.put _ (some 19) _ = _
        simp only [Act.put, List.setIfInBounds_toArray, List.set_cons_zero, List.set_cons_succ, i64_w, i32_w]
        rfl
      refine pure_ (i := 6) (N := some 20) (v := ?_) (a' := ?_) #[true, true, true, true, true, true, true, false] rfl rfl (by kernel_rfl) (fun _ _ _ h => h) (Or.inl ⟨by rfl, ?_⟩) ?_ ?_
      rotate_left
      · intro w'
        go_simp
        with_reducible rfl
      rotate_left
      · simp only [Act.put, List.setIfInBounds_toArray, List.set_cons_zero, List.set_cons_succ, i64_w, i32_w]
        rfl
      refine last_ (i := 7) (N := none) #[true, true, true, true, true, true, true, true] rfl rfl (by kernel_rfl) (by decide) (fun K hK => ?_)
      refine skip_ (w1 := ?_) (by rfl) rfl ?_ ?_
      rotate_left
      · go_simp
        rfl
      refine hK.out _ _ ?_
      clear hK K
      refine done_ (by kernel_rfl) ?_
      go_wp2_with fail
      go_roundw
      case rel => exact ⟨k + 1, A2, n2, c2, _, by go_num, hk, ⟨HPUT.out, by rw [take_snoc46 HX.out, List.map_append, HTL.out]; rfl⟩⟩
      case measure => simp [intOf]; omega
    · have q2 := (kcl HQ.out.c2 0).trans (show _ = some (.slice A1 n1 c1) from rfl)
      have q1 := (kcl HQ.out.c1 0).trans (show _ = some (.slice none 0 0) from rfl)
      have qf := kfz HQ.out.c1 0
      have hkn' : l.take k = l := List.take_of_length_le (by have := HNL.out; omega)
      have HT := Lib.hid hkn'
      clear hkn'
      go_wp2_with fail
      refine bodyPost_ret (v := .agg #[.slice A1 n1 c1]) (B.res_c rfl _ _ (w.heap.size + 1) 25 _ (0, 0) _ rfl (blk_put HQ.out.c1 0 _ rfl) Try.underlying25 rfl rfl) rfl ⟨_, tl, rfl, ?_, by rw [HTL.out, HT.out], by rw [World.size_setCell]; exact HQ.out.rs, HQ.out.bl.setCell (show w.heap.size ≤ w.heap.size + 1 by omega) _⟩
      have h := Kd.R_far HQ.out.hr (p := ⟨w.heap.size + 1, 0, none⟩) (fun k hk => hk.1) (.slice A1 n1 c1)
      exact Kd.R_mono h (fun _ _ => trivial)
end Go.Proofs.Ytgddblpgbkgpcaa.PR
namespace Go.Proofs.Ytgddblpgbkgpcaa.PR
set_option linter.unusedVariables false
set_option linter.unusedSimpArgs false
open Go.RowKit Go.Proofs.YtgddblpgbkgpcaaW.PrintWords Go.Proofs.YtgddblpgbkgpcaaW.PrintLast Go.Proofs.YtgddblpgbkgpcaaW.PrintMore
set_option linter.unusedVariables false
set_option linter.unusedSimpArgs false
def TPost (w : World) (A : Option Addr) (c m : Nat) (e : Ending) (w' : World) : Prop := ∃ n' : Nat, n' ≤ m ∧ e = .returned (.agg #[.bool false, .slice A n' c]) ∧ Below w.heap.size w w'
set_option maxRecDepth 100000 in
set_option maxHeartbeats 4000000 in
theorem tidy_w (ng : Bool) (A : Option Addr) (n c : Nat) (l : List Int) (w : World) (hn : n = l.length) (hR : B.RI w A l) (hc : n ≤ c) (hng : ng = false ∨ l = []) :
    Calls Try.prog 175 #[.agg #[.bool ng, .slice A n c]] w (TPost w A c n) := by
  have HNL := Aside0.mk (show (B.trimL l).length ≤ n by rw [hn]; simp only [B.trimL, List.length_take]; omega)
  have HT := Aside0.mk (fun (W : World) (hb : Below w.heap.size w W) => B.trimmed_n A c n l hn W (hR.below hb) hc)
  have hwb : Below w.heap.size w ((w.alloc (.cells #[.bool ng, .slice A n c] 147)).alloc (.cells #[.bool false, .slice none 0 0] 147)) := bla (bla (Below.refl _ _) _) _
  have e0 := kla (blk_new w (.cells #[.bool ng, .slice A n c] 147)) (.cells #[.bool false, .slice none 0 0] 147)
  have e1 := blk_new (w.alloc (.cells #[.bool ng, .slice A n c] 147)) (.cells #[.bool false, .slice none 0 0] 147)
  rw [show (w.alloc (.cells #[.bool ng, .slice A n c] 147)).heap.size = w.heap.size + 1 by simp] at e1
  obtain ⟨W, hW⟩ : ∃ W : World, W = (w.alloc (.cells #[.bool ng, .slice A n c] 147)).alloc (.cells #[.bool false, .slice none 0 0] 147) := ⟨_, rfl⟩
  rw [← hW] at hwb e0 e1
  have E1 := Aside0.mk e1
  have HWB := Aside0.mk hwb
  have HW := Lib.hid hW
  have k0 := (kcl e0 0).trans (show _ = some (.bool ng) from rfl)
  have k1 := (kcl e0 1).trans (show _ = some (.slice A n c) from rfl)
  have f0 := kfz e0 0
  have f1 := kfz e0 1
  have E0 := Aside0.mk e0
  have HNG := Aside0.mk hng
  clear e0 e1 hwb hW hn hR hc hng
  go_enter Try.func175, Try.ntmps175
  go_upto_region 1 with (fail)
  rw [← HW.out]
  go_upto_region 2 with (first | (go_at_call 155; refine (HT.out _ HWB.out).mono ?_; rintro e w1 ⟨rfl, rfl⟩))
  obtain ⟨V, hV⟩ : ∃ V : World, V = W.setCell ⟨w.heap.size, 1, none⟩ (.slice A (B.trimL l).length c) := ⟨_, rfl⟩
  rw [← hV]
  obtain ⟨n', hn'⟩ : ∃ n', n' = (B.trimL l).length := ⟨_, rfl⟩
  rw [← hn'] at hV ⊢
  rw [← hn'] at HNL
  have g0 : V.heap[w.heap.size]? = some (.cells #[.bool ng, .slice A n' c] 147 (0, 0)) := by rw [hV]; exact blk_put E0.out 1 _ rfl
  have g1 : V.heap[w.heap.size + 1]? = some (.cells #[.bool false, .slice none 0 0] 147 (0, 0)) := by rw [hV]; exact blk_far E1.out (by simp) _
  have hb2 : Below w.heap.size w V := by rw [hV]; exact HWB.out.setCell (Nat.le_refl _) _
  have G0 := Aside0.mk g0
  have G1 := Aside0.mk g1
  have HB2 := Aside0.mk hb2
  have HNN := Aside0.mk (show ng = false ∨ n' = 0 by rcases HNG.out with h | h; exact .inl h; exact .inr (by rw [hn', h]; rfl))
  clear hV hn' k0 k1 f0 f1 g0 g1 hb2
  have j0 := (kcl G0.out 0).trans (show _ = some (.bool ng) from rfl)
  have j1 := (kcl G0.out 1).trans (show _ = some (.slice A n' c) from rfl)
  have i0 := (kcl G1.out 0).trans (show _ = some (.bool false) from rfl)
  have i1 := (kcl G1.out 1).trans (show _ = some (.slice none 0 0) from rfl)
  have t0 := kfz G0.out 0
  have s0 := kfz G1.out 0
  have s1 := kfz G1.out 1
  have fin : ∀ (X : World), X.heap[w.heap.size + 1]? = some (.cells #[.bool false, .slice none 0 0] 147 (0, 0)) → Below w.heap.size w X → ((X.setCell ⟨w.heap.size + 1, 0, none⟩ (.bool false)).setCell ⟨w.heap.size + 1, 1, none⟩ (.slice A n' c)).heap[w.heap.size + 1]? = some (.cells #[.bool false, .slice A n' c] 147 (0, 0)) ∧ Below w.heap.size w ((X.setCell ⟨w.heap.size + 1, 0, none⟩ (.bool false)).setCell ⟨w.heap.size + 1, 1, none⟩ (.slice A n' c)) := by
    intro X h1 h2
    have a : (X.setCell ⟨w.heap.size + 1, 0, none⟩ (.bool false)).heap[w.heap.size + 1]? = some (.cells #[.bool false, .slice none 0 0] 147 (0, 0)) := blk_put h1 0 _ rfl
    exact ⟨blk_put a 1 _ rfl, (h2.setCell (show w.heap.size ≤ w.heap.size + 1 by omega) _).setCell (show w.heap.size ≤ w.heap.size + 1 by omega) _⟩
  have FIN := Aside0.mk fin
  clear fin
  by_cases h0 : n' = 0
  · have hz : ((n' : Int) == 0) = true := by simp [h0]
    clear h0
    go_wp2_with fail
    obtain ⟨o1, o2⟩ := FIN.out (V.setCell ⟨w.heap.size, 0, none⟩ (.bool false)) (blk_far G1.out (by simp) _) (HB2.out.setCell (Nat.le_refl _) _)
    refine bodyPost_ret (v := .agg #[.bool false, .slice A n' c]) (B.res_c rfl _ _ (w.heap.size + 1) 147 _ (0, 0) _ rfl o1 Try.underlying147 rfl rfl) rfl ⟨n', HNL.out, rfl, o2⟩
  · have hz : ((n' : Int) == 0) = false := by simpa using h0
    have hng : ng = false := by rcases HNN.out with h | h; exact h; exact absurd h h0
    subst hng
    clear h0
    go_wp2_with fail
    obtain ⟨o1, o2⟩ := FIN.out V G1.out HB2.out
    refine bodyPost_ret (v := .agg #[.bool false, .slice A n' c]) (B.res_c rfl _ _ (w.heap.size + 1) 147 _ (0, 0) _ rfl o1 Try.underlying147 rfl rfl) rfl ⟨n', HNL.out, rfl, o2⟩
def MPost (w : World) (e : Ending) (w' : World) : Prop := ∃ (A : Option Addr) (n c : Nat), e = .returned (.agg #[.bool false, .slice A n c]) ∧ Below w.heap.size w w'
set_option maxRecDepth 100000 in
set_option maxHeartbeats 4000000 in
theorem minus_w (A : Option Addr) (c : Nat) (w : World) : Calls Try.prog 173 #[.agg #[.bool false, .slice A 0 c]] w (TPost w A c 0) := by
  have hwb : Below w.heap.size w ((w.alloc (.cells #[.bool false, .slice A 0 c] 147)).alloc (.cells #[.bool false, .slice none 0 0] 147)) := bla (bla (Below.refl _ _) _) _
  have e1 := blk_new (w.alloc (.cells #[.bool false, .slice A 0 c] 147)) (.cells #[.bool false, .slice none 0 0] 147)
  rw [show (w.alloc (.cells #[.bool false, .slice A 0 c] 147)).heap.size = w.heap.size + 1 by simp] at e1
  have E1 := Aside0.mk e1
  have HWB := Aside0.mk hwb
  clear e1 hwb
  go_enter Try.func173, Try.ntmps173
  go_wp2_with fail
  refine (tidy_w true A 0 c [] _ rfl ⟨by simp, fun h => by simp at h⟩ (Nat.zero_le _) (.inr rfl)).mono ?_
  rintro e w1 ⟨n', hn0, rfl, hb⟩
  obtain rfl : n' = 0 := by omega
  clear hn0
  have E2 := Aside0.mk (kbw E1.out hb)
  have i0 := (kcl E2.out 0).trans (show _ = some (.bool false) from rfl)
  have i1 := (kcl E2.out 1).trans (show _ = some (.slice none 0 0) from rfl)
  have s0 := kfz E2.out 0
  have s1 := kfz E2.out 1
  have HB2 := Aside0.mk (bst HWB.out hb)
  clear hb
  go_wp2_with fail
  have a : (w1.setCell ⟨w.heap.size + 1, 0, none⟩ (.bool false)).heap[w.heap.size + 1]? = some (.cells #[.bool false, .slice none 0 0] 147 (0, 0)) := blk_put E2.out 0 _ rfl
  refine bodyPost_ret (v := .agg #[.bool false, .slice A 0 c]) (B.res_c rfl _ _ (w.heap.size + 1) 147 _ (0, 0) _ rfl (blk_put a 1 _ rfl) Try.underlying147 rfl rfl) rfl ⟨0, Nat.le_refl _, rfl, (HB2.out.setCell (show w.heap.size ≤ w.heap.size + 1 by omega) _).setCell (show w.heap.size ≤ w.heap.size + 1 by omega) _⟩
def APost (w : World) (e : Ending) (w' : World) : Prop := ∃ (A : Option Addr) (n c : Nat) (l : List Int), e = .returned (.slice A n c) ∧ n = l.length ∧ B.RI w' A l ∧ n ≤ c ∧ Below w.heap.size w w'
set_option maxRecDepth 100000 in
set_option maxHeartbeats 4000000 in
theorem magAdd_w (A : Option Addr) (n c : Nat) (l : List Int) (A2 : Option Addr) (c2 : Nat) (w : World) (hn : n = l.length) (hn4 : n ≤ 1000) (hR : B.RI w A l) (hd : ∀ x ∈ l, 0 ≤ x ∧ x ≤ 9) :
    Calls Try.prog 174 #[.slice A n c, .slice A2 0 c2] w (APost w) := by
  have HR := Aside0.mk hR
  have HN := Lib.hid hn
  have HD := Aside0.mk hd
  clear hR hn hd
  go_enter Try.func174, Try.ntmps174
  go_wp2_with fail
  go_loopw [5, 6, 7] (fun u5 u6 u7 wr => ∃ (k : Nat) (A5 : Option Addr) (n5 c5 : Nat) (o : List Int), u7 = .int .i64 k ∧ u6 = .int .i64 0 ∧ u5 = .slice A5 n5 c5 ∧ k ≤ n ∧ o.length = k ∧ Aside0 ((Kd.int .i64).R 3 wr w.heap.size (fun _ => True) (.slice A5 n5 c5) o ∧ Below w.heap.size w wr)) (fun _ _ u7 _ => n - (intOf u7).toNat)
  case atStart => exact ⟨0, none, 0, 0, [], rfl, rfl, rfl, Nat.zero_le _, rfl, ⟨Kd.R_nil _ _ _ _ _, Below.refl _ _⟩⟩
  case round =>
    obtain ⟨k, A5, n5, c5, o, rfl, rfl, rfl, hkn, hok, HQ⟩ := hrel
    have HOK := Lib.hid hok
    clear hok
    by_cases hk : k < n
    · obtain ⟨ad, rfl, hc⟩ := HR.out.2 (by have := HN.out; omega)
      have hkl : k < l.length := by have := HN.out; omega
      have hc1 := B.cell_keep HQ.out.2 (hc k hkl)
      have hdk := HD.out l[k] (List.getElem_mem hkl)
      obtain ⟨x, hx⟩ : ∃ x, x = l[k] := ⟨_, rfl⟩
      rw [← hx] at hc1 hdk
      obtain ⟨hd0, hd9⟩ := hdk
      have hm : Int.tmod x 10 = x := by rw [Int.tmod_eq_emod_of_nonneg hd0]; omega
      have hm2 : x % 10 = x := by omega
      have hq : Int.tdiv x 10 = 0 := by rw [Int.tdiv_eq_ediv_of_nonneg hd0]; omega
      have hq2 : x / 10 = 0 := by omega
      clear hc hx
      go_wp2_with (first
        | ((with_reducible refine gate_builtin (b := .append) (xs := #[.tmp 44, .tmp 47]) rfl ?_); at_builtin; refine Kd.R_append (Kd.int .i64) (w0 := wr) w.heap.size rfl (.tmp 44) (.tmp 47) 29 3 (.int .i64 0) 8 rfl Try.underlying29 info3 rfl (by decide) (by omega) (.slice A5 n5 c5) o x [.int .i64 x] (fun _ => True) (fun _ => False) rfl (by first | rfl | (simp [*]; done)) rfl (fun _ hk => hk.elim) (fun _ _ => trivial) HQ.out.1 (Below.refl _ _) (by have := HQ.out.2.size; omega) (by have := HOK.out; omega) ?_; intro v1 w6 ho hb6 hg hat; obtain ⟨A6, c6, rfl⟩ := Kd.R_slice ho; obtain ⟨n6, hn6⟩ : ∃ n6, n6 = (o ++ [x]).length := ⟨_, rfl⟩; rw [← hn6] at ho hat ⊢; have HR6 := Aside0.mk ho; have HB6 := Aside0.mk (HQ.out.2.trans hb6); clear hn6 ho hg hat hb6))
      go_roundw
      case rel => exact ⟨k + 1, A6, n6, c6, o ++ [x], by go_num, by first | rfl | (simp [*]; done), rfl, hk, by have := HOK.out; simp; omega, ⟨HR6.out, HB6.out⟩⟩
      case measure => simp [intOf]; omega
    · go_wp2_with fail
      go_ret
      obtain ⟨h1, h2, h3⟩ := Kd.R_reads' HQ.out.1
      exact ⟨A5, n5, c5, o, rfl, h1, ⟨by have := HOK.out; omega, fun h => by
        obtain ⟨ad, e, hc⟩ := (Kd.reads_of_C (d := (0 : Int)) h3).2.2 h
        exact ⟨ad, e, fun i hi => by rw [hc i hi, List.getD_eq_getElem?_getD, List.getElem?_eq_getElem hi]; rfl⟩⟩, h2, HQ.out.2⟩
set_option maxRecDepth 100000 in
set_option maxHeartbeats 4000000 in
theorem plus_w (A : Option Addr) (n c : Nat) (l : List Int) (A2 : Option Addr) (c2 : Nat) (w : World) (hn : n = l.length) (hn4 : n ≤ 1000) (hR : B.RI w A l) (hd : ∀ x ∈ l, 0 ≤ x ∧ x ≤ 9) :
    Calls Try.prog 172 #[.agg #[.bool false, .slice A n c], .agg #[.bool false, .slice A2 0 c2]] w (MPost w) := by
  obtain ⟨W, hW⟩ : ∃ W : World, W = ((w.alloc (.cells #[.bool false, .slice A n c] 147)).alloc (.cells #[.bool false, .slice A2 0 c2] 147)).alloc (.cells #[.bool false, .slice none 0 0] 147) := ⟨_, rfl⟩
  have hwb : Below w.heap.size w W := by rw [hW]; exact bla (bla (bla (Below.refl _ _) _) _) _
  have e1 := blk_new (w.alloc (.cells #[.bool false, .slice A n c] 147)) (.cells #[.bool false, .slice A2 0 c2] 147)
  rw [show (w.alloc (.cells #[.bool false, .slice A n c] 147)).heap.size = w.heap.size + 1 by simp] at e1
  have e2 := blk_new ((w.alloc (.cells #[.bool false, .slice A n c] 147)).alloc (.cells #[.bool false, .slice A2 0 c2] 147)) (.cells #[.bool false, .slice none 0 0] 147)
  rw [show ((w.alloc (.cells #[.bool false, .slice A n c] 147)).alloc (.cells #[.bool false, .slice A2 0 c2] 147)).heap.size = w.heap.size + 1 + 1 by simp] at e2
  have h0 : W.heap[w.heap.size]? = some (.cells #[.bool false, .slice A n c] 147 (0, 0)) := by rw [hW]; exact kla (kla (blk_new _ _) _) _
  have h1 : W.heap[w.heap.size + 1]? = some (.cells #[.bool false, .slice A2 0 c2] 147 (0, 0)) := by rw [hW]; exact kla e1 _
  have h2 : W.heap[w.heap.size + 1 + 1]? = some (.cells #[.bool false, .slice none 0 0] 147 (0, 0)) := by rw [hW]; exact e2
  have k0 := (kcl h0 0).trans (show _ = some (.bool false) from rfl)
  have k1 := (kcl h0 1).trans (show _ = some (.slice A n c) from rfl)
  have j0 := (kcl h1 0).trans (show _ = some (.bool false) from rfl)
  have j1 := (kcl h1 1).trans (show _ = some (.slice A2 0 c2) from rfl)
  have H2 := Aside0.mk h2
  have HWB := Aside0.mk hwb
  have HW := Lib.hid hW
  have HMA := Aside0.mk (fun (W' : World) (hb : Below W.heap.size W W') => magAdd_w A n c l A2 c2 W' hn hn4 ((hR.below hwb).below hb) hd)
  clear hW hwb e1 e2 h0 h1 h2 hn hR hd
  go_enter Try.func172, Try.ntmps172
  go_upto_region 1 with (fail)
  rw [← HW.out]
  go_wp2_with fail
  have hq0 : Below W.heap.size W W.drew := below_drew (Below.refl _ _)
  refine start_ (n := 10) (S := fun w' => w'.cell? ⟨w.heap.size, 0, none⟩ = some (.bool false) ∧ w'.cell? ⟨w.heap.size, 1, none⟩ = some (.slice A n c) ∧ w'.cell? ⟨w.heap.size + 1, 1, none⟩ = some (.slice A2 0 c2)) (ds := [9]) #[false, false, false, false, false, false, false, false, false, false] (by kernel_rfl) rfl rfl ⟨B.cell_keep hq0 k0, B.cell_keep hq0 k1, B.cell_keep hq0 j1⟩ (fun hHeld => ?_)
  generalize W.drew = w10 at hq0 hHeld ⊢
  refine pure_ (i := 0) (N := some 10) (v := ?_) (a' := ?_) #[true, false, false, false, false, false, false, false, false, false] rfl rfl (by kernel_rfl) (fun _ _ _ h => h) (Or.inl ⟨by rfl, ?_⟩) ?_ ?_
  rotate_left
  · intro w'
    go_simp
    with_reducible rfl
  rotate_left
  · simp only [Act.put, List.setIfInBounds_toArray, List.set_cons_zero, List.set_cons_succ, i64_w, i32_w]
    rfl
  refine pure_ (i := 2) (N := some 12) (v := ?_) (a' := ?_) #[true, false, true, false, false, false, false, false, false, false] rfl rfl (by kernel_rfl) (fun _ _ _ h => h) (Or.inl ⟨by rfl, ?_⟩) ?_ ?_
  rotate_left
  · intro w'
    go_simp
    with_reducible rfl
  rotate_left
  · simp only [Act.put, List.setIfInBounds_toArray, List.set_cons_zero, List.set_cons_succ, i64_w, i32_w]
    rfl
  refine pure_ (i := 4) (N := some 14) (v := ?_) (a' := ?_) #[true, false, true, false, true, false, false, false, false, false] rfl rfl (by kernel_rfl) (fun _ _ _ h => h) (Or.inl ⟨by rfl, ?_⟩) ?_ ?_
  rotate_left
  · intro w'
    go_simp
    with_reducible rfl
  rotate_left
  · simp only [Act.put, List.setIfInBounds_toArray, List.set_cons_zero, List.set_cons_succ, i64_w, i32_w]
    rfl
  refine take_ (i := 1) (N := some 11) (v := ?_) (a' := ?_) #[true, true, true, false, true, false, false, false, false, false] rfl rfl (by kernel_rfl) (fun _ _ _ h => h) (Or.inl ⟨by rfl, ?_⟩) hHeld ?_ ?_
  rotate_left
  · rintro w' ⟨s0, s1, s2⟩
    go_simp
    with_reducible rfl
  rotate_left
  · simp only [Act.put, List.setIfInBounds_toArray, List.set_cons_zero, List.set_cons_succ, i64_w, i32_w]
    rfl
  refine take_ (i := 3) (N := some 13) (v := ?_) (a' := ?_) #[true, true, true, true, true, false, false, false, false, false] rfl rfl (by kernel_rfl) (fun _ _ _ h => h) (Or.inl ⟨by rfl, ?_⟩) hHeld ?_ ?_
  rotate_left
  · rintro w' ⟨s0, s1, s2⟩
    go_simp
    with_reducible rfl
  rotate_left
  · simp only [Act.put, List.setIfInBounds_toArray, List.set_cons_zero, List.set_cons_succ, i64_w, i32_w]
    rfl
  refine take_ (i := 5) (N := some 15) (v := ?_) (a' := ?_) #[true, true, true, true, true, true, false, false, false, false] rfl rfl (by kernel_rfl) (fun _ _ _ h => h) (Or.inl ⟨by rfl, ?_⟩) hHeld ?_ ?_
  rotate_left
  · rintro w' ⟨s0, s1, s2⟩
    go_simp
    with_reducible rfl
  rotate_left
  · simp only [Act.put, List.setIfInBounds_toArray, List.set_cons_zero, List.set_cons_succ, i64_w, i32_w]
    rfl
  refine one_ (i := 6) (N := some 16) #[true, true, true, true, true, true, true, false, false, false] rfl rfl (by kernel_rfl) (by decide) (fun K hK => ?_)
  refine goes_ Try.func174 (by kernel_rfl) rfl #[.slice A n c, .slice A2 0 c2] (by rfl) rfl rfl (by simp only [List.map_toArray, List.map_cons, List.map_nil]; rfl) ?_
  with_reducible refine (HMA.out _ hq0).mono ?_
  rintro e y1 ⟨A3, n3, c3, l3, rfl, hn3, hr3, hc3, hb1⟩
  refine ⟨_, rfl, ?_⟩
  have HN3 := Lib.hid hn3
  clear hn3
  have hq1 := bth hq0 hq0.size hb1
  refine hK.out _ _ ⟨B.cell_keep hq1 k0, B.cell_keep hq1 k1, B.cell_keep hq1 j1⟩ (fun hHeld => ?_)
  clear hK K
  refine norm_ (a' := ?_) ?_ ?_
  rotate_left
  · show Act.put _ (some 16) _ = _
    simp only [Act.put, List.setIfInBounds_toArray, List.set_cons_zero, List.set_cons_succ, i64_w, i32_w]
    rfl
  refine pure_ (i := 7) (N := some 17) (v := ?_) (a' := ?_) #[true, true, true, true, true, true, true, true, false, false] rfl rfl (by kernel_rfl) (fun _ _ _ h => h) (Or.inl ⟨by rfl, ?_⟩) ?_ ?_
  rotate_left
  · intro w'
    go_simp
    with_reducible rfl
  rotate_left
  · simp only [Act.put, List.setIfInBounds_toArray, List.set_cons_zero, List.set_cons_succ, i64_w, i32_w]
    rfl
  refine one_ (i := 8) (N := some 18) #[true, true, true, true, true, true, true, true, true, false] rfl rfl (by kernel_rfl) (by decide) (fun K hK => ?_)
  refine goes_ Try.func175 (by kernel_rfl) rfl #[.agg #[.bool false, .slice A3 n3 c3]] (by rfl) rfl rfl (by simp only [List.map_toArray, List.map_cons, List.map_nil]; rfl) ?_
  with_reducible refine (tidy_w false A3 n3 c3 l3 y1 HN3.out hr3 hc3 (.inl rfl)).mono ?_
  rintro e y2 ⟨n4, -, rfl, hb2⟩
  refine ⟨_, rfl, ?_⟩
  have hq2 := bth hq1 hq1.size hb2
  have hk2 := kbw H2.out hq2
  have z0 := (kcl hk2 0).trans (show _ = some (.bool false) from rfl)
  have z1 := (kcl hk2 1).trans (show _ = some (.slice none 0 0) from rfl)
  have f0 := kfz hk2 0
  have f1 := kfz hk2 1
  refine hK.out _ _ ⟨B.cell_keep hq2 k0, B.cell_keep hq2 k1, B.cell_keep hq2 j1⟩ (fun hHeld => ?_)
  clear hK K
  refine norm_ (a' := ?_) ?_ ?_
  rotate_left
  · show Act.put _ (some 18) _ = _
    simp only [Act.put, List.setIfInBounds_toArray, List.set_cons_zero, List.set_cons_succ, i64_w, i32_w]
    rfl
  refine last_ (i := 9) (N := none) #[true, true, true, true, true, true, true, true, true, true] rfl rfl (by kernel_rfl) (by decide) (fun K hK => ?_)
  refine skip_ (w1 := ?_) (by rfl) rfl ?_ ?_
  rotate_left
  · go_simp
    rfl
  refine hK.out _ _ ?_
  clear hK K
  refine done_ (by kernel_rfl) ?_
  go_wp2_with fail
  have a : (y2.setCell ⟨w.heap.size + 1 + 1, 0, none⟩ (.bool false)).heap[w.heap.size + 1 + 1]? = some (.cells #[.bool false, .slice none 0 0] 147 (0, 0)) := blk_put hk2 0 _ rfl
  refine bodyPost_ret (v := .agg #[.bool false, .slice A3 n4 c3]) (B.res_c rfl _ _ (w.heap.size + 1 + 1) 147 _ (0, 0) _ rfl (blk_put a 1 _ rfl) Try.underlying147 rfl rfl) rfl ⟨A3, n4, c3, rfl, ((bst HWB.out hq2).setCell (show w.heap.size ≤ w.heap.size + 1 + 1 by omega) _).setCell (show w.heap.size ≤ w.heap.size + 1 + 1 by omega) _⟩
end Go.Proofs.Ytgddblpgbkgpcaa.PR
namespace Go.Proofs.Ytgddblpgbkgpcaa.PR
set_option linter.unusedVariables false
set_option linter.unusedSimpArgs false
open Go.RowKit Go.Proofs.YtgddblpgbkgpcaaW.PrintWords Go.Proofs.YtgddblpgbkgpcaaW.PrintLast Go.Proofs.YtgddblpgbkgpcaaW.PrintMore
set_option linter.unusedVariables false
set_option linter.unusedSimpArgs false
theorem res_cct {P : Program} {fn : Func} {p p' u : Tmp} {ty ty' : TypeId} (h : fn.results = #[.cell p ty, .cell p' ty', .tmp u]) (tmps : Array Value) (w : World) (g g' : Nat) (t t' : TypeId) (cs cs' : Array Value) (fr fr' : Nat × Nat) (d d' : TypeDesc)
    (hp : tmps.getD p undef = .pointer (some ⟨g, 0, none⟩)) (hg : w.heap[g]? = some (.cells cs t fr))
    (hu : P.underlying ty = some d) (hd : (match d with | .struct _ | .array _ _ => true | _ => false) = true) (hi : (P.info? ty).map (·.size) = some cs.size)
    (hp' : tmps.getD p' undef = .pointer (some ⟨g', 0, none⟩)) (hg' : w.heap[g']? = some (.cells cs' t' fr'))
    (hu' : P.underlying ty' = some d') (hd' : (match d' with | .struct _ | .array _ _ => true | _ => false) = true) (hi' : (P.info? ty').map (·.size) = some cs'.size) :
    (results fn tmps).run P w = .ok (.tuple #[.agg cs, .agg cs', tmps.getD u undef]) w := by
  have h1 : tmps[p]?.getD undef = .pointer (some ⟨g, 0, none⟩) := by simpa using hp
  have h2 : tmps[p']?.getD undef = .pointer (some ⟨g', 0, none⟩) := by simpa using hp'
  simp [results, h, h1, h2, asAddr, run_loadVar_row w g t ty cs fr d hg hu hd hi, run_loadVar_row w g' t' ty' cs' fr' d' hg' hu' hd' hi']
theorem mag_facts {s : ByteArray} (h : B.intB s = true) : (B.magP s).length ≤ 1000 ∧ (∀ x ∈ B.magP s, 0 ≤ x ∧ x ≤ 9) ∧ s.size ≤ 41 := by
  have h' := h
  simp only [B.intB, Bool.and_eq_true, decide_eq_true_eq, List.all_eq_true, B.isDig] at h
  obtain ⟨⟨⟨h1, h2⟩, h3⟩, -⟩ := h
  have hsub : ∀ x ∈ B.magP s, x ∈ B.digsOf (B.body s) := fun x hx => by
    simp only [B.magP, h', if_true] at hx
    exact List.mem_of_mem_take hx
  have hlen : (B.magP s).length ≤ (B.digsOf (B.body s)).length := by
    simp only [B.magP, h', if_true, B.trimL]
    rw [List.length_take]; omega
  have hdl : (B.digsOf (B.body s)).length = (B.body s).size := by simp [B.digsOf]
  refine ⟨by omega, fun x hx => ?_, ?_⟩
  · have := hsub x hx
    simp only [B.digsOf, List.mem_reverse, List.mem_map] at this
    obtain ⟨b, hb, rfl⟩ := this
    have := h3 b hb
    omega
  · have : s.size ≤ (B.body s).size + 1 := by
      unfold B.body
      split
      · rw [ByteArray.size_extract]; omega
      · omega
    omega
theorem ri_far {w : World} {A : Option Addr} {l : List Int} {b : Nat} {y : Bool} {v : Value} {t : TypeId} {fr : Nat × Nat} (h : B.RI w A l) (hg : w.heap[b]? = some (.cells #[.bool y, v] t fr)) (hv : ∀ x, v ≠ .int .i64 x) (i : Nat) (u : Value) : B.RI (w.setCell ⟨b, i, none⟩ u) A l := by
  refine ⟨h.1, fun hn => ?_⟩
  obtain ⟨ad, e, hc⟩ := h.2 hn
  refine ⟨ad, e, fun k hk => ?_⟩
  have h0 := hc k hk
  have hne : (ad.add k).block ≠ b := by
    intro e
    simp only [World.cell?, e, hg] at h0
    split at h0
    · cases h0
    · rcases h1 : (ad.add k).off with _ | _ | m <;> rw [h1] at h0 <;> simp at h0
      exact hv _ h0
  rw [← h0]
  simp only [World.cell?, Below.heap_setCell w ⟨b, i, none⟩ u _ hne]
def NPost (s : ByteArray) (w : World) (e : Ending) (w' : World) : Prop := ∃ (A A2 : Option Addr) (n c c2 : Nat), e = .returned (.tuple #[.agg #[.bool false, .slice A n c], .agg #[.bool false, .slice A2 0 c2], .bool true]) ∧ n = (B.magP s).length ∧ B.RI w' A (B.magP s) ∧ Below w.heap.size w w'
set_option maxRecDepth 100000 in
set_option maxHeartbeats 4000000 in
theorem two_w (s : ByteArray) (w : World) (hi : B.intB s = true) (hd : B.hasDash s = false) :
    Calls Try.prog 171 #[.string s, .string ⟨#[48]⟩] w (NPost s w) := by
  obtain ⟨-, -, hsz⟩ := mag_facts hi
  have HP1 := Aside0.mk (fun (W : World) => B.parse_ok s (by omega) W)
  have HP2 := Aside0.mk (fun (W : World) => B.parse_ok ⟨#[48]⟩ (by decide) W)
  have en : B.negP s = false := by simp [B.negP, hd]
  rw [en, hi] at HP1
  rw [show B.negP ⟨#[48]⟩ = false by decide +kernel, show B.magP ⟨#[48]⟩ = [] by decide +kernel, show B.intB ⟨#[48]⟩ = true by decide +kernel, List.length_nil] at HP2
  obtain ⟨W, hW⟩ : ∃ W : World, W = (w.alloc (.cells #[.bool false, .slice none 0 0] 147)).alloc (.cells #[.bool false, .slice none 0 0] 147) := ⟨_, rfl⟩
  have hwb : Below w.heap.size w W := by rw [hW]; exact bla (bla (Below.refl _ _) _) _
  have e1 := blk_new (w.alloc (.cells #[.bool false, .slice none 0 0] 147)) (.cells #[.bool false, .slice none 0 0] 147)
  rw [show (w.alloc (.cells #[.bool false, .slice none 0 0] 147)).heap.size = w.heap.size + 1 by simp] at e1
  have G0 := Aside0.mk (show W.heap[w.heap.size]? = some (.cells #[.bool false, .slice none 0 0] 147 (0, 0)) by rw [hW]; exact kla (blk_new _ _) _)
  have G1 := Aside0.mk (show W.heap[w.heap.size + 1]? = some (.cells #[.bool false, .slice none 0 0] 147 (0, 0)) by rw [hW]; exact e1)
  have HWB := Aside0.mk hwb
  have HW := Lib.hid hW
  clear hW hwb e1 en hi hd hsz
  go_enter Try.func171, Try.ntmps171
  go_upto_region 1 with (fail)
  rw [← HW.out]
  go_upto_region 2 with (first | (go_at_call 132; refine (HP1.out _).mono ?_; rintro e w1 ⟨A, c, rfl, hR1, hc1, hB1⟩; obtain ⟨n, hn⟩ : ∃ n, n = (B.magP s).length := ⟨_, rfl⟩; rw [← hn]; have HN := Lib.hid hn; have HR1 := Aside0.mk hR1; have HB1 := Aside0.mk hB1; clear hn hR1 hc1 hB1))
  obtain ⟨W1, hW1⟩ : ∃ W1 : World, W1 = w1.alloc (.cells #[.bool false, .slice A n c] 147) := ⟨_, rfl⟩
  have hb11 : Below w1.heap.size w1 W1 := by rw [hW1]; exact bla (Below.refl _ _) _
  have H7 := Aside0.mk (show W1.heap[w1.heap.size]? = some (.cells #[.bool false, .slice A n c] 147 (0, 0)) by rw [hW1]; exact blk_new _ _)
  have HWB1 := Aside0.mk (bst (bst HWB.out HB1.out) hb11)
  have G01 := Aside0.mk (kbw (kbw G0.out HB1.out) hb11)
  have G11 := Aside0.mk (kbw (kbw G1.out HB1.out) hb11)
  have HR11 := Aside0.mk (HR1.out.below hb11)
  have l7 : w.heap.size + 2 ≤ w1.heap.size := by have := HB1.out.size; have := blk_lt G1.out; omega
  obtain ⟨g7, hg7⟩ : ∃ g7, g7 = w1.heap.size := ⟨_, rfl⟩
  rw [← hg7] at H7 l7 ⊢
  rw [← hW1]
  have L7 := Lib.hid l7
  clear hW1 hb11 HB1 HWB G0 G1 HR1 hg7 l7
  go_upto_region 3 with (first | (go_at_call 132; refine (HP2.out _).mono ?_; rintro e w2 ⟨A2, c2, rfl, -, -, hB2⟩; have HB2 := Aside0.mk hB2; clear hB2))
  obtain ⟨W3, hW3⟩ : ∃ W3 : World, W3 = w2.alloc (.cells #[.bool false, .slice A2 0 c2] 147) := ⟨_, rfl⟩
  have hb33 : Below w2.heap.size w2 W3 := by rw [hW3]; exact bla (Below.refl _ _) _
  have H9 := Aside0.mk (show W3.heap[w2.heap.size]? = some (.cells #[.bool false, .slice A2 0 c2] 147 (0, 0)) by rw [hW3]; exact blk_new _ _)
  have hb13 : Below W1.heap.size W1 W3 := bst HB2.out hb33
  have H73 := Aside0.mk (kbw H7.out hb13)
  have HWB3 := Aside0.mk (bst HWB1.out hb13)
  have G03 := Aside0.mk (kbw G01.out hb13)
  have G13 := Aside0.mk (kbw G11.out hb13)
  have HR3 := Aside0.mk (HR11.out.below hb13)
  have l9 : w.heap.size + 2 ≤ w2.heap.size := by have := HB2.out.size; have := blk_lt G11.out; omega
  obtain ⟨g9, hg9⟩ : ∃ g9, g9 = w2.heap.size := ⟨_, rfl⟩
  rw [← hg9] at H9 l9 ⊢
  rw [← hW3]
  have L9 := Lib.hid l9
  clear hW3 hb33 hb13 HB2 HWB1 G01 G11 HR11 hg9 l9 H7
  have k0 := (kcl H73.out 0).trans (show _ = some (.bool false) from rfl)
  have k1 := (kcl H73.out 1).trans (show _ = some (.slice A n c) from rfl)
  have j0 := (kcl H9.out 0).trans (show _ = some (.bool false) from rfl)
  have j1 := (kcl H9.out 1).trans (show _ = some (.slice A2 0 c2) from rfl)
  go_wp2_with fail
  have hq0 : Below W3.heap.size W3 W3.drew := below_drew (Below.refl _ _)
  refine start_ (n := 9) (S := fun w' => w'.cell? ⟨g7, 0, none⟩ = some (.bool false) ∧ w'.cell? ⟨g7, 1, none⟩ = some (.slice A n c) ∧ w'.cell? ⟨g9, 0, none⟩ = some (.bool false) ∧ w'.cell? ⟨g9, 1, none⟩ = some (.slice A2 0 c2)) (ds := [7]) #[false, false, false, false, false, false, false, false, false] (by kernel_rfl) rfl rfl ⟨B.cell_keep hq0 k0, B.cell_keep hq0 k1, B.cell_keep hq0 j0, B.cell_keep hq0 j1⟩ (fun hHeld => ?_)
  generalize W3.drew = w10 at hq0 hHeld ⊢
  have hg0 := kbw G03.out hq0
  have hg1 := kbw G13.out hq0
  have z00 := (kcl hg0 0).trans (show _ = some (.bool false) from rfl)
  have zf00 := kfz hg0 0
  have z01 := (kcl hg0 1).trans (show _ = some (.slice none 0 0) from rfl)
  have zf01 := kfz hg0 1
  have z10 := (kcl hg1 0).trans (show _ = some (.bool false) from rfl)
  have zf10 := kfz hg1 0
  have z11 := (kcl hg1 1).trans (show _ = some (.slice none 0 0) from rfl)
  have zf11 := kfz hg1 1
  refine pure_ (i := 2) (N := some 23) (v := ?_) (a' := ?_) #[false, false, true, false, false, false, false, false, false] rfl rfl (by kernel_rfl) (fun _ _ _ h => h) (Or.inl ⟨by rfl, ?_⟩) ?_ ?_
  rotate_left
  · intro w'
    go_simp
    with_reducible rfl
  rotate_left
  · simp only [Act.put, List.setIfInBounds_toArray, List.set_cons_zero, List.set_cons_succ, i64_w, i32_w]
    rfl
  refine pure_ (i := 3) (N := some 24) (v := ?_) (a' := ?_) #[false, false, true, true, false, false, false, false, false] rfl rfl (by kernel_rfl) (fun _ _ _ h => h) (Or.inl ⟨by rfl, ?_⟩) ?_ ?_
  rotate_left
  · intro w'
    go_simp
    with_reducible rfl
  rotate_left
  · simp only [Act.put, List.setIfInBounds_toArray, List.set_cons_zero, List.set_cons_succ, i64_w, i32_w]
    rfl
  refine pure_ (i := 4) (N := some 25) (v := ?_) (a' := ?_) #[false, false, true, true, true, false, false, false, false] rfl rfl (by kernel_rfl) (fun _ _ _ h => h) (Or.inl ⟨by rfl, ?_⟩) ?_ ?_
  rotate_left
  · intro w'
    go_simp
    with_reducible rfl
  rotate_left
  · simp only [Act.put, List.setIfInBounds_toArray, List.set_cons_zero, List.set_cons_succ, i64_w, i32_w]
    rfl
  refine pure_ (i := 5) (N := some 26) (v := ?_) (a' := ?_) #[false, false, true, true, true, true, false, false, false] rfl rfl (by kernel_rfl) (fun _ _ _ h => h) (Or.inl ⟨by rfl, ?_⟩) ?_ ?_
  rotate_left
  · intro w'
    go_simp
    with_reducible rfl
  rotate_left
  · simp only [Act.put, List.setIfInBounds_toArray, List.set_cons_zero, List.set_cons_succ, i64_w, i32_w]
    rfl
  refine take_ (i := 0) (N := some 21) (v := ?_) (a' := ?_) #[true, false, true, true, true, true, false, false, false] rfl rfl (by kernel_rfl) (fun _ _ _ h => h) (Or.inl ⟨by rfl, ?_⟩) hHeld ?_ ?_
  rotate_left
  · rintro w' ⟨s0, s1, s2, s3⟩
    go_simp
    with_reducible rfl
  rotate_left
  · simp only [Act.put, List.setIfInBounds_toArray, List.set_cons_zero, List.set_cons_succ, i64_w, i32_w]
    rfl
  refine take_ (i := 1) (N := some 22) (v := ?_) (a' := ?_) #[true, true, true, true, true, true, false, false, false] rfl rfl (by kernel_rfl) (fun _ _ _ h => h) (Or.inl ⟨by rfl, ?_⟩) hHeld ?_ ?_
  rotate_left
  · rintro w' ⟨s0, s1, s2, s3⟩
    go_simp
    with_reducible rfl
  rotate_left
  · simp only [Act.put, List.setIfInBounds_toArray, List.set_cons_zero, List.set_cons_succ, i64_w, i32_w]
    rfl
  refine one_ (i := 6) (N := none) #[true, true, true, true, true, true, true, false, false] rfl rfl (by kernel_rfl) (by decide) (fun K hK => ?_)
  refine skip_ (w1 := ?_) (by rfl) rfl ?_ ?_
  rotate_left
  · go_simp
    rfl
  refine hK.out _ _ ⟨(kcl (blk_far (blk_far (kbw H73.out hq0) (by have := L7.out; show g7 ≠ w.heap.size; omega) _) (by have := L7.out; show g7 ≠ w.heap.size; omega) _) 0).trans rfl, (kcl (blk_far (blk_far (kbw H73.out hq0) (by have := L7.out; show g7 ≠ w.heap.size; omega) _) (by have := L7.out; show g7 ≠ w.heap.size; omega) _) 1).trans rfl, (kcl (blk_far (blk_far (kbw H9.out hq0) (by have := L9.out; show g9 ≠ w.heap.size; omega) _) (by have := L9.out; show g9 ≠ w.heap.size; omega) _) 0).trans rfl, (kcl (blk_far (blk_far (kbw H9.out hq0) (by have := L9.out; show g9 ≠ w.heap.size; omega) _) (by have := L9.out; show g9 ≠ w.heap.size; omega) _) 1).trans rfl⟩ (fun hHeld => ?_)
  clear hK K
  refine last_ (i := 7) (N := none) #[true, true, true, true, true, true, true, true, false] rfl rfl (by kernel_rfl) (by decide) (fun K hK => ?_)
  refine skip_ (w1 := ?_) (by rfl) rfl ?_ ?_
  rotate_left
  · go_simp
    rfl
  refine hK.out _ _ ?_
  clear hK K
  refine pure_ (i := 8) (N := some 6) (v := ?_) (a' := ?_) #[true, true, true, true, true, true, true, true, true] rfl rfl (by kernel_rfl) (fun _ _ _ h => h) (Or.inl ⟨by rfl, ?_⟩) ?_ ?_
  rotate_left
  · intro w'
    go_simp
    with_reducible rfl
  rotate_left
  · simp only [Act.put, List.setIfInBounds_toArray, List.set_cons_zero, List.set_cons_succ, i64_w, i32_w]
    rfl
  refine done_ (by kernel_rfl) ?_
  go_wp2_with fail
  have p0 : ((w10.setCell ⟨w.heap.size, 0, none⟩ (.bool false)).setCell ⟨w.heap.size, 1, none⟩ (.slice A n c)).heap[w.heap.size]? = some (.cells #[.bool false, .slice A n c] 147 (0, 0)) := blk_put (show _ = some (Obj.cells #[.bool false, .slice none 0 0] 147 (0, 0)) from blk_put hg0 0 _ rfl) 1 _ rfl
  have p1 := blk_far (blk_far p0 (p := ⟨w.heap.size + 1, 0, none⟩) (by simp) (.bool false)) (p := ⟨w.heap.size + 1, 1, none⟩) (by simp) (.slice A2 0 c2)
  have q0 := blk_far (blk_far hg1 (p := ⟨w.heap.size, 0, none⟩) (by simp) (.bool false)) (p := ⟨w.heap.size, 1, none⟩) (by simp) (.slice A n c)
  have q1 : ((((w10.setCell ⟨w.heap.size, 0, none⟩ (.bool false)).setCell ⟨w.heap.size, 1, none⟩ (.slice A n c)).setCell ⟨w.heap.size + 1, 0, none⟩ (.bool false)).setCell ⟨w.heap.size + 1, 1, none⟩ (.slice A2 0 c2)).heap[w.heap.size + 1]? = some (.cells #[.bool false, .slice A2 0 c2] 147 (0, 0)) := blk_put (show _ = some (Obj.cells #[.bool false, .slice none 0 0] 147 (0, 0)) from blk_put q0 0 _ rfl) 1 _ rfl
  refine bodyPost_ret (res_cct rfl _ _ w.heap.size (w.heap.size + 1) 147 147 _ _ (0, 0) (0, 0) _ _ rfl p1 Try.underlying147 rfl (by kernel_rfl) rfl q1 Try.underlying147 rfl (by kernel_rfl)) rfl ⟨A, A2, n, c, c2, rfl, HN.out, ?_, ?_⟩
  · have a0 : (w10.setCell ⟨w.heap.size, 0, none⟩ (.bool false)).heap[w.heap.size]? = some (.cells #[.bool false, .slice none 0 0] 147 (0, 0)) := blk_put hg0 0 _ rfl
    have a1 : (((w10.setCell ⟨w.heap.size, 0, none⟩ (.bool false)).setCell ⟨w.heap.size, 1, none⟩ (.slice A n c)).setCell ⟨w.heap.size + 1, 0, none⟩ (.bool false)).heap[w.heap.size + 1]? = some (.cells #[.bool false, .slice none 0 0] 147 (0, 0)) := blk_put q0 0 _ rfl
    exact ri_far (ri_far (ri_far (ri_far (HR3.out.below hq0) hg0 (by simp) _ _) a0 (by simp) _ _) q0 (by simp) _ _) a1 (by simp) _ _
  · exact ((((bst HWB3.out hq0).setCell (Nat.le_refl _) _).setCell (Nat.le_refl _) _).setCell (show w.heap.size ≤ w.heap.size + 1 by omega) _).setCell (show w.heap.size ≤ w.heap.size + 1 by omega) _
end Go.Proofs.Ytgddblpgbkgpcaa.PR
namespace Go.Proofs.Ytgddblpgbkgpcaa.PR
set_option linter.unusedVariables false
set_option linter.unusedSimpArgs false
open Go.RowKit Go.Proofs.YtgddblpgbkgpcaaW.PrintWords Go.Proofs.YtgddblpgbkgpcaaW.PrintLast Go.Proofs.YtgddblpgbkgpcaaW.PrintMore
set_option linter.unusedVariables false
set_option linter.unusedSimpArgs false
def CPost (w : World) (e : Ending) (w' : World) : Prop := ∃ k : Int, 0 ≤ k ∧ e = .returned (.int .i64 k) ∧ Below w.heap.size w w'
set_option maxRecDepth 100000 in
set_option maxHeartbeats 4000000 in
theorem cmp_w (s : ByteArray) (w : World) (hi : B.intB s = true) (hd : B.hasDash s = false) :
    Calls Try.prog 164 #[.string s, .string ⟨#[48]⟩] w (CPost w) := by
  obtain ⟨hml, hmd, -⟩ := mag_facts hi
  have HML := Aside0.mk hml
  have HMD := Aside0.mk hmd
  have HT := Aside0.mk (two_w s w hi hd)
  clear hml hmd hi hd
  go_enter Try.func164, Try.ntmps164
  go_upto_region 2 with (first | (go_at_call 171; refine HT.out.mono ?_; rintro e w1 ⟨A, A2, n, c, c2, rfl, hn, hR, hB⟩; have HN := Lib.hid hn; have HR := Aside0.mk hR; have HB := Aside0.mk hB; clear hn hR hB))
  obtain ⟨W3, hW3⟩ : ∃ W3 : World, W3 = (w1.alloc (.cells #[.bool false, .slice A n c] 147)).alloc (.cells #[.bool false, .slice A2 0 c2] 147) := ⟨_, rfl⟩
  rw [← hW3]
  have hb3 : Below w1.heap.size w1 W3 := by rw [hW3]; exact bla (bla (Below.refl _ _) _) _
  have e1 := blk_new (w1.alloc (.cells #[.bool false, .slice A n c] 147)) (.cells #[.bool false, .slice A2 0 c2] 147)
  rw [show (w1.alloc (.cells #[.bool false, .slice A n c] 147)).heap.size = w1.heap.size + 1 by simp, ← hW3] at e1
  have e0 : W3.heap[w1.heap.size]? = some (.cells #[.bool false, .slice A n c] 147 (0, 0)) := by rw [hW3]; exact kla (blk_new _ _) _
  have k0 := (kcl e0 0).trans (show _ = some (.bool false) from rfl)
  have k1 := (kcl e0 1).trans (show _ = some (.slice A n c) from rfl)
  have j0 := (kcl e1 0).trans (show _ = some (.bool false) from rfl)
  have j1 := (kcl e1 1).trans (show _ = some (.slice A2 0 c2) from rfl)
  have HRI := Aside0.mk (HR.out.below hb3)
  have HWB := Aside0.mk (bst HB.out hb3)
  obtain ⟨g5, hg5⟩ : ∃ g5, g5 = w1.heap.size := ⟨_, rfl⟩
  obtain ⟨g6, hg6⟩ : ∃ g6, g6 = w1.heap.size + 1 := ⟨_, rfl⟩
  rw [← hg6] at j0 j1 ⊢
  rw [← hg5] at k0 k1 ⊢
  clear hW3 hb3 e0 e1 hg5 hg6 HR HB HT
  go_upto_region 4 with (fail)
  go_wp2_with fail
  have hq0 : Below W3.heap.size W3 W3.drew := below_drew (Below.refl _ _)
  refine start_ (n := 6) (S := fun w' => w'.cell? ⟨g5, 0, none⟩ = some (.bool false) ∧ w'.cell? ⟨g5, 1, none⟩ = some (.slice A n c) ∧ w'.cell? ⟨g6, 0, none⟩ = some (.bool false) ∧ w'.cell? ⟨g6, 1, none⟩ = some (.slice A2 0 c2)) (ds := [5]) #[false, false, false, false, false, false] (by kernel_rfl) rfl rfl ⟨B.cell_keep hq0 k0, B.cell_keep hq0 k1, B.cell_keep hq0 j0, B.cell_keep hq0 j1⟩ (fun hHeld => ?_)
  generalize W3.drew = w10 at hq0 hHeld ⊢
  have hh : Below w10.heap.size w10 w10 := Below.refl _ _
  replace k0 := B.cell_keep hq0 k0
  replace k1 := B.cell_keep hq0 k1
  replace j0 := B.cell_keep hq0 j0
  replace j1 := B.cell_keep hq0 j1
  refine take_ (i := 0) (N := some 18) (v := ?_) (a' := ?_) #[true, false, false, false, false, false] rfl rfl (by kernel_rfl) (fun _ _ _ h => h) (Or.inl ⟨by rfl, ?_⟩) hHeld ?_ ?_
  rotate_left
  · rintro w' ⟨s0, s1, s2, s3⟩
    go_simp
    with_reducible rfl
  rotate_left
  · simp only [Act.put, List.setIfInBounds_toArray, List.set_cons_zero, List.set_cons_succ, i64_w, i32_w]
    rfl
  refine take_ (i := 1) (N := some 19) (v := ?_) (a' := ?_) #[true, true, false, false, false, false] rfl rfl (by kernel_rfl) (fun _ _ _ h => h) (Or.inl ⟨by rfl, ?_⟩) hHeld ?_ ?_
  rotate_left
  · rintro w' ⟨s0, s1, s2, s3⟩
    go_simp
    with_reducible rfl
  rotate_left
  · simp only [Act.put, List.setIfInBounds_toArray, List.set_cons_zero, List.set_cons_succ, i64_w, i32_w]
    rfl
  refine join_ (σ := Option Addr × Nat × Nat × Nat) 1 #[true, true, true, true, true, false] (fun s_ => [(20, .agg #[.bool false, .slice A2 0 c2]), (21, .agg #[.bool false, .slice s_.1 s_.2.1 s_.2.2.1]), (8, .pointer (some ⟨s_.2.2.2, 0, none⟩))]) (fun s_ w' => (w'.cell? ⟨g5, 0, none⟩ = some (.bool false) ∧ w'.cell? ⟨g5, 1, none⟩ = some (.slice A n c) ∧ w'.cell? ⟨g6, 0, none⟩ = some (.bool false) ∧ w'.cell? ⟨g6, 1, none⟩ = some (.slice A2 0 c2)) ∧ w'.heap[s_.2.2.2]? = some (.cells #[.bool false, .slice none 0 0] 147 (0, 0)) ∧ w10.heap.size ≤ s_.2.2.2 ∧ Below w10.heap.size w10 w') ?_ ?_
  rotate_left
  · intro hCont
    refine two_ (i := 2) (j := 4) (Ni := some 20) (Nj := some 8) #[true, true, true, false, false, false] #[true, true, false, false, true, false] rfl rfl rfl rfl (by kernel_rfl) (by decide) (by decide) (fun K hK => ?_) (fun K hK => ?_)
    · skip
      refine goes_ Try.func173 (by kernel_rfl) rfl #[.agg #[.bool false, .slice A2 0 c2]] (by rfl) rfl rfl (by simp only [List.map_toArray, List.map_cons, List.map_nil]; rfl) ?_
      with_reducible refine (minus_w A2 c2 _).mono ?_
      rintro e y2 ⟨n2, hn2, rfl, hb2⟩
      refine ⟨_, rfl, ?_⟩
      obtain rfl : n2 = 0 := by omega
      clear hn2
      have hh2 := bth hh hh.size hb2
      refine hK.out _ _ ⟨B.cell_keep hh2 k0, B.cell_keep hh2 k1, B.cell_keep hh2 j0, B.cell_keep hh2 j1⟩ (fun hHeld => ?_)
      clear hK K
      refine norm_ (a' := ?_) ?_ ?_
      rotate_left
      · show Act.put _ (some 20) _ = _
        simp only [Act.put, List.setIfInBounds_toArray, List.set_cons_zero, List.set_cons_succ, i64_w, i32_w]
        rfl
      refine two_ (i := 3) (j := 4) (Ni := some 21) (Nj := some 8) #[true, true, true, true, false, false] #[true, true, true, false, true, false] rfl rfl rfl rfl (by kernel_rfl) (by decide) (by decide) (fun K hK => ?_) (fun K hK => ?_)
      · skip
        refine goes_ Try.func172 (by kernel_rfl) rfl #[.agg #[.bool false, .slice A n c], .agg #[.bool false, .slice A2 0 c2]] (by rfl) rfl rfl (by simp only [List.map_toArray, List.map_cons, List.map_nil]; rfl) ?_
        with_reducible refine (plus_w A n c (B.magP s) A2 c2 _ HN.out (by have := HN.out; have := HML.out; omega) (HRI.out.below (bth hq0 hq0.size hh2)) HMD.out).mono ?_
        rintro e y3 ⟨A3, n3, c3, rfl, hb3⟩
        refine ⟨_, rfl, ?_⟩
        have hh23 := bth hh2 hh2.size hb3
        refine hK.out _ _ ⟨B.cell_keep hh23 k0, B.cell_keep hh23 k1, B.cell_keep hh23 j0, B.cell_keep hh23 j1⟩ (fun hHeld => ?_)
        clear hK K
        refine norm_ (a' := ?_) ?_ ?_
        rotate_left
        · show Act.put _ (some 21) _ = _
          simp only [Act.put, List.setIfInBounds_toArray, List.set_cons_zero, List.set_cons_succ, i64_w, i32_w]
          rfl
        refine one_ (i := 4) (N := some 8) #[true, true, true, true, true, false] rfl rfl (by kernel_rfl) (by decide) (fun K hK => ?_)
        refine box_step ?hg (N := 8) ?hd (cs := #[.bool false, .slice none 0 0]) (t := 147) ?hr ?_; (case hd => rfl); (case hg => rfl); (case hr => first | (go_simp; done) | (go_simp; rfl))
        intro b8 hg8 y8 hbox hb8
        have hh234 := bth hh23 hh23.size hb8
        refine hK.out _ _ ⟨B.cell_keep hh234 k0, B.cell_keep hh234 k1, B.cell_keep hh234 j0, B.cell_keep hh234 j1⟩ (fun hHeld => ?_)
        clear hK K
        refine norm_ (a' := ?_) ?_ ?_
        rotate_left
        · show Act.put _ (some 8) _ = _
          simp only [Act.put, List.setIfInBounds_toArray, List.set_cons_zero, List.set_cons_succ, i64_w, i32_w]
          rfl
        exact norm_ (by simp only [putAll, Act.put, List.setIfInBounds_toArray, List.set_cons_zero, List.set_cons_succ]) (hCont ⟨A3, n3, c3, b8⟩ _ ⟨⟨B.cell_keep hh234 k0, B.cell_keep hh234 k1, B.cell_keep hh234 j0, B.cell_keep hh234 j1⟩, hbox, by show w10.heap.size ≤ b8; have := hh23.size; omega, hh234⟩)
      · skip
        refine box_step ?hg (N := 8) ?hd (cs := #[.bool false, .slice none 0 0]) (t := 147) ?hr ?_; (case hd => rfl); (case hg => rfl); (case hr => first | (go_simp; done) | (go_simp; rfl))
        intro b8 hg8 y8 hbox hb8
        have hh24 := bth hh2 hh2.size hb8
        refine hK.out _ _ ⟨B.cell_keep hh24 k0, B.cell_keep hh24 k1, B.cell_keep hh24 j0, B.cell_keep hh24 j1⟩ (fun hHeld => ?_)
        clear hK K
        refine norm_ (a' := ?_) ?_ ?_
        rotate_left
        · show Act.put _ (some 8) _ = _
          simp only [Act.put, List.setIfInBounds_toArray, List.set_cons_zero, List.set_cons_succ, i64_w, i32_w]
          rfl
        refine one_ (i := 3) (N := some 21) #[true, true, true, true, true, false] rfl rfl (by kernel_rfl) (by decide) (fun K hK => ?_)
        refine goes_ Try.func172 (by kernel_rfl) rfl #[.agg #[.bool false, .slice A n c], .agg #[.bool false, .slice A2 0 c2]] (by rfl) rfl rfl (by simp only [List.map_toArray, List.map_cons, List.map_nil]; rfl) ?_
        with_reducible refine (plus_w A n c (B.magP s) A2 c2 _ HN.out (by have := HN.out; have := HML.out; omega) (HRI.out.below (bth hq0 hq0.size hh24)) HMD.out).mono ?_
        rintro e y3 ⟨A3, n3, c3, rfl, hb3⟩
        refine ⟨_, rfl, ?_⟩
        have hh243 := bth hh24 hh24.size hb3
        refine hK.out _ _ ⟨B.cell_keep hh243 k0, B.cell_keep hh243 k1, B.cell_keep hh243 j0, B.cell_keep hh243 j1⟩ (fun hHeld => ?_)
        clear hK K
        refine norm_ (a' := ?_) ?_ ?_
        rotate_left
        · show Act.put _ (some 21) _ = _
          simp only [Act.put, List.setIfInBounds_toArray, List.set_cons_zero, List.set_cons_succ, i64_w, i32_w]
          rfl
        exact norm_ (by simp only [putAll, Act.put, List.setIfInBounds_toArray, List.set_cons_zero, List.set_cons_succ]) (hCont ⟨A3, n3, c3, b8⟩ _ ⟨⟨B.cell_keep hh243 k0, B.cell_keep hh243 k1, B.cell_keep hh243 j0, B.cell_keep hh243 j1⟩, kbw hbox hb3, by show w10.heap.size ≤ b8; have := hh2.size; omega, hh243⟩)
    · skip
      refine box_step ?hg (N := 8) ?hd (cs := #[.bool false, .slice none 0 0]) (t := 147) ?hr ?_; (case hd => rfl); (case hg => rfl); (case hr => first | (go_simp; done) | (go_simp; rfl))
      intro b8 hg8 y8 hbox hb8
      have hh4 := bth hh hh.size hb8
      refine hK.out _ _ ⟨B.cell_keep hh4 k0, B.cell_keep hh4 k1, B.cell_keep hh4 j0, B.cell_keep hh4 j1⟩ (fun hHeld => ?_)
      clear hK K
      refine norm_ (a' := ?_) ?_ ?_
      rotate_left
      · show Act.put _ (some 8) _ = _
        simp only [Act.put, List.setIfInBounds_toArray, List.set_cons_zero, List.set_cons_succ, i64_w, i32_w]
        rfl
      refine one_ (i := 2) (N := some 20) #[true, true, true, false, true, false] rfl rfl (by kernel_rfl) (by decide) (fun K hK => ?_)
      refine goes_ Try.func173 (by kernel_rfl) rfl #[.agg #[.bool false, .slice A2 0 c2]] (by rfl) rfl rfl (by simp only [List.map_toArray, List.map_cons, List.map_nil]; rfl) ?_
      with_reducible refine (minus_w A2 c2 _).mono ?_
      rintro e y2 ⟨n2, hn2, rfl, hb2⟩
      refine ⟨_, rfl, ?_⟩
      obtain rfl : n2 = 0 := by omega
      clear hn2
      have hh42 := bth hh4 hh4.size hb2
      refine hK.out _ _ ⟨B.cell_keep hh42 k0, B.cell_keep hh42 k1, B.cell_keep hh42 j0, B.cell_keep hh42 j1⟩ (fun hHeld => ?_)
      clear hK K
      refine norm_ (a' := ?_) ?_ ?_
      rotate_left
      · show Act.put _ (some 20) _ = _
        simp only [Act.put, List.setIfInBounds_toArray, List.set_cons_zero, List.set_cons_succ, i64_w, i32_w]
        rfl
      refine one_ (i := 3) (N := some 21) #[true, true, true, true, true, false] rfl rfl (by kernel_rfl) (by decide) (fun K hK => ?_)
      refine goes_ Try.func172 (by kernel_rfl) rfl #[.agg #[.bool false, .slice A n c], .agg #[.bool false, .slice A2 0 c2]] (by rfl) rfl rfl (by simp only [List.map_toArray, List.map_cons, List.map_nil]; rfl) ?_
      with_reducible refine (plus_w A n c (B.magP s) A2 c2 _ HN.out (by have := HN.out; have := HML.out; omega) (HRI.out.below (bth hq0 hq0.size hh42)) HMD.out).mono ?_
      rintro e y3 ⟨A3, n3, c3, rfl, hb3⟩
      refine ⟨_, rfl, ?_⟩
      have hh423 := bth hh42 hh42.size hb3
      refine hK.out _ _ ⟨B.cell_keep hh423 k0, B.cell_keep hh423 k1, B.cell_keep hh423 j0, B.cell_keep hh423 j1⟩ (fun hHeld => ?_)
      clear hK K
      refine norm_ (a' := ?_) ?_ ?_
      rotate_left
      · show Act.put _ (some 21) _ = _
        simp only [Act.put, List.setIfInBounds_toArray, List.set_cons_zero, List.set_cons_succ, i64_w, i32_w]
        rfl
      exact norm_ (by simp only [putAll, Act.put, List.setIfInBounds_toArray, List.set_cons_zero, List.set_cons_succ]) (hCont ⟨A3, n3, c3, b8⟩ _ ⟨⟨B.cell_keep hh423 k0, B.cell_keep hh423 k1, B.cell_keep hh423 j0, B.cell_keep hh423 j1⟩, kbw (kbw hbox hb2) hb3, by show w10.heap.size ≤ b8; omega, hh423⟩)
  rintro ⟨A3, n3, c3, b8⟩ w11 ⟨hHeld, hbz, hb8, hh11⟩
  have z0 := (kcl hbz 0).trans (show _ = some (.bool false) from rfl)
  have z1 := (kcl hbz 1).trans (show _ = some (.slice none 0 0) from rfl)
  have f0 := kfz hbz 0
  have f1 := kfz hbz 1
  refine norm_ (a' := ?_) ?_ ?_
  rotate_left
  · simp only [putAll, Act.put, List.setIfInBounds_toArray, List.set_cons_zero, List.set_cons_succ]
    rfl
  refine last_ (i := 5) (N := none) #[true, true, true, true, true, true] rfl rfl (by kernel_rfl) (by decide) (fun K hK => ?_)
  refine skip_ (w1 := ?_) (by rfl) rfl ?_ ?_
  rotate_left
  · go_simp
    rfl
  refine hK.out _ _ ?_
  clear hK K
  refine done_ (by kernel_rfl) ?_
  have a0 : (w11.setCell ⟨b8, 0, none⟩ (.bool false)).heap[b8]? = some (.cells #[.bool false, .slice none 0 0] 147 (0, 0)) := blk_put hbz 0 _ rfl
  have a1 : ((w11.setCell ⟨b8, 0, none⟩ (.bool false)).setCell ⟨b8, 1, none⟩ (.slice A3 n3 c3)).heap[b8]? = some (.cells #[.bool false, .slice A3 n3 c3] 147 (0, 0)) := blk_put a0 1 _ rfl
  have hw : w.heap.size ≤ b8 := by have : w10.heap.size ≤ b8 := hb8; have := hq0.size; have := HWB.out.size; omega
  have aB : Below w.heap.size w ((w11.setCell ⟨b8, 0, none⟩ (.bool false)).setCell ⟨b8, 1, none⟩ (.slice A3 n3 c3)) := ((bst (bst HWB.out hq0) hh11).setCell hw _).setCell hw _
  clear a0 hw
  generalize ((w11.setCell ⟨b8, 0, none⟩ (.bool false)).setCell ⟨b8, 1, none⟩ (.slice A3 n3 c3)) = X at a1 aB ⊢
  clear z0 z1 f0 f1 hbz hb8 hh11 hHeld hh hq0 k0 k1 j0 j1
  have z0 := (kcl a1 0).trans (show _ = some (.bool false) from rfl)
  have z1 := (kcl a1 1).trans (show _ = some (.slice A3 n3 c3) from rfl)
  have AB := Aside0.mk aB
  clear a1 aB
  by_cases h0 : n3 = 0
  · have hz : ((n3 : Int) == 0) = true := by simp [h0]
    clear h0
    go_wp2_with fail
    go_ret
    exact ⟨0, by omega, rfl, AB.out⟩
  · have hz : ((n3 : Int) == 0) = false := by simpa using h0
    clear h0
    go_wp2_with fail
    go_ret
    exact ⟨1, by omega, rfl, AB.out⟩
end Go.Proofs.Ytgddblpgbkgpcaa.PR
namespace Go.Proofs.Ytgddblpgbkgpcaa.PR
set_option linter.unusedVariables false
set_option linter.unusedSimpArgs false
open Go.RowKit Go.Proofs.YtgddblpgbkgpcaaW.PrintWords Go.Proofs.YtgddblpgbkgpcaaW.PrintLast Go.Proofs.YtgddblpgbkgpcaaW.PrintMore
set_option linter.unusedVariables false
set_option linter.unusedSimpArgs false
def dv (s : ByteArray) : Nat → Int
  | 0 => 0
  | k + 1 => 10 * dv s k + (bt s k - 48)
def Dg (s : ByteArray) : Prop := s.size ≤ 5 ∧ 1 ≤ s.size ∧ ∀ k (h : k < s.size), 48 ≤ bt s k ∧ bt s k ≤ 57
theorem dv_bound {s : ByteArray} (h : Dg s) : ∀ k, k ≤ s.size → 0 ≤ dv s k ∧ dv s k < 10 ^ k
  | 0, _ => by simp [dv]
  | k + 1, hk => by
    obtain ⟨h1, h2⟩ := dv_bound h k (by omega)
    obtain ⟨h3, h4⟩ := h.2.2 k (by omega)
    have : (10 : Int) ^ (k + 1) = 10 * 10 ^ k := by rw [Int.pow_succ]; omega
    simp only [dv]
    omega
theorem dv_small {s : ByteArray} (h : Dg s) (k : Nat) (hk : k ≤ s.size) : 0 ≤ dv s k ∧ dv s k ≤ 99999 := by
  obtain ⟨h1, h2⟩ := dv_bound h k hk
  have hk5 : k ≤ 5 := by have := h.1; omega
  refine ⟨h1, ?_⟩
  rcases (by omega : k = 0 ∨ k = 1 ∨ k = 2 ∨ k = 3 ∨ k = 4 ∨ k = 5) with rfl | rfl | rfl | rfl | rfl | rfl <;> simp at h2 <;> omega
def SmPost (w : World) (x : Int) (e : Ending) (w' : World) : Prop := e = .returned (.int .i64 x) ∧ Below w.heap.size w w'
theorem Dg.cmp {s : ByteArray} (h : Dg s) (h0 : s.size = 1 ∨ bt s 0 ≠ 48) (w : World) : Calls Try.prog 164 #[.string s, .string ⟨#[48]⟩] w (CPost w) := by
  have hd : B.hasDash s = false := by
    have := (h.2.2 0 h.2.1).1
    simp only [bt, Int.toNat_natCast, dif_pos (show 0 < s.size from h.2.1)] at this
    simp only [B.hasDash, dif_pos (show 0 < s.size from h.2.1), beq_eq_false_iff_ne]
    intro e
    rw [e] at this
    simp at this
  refine cmp_w s w ?_ hd
  have hb : B.body s = s := by simp [B.body, hd]
  have hsz := h.1
  have hl : s.data.toList.length = s.size := Array.length_toList
  simp only [B.intB, hb, hd, Bool.or_false, Bool.and_eq_true, decide_eq_true_eq, List.all_eq_true, Bool.not_eq_true', Bool.and_eq_false_iff, beq_eq_false_iff_ne]
  refine ⟨⟨⟨h.2.1, by omega⟩, fun x hx => ?_⟩, ?_⟩
  · obtain ⟨k, hk, rfl⟩ := List.getElem_of_mem hx
    have := h.2.2 k (by omega)
    simp only [bt, Int.toNat_natCast, dif_pos (show k < s.size by omega)] at this
    simp only [B.isDig, Bool.and_eq_true, decide_eq_true_eq]
    have e : s.data.toList[k] = s[k]'(by omega) := by simp only [Array.getElem_toList]; rfl
    rw [e]; omega
  · rcases h0 with h0 | h0
    · right; simp; omega
    · left
      have e : s.data.toList.head? = some (s[0]'(by have := h.2.1; omega)) := by
        rw [List.head?_eq_getElem?, List.getElem?_eq_getElem (by have := h.2.1; omega)]
        simp only [Array.getElem_toList]; rfl
      rw [e]
      intro e2
      apply h0
      simp only [bt, Int.toNat_zero, dif_pos (show 0 < s.size from h.2.1)]
      rw [Option.some.inj e2]; rfl
set_option maxRecDepth 100000 in
set_option maxHeartbeats 4000000 in
theorem ismall_w (s : ByteArray) (w : World) (hd : Dg s) (h0 : s.size = 1 ∨ bt s 0 ≠ 48) : Calls Try.prog 146 #[.string s, .int .i64 1000000] w (SmPost w (dv s s.size)) := by
  have HC := Aside0.mk (Dg.cmp hd h0 w)
  have HDG := Aside0.mk hd
  have d1 : decide ((7 : Int) < (s.size : Int)) = false := by have := hd.1; simp; omega
  clear hd h0
  go_enter Try.func146, Try.ntmps146
  go_wp2_with (first | (go_at_call 164; refine HC.out.mono ?_; rintro e w1 ⟨k, hk, rfl, hB⟩; have HB := Aside0.mk hB; have d2 : decide (k < 0) = false := decide_eq_false (by omega); clear hB hk))
  go_loopw [5, 6, 19] (fun u5 u6 u19 wr => ∃ k : Nat, u19 = .int .i64 k ∧ k ≤ s.size ∧ u5 = .int .i64 (dv s k) ∧ Aside0 (Below w.heap.size w wr)) (fun _ _ u19 _ => s.size - (intOf u19).toNat)
  case atStart => exact ⟨0, rfl, Nat.zero_le _, rfl, ⟨HB.out⟩⟩
  case round =>
    obtain ⟨k, rfl, hk, rfl, HQ⟩ := hrel
    by_cases hks : k < s.size
    · have h5 := HDG.out.1
      obtain ⟨b1, b2⟩ := HDG.out.2.2 k hks
      obtain ⟨b3, b4⟩ := dv_small HDG.out k hk
      have hb : bt s k = ((s[k]'hks).toNat : Int) := by simp only [bt, Int.toNat_natCast, dif_pos hks]
      rw [hb] at b1 b2
      have HBT := Lib.hid hb
      clear hb
      go_wp2_with fail
      go_roundw
      case rel =>
        exact ⟨k + 1, by go_num, hks, by simp only [dv, HBT.out], HQ⟩
      case measure => simp [intOf]; omega
    · obtain rfl : k = s.size := by omega
      obtain ⟨b3, b4⟩ := dv_small HDG.out s.size hk
      go_wp2_with fail
      go_ret
      exact ⟨rfl, HQ.out⟩
theorem ssmall_l {s : ByteArray} (h : Dg s) (h0 : s.size = 1 ∨ bt s 0 ≠ 48) : ∀ m i : Nat, i + m = s.size → spec_small.l0 (m + 1) s (dv s i) i = some (dv s s.size)
  | 0, i, hi => by
    obtain rfl : i = s.size := by omega
    have h1 := h.2.1
    unfold spec_small.l0
    rw [if_neg (by omega), if_neg (by omega)]
    by_cases h2 : (s.size : Int) > 1
    · rw [if_pos h2, if_pos (by omega), if_neg (by rcases h0 with h0 | h0; omega; exact h0)]
    · rw [if_neg h2]
  | m + 1, i, hi => by
    obtain ⟨d1, d2⟩ := h.2.2 i (by omega)
    obtain ⟨d3, d4⟩ := dv_small h i (by omega)
    have hs5 := h.1
    have ih := ssmall_l h h0 m (i + 1) (by omega)
    unfold spec_small.l0
    rw [if_pos (by omega), if_pos (by omega), if_neg (by omega), if_neg (by omega), if_neg (by omega)]
    have e1 : wrap64 ((wrap64 (dv s i * 10)) + (((bt s i) - 48) % 256)) = dv s (i + 1) := by
      simp only [dv]
      rw [show wrap64 (dv s i * 10) = dv s i * 10 from w64 (by omega), w64 (by omega)]; omega
    have e2 : wrap64 ((i : Int) + 1) = ((i + 1 : Nat) : Int) := by rw [w64 (by omega)]; omega
    rw [e1, e2]; exact ih
theorem ssmall_w (s : ByteArray) (w : World) (h : Dg s) (h0 : s.size = 1 ∨ bt s 0 ≠ 48) : Calls Try.prog 147 #[.string s] w (SmPost w (dv s s.size)) := by
  have hs := h.1
  refine (spec_small.calls (s.size + 1) s (dv s s.size) w (ssmall_l h h0 s.size 0 (by omega))).mono ?_
  rintro e w' ⟨rfl, hb⟩
  exact ⟨rfl, hb.below⟩
def pval (t : ByteArray) (n : Int) : Int := if B.hasDash t then n - dv (B.body t) (B.body t).size else dv (B.body t) (B.body t).size
theorem body_Dg {t : ByteArray} (h : B.intB t = true) (h5 : t.size ≤ 5) : Dg (B.body t) ∧ ((B.body t).size = 1 ∨ bt (B.body t) 0 ≠ 48) := by
  have hl : (B.body t).data.toList.length = (B.body t).size := Array.length_toList
  have hs : (B.body t).size ≤ t.size := by
    unfold B.body
    split
    · rw [ByteArray.size_extract]; omega
    · omega
  simp only [B.intB, Bool.and_eq_true, decide_eq_true_eq, List.all_eq_true, Bool.not_eq_true', Bool.and_eq_false_iff, beq_eq_false_iff_ne, Bool.or_eq_false_iff, decide_eq_false_iff_not] at h
  obtain ⟨⟨⟨h1, h2⟩, h3⟩, h4⟩ := h
  refine ⟨⟨by omega, h1, fun k hk => ?_⟩, ?_⟩
  · have := h3 _ (List.getElem_mem (show k < (B.body t).data.toList.length by omega))
    simp only [B.isDig, Bool.and_eq_true, decide_eq_true_eq] at this
    have e : (B.body t).data.toList[k]'(by omega) = (B.body t)[k]'hk := by simp only [Array.getElem_toList]; rfl
    rw [e] at this
    simp only [bt, Int.toNat_natCast, dif_pos hk]
    omega
  · rcases h4 with h4 | h4
    · right
      intro e
      apply h4
      rw [List.head?_eq_getElem?, List.getElem?_eq_getElem (show 0 < (B.body t).data.toList.length by omega)]
      simp only [bt, Int.toNat_zero, dif_pos (show 0 < (B.body t).size from h1)] at e
      have e2 : (B.body t).data.toList[0]'(by omega) = (B.body t)[0]'h1 := by simp only [Array.getElem_toList]; rfl
      rw [e2]
      congr 1
      exact UInt8.toNat_inj.1 (by have : (48 : UInt8).toNat = 48 := rfl; omega)
    · left; omega
end Go.Proofs.Ytgddblpgbkgpcaa.PR
namespace Go.Proofs.Ytgddblpgbkgpcaa.PR
set_option linter.unusedVariables false
set_option linter.unusedSimpArgs false
open Go.RowKit Go.Proofs.YtgddblpgbkgpcaaW.PrintWords Go.Proofs.YtgddblpgbkgpcaaW.PrintLast Go.Proofs.YtgddblpgbkgpcaaW.PrintMore
set_option linter.unusedVariables false
set_option linter.unusedSimpArgs false
def Plc (k : Int) (t : ByteArray) (n i c : Int) : Prop :=
  (k ≠ 2 ∧ i = 0 ∧ c = 1) ∨ (k = 2 ∧ (0 ≤ pval t n ∧ pval t n < n) ∧ i = pval t n ∧ c = -1) ∨ (k = 2 ∧ ¬ (0 ≤ pval t n ∧ pval t n < n) ∧ i = 0 ∧ c = 4)
theorem plc_ex (k : Int) (t : ByteArray) (n : Int) : ∃ i c, Plc k t n i c := by
  by_cases h : k = 2
  · by_cases h2 : 0 ≤ pval t n ∧ pval t n < n
    · exact ⟨_, _, .inr (.inl ⟨h, h2, rfl, rfl⟩)⟩
    · exact ⟨_, _, .inr (.inr ⟨h, h2, rfl, rfl⟩)⟩
  · exact ⟨_, _, .inl ⟨h, rfl, rfl⟩⟩
def EPost (w : World) (i c : Int) (e : Ending) (w' : World) : Prop := e = .returned (.tuple #[.int .i64 i, .int .i64 c]) ∧ Below w.heap.size w w'
set_option maxRecDepth 100000 in
set_option maxHeartbeats 4000000 in
theorem element_w (k : Int) (t : ByteArray) (r n : Int) (w : World) (hok : k = 2 → B.intB t = true ∧ t.size ≤ 5) (hn : 0 ≤ n ∧ n ≤ 1000000) (i c : Int) (h : Plc k t n i c) :
    Calls Try.prog 115 #[.agg #[.int .i64 k, .string t, .int .i64 r], .int .i64 n] w (EPost w i c) := by
  have hwb : Below w.heap.size w (w.alloc (.cells #[.int .i64 k, .string t, .int .i64 r] 35)) := bla (Below.refl _ _) _
  have h0 := blk_new w (.cells #[.int .i64 k, .string t, .int .i64 r] 35)
  obtain ⟨W, hW⟩ : ∃ W : World, W = w.alloc (.cells #[.int .i64 k, .string t, .int .i64 r] 35) := ⟨_, rfl⟩
  rw [← hW] at hwb h0
  have k0 := (kcl h0 0).trans (show _ = some (.int .i64 k) from rfl)
  have k1 := (kcl h0 1).trans (show _ = some (.string t) from rfl)
  have HWB := Aside0.mk hwb
  have HW := Lib.hid hW
  clear hW hwb h0
  rcases h with ⟨hk, rfl, rfl⟩ | h
  · have hk2 : (k == 2) = false := by simpa using hk
    clear hok hk
    go_enter Try.func115, Try.ntmps115
    go_upto_region 1 with (fail)
    rw [← HW.out]
    go_wp2_with fail
    go_ret2
    exact ⟨rfl, HWB.out⟩
  · obtain rfl : k = 2 := by rcases h with h | h; exact h.1; exact h.1
    obtain ⟨hi, h5⟩ := hok rfl
    obtain ⟨hdg, hd0⟩ := body_Dg hi h5
    have HS := Aside0.mk (fun (W : World) => ismall_w (B.body t) W hdg hd0)
    have HCU := Aside0.mk (fun (W : World) => B.cutPrefix_ok t (by omega) W)
    obtain ⟨v0, v9⟩ := dv_small hdg (B.body t).size (Nat.le_refl _)
    unfold pval at h
    obtain ⟨v, hv⟩ : ∃ v, v = dv (B.body t) (B.body t).size := ⟨_, rfl⟩
    rw [← hv] at h v0 v9 HS
    obtain ⟨n0, n9⟩ := hn
    clear hv hok hi h5 hdg hd0
    cases hdash : B.hasDash t
    · rw [hdash] at h HCU
      simp only [Bool.false_eq_true, if_false, true_and] at h
      rcases h with ⟨⟨h1, h2⟩, rfl, rfl⟩ | ⟨h1, rfl, rfl⟩
      · clear hdash
        have d1 : decide (i < 0) = false := decide_eq_false (by omega)
        have d2 : decide (n ≤ i) = false := decide_eq_false (by omega)
        go_enter Try.func115, Try.ntmps115
        go_upto_region 1 with (fail)
        rw [← HW.out]
        go_wp2_with (first | (go_at_call 145; refine (HCU.out _).mono ?_; rintro e w1 ⟨rfl, rfl⟩) | (go_at_call 146; refine (HS.out _).mono ?_; rintro e w1 ⟨rfl, hB⟩; have HB := Aside0.mk (bst HWB.out hB); clear hB))
        go_ret2
        exact ⟨rfl, HB.out⟩
      · clear hdash
        have d1 : decide (v < 0) = false := decide_eq_false (by omega)
        have d2 : decide (n ≤ v) = true := decide_eq_true (by omega)
        clear h1
        go_enter Try.func115, Try.ntmps115
        go_upto_region 1 with (fail)
        rw [← HW.out]
        go_wp2_with (first | (go_at_call 145; refine (HCU.out _).mono ?_; rintro e w1 ⟨rfl, rfl⟩) | (go_at_call 146; refine (HS.out _).mono ?_; rintro e w1 ⟨rfl, hB⟩; have HB := Aside0.mk (bst HWB.out hB); clear hB))
        go_ret2
        exact ⟨rfl, HB.out⟩
    · rw [hdash] at h HCU
      simp only [if_true, true_and] at h
      rcases h with ⟨⟨h1, h2⟩, rfl, rfl⟩ | ⟨h1, rfl, rfl⟩
      · clear hdash
        have d1 : decide (n - v < 0) = false := decide_eq_false (by omega)
        have d2 : decide (n ≤ n - v) = false := decide_eq_false (by omega)
        clear h1 h2
        go_enter Try.func115, Try.ntmps115
        go_upto_region 1 with (fail)
        rw [← HW.out]
        go_wp2_with (first | (go_at_call 145; refine (HCU.out _).mono ?_; rintro e w1 ⟨rfl, rfl⟩) | (go_at_call 146; refine (HS.out _).mono ?_; rintro e w1 ⟨rfl, hB⟩; have HB := Aside0.mk (bst HWB.out hB); clear hB))
        go_ret2
        exact ⟨rfl, HB.out⟩
      · clear hdash
        by_cases h3 : n - v < 0
        · have d1 : decide (n - v < 0) = true := decide_eq_true h3
          clear h1 h3
          go_enter Try.func115, Try.ntmps115
          go_upto_region 1 with (fail)
          rw [← HW.out]
          go_wp2_with (first | (go_at_call 145; refine (HCU.out _).mono ?_; rintro e w1 ⟨rfl, rfl⟩) | (go_at_call 146; refine (HS.out _).mono ?_; rintro e w1 ⟨rfl, hB⟩; have HB := Aside0.mk (bst HWB.out hB); clear hB))
          go_ret2
          exact ⟨rfl, HB.out⟩
        · have d1 : decide (n - v < 0) = false := decide_eq_false h3
          have d2 : decide (n ≤ n - v) = true := decide_eq_true (by omega)
          clear h1 h3
          go_enter Try.func115, Try.ntmps115
          go_upto_region 1 with (fail)
          rw [← HW.out]
          go_wp2_with (first | (go_at_call 145; refine (HCU.out _).mono ?_; rintro e w1 ⟨rfl, rfl⟩) | (go_at_call 146; refine (HS.out _).mono ?_; rintro e w1 ⟨rfl, hB⟩; have HB := Aside0.mk (bst HWB.out hB); clear hB))
          go_ret2
          exact ⟨rfl, HB.out⟩
end Go.Proofs.Ytgddblpgbkgpcaa.PR
namespace Go.Proofs.Ytgddblpgbkgpcaa.PR
set_option linter.unusedVariables false
set_option linter.unusedSimpArgs false
open Go.RowKit Go.Proofs.YtgddblpgbkgpcaaW.PrintWords Go.Proofs.YtgddblpgbkgpcaaW.PrintLast Go.Proofs.YtgddblpgbkgpcaaW.PrintMore
set_option linter.unusedVariables false
set_option linter.unusedSimpArgs false
def tV (x : S35) : B.V := ⟨x.f0, x.f1, x.f2⟩
def tO (o : S46) : B.O := ⟨o.f0, o.f1, o.f2, o.f3.map tV, o.f4.map tV, o.f5, o.f6.map tV⟩
theorem rd35 {xs : List S35} {i : Nat} (h : i < xs.length) : rd_T35 xs (i : Int) = xs[i] := by unfold rd_T35; simp [List.getD_eq_getElem?_getD, h]
theorem rd46 {xs : List S46} {i : Nat} (h : i < xs.length) : rd_T46 xs (i : Int) = xs[i] := by unfold rd_T46; simp [List.getD_eq_getElem?_getD, h]
theorem rv_of {w : World} {A : Option Addr} {n : Nat} {xs : List S35} (h : Kd.C k35 w A n xs) (hs : ∀ x ∈ xs, x.f1.size ≤ 100) (hl : xs.length ≤ 1000) : B.RV w A (xs.map tV) := by
  have hn : xs.length = n := h.1
  refine ⟨by simp; omega, fun h0 => ?_⟩
  simp only [List.length_map] at h0
  obtain ⟨ad, rfl, _⟩ := at_T35 h 0 (by omega) (by omega)
  refine ⟨ad, rfl, fun i hi => ?_⟩
  simp only [List.length_map] at hi
  obtain ⟨ad', e, g0, g1, g2⟩ := at_T35 h (i : Int) (by omega) (by omega)
  injection e with e
  subst e
  rw [rd35 hi] at g0 g1 g2
  simp only [Int.toNat_natCast] at g0 g1 g2
  rw [List.getElem_map]
  exact ⟨g0, g1, g2, by have := hs _ (List.getElem_mem hi); simp only [tV]; omega⟩
theorem rs_of {w : World} {A : Option Addr} {n : Nat} {xs : List ByteArray} (h : Kd.C Kd.string w A n xs) (hl : xs.length ≤ 1000) : B.RS w A xs := by
  have hn : xs.length = n := h.1
  refine ⟨by omega, fun h0 => ?_⟩
  obtain ⟨ad, c, e, _⟩ := Kd.C_get h (⟨#[]⟩ : ByteArray) 0 (by omega) (by omega)
  refine ⟨ad, e, fun i hi => ?_⟩
  obtain ⟨ad', c', e', _, hK, hc⟩ := Kd.C_get h (⟨#[]⟩ : ByteArray) (i : Int) (by omega) (by omega)
  rw [e] at e'
  injection e' with e'
  subst e'
  have hK' : c' = [.string (xs.getD (i : Int).toNat (⟨#[]⟩ : ByteArray))] := hK
  subst hK'
  have := hc 0 _ rfl
  rw [show (xs.getD (i : Int).toNat (⟨#[]⟩ : ByteArray)) = xs[i] by simp [List.getD_eq_getElem?_getD, hi]] at this
  simpa [show (Kd.string).sz = 1 from rfl] using this
theorem oB_facts {o : S46} (h : oB o = true) : o.f1.size ≤ 100 ∧ o.f3.length ≤ 40 ∧ o.f4.length ≤ 40 ∧ o.f5.length ≤ 40 ∧ o.f6.length ≤ 40 ∧ (∀ x ∈ o.f3, x.f1.size ≤ 5) ∧ (∀ x ∈ o.f4, x.f1.size ≤ 5) ∧ (∀ x ∈ o.f6, x.f1.size ≤ 5) ∧ ∀ s ∈ o.f5, s ∈ nm4 := by
  unfold oB at h
  simp only [Bool.and_eq_true, decide_eq_true_eq, List.all_eq_true, List.any_eq_true, beq_iff_eq] at h
  obtain ⟨⟨⟨⟨⟨⟨⟨⟨a1, a2⟩, a3⟩, a4⟩, a5⟩, a6⟩, a7⟩, a8⟩, a9⟩ := h
  refine ⟨a1, a2, a3, a4, a5, a6, a7, a8, fun s hs => ?_⟩
  obtain ⟨y, hy, e⟩ := a9 s hs
  have : y = s := by
    cases y; cases s
    simpa [ByteArray.toList_eq] using e
  exact this ▸ hy
theorem nm4_small : ∀ s ∈ nm4, s.size ≤ 100 := by decide +kernel
theorem ro_of {w : World} {A : Option Addr} {n : Nat} {l : List S46} (h : Kd.C k46 w A n l) (hs : ∀ o ∈ l, oB o = true) (hl : l.length ≤ 1000) : B.RO w A (l.map tO) := by
  have hn : l.length = n := h.1
  refine ⟨by simp; omega, fun h0 => ?_⟩
  simp only [List.length_map] at h0
  obtain ⟨ad, _, _, _, _, _, _, _, _, rfl, _⟩ := at_T46 h 0 (by omega) (by omega)
  refine ⟨ad, rfl, fun i hi => ?_⟩
  simp only [List.length_map] at hi
  obtain ⟨ad', A3, c3, A4, c4, A5, c5, A6, c6, e, g0, g1, g2, g3, g4, g5, g6, l3, r3, l4, r4, l5, r5, l6, r6⟩ := at_T46 h (i : Int) (by omega) (by omega)
  injection e with e
  subst e
  rw [rd46 hi] at g0 g1 g2 g3 g4 g5 g6 l3 r3 l4 r4 l5 r5 l6 r6
  simp only [Int.toNat_natCast] at g0 g1 g2 g3 g4 g5 g6
  obtain ⟨a1, a2, a3, a4, a5, a6, a7, a8, a9⟩ := oB_facts (hs _ (List.getElem_mem hi))
  have q5 := rs_of r5 (by omega)
  rw [List.getElem_map]
  refine ⟨A3, c3, A4, c4, A5, c5, A6, c6, g0, g1, g2, ?_, ?_, g5, ?_, ?_, rv_of r3 (fun x hx => Nat.le_trans (a6 x hx) (by decide)) (by omega), ?_, rv_of r4 (fun x hx => Nat.le_trans (a7 x hx) (by decide)) (by omega), l5, q5, ?_, rv_of r6 (fun x hx => Nat.le_trans (a8 x hx) (by decide)) (by omega), ?_, fun s hs => ?_⟩
  · simpa [tO] using g3
  · simpa [tO] using g4
  · simpa [tO] using g6
  · simpa [tO] using l3
  · simpa [tO] using l4
  · simpa [tO] using l6
  · simp only [tO]; omega
  · have := nm4_small s (a9 s hs); omega
theorem names_ok : ∀ s ∈ nm4, B.nameB s = true := by decide +kernel
theorem allN_congr {p q : Nat → Bool} : ∀ (n : Nat), (∀ k, k < n → p k = q k) → B.allN p n = B.allN q n
  | 0, _ => rfl
  | n + 1, h => by rw [B.allN, B.allN, allN_congr n fun k hk => h k (by omega), h n (by omega)]
theorem ns_qs {ns : List ByteArray} (h : ∀ s ∈ ns, s ∈ nm4) : B.qS ns = B.nsOk ns := by
  unfold B.qS B.nsOk
  refine allN_congr _ fun k hk => ?_
  have : ns.getD k ⟨#[]⟩ ∈ nm4 := h _ (by simp [List.getD_eq_getElem?_getD, hk])
  rw [names_ok _ this, Bool.true_and]
theorem obj_same {o : S46} (n : Nat) (h : oB o = true) : B.objB B.qS n (tO o) = B.objB B.nsOk n (tO o) := by
  unfold B.objB
  rw [ns_qs (ns := (tO o).ns) (oB_facts h).2.2.2.2.2.2.2.2]
theorem all_same {l : List S46} (h : ∀ o ∈ l, oB o = true) (n : Nat) : (l.map tO).all (B.objB B.qS n) = (l.map tO).all (B.objB B.nsOk n) := by
  induction l with
  | nil => rfl
  | cons o l ih =>
    simp only [List.map_cons, List.all_cons]
    rw [obj_same n (h o (by simp)), ih fun o ho => h o (by simp [ho])]
end Go.Proofs.Ytgddblpgbkgpcaa.PR
namespace Go.Proofs.Ytgddblpgbkgpcaa.PR
set_option linter.unusedVariables false
set_option linter.unusedSimpArgs false
open Go.RowKit Go.Proofs.YtgddblpgbkgpcaaW.PrintWords Go.Proofs.YtgddblpgbkgpcaaW.PrintLast Go.Proofs.YtgddblpgbkgpcaaW.PrintMore
set_option linter.unusedVariables false
set_option linter.unusedSimpArgs false
theorem sameTexts_l0 (l : List ByteArray) (hl : l.length ≤ 1000000) : ∀ (d j : Nat), l.length = j + d → spec_sameTexts.l0 (d + 1) l l (j : Int) = some true
  | 0, j, h => by rw [spec_sameTexts.l0, if_neg (by omega)]
  | d + 1, j, h => by
    rw [spec_sameTexts.l0, if_pos (by omega), if_pos (by omega), if_pos (by omega), if_pos rfl, show wrap64 ((j : Int) + 1) = ((j + 1 : Nat) : Int) by unfold wrap64; omega]
    exact sameTexts_l0 l hl d (j + 1) (by omega)
theorem val_at {w : World} {A : Option Addr} {n : Nat} {l : List S35} (h : Kd.C k35 w A n l) (i : Nat) (hi : i < n) :
    ∃ (ad : Addr) (x : S35), A = some ad ∧ l[i]? = some x ∧ w.cell? (ad.add (i * 3)) = some (.int .i64 x.f0) ∧ w.cell? ⟨(ad.add (i * 3)).block, (ad.add (i * 3)).off + 1, none⟩ = some (.string x.f1) ∧ w.cell? ⟨(ad.add (i * 3)).block, (ad.add (i * 3)).off + 2, none⟩ = some (.int .i64 x.f2) := by
  obtain ⟨ad, e, h0, h1, h2⟩ := at_T35 h (i : Int) (by omega) (by omega)
  have hl := h.1
  have hil : i < l.length := by omega
  rw [rd35 hil] at h0 h1 h2
  exact ⟨ad, l[i], e, by simp [hil], h0, h1, h2⟩
set_option maxHeartbeats 4000000 in
theorem sameVals_n {W : World} {A A' : Option Addr} {n c c' : Nat} {l : List S35} (h : Kd.C k35 W A n l) (h' : Kd.C k35 W A' n l) (hl : n ≤ 1000000) :
    Calls Try.prog 69 #[.slice A n c, .slice A' n c'] W fun e w' => e = .returned (.bool true) ∧ Below W.heap.size W w' := by
  have H := Aside0.mk h
  have H' := Aside0.mk h'
  clear h h'
  go_enter Try.func69, Try.ntmps69
  go_wp2_with fail
  go_loopw [5] (fun u5 wr => ∃ k : Nat, u5 = .int .i64 k ∧ k ≤ n ∧ Aside0 (Below W.heap.size W wr)) (fun u5 _ => n - (intOf u5).toNat)
  case atStart => exact ⟨0, rfl, Nat.zero_le _, ⟨Below.refl _ _⟩⟩
  case round =>
    obtain ⟨k, rfl, hkn, HQ⟩ := hrel
    by_cases hk : k < n
    · obtain ⟨ad, x, rfl, hx, a0, a1, a2⟩ := val_at (Kd.C_below H.out HQ.out) k hk
      obtain ⟨ad', y, rfl, hy, b0, b1, b2⟩ := val_at (Kd.C_below H'.out HQ.out) k hk
      rw [hx] at hy
      injection hy with hy
      subst hy
      clear hx
      go_wp2_with fail
      go_region
      go_wp2_with fail
      go_roundw
      case rel => exact ⟨k + 1, by go_num, hk, ⟨below_drew HQ.out⟩⟩
      case measure => simp [intOf]; omega
    · go_wp2_with fail
      go_ret
      exact ⟨rfl, HQ.out⟩
theorem sameVals_c {W : World} {A A' : Option Addr} {c c' : Nat} {l : List S35} (h : Kd.C k35 W A l.length l) (_hc : l.length ≤ c) (h' : Kd.C k35 W A' l.length l) (_hc' : l.length ≤ c') (hl : l.length ≤ 1000000) :
    Calls Try.prog 69 #[.slice A l.length c, .slice A' l.length c'] W fun e w' => e = .returned (.bool true) ∧ Below W.heap.size W w' := sameVals_n h h' hl
theorem sameTexts_c {W : World} {A A' : Option Addr} {c c' : Nat} {l : List ByteArray} (h : Kd.C Kd.string W A l.length l) (hc : l.length ≤ c) (h' : Kd.C Kd.string W A' l.length l) (hc' : l.length ≤ c') (hl : l.length ≤ 1000000) :
    Calls Try.prog 70 #[.slice A l.length c, .slice A' l.length c'] W fun e w' => e = .returned (.bool true) ∧ Below W.heap.size W w' := by
  refine (spec_sameTexts.calls (l.length + 1) A c l A' c' l true W h hc h' hc' ?_).mono ?_
  · unfold spec_sameTexts.f
    rw [if_pos rfl]
    exact sameTexts_l0 l hl l.length 0 (by omega)
  · rintro e w' ⟨rfl, hd⟩
    exact ⟨rfl, hd.below⟩
def Rows4 (w : World) (x : S46) (A3 : Option Addr) (c3 : Nat) (A4 : Option Addr) (c4 : Nat) (A5 : Option Addr) (c5 : Nat) (A6 : Option Addr) (c6 : Nat) : Prop :=
  (x.f3.length ≤ c3 ∧ Kd.C k35 w A3 x.f3.length x.f3) ∧ (x.f4.length ≤ c4 ∧ Kd.C k35 w A4 x.f4.length x.f4) ∧ (x.f5.length ≤ c5 ∧ Kd.C Kd.string w A5 x.f5.length x.f5) ∧ (x.f6.length ≤ c6 ∧ Kd.C k35 w A6 x.f6.length x.f6)
theorem Rows4.below {w w1 : World} {x : S46} {A3 : Option Addr} {c3 : Nat} {A4 : Option Addr} {c4 : Nat} {A5 : Option Addr} {c5 : Nat} {A6 : Option Addr} {c6 : Nat} (h : Rows4 w x A3 c3 A4 c4 A5 c5 A6 c6) (hb : Below w.heap.size w w1) : Rows4 w1 x A3 c3 A4 c4 A5 c5 A6 c6 :=
  ⟨⟨h.1.1, Kd.C_below h.1.2 hb⟩, ⟨h.2.1.1, Kd.C_below h.2.1.2 hb⟩, ⟨h.2.2.1.1, Kd.C_below h.2.2.1.2 hb⟩, ⟨h.2.2.2.1, Kd.C_below h.2.2.2.2 hb⟩⟩
set_option maxRecDepth 100000 in
set_option maxHeartbeats 40000000 in
theorem sameObj_w (x : S46) (A3 : Option Addr) (c3 : Nat) (A4 : Option Addr) (c4 : Nat) (A5 : Option Addr) (c5 : Nat) (A6 : Option Addr) (c6 : Nat) (B3 : Option Addr) (d3 : Nat) (B4 : Option Addr) (d4 : Nat) (B5 : Option Addr) (d5 : Nat) (B6 : Option Addr) (d6 : Nat) (w : World)
    (ha : Rows4 w x A3 c3 A4 c4 A5 c5 A6 c6) (hb : Rows4 w x B3 d3 B4 d4 B5 d5 B6 d6) (ho : oL x) :
    Calls Try.prog 29 #[.agg #[.int .i64 x.f0, .string x.f1, .int .i64 x.f2, .slice A3 x.f3.length c3, .slice A4 x.f4.length c4, .slice A5 x.f5.length c5, .slice A6 x.f6.length c6], .agg #[.int .i64 x.f0, .string x.f1, .int .i64 x.f2, .slice B3 x.f3.length d3, .slice B4 x.f4.length d4, .slice B5 x.f5.length d5, .slice B6 x.f6.length d6]] w fun e w' => e = .returned (.bool true) ∧ Below w.heap.size w w' := by
  obtain ⟨Wb, hWb⟩ : ∃ Wb : World, Wb = (w.alloc (.cells #[.int .i64 x.f0, .string x.f1, .int .i64 x.f2, .slice A3 x.f3.length c3, .slice A4 x.f4.length c4, .slice A5 x.f5.length c5, .slice A6 x.f6.length c6] 46)).alloc (.cells #[.int .i64 x.f0, .string x.f1, .int .i64 x.f2, .slice B3 x.f3.length d3, .slice B4 x.f4.length d4, .slice B5 x.f5.length d5, .slice B6 x.f6.length d6] 46) := ⟨_, rfl⟩
  have hwb : Below w.heap.size w Wb := by rw [hWb]; exact bla (bla (Below.refl _ _) _) _
  have hbk : Wb.heap[w.heap.size]? = some (.cells #[.int .i64 x.f0, .string x.f1, .int .i64 x.f2, .slice A3 x.f3.length c3, .slice A4 x.f4.length c4, .slice A5 x.f5.length c5, .slice A6 x.f6.length c6] 46 (0, 0)) ∧ Wb.heap[w.heap.size + 1]? = some (.cells #[.int .i64 x.f0, .string x.f1, .int .i64 x.f2, .slice B3 x.f3.length d3, .slice B4 x.f4.length d4, .slice B5 x.f5.length d5, .slice B6 x.f6.length d6] 46 (0, 0)) := by
    rw [hWb]
    refine ⟨kla (blk_new _ _) _, ?_⟩
    have h := blk_new (w.alloc (.cells #[.int .i64 x.f0, .string x.f1, .int .i64 x.f2, .slice A3 x.f3.length c3, .slice A4 x.f4.length c4, .slice A5 x.f5.length c5, .slice A6 x.f6.length c6] 46)) (.cells #[.int .i64 x.f0, .string x.f1, .int .i64 x.f2, .slice B3 x.f3.length d3, .slice B4 x.f4.length d4, .slice B5 x.f5.length d5, .slice B6 x.f6.length d6] 46)
    rw [show (w.alloc (.cells #[.int .i64 x.f0, .string x.f1, .int .i64 x.f2, .slice A3 x.f3.length c3, .slice A4 x.f4.length c4, .slice A5 x.f5.length c5, .slice A6 x.f6.length c6] 46)).heap.size = w.heap.size + 1 by simp] at h
    exact h
  have K0 := Aside0.mk ((kcl hbk.1 0).trans (show _ = some (.int .i64 x.f0) from rfl))
  have J0 := Aside0.mk ((kcl hbk.2 0).trans (show _ = some (.int .i64 x.f0) from rfl))
  have K1 := Aside0.mk ((kcl hbk.1 1).trans (show _ = some (.string x.f1) from rfl))
  have J1 := Aside0.mk ((kcl hbk.2 1).trans (show _ = some (.string x.f1) from rfl))
  have K2 := Aside0.mk ((kcl hbk.1 2).trans (show _ = some (.int .i64 x.f2) from rfl))
  have J2 := Aside0.mk ((kcl hbk.2 2).trans (show _ = some (.int .i64 x.f2) from rfl))
  have K3 := Aside0.mk ((kcl hbk.1 3).trans (show _ = some (.slice A3 x.f3.length c3) from rfl))
  have J3 := Aside0.mk ((kcl hbk.2 3).trans (show _ = some (.slice B3 x.f3.length d3) from rfl))
  have K4 := Aside0.mk ((kcl hbk.1 4).trans (show _ = some (.slice A4 x.f4.length c4) from rfl))
  have J4 := Aside0.mk ((kcl hbk.2 4).trans (show _ = some (.slice B4 x.f4.length d4) from rfl))
  have K5 := Aside0.mk ((kcl hbk.1 5).trans (show _ = some (.slice A5 x.f5.length c5) from rfl))
  have J5 := Aside0.mk ((kcl hbk.2 5).trans (show _ = some (.slice B5 x.f5.length d5) from rfl))
  have K6 := Aside0.mk ((kcl hbk.1 6).trans (show _ = some (.slice A6 x.f6.length c6) from rfl))
  have J6 := Aside0.mk ((kcl hbk.2 6).trans (show _ = some (.slice B6 x.f6.length d6) from rfl))
  have ha' := ha.below hwb
  have hb' := hb.below hwb
  have P3 := Aside0.mk ha'.1.2
  have P4 := Aside0.mk ha'.2.1.2
  have P5 := Aside0.mk ha'.2.2.1.2
  have P6 := Aside0.mk ha'.2.2.2.2
  have R3 := Aside0.mk hb'.1.2
  have R4 := Aside0.mk hb'.2.1.2
  have R5 := Aside0.mk hb'.2.2.1.2
  have R6 := Aside0.mk hb'.2.2.2.2
  have P3c := Aside0.mk ha'.1.1
  have P4c := Aside0.mk ha'.2.1.1
  have P5c := Aside0.mk ha'.2.2.1.1
  have P6c := Aside0.mk ha'.2.2.2.1
  have R3c := Aside0.mk hb'.1.1
  have R4c := Aside0.mk hb'.2.1.1
  have R5c := Aside0.mk hb'.2.2.1.1
  have R6c := Aside0.mk hb'.2.2.2.1
  obtain ⟨o3, o4, o5, o6⟩ := ho
  have L3 := Aside0.mk (show x.f3.length ≤ 1000000 by omega)
  have L4 := Aside0.mk (show x.f4.length ≤ 1000000 by omega)
  have L5 := Aside0.mk (show x.f5.length ≤ 1000000 by omega)
  have L6 := Aside0.mk (show x.f6.length ≤ 1000000 by omega)
  have HWB := Aside0.mk hwb
  have HW := Lib.hid hWb
  clear ha hb ha' hb' o3 o4 o5 o6 hwb hWb hbk
  go_enter Try.func29, Try.ntmps29
  go_upto_region 1 with (fail)
  rw [← HW.out]
  have hq2 : Below Wb.heap.size Wb Wb := Below.refl _ _
  have k02 := K0.out
  have j02 := J0.out
  have k12 := K1.out
  have j12 := J1.out
  have k22 := K2.out
  have j22 := J2.out
  have k32 := K3.out
  have j32 := J3.out
  have k42 := K4.out
  have j42 := J4.out
  have k52 := K5.out
  have j52 := J5.out
  have k62 := K6.out
  have j62 := J6.out
  go_wp2_with fail
  refine (sameVals_c (Kd.C_below P3.out hq2) P3c.out (Kd.C_below R3.out hq2) R3c.out L3.out).mono ?_
  rintro e y3 ⟨rfl, hb3⟩
  have hq3 := bth hq2 hq2.size hb3
  have k43 := B.cell_keep hq3 K4.out
  have j43 := B.cell_keep hq3 J4.out
  have k53 := B.cell_keep hq3 K5.out
  have j53 := B.cell_keep hq3 J5.out
  have k63 := B.cell_keep hq3 K6.out
  have j63 := B.cell_keep hq3 J6.out
  clear hb3 hq2 k02 j02 k12 j12 k22 j22 k32 j32 k42 j42 k52 j52 k62 j62
  go_wp2_with fail
  refine (sameVals_c (Kd.C_below P4.out hq3) P4c.out (Kd.C_below R4.out hq3) R4c.out L4.out).mono ?_
  rintro e y4 ⟨rfl, hb4⟩
  have hq4 := bth hq3 hq3.size hb4
  have k54 := B.cell_keep hq4 K5.out
  have j54 := B.cell_keep hq4 J5.out
  have k64 := B.cell_keep hq4 K6.out
  have j64 := B.cell_keep hq4 J6.out
  clear hb4 hq3 k43 j43 k53 j53 k63 j63
  go_wp2_with fail
  refine (sameTexts_c (Kd.C_below P5.out hq4) P5c.out (Kd.C_below R5.out hq4) R5c.out L5.out).mono ?_
  rintro e y5 ⟨rfl, hb5⟩
  have hq5 := bth hq4 hq4.size hb5
  have k65 := B.cell_keep hq5 K6.out
  have j65 := B.cell_keep hq5 J6.out
  clear hb5 hq4 k54 j54 k64 j64
  go_wp2_with fail
  refine (sameVals_c (Kd.C_below P6.out hq5) P6c.out (Kd.C_below R6.out hq5) R6c.out L6.out).mono ?_
  rintro e y6 ⟨rfl, hb6⟩
  have hq6 := bth hq5 hq5.size hb6
  clear hb6 hq5 k65 j65
  go_wp2_with fail
  go_ret
  exact ⟨rfl, bst HWB.out hq6⟩
end Go.Proofs.Ytgddblpgbkgpcaa.PR
namespace Go.Proofs.Ytgddblpgbkgpcaa.PR
set_option linter.unusedVariables false
set_option linter.unusedSimpArgs false
open Go.RowKit Go.Proofs.YtgddblpgbkgpcaaW.PrintWords Go.Proofs.YtgddblpgbkgpcaaW.PrintLast Go.Proofs.YtgddblpgbkgpcaaW.PrintMore
set_option linter.unusedVariables false
set_option linter.unusedSimpArgs false
def Ix (l : List S35) (x : S35) (r : Int) : Prop := (r = -1 ∧ x ∉ l) ∨ ∃ k : Nat, r = k ∧ l[k]? = some x ∧ ∀ j, j < k → l[j]? ≠ some x
theorem ix_ex (l : List S35) (x : S35) : ∃ r, Ix l x r := by
  classical
  induction l with
  | nil => exact ⟨-1, .inl ⟨rfl, by simp⟩⟩
  | cons a l ih =>
    by_cases ha : a = x
    · exact ⟨((0 : Nat) : Int), .inr ⟨0, rfl, by simp [ha], fun j hj => by omega⟩⟩
    · obtain ⟨r, ⟨rfl, h⟩ | ⟨k, rfl, hk, hj⟩⟩ := ih
      · exact ⟨-1, .inl ⟨rfl, by simp only [List.mem_cons, not_or]; exact ⟨fun e => ha e.symm, h⟩⟩⟩
      · refine ⟨((k + 1 : Nat) : Int), .inr ⟨k + 1, rfl, by simpa using hk, fun j hj' => ?_⟩⟩
        rcases j with _ | j
        · simpa using ha
        · simpa using hj j (by omega)
theorem toList_ne {a b : ByteArray} (h : ¬ a = b) : ¬ a.toList = b.toList := by
  intro e
  rw [Lib.toList_data, Lib.toList_data] at e
  apply h
  obtain ⟨a⟩ := a
  obtain ⟨b⟩ := b
  have : a = b := Array.ext' e
  rw [this]
theorem ix_at {l : List S35} {x : S35} {r : Int} (h : Ix l x r) {k : Nat} (hk : l[k]? = some x) (hr : r = -1 ∨ (k : Int) ≤ r) : r = k := by
  rcases h with ⟨rfl, h⟩ | ⟨m, rfl, hm, hj⟩
  · exact absurd (List.mem_of_getElem? hk) h
  · rcases hr with hr | hr
    · omega
    · rcases Nat.lt_or_ge k m with h | h
      · exact absurd hk (hj k h)
      · omega
theorem ix_next {l : List S35} {x y : S35} {r : Int} (h : Ix l x r) {k : Nat} (hk : l[k]? = some y) (hn : x ≠ y) (hr : r = -1 ∨ (k : Int) ≤ r) : r = -1 ∨ ((k + 1 : Nat) : Int) ≤ r := by
  rcases h with ⟨rfl, h⟩ | ⟨m, rfl, hm, hj⟩
  · exact .inl rfl
  · refine .inr ?_
    have : k ≠ m := by rintro rfl; rw [hm] at hk; exact hn (Option.some.inj hk)
    omega
theorem ix_end {l : List S35} {x : S35} {r : Int} (h : Ix l x r) (hr : r = -1 ∨ (l.length : Int) ≤ r) : r = -1 := by
  rcases h with ⟨rfl, h⟩ | ⟨m, rfl, hm, hj⟩
  · rfl
  · have := (List.getElem?_eq_some_iff.1 hm).1
    omega
theorem s35_ne {x y : S35} (h : x ≠ y) : ¬ x.f0 = y.f0 ∨ (x.f0 = y.f0 ∧ ¬ x.f1 = y.f1) ∨ (x.f0 = y.f0 ∧ x.f1 = y.f1 ∧ ¬ x.f2 = y.f2) := by
  obtain ⟨a, b, c⟩ := x
  obtain ⟨a', b', c'⟩ := y
  by_cases h0 : a = a'
  · by_cases h1 : b = b'
    · refine .inr (.inr ⟨h0, h1, fun h2 => h ?_⟩)
      simp only at h2
      rw [h0, h1, h2]
    · exact .inr (.inl ⟨h0, h1⟩)
  · exact .inl h0
def IxPost (w : World) (r : Int) (e : Ending) (w' : World) : Prop := e = .returned (.int .i64 r) ∧ Below w.heap.size w w'
set_option maxRecDepth 100000 in
set_option maxHeartbeats 4000000 in
theorem index_w (A : Option Addr) (n c : Nat) (l : List S35) (x : S35) (r : Int) (w : World) (h : Kd.C k35 w A n l) (hn : n ≤ 1000000) (hx : Ix l x r) :
    Calls Try.prog 118 #[.slice A n c, .agg #[.int .i64 x.f0, .string x.f1, .int .i64 x.f2]] w (IxPost w r) := by
  obtain ⟨W, hW⟩ : ∃ W : World, W = w.alloc (.cells #[.int .i64 x.f0, .string x.f1, .int .i64 x.f2] 35) := ⟨_, rfl⟩
  have hwb : Below w.heap.size w W := by rw [hW]; exact bla (Below.refl _ _) _
  have HB0 := Aside0.mk (show W.heap[w.heap.size]? = some (.cells #[.int .i64 x.f0, .string x.f1, .int .i64 x.f2] 35 (0, 0)) by rw [hW]; exact blk_new _ _)
  have H := Aside0.mk (Kd.C_below h hwb)
  have HL := Aside0.mk h.1
  have HX := Aside0.mk hx
  have HWB := Aside0.mk hwb
  have HW := Lib.hid hW
  clear hW hwb h hx
  go_enter Try.func118, Try.ntmps118
  go_upto_region 1 with (fail)
  rw [← HW.out]
  go_wp2_with fail
  go_loopw [5, 8] (fun u5 u8 wr => ∃ k : Nat, u8 = .int .i64 k ∧ k ≤ n ∧ (r = -1 ∨ (k : Int) ≤ r) ∧ Aside0 (Below w.heap.size w wr ∧ Below W.heap.size W wr)) (fun _ u8 _ => n - (intOf u8).toNat)
  case atStart => exact ⟨0, rfl, Nat.zero_le _, by rcases HX.out with h | ⟨m, rfl, -⟩; exact .inl h.1; exact .inr (by omega), ⟨HWB.out, Below.refl _ _⟩⟩
  case round =>
    obtain ⟨k, rfl, hkn, hrk, HQ⟩ := hrel
    have HRK := Aside0.mk hrk
    clear hrk
    by_cases hk : k < n
    · obtain ⟨ad, y, rfl, hy, a0, a1, a2⟩ := val_at (Kd.C_below H.out HQ.out.2) k hk
      have hbx := kbw HB0.out HQ.out.2
      have k0 := (kcl hbx 0).trans (show _ = some (.int .i64 x.f0) from rfl)
      have k1 := (kcl hbx 1).trans (show _ = some (.string x.f1) from rfl)
      have k2 := (kcl hbx 2).trans (show _ = some (.int .i64 x.f2) from rfl)
      clear hbx
      by_cases hxy : x = y
      · subst hxy
        obtain rfl := ix_at HX.out hy HRK.out
        clear hy
        go_wp2_with fail
        go_region
        go_wp2_with fail
        go_ret
        exact ⟨rfl, below_drew HQ.out.1⟩
      · have HNX := Aside0.mk (ix_next HX.out hy hxy HRK.out)
        have hne := s35_ne hxy
        clear hy hxy
        rcases hne with hd | ⟨hd, hd1⟩ | ⟨hd, hd1, hd2⟩
        · have g0 : (x.f0 == y.f0) = false := by simp only [beq_eq_false_iff_ne]; exact fun e => hd e
          clear hd
          go_wp2_with fail
          go_region
          go_wp2_with fail
          go_roundw
          case rel => exact ⟨k + 1, by go_num, hk, HNX.out, ⟨below_drew HQ.out.1, below_drew HQ.out.2⟩⟩
          case measure => simp [intOf]; omega
        · rw [← hd] at a0
          have g1 := toList_ne (fun e : x.f1 = y.f1 => hd1 e)
          clear hd hd1
          go_wp2_with fail
          go_region
          go_wp2_with fail
          go_roundw
          case rel => exact ⟨k + 1, by go_num, hk, HNX.out, ⟨below_drew HQ.out.1, below_drew HQ.out.2⟩⟩
          case measure => simp [intOf]; omega
        · rw [← hd] at a0
          rw [← hd1] at a1
          have g2 : (x.f2 == y.f2) = false := by simp only [beq_eq_false_iff_ne]; exact fun e => hd2 e
          clear hd hd1 hd2
          go_wp2_with fail
          go_region
          go_wp2_with fail
          go_roundw
          case rel => exact ⟨k + 1, by go_num, hk, HNX.out, ⟨below_drew HQ.out.1, below_drew HQ.out.2⟩⟩
          case measure => simp [intOf]; omega
    · obtain rfl : k = n := by omega
      have hr1 : r = -1 := ix_end HX.out (by have := HL.out; have := HRK.out; omega)
      subst hr1
      go_wp2_with fail
      go_ret
      exact ⟨rfl, HQ.out.1⟩
set_option maxRecDepth 100000 in
set_option maxHeartbeats 4000000 in
theorem keyAtV_w (A : Option Addr) (n c : Nat) (l : List S35) (x : S35) (r : Int) (w : World) (h : Kd.C k35 w A n l) (hn : n ≤ 1000000) (hx : Ix l x r) :
    Calls Try.prog 89 #[.slice A n c, .agg #[.int .i64 x.f0, .string x.f1, .int .i64 x.f2]] w (IxPost w r) := by
  obtain ⟨W, hW⟩ : ∃ W : World, W = w.alloc (.cells #[.int .i64 x.f0, .string x.f1, .int .i64 x.f2] 35) := ⟨_, rfl⟩
  have hwb : Below w.heap.size w W := by rw [hW]; exact bla (Below.refl _ _) _
  have HB0 := Aside0.mk (show W.heap[w.heap.size]? = some (.cells #[.int .i64 x.f0, .string x.f1, .int .i64 x.f2] 35 (0, 0)) by rw [hW]; exact blk_new _ _)
  have H := Aside0.mk (Kd.C_below h hwb)
  have HL := Aside0.mk h.1
  have HX := Aside0.mk hx
  have HWB := Aside0.mk hwb
  have HW := Lib.hid hW
  clear hW hwb h hx
  go_enter Try.func89, Try.ntmps89
  go_upto_region 1 with (fail)
  rw [← HW.out]
  go_wp2_with fail
  go_loopw [5] (fun u5 wr => ∃ k : Nat, u5 = .int .i64 k ∧ k ≤ n ∧ (r = -1 ∨ (k : Int) ≤ r) ∧ Aside0 (Below w.heap.size w wr ∧ Below W.heap.size W wr)) (fun u5 _ => n - (intOf u5).toNat)
  case atStart => exact ⟨0, rfl, Nat.zero_le _, by rcases HX.out with h | ⟨m, rfl, -⟩; exact .inl h.1; exact .inr (by omega), ⟨HWB.out, Below.refl _ _⟩⟩
  case round =>
    obtain ⟨k, rfl, hkn, hrk, HQ⟩ := hrel
    have HRK := Aside0.mk hrk
    clear hrk
    by_cases hk : k < n
    · obtain ⟨ad, y, rfl, hy, a0, a1, a2⟩ := val_at (Kd.C_below H.out HQ.out.2) k hk
      have hbx := kbw HB0.out HQ.out.2
      have k0 := (kcl hbx 0).trans (show _ = some (.int .i64 x.f0) from rfl)
      have k1 := (kcl hbx 1).trans (show _ = some (.string x.f1) from rfl)
      have k2 := (kcl hbx 2).trans (show _ = some (.int .i64 x.f2) from rfl)
      clear hbx
      by_cases hxy : x = y
      · subst hxy
        obtain rfl := ix_at HX.out hy HRK.out
        clear hy
        go_wp2_with fail
        go_region
        go_wp2_with fail
        go_ret
        exact ⟨rfl, below_drew HQ.out.1⟩
      · have HNX := Aside0.mk (ix_next HX.out hy hxy HRK.out)
        have hne := s35_ne hxy
        clear hy hxy
        rcases hne with hd | ⟨hd, hd1⟩ | ⟨hd, hd1, hd2⟩
        · have g0 : (y.f0 == x.f0) = false := by simp only [beq_eq_false_iff_ne]; exact fun e => hd e.symm
          clear hd
          go_wp2_with fail
          go_region
          go_wp2_with fail
          go_roundw
          case rel => exact ⟨k + 1, by go_num, hk, HNX.out, ⟨below_drew HQ.out.1, below_drew HQ.out.2⟩⟩
          case measure => simp [intOf]; omega
        · rw [← hd] at a0
          have g1 := toList_ne (fun e : y.f1 = x.f1 => hd1 e.symm)
          clear hd hd1
          go_wp2_with fail
          go_region
          go_wp2_with fail
          go_roundw
          case rel => exact ⟨k + 1, by go_num, hk, HNX.out, ⟨below_drew HQ.out.1, below_drew HQ.out.2⟩⟩
          case measure => simp [intOf]; omega
        · rw [← hd] at a0
          rw [← hd1] at a1
          have g2 : (y.f2 == x.f2) = false := by simp only [beq_eq_false_iff_ne]; exact fun e => hd2 e.symm
          clear hd hd1 hd2
          go_wp2_with fail
          go_region
          go_wp2_with fail
          go_roundw
          case rel => exact ⟨k + 1, by go_num, hk, HNX.out, ⟨below_drew HQ.out.1, below_drew HQ.out.2⟩⟩
          case measure => simp [intOf]; omega
    · obtain rfl : k = n := by omega
      have hr1 : r = -1 := ix_end HX.out (by have := HL.out; have := HRK.out; omega)
      subst hr1
      go_wp2_with fail
      go_ret
      exact ⟨rfl, HQ.out.1⟩
end Go.Proofs.Ytgddblpgbkgpcaa.PR
namespace Go.Proofs.Ytgddblpgbkgpcaa.PR
set_option linter.unusedVariables false
set_option linter.unusedSimpArgs false
open Go.RowKit Go.Proofs.YtgddblpgbkgpcaaW.PrintWords Go.Proofs.YtgddblpgbkgpcaaW.PrintLast Go.Proofs.YtgddblpgbkgpcaaW.PrintMore
set_option linter.unusedVariables false
set_option linter.unusedSimpArgs false
def zV : S35 := ⟨0, ⟨#[]⟩, 0⟩
inductive Got (l : List S46) (v k : S35) : S35 → Int → Prop
  | te (i c : Int) : v.f0 = 3 → Plc k.f0 k.f1 v.f1.size i c → c ≠ -1 → Got l v k zV c
  | ti (j : Nat) : v.f0 = 3 → Plc k.f0 k.f1 v.f1.size j (-1) → j < v.f1.size → Got l v k ⟨3, v.f1.extract j (j + 1), 0⟩ (-1)
  | le (r : Nat) (o : S46) (i c : Int) : v.f0 = 4 → v.f2 = r → l[r]? = some o → o.f0 = 1 → Plc k.f0 k.f1 o.f3.length i c → c ≠ -1 → Got l v k zV c
  | li (r : Nat) (o : S46) (j : Nat) (y : S35) : v.f0 = 4 → v.f2 = r → l[r]? = some o → o.f0 = 1 → Plc k.f0 k.f1 o.f3.length j (-1) → o.f3[j]? = some y → Got l v k y (-1)
  | dr (r : Nat) (o : S46) : v.f0 = 4 → v.f2 = r → l[r]? = some o → o.f0 = 2 → k.f0 = 4 → Got l v k zV 1
  | dm (r : Nat) (o : S46) : v.f0 = 4 → v.f2 = r → l[r]? = some o → o.f0 = 2 → k.f0 ≠ 4 → Ix o.f4 k (-1) → Got l v k zV 5
  | df (r : Nat) (o : S46) (j : Nat) (y : S35) : v.f0 = 4 → v.f2 = r → l[r]? = some o → o.f0 = 2 → k.f0 ≠ 4 → Ix o.f4 k j → o.f3[j]? = some y → Got l v k y (-1)
  | xo (r : Nat) (o : S46) : v.f0 = 4 → v.f2 = r → l[r]? = some o → o.f0 ≠ 1 → o.f0 ≠ 2 → Got l v k zV 1
  | xv : v.f0 ≠ 3 → v.f0 ≠ 4 → Got l v k zV 1
theorem plc_in {k : Int} {t : ByteArray} {n i : Int} (h : Plc k t n i (-1)) : 0 ≤ i ∧ i < n := by
  rcases h with ⟨_, _, h⟩ | ⟨_, h, rfl, _⟩ | ⟨_, _, _, h⟩
  · omega
  · exact h
  · omega
theorem got_ex (l : List S46) (v k : S35) (hv : v.f0 = 4 → 0 ≤ v.f2 ∧ v.f2 < l.length) (hd : ∀ o ∈ l, o.f0 = 2 → o.f3.length = o.f4.length) : ∃ y c, Got l v k y c := by
  by_cases h3 : v.f0 = 3
  · obtain ⟨i, c, h⟩ := plc_ex k.f0 k.f1 v.f1.size
    by_cases hc : c = -1
    · subst hc
      obtain ⟨h1, h2⟩ := plc_in h
      obtain ⟨j, rfl⟩ : ∃ j : Nat, i = j := ⟨i.toNat, by omega⟩
      exact ⟨_, _, .ti j h3 h (by omega)⟩
    · exact ⟨_, _, .te i c h3 h hc⟩
  · by_cases h4 : v.f0 = 4
    · obtain ⟨h5, h6⟩ := hv h4
      obtain ⟨r, hr⟩ : ∃ r : Nat, v.f2 = r := ⟨v.f2.toNat, by omega⟩
      have hrl : r < l.length := by omega
      have ho : l[r]? = some l[r] := List.getElem?_eq_getElem hrl
      by_cases k1 : l[r].f0 = 1
      · obtain ⟨i, c, h⟩ := plc_ex k.f0 k.f1 l[r].f3.length
        by_cases hc : c = -1
        · subst hc
          obtain ⟨h1, h2⟩ := plc_in h
          obtain ⟨j, rfl⟩ : ∃ j : Nat, i = j := ⟨i.toNat, by omega⟩
          exact ⟨_, _, .li r _ j _ h4 hr ho k1 h (List.getElem?_eq_getElem (by omega))⟩
        · exact ⟨_, _, .le r _ i c h4 hr ho k1 h hc⟩
      · by_cases k2 : l[r].f0 = 2
        · by_cases hk : k.f0 = 4
          · exact ⟨_, _, .dr r _ h4 hr ho k2 hk⟩
          · obtain ⟨q, hq⟩ := ix_ex l[r].f4 k
            rcases hq with ⟨rfl, h⟩ | ⟨j, rfl, hj, h⟩
            · exact ⟨_, _, .dm r _ h4 hr ho k2 hk (.inl ⟨rfl, h⟩)⟩
            · have := (List.getElem?_eq_some_iff.1 hj).1
              have := hd _ (List.getElem_mem hrl) k2
              exact ⟨_, _, .df r _ j _ h4 hr ho k2 hk (.inr ⟨j, rfl, hj, h⟩) (List.getElem?_eq_getElem (by omega))⟩
        · exact ⟨_, _, .xo r _ h4 hr ho k1 k2⟩
    · exact ⟨_, _, .xv h3 h4⟩
def GPost (w : World) (y : S35) (c : Int) (e : Ending) (w' : World) : Prop := e = .returned (.tuple #[.agg #[.int .i64 y.f0, .string y.f1, .int .i64 y.f2], .int .i64 c]) ∧ Below w.heap.size w w'
theorem fin35 {fn : Func} {p u : Tmp} (h : fn.results = #[.cell p 35, .tmp u]) (tmps : Array Value) (X : World) (b : Nat) (z0 z1 z2 : Value) (hz : X.heap[b]? = some (.cells #[z0, z1, z2] 35 (0, 0))) (a0 a2 : Int) (a1 : ByteArray)
    (hp : tmps.getD p undef = .pointer (some ⟨b, 0, none⟩)) :
    (results fn tmps).run Try.prog (((X.setCell ⟨b, 0, none⟩ (.int .i64 a0)).setCell ⟨b, 1, none⟩ (.string a1)).setCell ⟨b, 2, none⟩ (.int .i64 a2)) = .ok (.tuple #[.agg #[.int .i64 a0, .string a1, .int .i64 a2], tmps.getD u undef]) (((X.setCell ⟨b, 0, none⟩ (.int .i64 a0)).setCell ⟨b, 1, none⟩ (.string a1)).setCell ⟨b, 2, none⟩ (.int .i64 a2)) := by
  have q0 : (X.setCell ⟨b, 0, none⟩ (.int .i64 a0)).heap[b]? = some (.cells #[.int .i64 a0, z1, z2] 35 (0, 0)) := blk_put hz 0 _ rfl
  have q1 : ((X.setCell ⟨b, 0, none⟩ (.int .i64 a0)).setCell ⟨b, 1, none⟩ (.string a1)).heap[b]? = some (.cells #[.int .i64 a0, .string a1, z2] 35 (0, 0)) := blk_put q0 1 _ rfl
  exact B.res_ct h _ _ b 35 _ (0, 0) _ hp (blk_put q1 2 (.int .i64 a2) rfl) Try.underlying35 rfl (by kernel_rfl)
theorem set35 {w X : World} {b : Nat} (h : Below w.heap.size w X) (hb : w.heap.size ≤ b) (x y z : Value) : Below w.heap.size w (((X.setCell ⟨b, 0, none⟩ x).setCell ⟨b, 1, none⟩ y).setCell ⟨b, 2, none⟩ z) := ((h.setCell hb _).setCell hb _).setCell hb _
structure Bx (w X : World) (b : Nat) (n c : Nat) (A : Option Addr) (v k : S35) : Prop where
  p0 : X.cell? ⟨b, 0, none⟩ = some (.slice A n c)
  v0 : X.cell? ⟨b + 1, 0, none⟩ = some (.int .i64 v.f0)
  v1 : X.cell? ⟨b + 1, 1, none⟩ = some (.string v.f1)
  v2 : X.cell? ⟨b + 1, 2, none⟩ = some (.int .i64 v.f2)
  k0 : X.cell? ⟨b + 1 + 1, 0, none⟩ = some (.int .i64 k.f0)
  k1 : X.cell? ⟨b + 1 + 1, 1, none⟩ = some (.string k.f1)
  k2 : X.cell? ⟨b + 1 + 1, 2, none⟩ = some (.int .i64 k.f2)
  zb : X.heap[b + 1 + 1 + 1]? = some (.cells #[.int .i64 0, .string ⟨#[]⟩, .int .i64 0] 35 (0, 0))
  z0 : X.cell? ⟨b + 1 + 1 + 1, 0, none⟩ = some (.int .i64 0)
  z1 : X.cell? ⟨b + 1 + 1 + 1, 1, none⟩ = some (.string ⟨#[]⟩)
  z2 : X.cell? ⟨b + 1 + 1 + 1, 2, none⟩ = some (.int .i64 0)
  f0 : X.frozen? ⟨b + 1 + 1 + 1, 0, none⟩ = false
  f1 : X.frozen? ⟨b + 1 + 1 + 1, 1, none⟩ = false
  f2 : X.frozen? ⟨b + 1 + 1 + 1, 2, none⟩ = false
  bl : Below w.heap.size w X
theorem Bx.below {w X Y : World} {b n c : Nat} {A : Option Addr} {v k : S35} (h : Bx w X b n c A v k) (hb : Below X.heap.size X Y) : Bx w Y b n c A v k := by
  have hz := kbw h.zb hb
  exact ⟨B.cell_keep hb h.p0, B.cell_keep hb h.v0, B.cell_keep hb h.v1, B.cell_keep hb h.v2, B.cell_keep hb h.k0, B.cell_keep hb h.k1, B.cell_keep hb h.k2, hz, B.cell_keep hb h.z0, B.cell_keep hb h.z1, B.cell_keep hb h.z2, kfz hz 0, kfz hz 1, kfz hz 2, bst h.bl hb⟩
theorem bx_new (w : World) (n c : Nat) (A : Option Addr) (v k : S35) (W : World) (hW : W = (((w.alloc (.cells #[.slice A n c] 25)).alloc (.cells #[.int .i64 v.f0, .string v.f1, .int .i64 v.f2] 35)).alloc (.cells #[.int .i64 k.f0, .string k.f1, .int .i64 k.f2] 35)).alloc (.cells #[.int .i64 0, .string ⟨#[]⟩, .int .i64 0] 35)) : Bx w W w.heap.size n c A v k := by
  have e1 := blk_new (w.alloc (.cells #[.slice A n c] 25)) (.cells #[.int .i64 v.f0, .string v.f1, .int .i64 v.f2] 35)
  have e2 := blk_new ((w.alloc (.cells #[.slice A n c] 25)).alloc (.cells #[.int .i64 v.f0, .string v.f1, .int .i64 v.f2] 35)) (.cells #[.int .i64 k.f0, .string k.f1, .int .i64 k.f2] 35)
  have e3 := blk_new (((w.alloc (.cells #[.slice A n c] 25)).alloc (.cells #[.int .i64 v.f0, .string v.f1, .int .i64 v.f2] 35)).alloc (.cells #[.int .i64 k.f0, .string k.f1, .int .i64 k.f2] 35)) (.cells #[.int .i64 0, .string ⟨#[]⟩, .int .i64 0] 35)
  rw [World.size_alloc] at e1 e2 e3
  rw [World.size_alloc] at e2 e3
  rw [World.size_alloc] at e3
  have h0 : W.heap[w.heap.size]? = some (.cells #[.slice A n c] 25 (0, 0)) := by rw [hW]; exact kla (kla (kla (blk_new _ _) _) _) _
  have h1 : W.heap[w.heap.size + 1]? = some (.cells #[.int .i64 v.f0, .string v.f1, .int .i64 v.f2] 35 (0, 0)) := by rw [hW]; exact kla (kla e1 _) _
  have h2 : W.heap[w.heap.size + 1 + 1]? = some (.cells #[.int .i64 k.f0, .string k.f1, .int .i64 k.f2] 35 (0, 0)) := by rw [hW]; exact kla e2 _
  have h3 : W.heap[w.heap.size + 1 + 1 + 1]? = some (.cells #[.int .i64 0, .string ⟨#[]⟩, .int .i64 0] 35 (0, 0)) := by rw [hW]; exact e3
  exact ⟨kcl h0 0, kcl h1 0, kcl h1 1, kcl h1 2, kcl h2 0, kcl h2 1, kcl h2 2, h3, kcl h3 0, kcl h3 1, kcl h3 2, kfz h3 0, kfz h3 1, kfz h3 2, by rw [hW]; exact bla (bla (bla (bla (Below.refl _ _) _) _) _) _⟩
structure Oc (X : World) (ad : Addr) (r : Nat) (o : S46) (A3 : Option Addr) (c3 : Nat) (A4 : Option Addr) (c4 : Nat) (A5 : Option Addr) (c5 : Nat) (A6 : Option Addr) (c6 : Nat) : Prop where
  g0 : X.cell? (ad.add (r * 7)) = some (.int .i64 o.f0)
  g1 : X.cell? ⟨(ad.add (r * 7)).block, (ad.add (r * 7)).off + 1, none⟩ = some (.string o.f1)
  g2 : X.cell? ⟨(ad.add (r * 7)).block, (ad.add (r * 7)).off + 2, none⟩ = some (.int .i64 o.f2)
  g3 : X.cell? ⟨(ad.add (r * 7)).block, (ad.add (r * 7)).off + 3, none⟩ = some (.slice A3 o.f3.length c3)
  g4 : X.cell? ⟨(ad.add (r * 7)).block, (ad.add (r * 7)).off + 4, none⟩ = some (.slice A4 o.f4.length c4)
  g5 : X.cell? ⟨(ad.add (r * 7)).block, (ad.add (r * 7)).off + 5, none⟩ = some (.slice A5 o.f5.length c5)
  g6 : X.cell? ⟨(ad.add (r * 7)).block, (ad.add (r * 7)).off + 6, none⟩ = some (.slice A6 o.f6.length c6)
  r3 : Kd.C k35 X A3 o.f3.length o.f3
  r4 : Kd.C k35 X A4 o.f4.length o.f4
theorem Oc.below {X Y : World} {ad : Addr} {r : Nat} {o : S46} {A3 : Option Addr} {c3 : Nat} {A4 : Option Addr} {c4 : Nat} {A5 : Option Addr} {c5 : Nat} {A6 : Option Addr} {c6 : Nat} (h : Oc X ad r o A3 c3 A4 c4 A5 c5 A6 c6) (hb : Below X.heap.size X Y) : Oc Y ad r o A3 c3 A4 c4 A5 c5 A6 c6 :=
  ⟨B.cell_keep hb h.g0, B.cell_keep hb h.g1, B.cell_keep hb h.g2, B.cell_keep hb h.g3, B.cell_keep hb h.g4, B.cell_keep hb h.g5, B.cell_keep hb h.g6, Kd.C_below h.r3 hb, Kd.C_below h.r4 hb⟩
theorem oc_ex {X : World} {A : Option Addr} {n : Nat} {l : List S46} (h : Kd.C k46 X A n l) {r : Nat} {o : S46} (ho : l[r]? = some o) : ∃ (ad : Addr) (A3 : Option Addr) (c3 : Nat) (A4 : Option Addr) (c4 : Nat) (A5 : Option Addr) (c5 : Nat) (A6 : Option Addr) (c6 : Nat), A = some ad ∧ r < n ∧ Oc X ad r o A3 c3 A4 c4 A5 c5 A6 c6 := by
  have hr : r < n := by have := (List.getElem?_eq_some_iff.1 ho).1; have := h.1; omega
  obtain ⟨x, ad, A3, c3, A4, c4, A5, c5, A6, c6, hx, hA, g0, g1, g2, g3, g4, g5, g6, h3, h4, h5, h6⟩ := obj_at h r hr
  rw [ho] at hx
  obtain rfl := Option.some.inj hx
  exact ⟨ad, A3, c3, A4, c4, A5, c5, A6, c6, hA, hr, g0, g1, g2, g3, g4, g5, g6, h3.2, h4.2⟩
structure Vc (X : World) (ad : Addr) (j : Nat) (y : S35) : Prop where
  a0 : X.cell? (ad.add (j * 3)) = some (.int .i64 y.f0)
  a1 : X.cell? ⟨(ad.add (j * 3)).block, (ad.add (j * 3)).off + 1, none⟩ = some (.string y.f1)
  a2 : X.cell? ⟨(ad.add (j * 3)).block, (ad.add (j * 3)).off + 2, none⟩ = some (.int .i64 y.f2)
theorem Vc.below {X Y : World} {ad : Addr} {j : Nat} {y : S35} (h : Vc X ad j y) (hb : Below X.heap.size X Y) : Vc Y ad j y := ⟨B.cell_keep hb h.a0, B.cell_keep hb h.a1, B.cell_keep hb h.a2⟩
theorem vc_ex {X : World} {A : Option Addr} {n : Nat} {l : List S35} (h : Kd.C k35 X A n l) {j : Nat} {y : S35} (hy : l[j]? = some y) : ∃ ad : Addr, A = some ad ∧ j < n ∧ Vc X ad j y := by
  have hj : j < n := by have := (List.getElem?_eq_some_iff.1 hy).1; have := h.1; omega
  obtain ⟨ad, x, hA, hx, a0, a1, a2⟩ := val_at h j hj
  rw [hy] at hx
  obtain rfl := Option.some.inj hx
  exact ⟨ad, hA, hj, a0, a1, a2⟩
def KkP (l : List S46) (v : S35) (kk : Int) : Prop := (v.f0 ≠ 4 ∧ kk = -1) ∨ ∃ (r : Nat) (o : S46), v.f0 = 4 ∧ v.f2 = r ∧ l[r]? = some o ∧ kk = o.f0
theorem kindOf_w (A : Option Addr) (n c : Nat) (l : List S46) (v : S35) (kk : Int) (w : World) (hC : Kd.C k46 w A n l) (hc : n ≤ c) (h : KkP l v kk) :
    Calls Try.prog 117 #[.agg #[.slice A n c], .agg #[.int .i64 v.f0, .string v.f1, .int .i64 v.f2]] w fun e w' => e = .returned (.int .i64 kk) ∧ Below w.heap.size w w' := by
  have hl := hC.1
  subst hl
  refine impl_Heap_kindOf.calls A c l v.f0 v.f1 v.f2 kk w hC hc ?_
  unfold impl_Heap_kindOf.f
  rcases h with ⟨h, rfl⟩ | ⟨r, o, h4, h2, ho, rfl⟩
  · rw [if_neg h]
  · have hr := (List.getElem?_eq_some_iff.1 ho).1
    rw [if_pos h4, if_pos (by omega), if_pos (by omega)]
    congr 2
    rw [h2]
    unfold rd_T46
    simp [List.getD_eq_getElem?_getD, ho]
set_option maxRecDepth 100000 in
set_option maxHeartbeats 4000000 in
theorem iindex_w (A : Option Addr) (n c : Nat) (l : List S46) (v k : S35) (y : S35) (cc : Int) (w : World) (hC : Kd.C k46 w A n l) (hc : n ≤ c) (hn : n ≤ 1000) (hv1 : v.f1.size ≤ 1000) (hol : ∀ o ∈ l, oL o) (hki : k.f0 = 2 → B.intB k.f1 = true ∧ k.f1.size ≤ 5) (h : Got l v k y cc) :
    Calls Try.prog 73 #[.agg #[.slice A n c], .agg #[.int .i64 v.f0, .string v.f1, .int .i64 v.f2], .agg #[.int .i64 k.f0, .string k.f1, .int .i64 k.f2]] w (GPost w y cc) := by
  obtain ⟨W, hW⟩ : ∃ W : World, W = (((w.alloc (.cells #[.slice A n c] 25)).alloc (.cells #[.int .i64 v.f0, .string v.f1, .int .i64 v.f2] 35)).alloc (.cells #[.int .i64 k.f0, .string k.f1, .int .i64 k.f2] 35)).alloc (.cells #[.int .i64 0, .string ⟨#[]⟩, .int .i64 0] 35) := ⟨_, rfl⟩
  have BX := Aside0.mk (bx_new w n c A v k W hW)
  have HC := Aside0.mk (Kd.C_below hC BX.out.bl)
  have HEL := Aside0.mk (fun (m i c' : Int) (X : World) (hm : 0 ≤ m ∧ m ≤ 1000000) (hp : Plc k.f0 k.f1 m i c') => element_w k.f0 k.f1 k.f2 m X hki hm i c' hp)
  have HOL := Aside0.mk hol
  have HW := Lib.hid hW
  obtain ⟨p0, v0, v1, v2, k0, k1, k2, zb, z0, z1, z2, f0, f1, f2, -⟩ := BX.out
  have HL := Aside0.mk hC.1
  have HCC := Aside0.mk hc
  clear hW zb hC hc hol hki
  cases h with
  | te i c1 h1 h2 h3 =>
    have hv3 : (v.f0 == 3) = true := by simp [h1]
    have hc1 : (cc == -1) = false := by simpa using h3
    have HP := Aside0.mk h2
    clear h1 h2 h3
    go_enter Try.func73, Try.ntmps73
    go_upto_region 1 with (fail)
    rw [← HW.out]
    go_wp2_with (first | (go_at_call 115; refine (HEL.out _ _ _ _ (by omega) HP.out).mono ?_; rintro e w1 ⟨rfl, hB⟩; replace BX := Aside0.mk (BX.out.below hB); clear p0 v0 v1 v2 k0 k1 k2 z0 z1 z2 f0 f1 f2; obtain ⟨p0, v0, v1, v2, k0, k1, k2, zb, z0, z1, z2, f0, f1, f2, -⟩ := BX.out; clear zb; replace HC := Aside0.mk (Kd.C_below HC.out hB); clear hB))
    refine bodyPost_ret (fin35 rfl _ w1 _ _ _ _ BX.out.zb _ _ _ rfl) rfl ⟨rfl, set35 BX.out.bl (by omega) _ _ _⟩
  | ti j h1 h2 h3 =>
    have hv3 : (v.f0 == 3) = true := by simp [h1]
    have HP := Aside0.mk h2
    clear h1 h2
    go_enter Try.func73, Try.ntmps73
    go_upto_region 1 with (fail)
    rw [← HW.out]
    go_wp2_with (first | (go_at_call 115; refine (HEL.out _ _ _ _ (by omega) HP.out).mono ?_; rintro e w1 ⟨rfl, hB⟩; replace BX := Aside0.mk (BX.out.below hB); clear p0 v0 v1 v2 k0 k1 k2 z0 z1 z2 f0 f1 f2; obtain ⟨p0, v0, v1, v2, k0, k1, k2, zb, z0, z1, z2, f0, f1, f2, -⟩ := BX.out; clear zb; replace HC := Aside0.mk (Kd.C_below HC.out hB); clear hB) | (go_at_call 116; refine (impl_textValue.calls _ 3 _ 0 _ rfl).mono ?_; rintro e w2 ⟨rfl, hB⟩; replace BX := Aside0.mk (BX.out.below hB); clear p0 v0 v1 v2 k0 k1 k2 z0 z1 z2 f0 f1 f2; obtain ⟨p0, v0, v1, v2, k0, k1, k2, zb, z0, z1, z2, f0, f1, f2, -⟩ := BX.out; clear zb; replace HC := Aside0.mk (Kd.C_below HC.out hB); clear hB))
    refine bodyPost_ret (fin35 rfl _ w2 _ _ _ _ BX.out.zb _ _ _ rfl) rfl ⟨rfl, set35 BX.out.bl (by omega) _ _ _⟩
  | le r o i c1 h1 h2 h3 h4 h5 h6 =>
    have hv3 : (v.f0 == 3) = false := by simp [h1]
    obtain ⟨ad, A3, c3, A4, c4, A5, c5, A6, c6, rfl, hrn, hoc⟩ := oc_ex HC.out h3
    have OX := Aside0.mk hoc
    have HO3 := Aside0.mk (HOL.out o (List.mem_of_getElem? h3)).1
    have HO4 := Aside0.mk (HOL.out o (List.mem_of_getElem? h3)).2.1
    have HK := Aside0.mk (show KkP l v o.f0 from .inr ⟨r, o, h1, h2, h3, rfl⟩)
    obtain ⟨g0, g1, g2, g3, g4, g5, g6, -, -⟩ := OX.out
    obtain rfl : r = v.f2.toNat := by omega
    have h2a : 0 ≤ v.f2 := by omega
    have h2b : v.f2 < (n : Int) := by omega
    clear hoc h2 hrn
    have ho1 : (o.f0 == 1) = true := by simp [h4]
    have hc1 : (cc == -1) = false := by simpa using h6
    have HP := Aside0.mk h5
    have ho3 := HO3.out
    clear h1 h3 h4 h5 h6
    go_enter Try.func73, Try.ntmps73
    go_upto_region 1 with (fail)
    rw [← HW.out]
    go_wp2_with (first | (go_at_call 117; refine (kindOf_w _ _ _ _ _ _ _ HC.out HCC.out HK.out).mono ?_; rintro e w1 ⟨rfl, hB⟩; replace BX := Aside0.mk (BX.out.below hB); clear p0 v0 v1 v2 k0 k1 k2 z0 z1 z2 f0 f1 f2; obtain ⟨p0, v0, v1, v2, k0, k1, k2, zb, z0, z1, z2, f0, f1, f2, -⟩ := BX.out; clear zb; replace HC := Aside0.mk (Kd.C_below HC.out hB); replace OX := Aside0.mk (OX.out.below hB); clear g0 g1 g2 g3 g4 g5 g6; obtain ⟨g0, g1, g2, g3, g4, g5, g6, -, -⟩ := OX.out; clear hB) | (go_at_call 115; refine (HEL.out _ _ _ _ (by omega) HP.out).mono ?_; rintro e w2 ⟨rfl, hB⟩; replace BX := Aside0.mk (BX.out.below hB); clear p0 v0 v1 v2 k0 k1 k2 z0 z1 z2 f0 f1 f2; obtain ⟨p0, v0, v1, v2, k0, k1, k2, zb, z0, z1, z2, f0, f1, f2, -⟩ := BX.out; clear zb; replace HC := Aside0.mk (Kd.C_below HC.out hB); replace OX := Aside0.mk (OX.out.below hB); clear g0 g1 g2 g3 g4 g5 g6; obtain ⟨g0, g1, g2, g3, g4, g5, g6, -, -⟩ := OX.out; clear hB))
    refine bodyPost_ret (fin35 rfl _ w2 _ _ _ _ BX.out.zb _ _ _ rfl) rfl ⟨rfl, set35 BX.out.bl (by omega) _ _ _⟩
  | li r o j _ h1 h2 h3 h4 h5 h6 =>
    have hv3 : (v.f0 == 3) = false := by simp [h1]
    obtain ⟨ad, A3, c3, A4, c4, A5, c5, A6, c6, rfl, hrn, hoc⟩ := oc_ex HC.out h3
    have OX := Aside0.mk hoc
    have HO3 := Aside0.mk (HOL.out o (List.mem_of_getElem? h3)).1
    have HO4 := Aside0.mk (HOL.out o (List.mem_of_getElem? h3)).2.1
    have HK := Aside0.mk (show KkP l v o.f0 from .inr ⟨r, o, h1, h2, h3, rfl⟩)
    obtain ⟨g0, g1, g2, g3, g4, g5, g6, -, -⟩ := OX.out
    obtain rfl : r = v.f2.toNat := by omega
    have h2a : 0 ≤ v.f2 := by omega
    have h2b : v.f2 < (n : Int) := by omega
    clear hoc h2 hrn
    have ho1 : (o.f0 == 1) = true := by simp [h4]
    have HP := Aside0.mk h5
    have ho3 := HO3.out
    obtain ⟨ad3, rfl, hjn, hvc⟩ := vc_ex OX.out.r3 h6
    have VX := Aside0.mk hvc
    obtain ⟨a0, a1, a2⟩ := VX.out
    clear h1 h3 h4 h5 h6 hvc
    go_enter Try.func73, Try.ntmps73
    go_upto_region 1 with (fail)
    rw [← HW.out]
    go_wp2_with (first | (go_at_call 117; refine (kindOf_w _ _ _ _ _ _ _ HC.out HCC.out HK.out).mono ?_; rintro e w1 ⟨rfl, hB⟩; replace BX := Aside0.mk (BX.out.below hB); clear p0 v0 v1 v2 k0 k1 k2 z0 z1 z2 f0 f1 f2; obtain ⟨p0, v0, v1, v2, k0, k1, k2, zb, z0, z1, z2, f0, f1, f2, -⟩ := BX.out; clear zb; replace HC := Aside0.mk (Kd.C_below HC.out hB); replace OX := Aside0.mk (OX.out.below hB); clear g0 g1 g2 g3 g4 g5 g6; obtain ⟨g0, g1, g2, g3, g4, g5, g6, -, -⟩ := OX.out; replace VX := Aside0.mk (VX.out.below hB); clear a0 a1 a2; obtain ⟨a0, a1, a2⟩ := VX.out; clear hB) | (go_at_call 115; refine (HEL.out _ _ _ _ (by omega) HP.out).mono ?_; rintro e w2 ⟨rfl, hB⟩; replace BX := Aside0.mk (BX.out.below hB); clear p0 v0 v1 v2 k0 k1 k2 z0 z1 z2 f0 f1 f2; obtain ⟨p0, v0, v1, v2, k0, k1, k2, zb, z0, z1, z2, f0, f1, f2, -⟩ := BX.out; clear zb; replace HC := Aside0.mk (Kd.C_below HC.out hB); replace OX := Aside0.mk (OX.out.below hB); clear g0 g1 g2 g3 g4 g5 g6; obtain ⟨g0, g1, g2, g3, g4, g5, g6, -, -⟩ := OX.out; replace VX := Aside0.mk (VX.out.below hB); clear a0 a1 a2; obtain ⟨a0, a1, a2⟩ := VX.out; clear hB))
    refine bodyPost_ret (fin35 rfl _ w2 _ _ _ _ BX.out.zb _ _ _ rfl) rfl ⟨rfl, set35 BX.out.bl (by omega) _ _ _⟩
  | dr r o h1 h2 h3 h4 h5 =>
    have hv3 : (v.f0 == 3) = false := by simp [h1]
    obtain ⟨ad, A3, c3, A4, c4, A5, c5, A6, c6, rfl, hrn, hoc⟩ := oc_ex HC.out h3
    have OX := Aside0.mk hoc
    have HO3 := Aside0.mk (HOL.out o (List.mem_of_getElem? h3)).1
    have HO4 := Aside0.mk (HOL.out o (List.mem_of_getElem? h3)).2.1
    have HK := Aside0.mk (show KkP l v o.f0 from .inr ⟨r, o, h1, h2, h3, rfl⟩)
    obtain ⟨g0, g1, g2, g3, g4, g5, g6, -, -⟩ := OX.out
    obtain rfl : r = v.f2.toNat := by omega
    have h2a : 0 ≤ v.f2 := by omega
    have h2b : v.f2 < (n : Int) := by omega
    clear hoc h2 hrn
    have ho1 : (o.f0 == 1) = false := by simp [h4]
    have ho2 : (o.f0 == 2) = true := by simp [h4]
    have hk4 : (k.f0 == 4) = true := by simp [h5]
    clear h1 h3 h4 h5
    go_enter Try.func73, Try.ntmps73
    go_upto_region 1 with (fail)
    rw [← HW.out]
    go_wp2_with (first | (go_at_call 117; refine (kindOf_w _ _ _ _ _ _ _ HC.out HCC.out HK.out).mono ?_; rintro e w1 ⟨rfl, hB⟩; replace BX := Aside0.mk (BX.out.below hB); clear p0 v0 v1 v2 k0 k1 k2 z0 z1 z2 f0 f1 f2; obtain ⟨p0, v0, v1, v2, k0, k1, k2, zb, z0, z1, z2, f0, f1, f2, -⟩ := BX.out; clear zb; replace HC := Aside0.mk (Kd.C_below HC.out hB); replace OX := Aside0.mk (OX.out.below hB); clear g0 g1 g2 g3 g4 g5 g6; obtain ⟨g0, g1, g2, g3, g4, g5, g6, -, -⟩ := OX.out; clear hB))
    refine bodyPost_ret (fin35 rfl _ w1 _ _ _ _ BX.out.zb _ _ _ rfl) rfl ⟨rfl, set35 BX.out.bl (by omega) _ _ _⟩
  | dm r o h1 h2 h3 h4 h5 h6 =>
    have hv3 : (v.f0 == 3) = false := by simp [h1]
    obtain ⟨ad, A3, c3, A4, c4, A5, c5, A6, c6, rfl, hrn, hoc⟩ := oc_ex HC.out h3
    have OX := Aside0.mk hoc
    have HO3 := Aside0.mk (HOL.out o (List.mem_of_getElem? h3)).1
    have HO4 := Aside0.mk (HOL.out o (List.mem_of_getElem? h3)).2.1
    have HK := Aside0.mk (show KkP l v o.f0 from .inr ⟨r, o, h1, h2, h3, rfl⟩)
    obtain ⟨g0, g1, g2, g3, g4, g5, g6, -, -⟩ := OX.out
    obtain rfl : r = v.f2.toNat := by omega
    have h2a : 0 ≤ v.f2 := by omega
    have h2b : v.f2 < (n : Int) := by omega
    clear hoc h2 hrn
    have ho1 : (o.f0 == 1) = false := by simp [h4]
    have ho2 : (o.f0 == 2) = true := by simp [h4]
    have hk4 : (k.f0 == 4) = false := by simpa using h5
    have HIX := Aside0.mk h6
    clear h1 h3 h4 h5 h6
    go_enter Try.func73, Try.ntmps73
    go_upto_region 1 with (fail)
    rw [← HW.out]
    go_upto_region 16 with (first | (go_at_call 117; refine (kindOf_w _ _ _ _ _ _ _ HC.out HCC.out HK.out).mono ?_; rintro e w1 ⟨rfl, hB⟩; replace BX := Aside0.mk (BX.out.below hB); clear p0 v0 v1 v2 k0 k1 k2 z0 z1 z2 f0 f1 f2; obtain ⟨p0, v0, v1, v2, k0, k1, k2, zb, z0, z1, z2, f0, f1, f2, -⟩ := BX.out; clear zb; replace HC := Aside0.mk (Kd.C_below HC.out hB); replace OX := Aside0.mk (OX.out.below hB); clear g0 g1 g2 g3 g4 g5 g6; obtain ⟨g0, g1, g2, g3, g4, g5, g6, -, -⟩ := OX.out; clear hB))
    obtain ⟨W2, hW2⟩ : ∃ W2 : World, W2 = w1.alloc (.cells #[.int .i64 o.f0, .string o.f1, .int .i64 o.f2, .slice A3 o.f3.length c3, .slice A4 o.f4.length c4, .slice A5 o.f5.length c5, .slice A6 o.f6.length c6] 46) := ⟨_, rfl⟩
    have hB : Below w1.heap.size w1 W2 := by rw [hW2]; exact bla (Below.refl _ _) _
    have o13 : W2.heap[w1.heap.size]? = some (.cells #[.int .i64 o.f0, .string o.f1, .int .i64 o.f2, .slice A3 o.f3.length c3, .slice A4 o.f4.length c4, .slice A5 o.f5.length c5, .slice A6 o.f6.length c6] 46 (0, 0)) := by rw [hW2]; exact blk_new _ _
    rw [← hW2]
    obtain ⟨b13, hb13⟩ : ∃ b13, b13 = w1.heap.size := ⟨_, rfl⟩
    rw [← hb13] at o13 ⊢
    clear hW2 hb13
    replace BX := Aside0.mk (BX.out.below hB)
    clear p0 v0 v1 v2 k0 k1 k2 z0 z1 z2 f0 f1 f2
    obtain ⟨p0, v0, v1, v2, k0, k1, k2, zb, z0, z1, z2, f0, f1, f2, -⟩ := BX.out
    clear zb
    replace HC := Aside0.mk (Kd.C_below HC.out hB)
    replace OX := Aside0.mk (OX.out.below hB)
    clear g0 g1 g2 g3 g4 g5 g6
    obtain ⟨g0, g1, g2, g3, g4, g5, g6, -, -⟩ := OX.out
    clear hB
    have O13 := Aside0.mk o13
    have q3 := (kcl o13 3).trans (show _ = some (.slice A3 o.f3.length c3) from rfl)
    have q4 := (kcl o13 4).trans (show _ = some (.slice A4 o.f4.length c4) from rfl)
    clear o13
    go_wp2_with (first | (go_at_call 118; refine (index_w _ _ _ _ _ _ _ OX.out.r4 (by have := HO4.out; omega) HIX.out).mono ?_; rintro e w3 ⟨rfl, hB⟩; replace BX := Aside0.mk (BX.out.below hB); clear p0 v0 v1 v2 k0 k1 k2 z0 z1 z2 f0 f1 f2; obtain ⟨p0, v0, v1, v2, k0, k1, k2, zb, z0, z1, z2, f0, f1, f2, -⟩ := BX.out; clear zb; replace HC := Aside0.mk (Kd.C_below HC.out hB); replace OX := Aside0.mk (OX.out.below hB); clear g0 g1 g2 g3 g4 g5 g6; obtain ⟨g0, g1, g2, g3, g4, g5, g6, -, -⟩ := OX.out; replace O13 := Aside0.mk (kbw O13.out hB); clear q3 q4; have q3 := (kcl O13.out 3).trans (show _ = some (.slice A3 o.f3.length c3) from rfl); clear hB))
    refine bodyPost_ret (fin35 rfl _ w3 _ _ _ _ BX.out.zb _ _ _ rfl) rfl ⟨rfl, set35 BX.out.bl (by omega) _ _ _⟩
  | df r o j _ h1 h2 h3 h4 h5 h6 h7 =>
    have hv3 : (v.f0 == 3) = false := by simp [h1]
    obtain ⟨ad, A3, c3, A4, c4, A5, c5, A6, c6, rfl, hrn, hoc⟩ := oc_ex HC.out h3
    have OX := Aside0.mk hoc
    have HO3 := Aside0.mk (HOL.out o (List.mem_of_getElem? h3)).1
    have HO4 := Aside0.mk (HOL.out o (List.mem_of_getElem? h3)).2.1
    have HK := Aside0.mk (show KkP l v o.f0 from .inr ⟨r, o, h1, h2, h3, rfl⟩)
    obtain ⟨g0, g1, g2, g3, g4, g5, g6, -, -⟩ := OX.out
    obtain rfl : r = v.f2.toNat := by omega
    have h2a : 0 ≤ v.f2 := by omega
    have h2b : v.f2 < (n : Int) := by omega
    clear hoc h2 hrn
    have ho1 : (o.f0 == 1) = false := by simp [h4]
    have ho2 : (o.f0 == 2) = true := by simp [h4]
    have hk4 : (k.f0 == 4) = false := by simpa using h5
    have HIX := Aside0.mk h6
    obtain ⟨ad3, rfl, hjn, hvc⟩ := vc_ex OX.out.r3 h7
    have VX := Aside0.mk hvc
    obtain ⟨a0, a1, a2⟩ := VX.out
    have hj0 : decide ((j : Int) < 0) = false := decide_eq_false (by omega)
    clear h1 h3 h4 h5 h6 h7 hvc
    go_enter Try.func73, Try.ntmps73
    go_upto_region 1 with (fail)
    rw [← HW.out]
    go_upto_region 16 with (first | (go_at_call 117; refine (kindOf_w _ _ _ _ _ _ _ HC.out HCC.out HK.out).mono ?_; rintro e w1 ⟨rfl, hB⟩; replace BX := Aside0.mk (BX.out.below hB); clear p0 v0 v1 v2 k0 k1 k2 z0 z1 z2 f0 f1 f2; obtain ⟨p0, v0, v1, v2, k0, k1, k2, zb, z0, z1, z2, f0, f1, f2, -⟩ := BX.out; clear zb; replace HC := Aside0.mk (Kd.C_below HC.out hB); replace OX := Aside0.mk (OX.out.below hB); clear g0 g1 g2 g3 g4 g5 g6; obtain ⟨g0, g1, g2, g3, g4, g5, g6, -, -⟩ := OX.out; replace VX := Aside0.mk (VX.out.below hB); clear a0 a1 a2; obtain ⟨a0, a1, a2⟩ := VX.out; clear hB))
    obtain ⟨W2, hW2⟩ : ∃ W2 : World, W2 = w1.alloc (.cells #[.int .i64 o.f0, .string o.f1, .int .i64 o.f2, .slice (some ad3) o.f3.length c3, .slice A4 o.f4.length c4, .slice A5 o.f5.length c5, .slice A6 o.f6.length c6] 46) := ⟨_, rfl⟩
    have hB : Below w1.heap.size w1 W2 := by rw [hW2]; exact bla (Below.refl _ _) _
    have o13 : W2.heap[w1.heap.size]? = some (.cells #[.int .i64 o.f0, .string o.f1, .int .i64 o.f2, .slice (some ad3) o.f3.length c3, .slice A4 o.f4.length c4, .slice A5 o.f5.length c5, .slice A6 o.f6.length c6] 46 (0, 0)) := by rw [hW2]; exact blk_new _ _
    rw [← hW2]
    obtain ⟨b13, hb13⟩ : ∃ b13, b13 = w1.heap.size := ⟨_, rfl⟩
    rw [← hb13] at o13 ⊢
    clear hW2 hb13
    replace BX := Aside0.mk (BX.out.below hB)
    clear p0 v0 v1 v2 k0 k1 k2 z0 z1 z2 f0 f1 f2
    obtain ⟨p0, v0, v1, v2, k0, k1, k2, zb, z0, z1, z2, f0, f1, f2, -⟩ := BX.out
    clear zb
    replace HC := Aside0.mk (Kd.C_below HC.out hB)
    replace OX := Aside0.mk (OX.out.below hB)
    clear g0 g1 g2 g3 g4 g5 g6
    obtain ⟨g0, g1, g2, g3, g4, g5, g6, -, -⟩ := OX.out
    replace VX := Aside0.mk (VX.out.below hB)
    clear a0 a1 a2
    obtain ⟨a0, a1, a2⟩ := VX.out
    clear hB
    have O13 := Aside0.mk o13
    have q3 := (kcl o13 3).trans (show _ = some (.slice (some ad3) o.f3.length c3) from rfl)
    have q4 := (kcl o13 4).trans (show _ = some (.slice A4 o.f4.length c4) from rfl)
    clear o13
    go_wp2_with (first | (go_at_call 118; refine (index_w _ _ _ _ _ _ _ OX.out.r4 (by have := HO4.out; omega) HIX.out).mono ?_; rintro e w3 ⟨rfl, hB⟩; replace BX := Aside0.mk (BX.out.below hB); clear p0 v0 v1 v2 k0 k1 k2 z0 z1 z2 f0 f1 f2; obtain ⟨p0, v0, v1, v2, k0, k1, k2, zb, z0, z1, z2, f0, f1, f2, -⟩ := BX.out; clear zb; replace HC := Aside0.mk (Kd.C_below HC.out hB); replace OX := Aside0.mk (OX.out.below hB); clear g0 g1 g2 g3 g4 g5 g6; obtain ⟨g0, g1, g2, g3, g4, g5, g6, -, -⟩ := OX.out; replace VX := Aside0.mk (VX.out.below hB); clear a0 a1 a2; obtain ⟨a0, a1, a2⟩ := VX.out; replace O13 := Aside0.mk (kbw O13.out hB); clear q3 q4; have q3 := (kcl O13.out 3).trans (show _ = some (.slice (some ad3) o.f3.length c3) from rfl); clear hB))
    refine bodyPost_ret (fin35 rfl _ w3 _ _ _ _ BX.out.zb _ _ _ rfl) rfl ⟨rfl, set35 BX.out.bl (by omega) _ _ _⟩
  | xo r o h1 h2 h3 h4 h5 =>
    have hv3 : (v.f0 == 3) = false := by simp [h1]
    obtain ⟨ad, A3, c3, A4, c4, A5, c5, A6, c6, rfl, hrn, hoc⟩ := oc_ex HC.out h3
    have OX := Aside0.mk hoc
    have HO3 := Aside0.mk (HOL.out o (List.mem_of_getElem? h3)).1
    have HO4 := Aside0.mk (HOL.out o (List.mem_of_getElem? h3)).2.1
    have HK := Aside0.mk (show KkP l v o.f0 from .inr ⟨r, o, h1, h2, h3, rfl⟩)
    obtain ⟨g0, g1, g2, g3, g4, g5, g6, -, -⟩ := OX.out
    obtain rfl : r = v.f2.toNat := by omega
    have h2a : 0 ≤ v.f2 := by omega
    have h2b : v.f2 < (n : Int) := by omega
    clear hoc h2 hrn
    have ho1 : (o.f0 == 1) = false := by simpa using h4
    have ho2 : (o.f0 == 2) = false := by simpa using h5
    clear h1 h3 h4 h5
    go_enter Try.func73, Try.ntmps73
    go_upto_region 1 with (fail)
    rw [← HW.out]
    go_wp2_with (first | (go_at_call 117; refine (kindOf_w _ _ _ _ _ _ _ HC.out HCC.out HK.out).mono ?_; rintro e w1 ⟨rfl, hB⟩; replace BX := Aside0.mk (BX.out.below hB); clear p0 v0 v1 v2 k0 k1 k2 z0 z1 z2 f0 f1 f2; obtain ⟨p0, v0, v1, v2, k0, k1, k2, zb, z0, z1, z2, f0, f1, f2, -⟩ := BX.out; clear zb; replace HC := Aside0.mk (Kd.C_below HC.out hB); replace OX := Aside0.mk (OX.out.below hB); clear g0 g1 g2 g3 g4 g5 g6; obtain ⟨g0, g1, g2, g3, g4, g5, g6, -, -⟩ := OX.out; clear hB))
    refine bodyPost_ret (fin35 rfl _ w1 _ _ _ _ BX.out.zb _ _ _ rfl) rfl ⟨rfl, set35 BX.out.bl (by omega) _ _ _⟩
  | xv h1 h2 =>
    have hv3 : (v.f0 == 3) = false := by simpa using h1
    have HK := Aside0.mk (show KkP l v (-1) from .inl ⟨h2, rfl⟩)
    clear h1 h2
    go_enter Try.func73, Try.ntmps73
    go_upto_region 1 with (fail)
    rw [← HW.out]
    go_wp2_with (first | (go_at_call 117; refine (kindOf_w _ _ _ _ _ _ _ HC.out HCC.out HK.out).mono ?_; rintro e w1 ⟨rfl, hB⟩; replace BX := Aside0.mk (BX.out.below hB); clear p0 v0 v1 v2 k0 k1 k2 z0 z1 z2 f0 f1 f2; obtain ⟨p0, v0, v1, v2, k0, k1, k2, zb, z0, z1, z2, f0, f1, f2, -⟩ := BX.out; clear zb; replace HC := Aside0.mk (Kd.C_below HC.out hB); clear hB))
    refine bodyPost_ret (fin35 rfl _ w1 _ _ _ _ BX.out.zb _ _ _ rfl) rfl ⟨rfl, set35 BX.out.bl (by omega) _ _ _⟩
end Go.Proofs.Ytgddblpgbkgpcaa.PR
