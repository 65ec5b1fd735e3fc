/- Part of the proof of fnIndexSet_holds. -/
import Derived.Test.YtgddblpgbkgpcaaZgw0
import Derived.Test.YtgddblpgbkgpcaaZgb0
namespace Go.Proofs.Ytgddblpgbkgpcaa.B
set_option linter.unusedVariables false
set_option linter.unusedSimpArgs false
open Go.RowKit Go.Proofs.YtgddblpgbkgpcaaW.PrintLast
set_option linter.unusedVariables false
set_option linter.unusedSimpArgs false
theorem vVn (n : Nat) (hn : n ≤ 9223372036854775807) (A1 : Option Addr) (c1 : Nat) (l : List V) (m : Nat) (hm : m = l.length) (w : World) (hC : RV w A1 l) :
    Calls Try.prog 56 #[.slice A1 m c1, .int .i64 n] w fun e w' => e = .returned (.bool (l.all (valOk n) && decide (l.length ≤ 60))) ∧ Below w.heap.size w w' := by
  subst hm; exact vVo n hn A1 c1 l w hC
theorem keyAt_n (A1 : Option Addr) (c1 m : Nat) (l : List V) (hm : m = l.length) (v : V) (w : World) (hC : RV w A1 l) :
    Calls Try.prog 89 #[.slice A1 m c1, .agg #[.int .i64 v.k, .string v.t, .int .i64 v.r]] w fun e w' => e = .returned (.int .i64 (vidx l v)) ∧ Below w.heap.size w w' := by
  subst hm; exact keyAt_ok A1 c1 l v w hC
theorem hashable_b (v : V) (b : Bool) (hb : (!(v.k == 4)) = b) (w : World) : Calls Try.prog 121 #[.agg #[.int .i64 v.k, .string v.t, .int .i64 v.r]] w fun e w' => e = .returned (.bool b) ∧ Below w.heap.size w w' := by
  subst hb; exact hashable_ok v w
set_option maxRecDepth 100000 in
set_option maxHeartbeats 40000000 in
theorem validObject_rest (n : Nat) (hn : n ≤ 9223372036854775807) (o : O) (A3 A4 A5 A6 : Option Addr) (c3 c4 c5 c6 : Nat) (w : World) (h3 : RV w A3 o.its) (h4 : RV w A4 o.ks) (h5 : RS w A5 o.ns) (h6 : RV w A6 o.vs) (hnm : o.nm.size ≤ 9223372036854775807) (hcc4 : o.ks.length ≤ c4) (hcc5 : o.ns.length ≤ c5) (hz : ∀ s ∈ o.ns, s.size ≤ 9223372036854775807) (hyp : ((o.its.all (valOk n) && decide (o.its.length ≤ 60)) = true ∧ (o.ks.all (valOk n) && decide (o.ks.length ≤ 60)) = true ∧ (o.vs.all (valOk n) && decide (o.vs.length ≤ 60)) = true ∧ o.ns.length = o.vs.length ∧ qS o.ns = true)) :
    Calls Try.prog 100 #[.agg #[.int .i64 o.k, .string o.nm, .int .i64 o.pl, .slice A3 o.its.length c3, .slice A4 o.ks.length c4, .slice A5 o.ns.length c5, .slice A6 o.vs.length c6], .int .i64 n] w fun e w' => e = .returned (.bool (objB qS n o)) ∧ Below w.heap.size w w' := by
  obtain ⟨k, nm, pl, its, ks, ns, vs⟩ := o
  simp only at h3 h4 h5 h6 hnm hcc4 hcc5 hz hyp ⊢
  obtain ⟨q1, q2, q3, q8, q5⟩ := hyp
  obtain ⟨p1, p2⟩ : its.all (valOk n) = true ∧ its.length ≤ 60 := by simpa using q1
  obtain ⟨p3, p4⟩ : ks.all (valOk n) = true ∧ ks.length ≤ 60 := by simpa using q2
  obtain ⟨p5, p6⟩ : vs.all (valOk n) = true ∧ vs.length ≤ 60 := by simpa using q3
  have l3 := h3.1
  have l4 := h4.1
  have l5 := h5.1
  rw [← q8]
  have hn60 : ns.length ≤ 60 := by omega
  have Q8 := Lib.hid q8.symm
  clear q8
  by_cases q0 : inR k 0 10 = true
  · rcases inR_kinds q0 with rfl | rfl | rfl | rfl | rfl | rfl | rfl | rfl | rfl | rfl | rfl
    · go_enter Try.func100, Try.ntmps100
      by_cases e0 : nm.toList = []
      · have fe : (nm.toList == []) = true := by simpa using e0
        by_cases z : ns.length = 0
        · have fz : decide ((0 : Int) < (ns.length : Int)) = false := decide_eq_false (by omega)
          have fz2 : ¬ 0 < ns.length := by omega
          have ZZ := Lib.hid z
          clear z
          by_cases q9 : inR pl 0 1000000 = true
          · have HT := Lib.hid (show objB qS n ⟨0, nm, pl, its, ks, ns, vs⟩ = tailB n ⟨0, nm, pl, its, ks, ns, vs⟩ by simp [objB, headB, midB, named, lam, p1, p2, p3, p4, p5, p6, hn60, q5, Q8.out, (by decide : inR 0 0 10 = true), e0, ZZ.out, q9])
            go_wp2_with (first
                | (go_at_call 103; refine (iRo _ _ _ _).mono ?_; rintro e w' ⟨rfl, rfl⟩)
                | (go_at_call 56; (first
                    | (with_reducible refine (vVo _ hn _ _ _ _ (h3.below (by ((first | exact b1 ‹_› | exact bN (b1 ‹_›) _ | exact bA (Below.refl _ _) _))))).mono ?_)
                    | (with_reducible refine (vVo _ hn _ _ _ _ (h4.below (by ((first | exact b1 ‹_› | exact bN (b1 ‹_›) _ | exact bA (Below.refl _ _) _))))).mono ?_)
                    | (with_reducible refine (vVn _ hn _ _ _ _ Q8.out.symm _ (h6.below (by ((first | exact b1 ‹_› | exact bN (b1 ‹_›) _ | exact bA (Below.refl _ _) _))))).mono ?_)); rintro e w1 ⟨rfl, hb⟩; (first | have hb0 := hbN ‹_› hb | have hb0 := hbF hb); clear hb; obtain ⟨hc, hf⟩ := bcell hb0)
                | (go_at_call 130; refine (oEo _ _ _ _ (h5.below (by ((first | exact b1 ‹_› | exact bN (b1 ‹_›) _ | exact bA (Below.refl _ _) _)))) hcc5 hz).mono ?_; rintro e w1 ⟨rfl, hb⟩; (first | have hb0 := hbN ‹_› hb | have hb0 := hbF hb); clear hb; obtain ⟨hc, hf⟩ := bcell hb0)
                | (go_at_call 131; refine (vNo _ hnm _).mono ?_; rintro e w1 ⟨rfl, hb⟩; (first | have hb0 := hbN ‹_› hb | have hb0 := hbF hb); clear hb; obtain ⟨hc, hf⟩ := bcell hb0))
            all_goals
              go_ret
              refine ⟨ret_bool ?_, by ((first | exact b1 ‹_› | exact bN (b1 ‹_›) _ | exact bA (Below.refl _ _) _))⟩
              rw [HT.out]
              go_light
              first | (simp [tailB, *]; done) | (simp [tailB, *]; omega) | (rw [Bool.eq_iff_iff]; simp [tailB, *]; done) | (rw [Bool.eq_iff_iff]; simp [tailB, *]; omega) | (rw [Bool.eq_iff_iff]; simp [tailB, -List.length_eq_zero_iff]; omega)
          · replace q9 : inR pl 0 1000000 = false := by simpa using q9
            have HH := Lib.hid (show objB qS n ⟨0, nm, pl, its, ks, ns, vs⟩ = false by simp [objB, headB, midB, named, lam, p1, p2, p3, p4, p5, p6, hn60, q5, Q8.out, (by decide : inR 0 0 10 = true), q9])
            go_wp2_with (first
                | (go_at_call 103; refine (iRo _ _ _ _).mono ?_; rintro e w' ⟨rfl, rfl⟩)
                | (go_at_call 56; (first
                    | (with_reducible refine (vVo _ hn _ _ _ _ (h3.below (by ((first | exact b1 ‹_› | exact bN (b1 ‹_›) _ | exact bA (Below.refl _ _) _))))).mono ?_)
                    | (with_reducible refine (vVo _ hn _ _ _ _ (h4.below (by ((first | exact b1 ‹_› | exact bN (b1 ‹_›) _ | exact bA (Below.refl _ _) _))))).mono ?_)
                    | (with_reducible refine (vVn _ hn _ _ _ _ Q8.out.symm _ (h6.below (by ((first | exact b1 ‹_› | exact bN (b1 ‹_›) _ | exact bA (Below.refl _ _) _))))).mono ?_)); rintro e w1 ⟨rfl, hb⟩; (first | have hb0 := hbN ‹_› hb | have hb0 := hbF hb); clear hb; obtain ⟨hc, hf⟩ := bcell hb0)
                | (go_at_call 130; refine (oEo _ _ _ _ (h5.below (by ((first | exact b1 ‹_› | exact bN (b1 ‹_›) _ | exact bA (Below.refl _ _) _)))) hcc5 hz).mono ?_; rintro e w1 ⟨rfl, hb⟩; (first | have hb0 := hbN ‹_› hb | have hb0 := hbF hb); clear hb; obtain ⟨hc, hf⟩ := bcell hb0)
                | (go_at_call 131; refine (vNo _ hnm _).mono ?_; rintro e w1 ⟨rfl, hb⟩; (first | have hb0 := hbN ‹_› hb | have hb0 := hbF hb); clear hb; obtain ⟨hc, hf⟩ := bcell hb0))
            all_goals
              go_ret
              exact ⟨ret_bool HH.out.symm, by ((first | exact b1 ‹_› | exact bN (b1 ‹_›) _ | exact bA (Below.refl _ _) _))⟩
        · have fz : decide ((0 : Int) < (ns.length : Int)) = true := decide_eq_true (by omega)
          have fz2 : 0 < ns.length := by omega
          have ZZ := Lib.hid z
          clear z
          have HH := Lib.hid (show objB qS n ⟨0, nm, pl, its, ks, ns, vs⟩ = false by simp [objB, headB, midB, named, lam, p1, p2, p3, p4, p5, p6, hn60, q5, Q8.out, (by decide : inR 0 0 10 = true), ZZ.out])
          go_wp2_with (first
              | (go_at_call 103; refine (iRo _ _ _ _).mono ?_; rintro e w' ⟨rfl, rfl⟩)
              | (go_at_call 56; (first
                  | (with_reducible refine (vVo _ hn _ _ _ _ (h3.below (by ((first | exact b1 ‹_› | exact bN (b1 ‹_›) _ | exact bA (Below.refl _ _) _))))).mono ?_)
                  | (with_reducible refine (vVo _ hn _ _ _ _ (h4.below (by ((first | exact b1 ‹_› | exact bN (b1 ‹_›) _ | exact bA (Below.refl _ _) _))))).mono ?_)
                  | (with_reducible refine (vVn _ hn _ _ _ _ Q8.out.symm _ (h6.below (by ((first | exact b1 ‹_› | exact bN (b1 ‹_›) _ | exact bA (Below.refl _ _) _))))).mono ?_)); rintro e w1 ⟨rfl, hb⟩; (first | have hb0 := hbN ‹_› hb | have hb0 := hbF hb); clear hb; obtain ⟨hc, hf⟩ := bcell hb0)
              | (go_at_call 130; refine (oEo _ _ _ _ (h5.below (by ((first | exact b1 ‹_› | exact bN (b1 ‹_›) _ | exact bA (Below.refl _ _) _)))) hcc5 hz).mono ?_; rintro e w1 ⟨rfl, hb⟩; (first | have hb0 := hbN ‹_› hb | have hb0 := hbF hb); clear hb; obtain ⟨hc, hf⟩ := bcell hb0)
              | (go_at_call 131; refine (vNo _ hnm _).mono ?_; rintro e w1 ⟨rfl, hb⟩; (first | have hb0 := hbN ‹_› hb | have hb0 := hbF hb); clear hb; obtain ⟨hc, hf⟩ := bcell hb0))
          all_goals
            go_ret
            exact ⟨ret_bool HH.out.symm, by ((first | exact b1 ‹_› | exact bN (b1 ‹_›) _ | exact bA (Below.refl _ _) _))⟩
      · have fe : (nm.toList == []) = false := by simpa using e0
        have HH := Lib.hid (show objB qS n ⟨0, nm, pl, its, ks, ns, vs⟩ = false by simp [objB, headB, midB, named, lam, p1, p2, p3, p4, p5, p6, hn60, q5, Q8.out, (by decide : inR 0 0 10 = true), e0])
        go_wp2_with (first
            | (go_at_call 103; refine (iRo _ _ _ _).mono ?_; rintro e w' ⟨rfl, rfl⟩)
            | (go_at_call 56; (first
                | (with_reducible refine (vVo _ hn _ _ _ _ (h3.below (by ((first | exact b1 ‹_› | exact bN (b1 ‹_›) _ | exact bA (Below.refl _ _) _))))).mono ?_)
                | (with_reducible refine (vVo _ hn _ _ _ _ (h4.below (by ((first | exact b1 ‹_› | exact bN (b1 ‹_›) _ | exact bA (Below.refl _ _) _))))).mono ?_)
                | (with_reducible refine (vVn _ hn _ _ _ _ Q8.out.symm _ (h6.below (by ((first | exact b1 ‹_› | exact bN (b1 ‹_›) _ | exact bA (Below.refl _ _) _))))).mono ?_)); rintro e w1 ⟨rfl, hb⟩; (first | have hb0 := hbN ‹_› hb | have hb0 := hbF hb); clear hb; obtain ⟨hc, hf⟩ := bcell hb0)
            | (go_at_call 130; refine (oEo _ _ _ _ (h5.below (by ((first | exact b1 ‹_› | exact bN (b1 ‹_›) _ | exact bA (Below.refl _ _) _)))) hcc5 hz).mono ?_; rintro e w1 ⟨rfl, hb⟩; (first | have hb0 := hbN ‹_› hb | have hb0 := hbF hb); clear hb; obtain ⟨hc, hf⟩ := bcell hb0)
            | (go_at_call 131; refine (vNo _ hnm _).mono ?_; rintro e w1 ⟨rfl, hb⟩; (first | have hb0 := hbN ‹_› hb | have hb0 := hbF hb); clear hb; obtain ⟨hc, hf⟩ := bcell hb0))
        all_goals
          go_ret
          exact ⟨ret_bool HH.out.symm, by ((first | exact b1 ‹_› | exact bN (b1 ‹_›) _ | exact bA (Below.refl _ _) _))⟩
    · go_enter Try.func100, Try.ntmps100
      by_cases e0 : nm.toList = []
      · have fe : (nm.toList == []) = true := by simpa using e0
        by_cases z : ns.length = 0
        · have fz : decide ((0 : Int) < (ns.length : Int)) = false := decide_eq_false (by omega)
          have fz2 : ¬ 0 < ns.length := by omega
          have ZZ := Lib.hid z
          clear z
          by_cases q9 : inR pl 0 1000000 = true
          · have HT := Lib.hid (show objB qS n ⟨1, nm, pl, its, ks, ns, vs⟩ = tailB n ⟨1, nm, pl, its, ks, ns, vs⟩ by simp [objB, headB, midB, named, lam, p1, p2, p3, p4, p5, p6, hn60, q5, Q8.out, (by decide : inR 1 0 10 = true), e0, ZZ.out, q9])
            go_wp2_with (first
                | (go_at_call 103; refine (iRo _ _ _ _).mono ?_; rintro e w' ⟨rfl, rfl⟩)
                | (go_at_call 56; (first
                    | (with_reducible refine (vVo _ hn _ _ _ _ (h3.below (by ((first | exact b1 ‹_› | exact bN (b1 ‹_›) _ | exact bA (Below.refl _ _) _))))).mono ?_)
                    | (with_reducible refine (vVo _ hn _ _ _ _ (h4.below (by ((first | exact b1 ‹_› | exact bN (b1 ‹_›) _ | exact bA (Below.refl _ _) _))))).mono ?_)
                    | (with_reducible refine (vVn _ hn _ _ _ _ Q8.out.symm _ (h6.below (by ((first | exact b1 ‹_› | exact bN (b1 ‹_›) _ | exact bA (Below.refl _ _) _))))).mono ?_)); rintro e w1 ⟨rfl, hb⟩; (first | have hb0 := hbN ‹_› hb | have hb0 := hbF hb); clear hb; obtain ⟨hc, hf⟩ := bcell hb0)
                | (go_at_call 130; refine (oEo _ _ _ _ (h5.below (by ((first | exact b1 ‹_› | exact bN (b1 ‹_›) _ | exact bA (Below.refl _ _) _)))) hcc5 hz).mono ?_; rintro e w1 ⟨rfl, hb⟩; (first | have hb0 := hbN ‹_› hb | have hb0 := hbF hb); clear hb; obtain ⟨hc, hf⟩ := bcell hb0)
                | (go_at_call 131; refine (vNo _ hnm _).mono ?_; rintro e w1 ⟨rfl, hb⟩; (first | have hb0 := hbN ‹_› hb | have hb0 := hbF hb); clear hb; obtain ⟨hc, hf⟩ := bcell hb0))
            all_goals
              go_ret
              refine ⟨ret_bool ?_, by ((first | exact b1 ‹_› | exact bN (b1 ‹_›) _ | exact bA (Below.refl _ _) _))⟩
              rw [HT.out]
              go_light
              first | (simp [tailB, *]; done) | (simp [tailB, *]; omega) | (rw [Bool.eq_iff_iff]; simp [tailB, *]; done) | (rw [Bool.eq_iff_iff]; simp [tailB, *]; omega) | (rw [Bool.eq_iff_iff]; simp [tailB, -List.length_eq_zero_iff]; omega)
          · replace q9 : inR pl 0 1000000 = false := by simpa using q9
            have HH := Lib.hid (show objB qS n ⟨1, nm, pl, its, ks, ns, vs⟩ = false by simp [objB, headB, midB, named, lam, p1, p2, p3, p4, p5, p6, hn60, q5, Q8.out, (by decide : inR 1 0 10 = true), q9])
            go_wp2_with (first
                | (go_at_call 103; refine (iRo _ _ _ _).mono ?_; rintro e w' ⟨rfl, rfl⟩)
                | (go_at_call 56; (first
                    | (with_reducible refine (vVo _ hn _ _ _ _ (h3.below (by ((first | exact b1 ‹_› | exact bN (b1 ‹_›) _ | exact bA (Below.refl _ _) _))))).mono ?_)
                    | (with_reducible refine (vVo _ hn _ _ _ _ (h4.below (by ((first | exact b1 ‹_› | exact bN (b1 ‹_›) _ | exact bA (Below.refl _ _) _))))).mono ?_)
                    | (with_reducible refine (vVn _ hn _ _ _ _ Q8.out.symm _ (h6.below (by ((first | exact b1 ‹_› | exact bN (b1 ‹_›) _ | exact bA (Below.refl _ _) _))))).mono ?_)); rintro e w1 ⟨rfl, hb⟩; (first | have hb0 := hbN ‹_› hb | have hb0 := hbF hb); clear hb; obtain ⟨hc, hf⟩ := bcell hb0)
                | (go_at_call 130; refine (oEo _ _ _ _ (h5.below (by ((first | exact b1 ‹_› | exact bN (b1 ‹_›) _ | exact bA (Below.refl _ _) _)))) hcc5 hz).mono ?_; rintro e w1 ⟨rfl, hb⟩; (first | have hb0 := hbN ‹_› hb | have hb0 := hbF hb); clear hb; obtain ⟨hc, hf⟩ := bcell hb0)
                | (go_at_call 131; refine (vNo _ hnm _).mono ?_; rintro e w1 ⟨rfl, hb⟩; (first | have hb0 := hbN ‹_› hb | have hb0 := hbF hb); clear hb; obtain ⟨hc, hf⟩ := bcell hb0))
            all_goals
              go_ret
              exact ⟨ret_bool HH.out.symm, by ((first | exact b1 ‹_› | exact bN (b1 ‹_›) _ | exact bA (Below.refl _ _) _))⟩
        · have fz : decide ((0 : Int) < (ns.length : Int)) = true := decide_eq_true (by omega)
          have fz2 : 0 < ns.length := by omega
          have ZZ := Lib.hid z
          clear z
          have HH := Lib.hid (show objB qS n ⟨1, nm, pl, its, ks, ns, vs⟩ = false by simp [objB, headB, midB, named, lam, p1, p2, p3, p4, p5, p6, hn60, q5, Q8.out, (by decide : inR 1 0 10 = true), ZZ.out])
          go_wp2_with (first
              | (go_at_call 103; refine (iRo _ _ _ _).mono ?_; rintro e w' ⟨rfl, rfl⟩)
              | (go_at_call 56; (first
                  | (with_reducible refine (vVo _ hn _ _ _ _ (h3.below (by ((first | exact b1 ‹_› | exact bN (b1 ‹_›) _ | exact bA (Below.refl _ _) _))))).mono ?_)
                  | (with_reducible refine (vVo _ hn _ _ _ _ (h4.below (by ((first | exact b1 ‹_› | exact bN (b1 ‹_›) _ | exact bA (Below.refl _ _) _))))).mono ?_)
                  | (with_reducible refine (vVn _ hn _ _ _ _ Q8.out.symm _ (h6.below (by ((first | exact b1 ‹_› | exact bN (b1 ‹_›) _ | exact bA (Below.refl _ _) _))))).mono ?_)); rintro e w1 ⟨rfl, hb⟩; (first | have hb0 := hbN ‹_› hb | have hb0 := hbF hb); clear hb; obtain ⟨hc, hf⟩ := bcell hb0)
              | (go_at_call 130; refine (oEo _ _ _ _ (h5.below (by ((first | exact b1 ‹_› | exact bN (b1 ‹_›) _ | exact bA (Below.refl _ _) _)))) hcc5 hz).mono ?_; rintro e w1 ⟨rfl, hb⟩; (first | have hb0 := hbN ‹_› hb | have hb0 := hbF hb); clear hb; obtain ⟨hc, hf⟩ := bcell hb0)
              | (go_at_call 131; refine (vNo _ hnm _).mono ?_; rintro e w1 ⟨rfl, hb⟩; (first | have hb0 := hbN ‹_› hb | have hb0 := hbF hb); clear hb; obtain ⟨hc, hf⟩ := bcell hb0))
          all_goals
            go_ret
            exact ⟨ret_bool HH.out.symm, by ((first | exact b1 ‹_› | exact bN (b1 ‹_›) _ | exact bA (Below.refl _ _) _))⟩
      · have fe : (nm.toList == []) = false := by simpa using e0
        have HH := Lib.hid (show objB qS n ⟨1, nm, pl, its, ks, ns, vs⟩ = false by simp [objB, headB, midB, named, lam, p1, p2, p3, p4, p5, p6, hn60, q5, Q8.out, (by decide : inR 1 0 10 = true), e0])
        go_wp2_with (first
            | (go_at_call 103; refine (iRo _ _ _ _).mono ?_; rintro e w' ⟨rfl, rfl⟩)
            | (go_at_call 56; (first
                | (with_reducible refine (vVo _ hn _ _ _ _ (h3.below (by ((first | exact b1 ‹_› | exact bN (b1 ‹_›) _ | exact bA (Below.refl _ _) _))))).mono ?_)
                | (with_reducible refine (vVo _ hn _ _ _ _ (h4.below (by ((first | exact b1 ‹_› | exact bN (b1 ‹_›) _ | exact bA (Below.refl _ _) _))))).mono ?_)
                | (with_reducible refine (vVn _ hn _ _ _ _ Q8.out.symm _ (h6.below (by ((first | exact b1 ‹_› | exact bN (b1 ‹_›) _ | exact bA (Below.refl _ _) _))))).mono ?_)); rintro e w1 ⟨rfl, hb⟩; (first | have hb0 := hbN ‹_› hb | have hb0 := hbF hb); clear hb; obtain ⟨hc, hf⟩ := bcell hb0)
            | (go_at_call 130; refine (oEo _ _ _ _ (h5.below (by ((first | exact b1 ‹_› | exact bN (b1 ‹_›) _ | exact bA (Below.refl _ _) _)))) hcc5 hz).mono ?_; rintro e w1 ⟨rfl, hb⟩; (first | have hb0 := hbN ‹_› hb | have hb0 := hbF hb); clear hb; obtain ⟨hc, hf⟩ := bcell hb0)
            | (go_at_call 131; refine (vNo _ hnm _).mono ?_; rintro e w1 ⟨rfl, hb⟩; (first | have hb0 := hbN ‹_› hb | have hb0 := hbF hb); clear hb; obtain ⟨hc, hf⟩ := bcell hb0))
        all_goals
          go_ret
          exact ⟨ret_bool HH.out.symm, by ((first | exact b1 ‹_› | exact bN (b1 ‹_›) _ | exact bA (Below.refl _ _) _))⟩
    · go_enter Try.func100, Try.ntmps100
      by_cases e0 : nm.toList = []
      · have fe : (nm.toList == []) = true := by simpa using e0
        by_cases z : ns.length = 0
        · have fz : decide ((0 : Int) < (ns.length : Int)) = false := decide_eq_false (by omega)
          have fz2 : ¬ 0 < ns.length := by omega
          have ZZ := Lib.hid z
          clear z
          by_cases q9 : inR pl 0 1000000 = true
          · have HT := Lib.hid (show objB qS n ⟨2, nm, pl, its, ks, ns, vs⟩ = tailB n ⟨2, nm, pl, its, ks, ns, vs⟩ by simp [objB, headB, midB, named, lam, p1, p2, p3, p4, p5, p6, hn60, q5, Q8.out, (by decide : inR 2 0 10 = true), e0, ZZ.out, q9])
            go_wp2_with (first
                | (go_at_call 103; refine (iRo _ _ _ _).mono ?_; rintro e w' ⟨rfl, rfl⟩)
                | (go_at_call 56; (first
                    | (with_reducible refine (vVo _ hn _ _ _ _ (h3.below (by ((first | exact b1 ‹_› | exact bN (b1 ‹_›) _ | exact bA (Below.refl _ _) _))))).mono ?_)
                    | (with_reducible refine (vVo _ hn _ _ _ _ (h4.below (by ((first | exact b1 ‹_› | exact bN (b1 ‹_›) _ | exact bA (Below.refl _ _) _))))).mono ?_)
                    | (with_reducible refine (vVn _ hn _ _ _ _ Q8.out.symm _ (h6.below (by ((first | exact b1 ‹_› | exact bN (b1 ‹_›) _ | exact bA (Below.refl _ _) _))))).mono ?_)); rintro e w1 ⟨rfl, hb⟩; (first | have hb0 := hbN ‹_› hb | have hb0 := hbF hb); clear hb; obtain ⟨hc, hf⟩ := bcell hb0)
                | (go_at_call 130; refine (oEo _ _ _ _ (h5.below (by ((first | exact b1 ‹_› | exact bN (b1 ‹_›) _ | exact bA (Below.refl _ _) _)))) hcc5 hz).mono ?_; rintro e w1 ⟨rfl, hb⟩; (first | have hb0 := hbN ‹_› hb | have hb0 := hbF hb); clear hb; obtain ⟨hc, hf⟩ := bcell hb0)
                | (go_at_call 131; refine (vNo _ hnm _).mono ?_; rintro e w1 ⟨rfl, hb⟩; (first | have hb0 := hbN ‹_› hb | have hb0 := hbF hb); clear hb; obtain ⟨hc, hf⟩ := bcell hb0))
            go_loopw [7] (fun i wr => ∃ m : Nat, m ≤ ks.length ∧ i = .int .i64 m ∧ allN (fun k => !((ks.getD k ⟨0, ⟨#[]⟩, 0⟩).k == 4) && !vhas (ks.take k) (ks.getD k ⟨0, ⟨#[]⟩, 0⟩)) m = true ∧ Below (w.alloc (.cells #[.int .i64 2, .string nm, .int .i64 pl, .slice A3 its.length c3, .slice A4 ks.length c4, .slice A5 ns.length c5, .slice A6 ns.length c6] 46)).heap.size (w.alloc (.cells #[.int .i64 2, .string nm, .int .i64 pl, .slice A3 its.length c3, .slice A4 ks.length c4, .slice A5 ns.length c5, .slice A6 ns.length c6] 46)) wr) (fun i _ => ks.length - (intOf i).toNat)
            case atStart => exact ⟨0, Nat.zero_le _, rfl, rfl, by assumption⟩
            case round =>
              obtain ⟨j, hj, rfl, hallk, hB⟩ := hrel
              have HK := Lib.hid hallk
              clear hallk
              have h4w := h4.below (b1 hB)
              obtain ⟨hc9, hf9⟩ := bcell hB
              have hlt9 := hB.size
              have hlt1 : w.heap.size < wr.heap.size := by simp at hlt9; omega
              clear hlt9
              by_cases hjl : j < ks.length
              · have hcb : wr.cell? ⟨w.heap.size, 4, none⟩ = some (.slice A4 ks.length c4) := (hc9 _ 4 (by simp)).trans ((kcl (heap_new w _) 4).trans rfl)
                obtain ⟨ad, rfl, hx⟩ := h4w.2 (by omega)
                obtain ⟨hx0, hx1, hx2, hsz⟩ := hx j hjl
                clear hx
                have hj0 : (0 : Int) ≤ (j : Int) := Int.natCast_nonneg _
                have hjn : (j : Int) < (ks.length : Int) := by omega
                have hjc : (j : Int) ≤ (c4 : Int) := by omega
                by_cases hk4 : ks[j].k = 4
                · have HK4 := Lib.hid hk4
                  clear hk4
                  go_wp2_with fail
                  refine start_ (n := 20) (S := fun w' => Below (w.alloc (.cells #[.int .i64 2, .string nm, .int .i64 pl, .slice A3 its.length c3, .slice (some ad) ks.length c4, .slice A5 ns.length c5, .slice A6 ns.length c6] 46)).heap.size (w.alloc (.cells #[.int .i64 2, .string nm, .int .i64 pl, .slice A3 its.length c3, .slice (some ad) ks.length c4, .slice A5 ns.length c5, .slice A6 ns.length c6] 46)) w' ∧ w'.cell? ⟨w.heap.size, 4, none⟩ = some (.slice (some ad) ks.length c4) ∧ w'.cell? (ad.add (j * 3)) = some (.int .i64 ks[j].k) ∧ w'.cell? ⟨(ad.add (j * 3)).block, (ad.add (j * 3)).off + 1, none⟩ = some (.string ks[j].t) ∧ w'.cell? ⟨(ad.add (j * 3)).block, (ad.add (j * 3)).off + 2, none⟩ = some (.int .i64 ks[j].r)) (ds := []) #[false, false, false, false, false, false, false, false, false, false, false, false, false, false, false, false, false, false, false, false] (by kernel_rfl) rfl rfl ⟨bD hB, hcb, hx0, hx1, hx2⟩ (fun hHeld => ?_)
                  refine pure_ (i := 0) (N := some 140) (v := ?_) (a' := ?_) #[true, false, false, false, false, false, false, false, false, false, false, false, false, false, false, false, false, false, false, false] rfl rfl (by kernel_rfl) (fun _ _ _ h => h) (Or.inl ⟨by rfl, ?_⟩) ?_ ?_
                  rotate_left
                  · intro w'
                    go_simp
                    with_reducible rfl
                  rotate_left
                  · simp only [Act.put, List.setIfInBounds_toArray, List.set_cons_zero, List.set_cons_succ, i64_w, i32_w]
                    rfl
                  refine pure_ (i := 2) (N := some 142) (v := ?_) (a' := ?_) #[true, false, true, false, false, false, false, false, false, false, false, false, false, false, false, false, false, false, false, false] rfl rfl (by kernel_rfl) (fun _ _ _ h => h) (Or.inl ⟨by rfl, ?_⟩) ?_ ?_
                  rotate_left
                  · intro w'
                    go_simp
                    with_reducible rfl
                  rotate_left
                  · simp only [Act.put, List.setIfInBounds_toArray, List.set_cons_zero, List.set_cons_succ, i64_w, i32_w]
                    rfl
                  refine take_ (i := 1) (N := some 141) (v := ?_) (a' := ?_) #[true, true, true, false, false, false, false, false, false, false, false, false, false, false, false, false, false, false, false, false] rfl rfl (by kernel_rfl) (fun _ _ _ h => h) (Or.inl ⟨by rfl, ?_⟩) hHeld ?_ ?_
                  rotate_left
                  · rintro w' ⟨s0, s1, s2, s3, s4⟩
                    go_simp
                    with_reducible rfl
                  rotate_left
                  · simp only [Act.put, List.setIfInBounds_toArray, List.set_cons_zero, List.set_cons_succ, i64_w, i32_w]
                    rfl
                  refine pure_ (i := 3) (N := some 143) (v := ?_) (a' := ?_) #[true, true, true, true, false, false, false, false, false, false, false, false, false, false, false, false, false, false, false, false] rfl rfl (by kernel_rfl) (fun _ _ _ h => h) (Or.inl ⟨by rfl, ?_⟩) ?_ ?_
                  rotate_left
                  · intro w'
                    go_simp
                    with_reducible rfl
                  rotate_left
                  · simp only [Act.put, List.setIfInBounds_toArray, List.set_cons_zero, List.set_cons_succ, i64_w, i32_w]
                    rfl
                  refine take_ (i := 4) (N := some 144) (v := ?_) (a' := ?_) #[true, true, true, true, true, false, false, false, false, false, false, false, false, false, false, false, false, false, false, false] rfl rfl (by kernel_rfl) (fun _ _ _ h => h) (Or.inl ⟨by rfl, ?_⟩) hHeld ?_ ?_
                  rotate_left
                  · rintro w' ⟨s0, s1, s2, s3, s4⟩
                    go_simp
                    with_reducible rfl
                  rotate_left
                  · simp only [Act.put, List.setIfInBounds_toArray, List.set_cons_zero, List.set_cons_succ, i64_w, i32_w]
                    rfl
                  refine one_ (i := 5) (N := some 145) #[true, true, true, true, true, true, false, false, false, false, false, false, false, false, false, false, false, false, false, false] rfl rfl (by kernel_rfl) (by decide) (fun K hK => ?_)
                  refine goes_ Try.func121 (by kernel_rfl) rfl #[.agg #[.int .i64 ks[j].k, .string ks[j].t, .int .i64 ks[j].r]] (by rfl) rfl rfl (by simp only [List.map_toArray, List.map_cons, List.map_nil]; rfl) ?_
                  with_reducible refine (hashable_b ks[j] false (by simp [HK4.out]) _).mono ?_
                  rintro e w2 ⟨rfl, hb⟩
                  refine ⟨_, rfl, ?_⟩
                  refine hK.out _ _ ⟨bS hHeld.1 hb, cell_keep hb hHeld.2.1, cell_keep hb hHeld.2.2.1, cell_keep hb hHeld.2.2.2.1, cell_keep hb hHeld.2.2.2.2⟩ (fun hHeld => ?_)
                  clear hK K
                  refine norm_ (a' := ?_) ?_ ?_
                  rotate_left
                  · show Act.put _ (some 145) _ = _
                    simp only [Act.put, List.setIfInBounds_toArray, List.set_cons_zero, List.set_cons_succ, i64_w, i32_w]
                    rfl
                  refine pure_ (i := 6) (N := some 146) (v := ?_) (a' := ?_) #[true, true, true, true, true, true, true, false, false, false, false, false, false, false, false, false, false, false, false, false] rfl rfl (by kernel_rfl) (fun _ _ _ h => h) (Or.inl ⟨by rfl, ?_⟩) ?_ ?_
                  rotate_left
                  · intro w'
                    go_simp
                    with_reducible rfl
                  rotate_left
                  · simp only [Act.put, List.setIfInBounds_toArray, List.set_cons_zero, List.set_cons_succ, i64_w, i32_w]
                    rfl
                  refine pure_ (i := 7) (N := some 147) (v := ?_) (a' := ?_) #[true, true, true, true, true, true, true, true, false, false, false, false, false, false, false, false, false, false, false, false] rfl rfl (by kernel_rfl) (fun _ _ _ h => h) (Or.inl ⟨by rfl, ?_⟩) ?_ ?_
                  rotate_left
                  · intro w'
                    go_simp
                    with_reducible rfl
                  rotate_left
                  · simp only [Act.put, List.setIfInBounds_toArray, List.set_cons_zero, List.set_cons_succ, i64_w, i32_w]
                    rfl
                  refine pure_ (i := 8) (N := some 148) (v := undef) (a' := ?_) #[true, true, true, true, true, true, true, true, true, false, false, false, false, false, false, false, false, false, false, false] rfl rfl (by kernel_rfl) (fun _ _ _ h => h) (Or.inr ⟨by rfl, rfl⟩) ?_ ?_
                  rotate_left
                  · simp only [Act.put, List.setIfInBounds_toArray, List.set_cons_zero, List.set_cons_succ, i64_w, i32_w]
                    rfl
                  refine pure_ (i := 9) (N := some 149) (v := undef) (a' := ?_) #[true, true, true, true, true, true, true, true, true, true, false, false, false, false, false, false, false, false, false, false] rfl rfl (by kernel_rfl) (fun _ _ _ h => h) (Or.inr ⟨by rfl, rfl⟩) ?_ ?_
                  rotate_left
                  · simp only [Act.put, List.setIfInBounds_toArray, List.set_cons_zero, List.set_cons_succ, i64_w, i32_w]
                    rfl
                  refine pure_ (i := 10) (N := some 150) (v := undef) (a' := ?_) #[true, true, true, true, true, true, true, true, true, true, true, false, false, false, false, false, false, false, false, false] rfl rfl (by kernel_rfl) (fun _ _ _ h => h) (Or.inr ⟨by rfl, rfl⟩) ?_ ?_
                  rotate_left
                  · simp only [Act.put, List.setIfInBounds_toArray, List.set_cons_zero, List.set_cons_succ, i64_w, i32_w]
                    rfl
                  refine pure_ (i := 11) (N := some 151) (v := undef) (a' := ?_) #[true, true, true, true, true, true, true, true, true, true, true, true, false, false, false, false, false, false, false, false] rfl rfl (by kernel_rfl) (fun _ _ _ h => h) (Or.inr ⟨by rfl, rfl⟩) ?_ ?_
                  rotate_left
                  · simp only [Act.put, List.setIfInBounds_toArray, List.set_cons_zero, List.set_cons_succ, i64_w, i32_w]
                    rfl
                  refine pure_ (i := 12) (N := some 152) (v := undef) (a' := ?_) #[true, true, true, true, true, true, true, true, true, true, true, true, true, false, false, false, false, false, false, false] rfl rfl (by kernel_rfl) (fun _ _ _ h => h) (Or.inr ⟨by rfl, rfl⟩) ?_ ?_
                  rotate_left
                  · simp only [Act.put, List.setIfInBounds_toArray, List.set_cons_zero, List.set_cons_succ, i64_w, i32_w]
                    rfl
                  refine pure_ (i := 13) (N := some 153) (v := undef) (a' := ?_) #[true, true, true, true, true, true, true, true, true, true, true, true, true, true, false, false, false, false, false, false] rfl rfl (by kernel_rfl) (fun _ _ _ h => h) (Or.inr ⟨by rfl, rfl⟩) ?_ ?_
                  rotate_left
                  · simp only [Act.put, List.setIfInBounds_toArray, List.set_cons_zero, List.set_cons_succ, i64_w, i32_w]
                    rfl
                  refine pure_ (i := 14) (N := some 154) (v := undef) (a' := ?_) #[true, true, true, true, true, true, true, true, true, true, true, true, true, true, true, false, false, false, false, false] rfl rfl (by kernel_rfl) (fun _ _ _ h => h) (Or.inr ⟨by rfl, rfl⟩) ?_ ?_
                  rotate_left
                  · simp only [Act.put, List.setIfInBounds_toArray, List.set_cons_zero, List.set_cons_succ, i64_w, i32_w]
                    rfl
                  refine pure_ (i := 15) (N := some 155) (v := undef) (a' := ?_) #[true, true, true, true, true, true, true, true, true, true, true, true, true, true, true, true, false, false, false, false] rfl rfl (by kernel_rfl) (fun _ _ _ h => h) (Or.inr ⟨by rfl, rfl⟩) ?_ ?_
                  rotate_left
                  · simp only [Act.put, List.setIfInBounds_toArray, List.set_cons_zero, List.set_cons_succ, i64_w, i32_w]
                    rfl
                  refine pure_ (i := 16) (N := some 156) (v := undef) (a' := ?_) #[true, true, true, true, true, true, true, true, true, true, true, true, true, true, true, true, true, false, false, false] rfl rfl (by kernel_rfl) (fun _ _ _ h => h) (Or.inr ⟨by rfl, rfl⟩) ?_ ?_
                  rotate_left
                  · simp only [Act.put, List.setIfInBounds_toArray, List.set_cons_zero, List.set_cons_succ, i64_w, i32_w]
                    rfl
                  refine pure_ (i := 17) (N := some 157) (v := undef) (a' := ?_) #[true, true, true, true, true, true, true, true, true, true, true, true, true, true, true, true, true, true, false, false] rfl rfl (by kernel_rfl) (fun _ _ _ h => h) (Or.inr ⟨by rfl, rfl⟩) ?_ ?_
                  rotate_left
                  · simp only [Act.put, List.setIfInBounds_toArray, List.set_cons_zero, List.set_cons_succ, i64_w, i32_w]
                    rfl
                  refine pure_ (i := 18) (N := some 158) (v := undef) (a' := ?_) #[true, true, true, true, true, true, true, true, true, true, true, true, true, true, true, true, true, true, true, false] rfl rfl (by kernel_rfl) (fun _ _ _ h => h) (Or.inr ⟨by rfl, rfl⟩) ?_ ?_
                  rotate_left
                  · simp only [Act.put, List.setIfInBounds_toArray, List.set_cons_zero, List.set_cons_succ, i64_w, i32_w]
                    rfl
                  refine pure_ (i := 19) (N := some 159) (v := ?_) (a' := ?_) #[true, true, true, true, true, true, true, true, true, true, true, true, true, true, true, true, true, true, true, true] rfl rfl (by kernel_rfl) (fun _ _ _ h => h) (Or.inl ⟨by rfl, ?_⟩) ?_ ?_
                  rotate_left
                  · intro w'
                    go_simp
                    with_reducible rfl
                  rotate_left
                  · simp only [Act.put, List.setIfInBounds_toArray, List.set_cons_zero, List.set_cons_succ, i64_w, i32_w]
                    rfl
                  refine done_ (by kernel_rfl) ?_
                  go_wp2
                  go_ret
                  refine ⟨ret_bool ?_, b1 hHeld.1⟩
                  have hkb : ksOk ks = false := allN_bad (k := j) (by simp [hjl, HK4.out]) _ hjl
                  rw [HT.out]
                  go_light
                  simp [tailB, hkb]
                · have HK4 := Lib.hid hk4
                  clear hk4
                  have HV := Lib.hid (vidx_neg ks[j] (ks.take j))
                  go_wp2_with fail
                  refine start_ (n := 20) (S := fun w' => Below (w.alloc (.cells #[.int .i64 2, .string nm, .int .i64 pl, .slice A3 its.length c3, .slice (some ad) ks.length c4, .slice A5 ns.length c5, .slice A6 ns.length c6] 46)).heap.size (w.alloc (.cells #[.int .i64 2, .string nm, .int .i64 pl, .slice A3 its.length c3, .slice (some ad) ks.length c4, .slice A5 ns.length c5, .slice A6 ns.length c6] 46)) w' ∧ w'.cell? ⟨w.heap.size, 4, none⟩ = some (.slice (some ad) ks.length c4) ∧ w'.cell? (ad.add (j * 3)) = some (.int .i64 ks[j].k) ∧ w'.cell? ⟨(ad.add (j * 3)).block, (ad.add (j * 3)).off + 1, none⟩ = some (.string ks[j].t) ∧ w'.cell? ⟨(ad.add (j * 3)).block, (ad.add (j * 3)).off + 2, none⟩ = some (.int .i64 ks[j].r)) (ds := []) #[false, false, false, false, false, false, false, false, false, false, false, false, false, false, false, false, false, false, false, false] (by kernel_rfl) rfl rfl ⟨bD hB, hcb, hx0, hx1, hx2⟩ (fun hHeld => ?_)
                  refine pure_ (i := 0) (N := some 140) (v := ?_) (a' := ?_) #[true, false, false, false, false, false, false, false, false, false, false, false, false, false, false, false, false, false, false, false] rfl rfl (by kernel_rfl) (fun _ _ _ h => h) (Or.inl ⟨by rfl, ?_⟩) ?_ ?_
                  rotate_left
                  · intro w'
                    go_simp
                    with_reducible rfl
                  rotate_left
                  · simp only [Act.put, List.setIfInBounds_toArray, List.set_cons_zero, List.set_cons_succ, i64_w, i32_w]
                    rfl
                  refine pure_ (i := 2) (N := some 142) (v := ?_) (a' := ?_) #[true, false, true, false, false, false, false, false, false, false, false, false, false, false, false, false, false, false, false, false] rfl rfl (by kernel_rfl) (fun _ _ _ h => h) (Or.inl ⟨by rfl, ?_⟩) ?_ ?_
                  rotate_left
                  · intro w'
                    go_simp
                    with_reducible rfl
                  rotate_left
                  · simp only [Act.put, List.setIfInBounds_toArray, List.set_cons_zero, List.set_cons_succ, i64_w, i32_w]
                    rfl
                  refine take_ (i := 1) (N := some 141) (v := ?_) (a' := ?_) #[true, true, true, false, false, false, false, false, false, false, false, false, false, false, false, false, false, false, false, false] rfl rfl (by kernel_rfl) (fun _ _ _ h => h) (Or.inl ⟨by rfl, ?_⟩) hHeld ?_ ?_
                  rotate_left
                  · rintro w' ⟨s0, s1, s2, s3, s4⟩
                    go_simp
                    with_reducible rfl
                  rotate_left
                  · simp only [Act.put, List.setIfInBounds_toArray, List.set_cons_zero, List.set_cons_succ, i64_w, i32_w]
                    rfl
                  refine pure_ (i := 3) (N := some 143) (v := ?_) (a' := ?_) #[true, true, true, true, false, false, false, false, false, false, false, false, false, false, false, false, false, false, false, false] rfl rfl (by kernel_rfl) (fun _ _ _ h => h) (Or.inl ⟨by rfl, ?_⟩) ?_ ?_
                  rotate_left
                  · intro w'
                    go_simp
                    with_reducible rfl
                  rotate_left
                  · simp only [Act.put, List.setIfInBounds_toArray, List.set_cons_zero, List.set_cons_succ, i64_w, i32_w]
                    rfl
                  refine take_ (i := 4) (N := some 144) (v := ?_) (a' := ?_) #[true, true, true, true, true, false, false, false, false, false, false, false, false, false, false, false, false, false, false, false] rfl rfl (by kernel_rfl) (fun _ _ _ h => h) (Or.inl ⟨by rfl, ?_⟩) hHeld ?_ ?_
                  rotate_left
                  · rintro w' ⟨s0, s1, s2, s3, s4⟩
                    go_simp
                    with_reducible rfl
                  rotate_left
                  · simp only [Act.put, List.setIfInBounds_toArray, List.set_cons_zero, List.set_cons_succ, i64_w, i32_w]
                    rfl
                  refine one_ (i := 5) (N := some 145) #[true, true, true, true, true, true, false, false, false, false, false, false, false, false, false, false, false, false, false, false] rfl rfl (by kernel_rfl) (by decide) (fun K hK => ?_)
                  refine goes_ Try.func121 (by kernel_rfl) rfl #[.agg #[.int .i64 ks[j].k, .string ks[j].t, .int .i64 ks[j].r]] (by rfl) rfl rfl (by simp only [List.map_toArray, List.map_cons, List.map_nil]; rfl) ?_
                  with_reducible refine (hashable_b ks[j] true (by simp [HK4.out]) _).mono ?_
                  rintro e w2 ⟨rfl, hb⟩
                  refine ⟨_, rfl, ?_⟩
                  refine hK.out _ _ ⟨bS hHeld.1 hb, cell_keep hb hHeld.2.1, cell_keep hb hHeld.2.2.1, cell_keep hb hHeld.2.2.2.1, cell_keep hb hHeld.2.2.2.2⟩ (fun hHeld => ?_)
                  clear hK K
                  refine norm_ (a' := ?_) ?_ ?_
                  rotate_left
                  · show Act.put _ (some 145) _ = _
                    simp only [Act.put, List.setIfInBounds_toArray, List.set_cons_zero, List.set_cons_succ, i64_w, i32_w]
                    rfl
                  refine pure_ (i := 6) (N := some 146) (v := ?_) (a' := ?_) #[true, true, true, true, true, true, true, false, false, false, false, false, false, false, false, false, false, false, false, false] rfl rfl (by kernel_rfl) (fun _ _ _ h => h) (Or.inl ⟨by rfl, ?_⟩) ?_ ?_
                  rotate_left
                  · intro w'
                    go_simp
                    with_reducible rfl
                  rotate_left
                  · simp only [Act.put, List.setIfInBounds_toArray, List.set_cons_zero, List.set_cons_succ, i64_w, i32_w]
                    rfl
                  refine pure_ (i := 7) (N := some 147) (v := ?_) (a' := ?_) #[true, true, true, true, true, true, true, true, false, false, false, false, false, false, false, false, false, false, false, false] rfl rfl (by kernel_rfl) (fun _ _ _ h => h) (Or.inl ⟨by rfl, ?_⟩) ?_ ?_
                  rotate_left
                  · intro w'
                    go_simp
                    with_reducible rfl
                  rotate_left
                  · simp only [Act.put, List.setIfInBounds_toArray, List.set_cons_zero, List.set_cons_succ, i64_w, i32_w]
                    rfl
                  refine pure_ (i := 8) (N := some 148) (v := ?_) (a' := ?_) #[true, true, true, true, true, true, true, true, true, false, false, false, false, false, false, false, false, false, false, false] rfl rfl (by kernel_rfl) (fun _ _ _ h => h) (Or.inl ⟨by rfl, ?_⟩) ?_ ?_
                  rotate_left
                  · intro w'
                    go_simp
                    with_reducible rfl
                  rotate_left
                  · simp only [Act.put, List.setIfInBounds_toArray, List.set_cons_zero, List.set_cons_succ, i64_w, i32_w]
                    rfl
                  refine pure_ (i := 10) (N := some 150) (v := ?_) (a' := ?_) #[true, true, true, true, true, true, true, true, true, false, true, false, false, false, false, false, false, false, false, false] rfl rfl (by kernel_rfl) (fun _ _ _ h => h) (Or.inl ⟨by rfl, ?_⟩) ?_ ?_
                  rotate_left
                  · intro w'
                    go_simp
                    with_reducible rfl
                  rotate_left
                  · simp only [Act.put, List.setIfInBounds_toArray, List.set_cons_zero, List.set_cons_succ, i64_w, i32_w]
                    rfl
                  refine pure_ (i := 12) (N := some 152) (v := ?_) (a' := ?_) #[true, true, true, true, true, true, true, true, true, false, true, false, true, false, false, false, false, false, false, false] rfl rfl (by kernel_rfl) (fun _ _ _ h => h) (Or.inl ⟨by rfl, ?_⟩) ?_ ?_
                  rotate_left
                  · intro w'
                    go_simp
                    with_reducible rfl
                  rotate_left
                  · simp only [Act.put, List.setIfInBounds_toArray, List.set_cons_zero, List.set_cons_succ, i64_w, i32_w]
                    rfl
                  refine pure_ (i := 14) (N := some 154) (v := ?_) (a' := ?_) #[true, true, true, true, true, true, true, true, true, false, true, false, true, false, true, false, false, false, false, false] rfl rfl (by kernel_rfl) (fun _ _ _ h => h) (Or.inl ⟨by rfl, ?_⟩) ?_ ?_
                  rotate_left
                  · intro w'
                    go_simp
                    with_reducible rfl
                  rotate_left
                  · simp only [Act.put, List.setIfInBounds_toArray, List.set_cons_zero, List.set_cons_succ, i64_w, i32_w]
                    rfl
                  refine take_ (i := 9) (N := some 149) (v := ?_) (a' := ?_) #[true, true, true, true, true, true, true, true, true, true, true, false, true, false, true, false, false, false, false, false] rfl rfl (by kernel_rfl) (fun _ _ _ h => h) (Or.inl ⟨by rfl, ?_⟩) hHeld ?_ ?_
                  rotate_left
                  · rintro w' ⟨s0, s1, s2, s3, s4⟩
                    go_simp
                    with_reducible rfl
                  rotate_left
                  · simp only [Act.put, List.setIfInBounds_toArray, List.set_cons_zero, List.set_cons_succ, i64_w, i32_w]
                    rfl
                  refine pure_ (i := 11) (N := some 151) (v := ?_) (a' := ?_) #[true, true, true, true, true, true, true, true, true, true, true, true, true, false, true, false, false, false, false, false] rfl rfl (by kernel_rfl) (fun _ _ _ h => h) (Or.inl ⟨by rfl, ?_⟩) ?_ ?_
                  rotate_left
                  · intro w'
                    go_simp
                    with_reducible rfl
                  rotate_left
                  · simp only [Act.put, List.setIfInBounds_toArray, List.set_cons_zero, List.set_cons_succ, i64_w, i32_w]
                    rfl
                  refine take_ (i := 13) (N := some 153) (v := ?_) (a' := ?_) #[true, true, true, true, true, true, true, true, true, true, true, true, true, true, true, false, false, false, false, false] rfl rfl (by kernel_rfl) (fun _ _ _ h => h) (Or.inl ⟨by rfl, ?_⟩) hHeld ?_ ?_
                  rotate_left
                  · rintro w' ⟨s0, s1, s2, s3, s4⟩
                    go_simp
                    with_reducible rfl
                  rotate_left
                  · simp only [Act.put, List.setIfInBounds_toArray, List.set_cons_zero, List.set_cons_succ, i64_w, i32_w]
                    rfl
                  refine pure_ (i := 15) (N := some 155) (v := ?_) (a' := ?_) #[true, true, true, true, true, true, true, true, true, true, true, true, true, true, true, true, false, false, false, false] rfl rfl (by kernel_rfl) (fun _ _ _ h => h) (Or.inl ⟨by rfl, ?_⟩) ?_ ?_
                  rotate_left
                  · intro w'
                    go_simp
                    with_reducible rfl
                  rotate_left
                  · simp only [Act.put, List.setIfInBounds_toArray, List.set_cons_zero, List.set_cons_succ, i64_w, i32_w]
                    rfl
                  refine take_ (i := 16) (N := some 156) (v := ?_) (a' := ?_) #[true, true, true, true, true, true, true, true, true, true, true, true, true, true, true, true, true, false, false, false] rfl rfl (by kernel_rfl) (fun _ _ _ h => h) (Or.inl ⟨by rfl, ?_⟩) hHeld ?_ ?_
                  rotate_left
                  · rintro w' ⟨s0, s1, s2, s3, s4⟩
                    go_simp
                    with_reducible rfl
                  rotate_left
                  · simp only [Act.put, List.setIfInBounds_toArray, List.set_cons_zero, List.set_cons_succ, i64_w, i32_w]
                    rfl
                  refine one_ (i := 17) (N := some 157) #[true, true, true, true, true, true, true, true, true, true, true, true, true, true, true, true, true, true, false, false] rfl rfl (by kernel_rfl) (by decide) (fun K hK => ?_)
                  refine goes_ Try.func89 (by kernel_rfl) rfl #[.slice (some ad) j c4, .agg #[.int .i64 ks[j].k, .string ks[j].t, .int .i64 ks[j].r]] (by rfl) rfl rfl (by simp only [List.map_toArray, List.map_cons, List.map_nil]; rfl) ?_
                  with_reducible refine (keyAt_n _ _ j (ks.take j) (by simp; omega) ks[j] _ (RV.take (h4.below (b1 hHeld.1)) j)).mono ?_
                  rintro e w2 ⟨rfl, hb⟩
                  refine ⟨_, rfl, ?_⟩
                  refine hK.out _ _ ⟨bS hHeld.1 hb, cell_keep hb hHeld.2.1, cell_keep hb hHeld.2.2.1, cell_keep hb hHeld.2.2.2.1, cell_keep hb hHeld.2.2.2.2⟩ (fun hHeld => ?_)
                  clear hK K
                  refine norm_ (a' := ?_) ?_ ?_
                  rotate_left
                  · show Act.put _ (some 157) _ = _
                    simp only [Act.put, List.setIfInBounds_toArray, List.set_cons_zero, List.set_cons_succ, i64_w, i32_w]
                    rfl
                  refine pure_ (i := 18) (N := some 158) (v := ?_) (a' := ?_) #[true, true, true, true, true, true, true, true, true, true, true, true, true, true, true, true, true, true, true, false] rfl rfl (by kernel_rfl) (fun _ _ _ h => h) (Or.inl ⟨by rfl, ?_⟩) ?_ ?_
                  rotate_left
                  · intro w'
                    go_simp
                    with_reducible rfl
                  rotate_left
                  · simp only [Act.put, List.setIfInBounds_toArray, List.set_cons_zero, List.set_cons_succ, i64_w, i32_w]
                    rfl
                  refine pure_ (i := 19) (N := some 159) (v := ?_) (a' := ?_) #[true, true, true, true, true, true, true, true, true, true, true, true, true, true, true, true, true, true, true, true] rfl rfl (by kernel_rfl) (fun _ _ _ h => h) (Or.inl ⟨by rfl, ?_⟩) ?_ ?_
                  rotate_left
                  · intro w'
                    go_simp
                    with_reducible rfl
                  rotate_left
                  · simp only [Act.put, List.setIfInBounds_toArray, List.set_cons_zero, List.set_cons_succ, i64_w, i32_w]
                    rfl
                  refine done_ (by kernel_rfl) ?_
                  go_wp2
                  · go_ret
                    refine ⟨ret_bool ?_, b1 hHeld.1⟩
                    have hvh : vhas (ks.take j) ks[j] = true := by rw [← HV.out]; simpa using by assumption
                    have hkb : ksOk ks = false := allN_bad (k := j) (by simp [hjl, hvh]) _ hjl
                    rw [HT.out]
                    go_light
                    simp [tailB, hkb]
                  · have hvh : vhas (ks.take j) ks[j] = false := by rw [← HV.out]; simpa using by assumption
                    go_roundw
                    case rel =>
                      refine ⟨j + 1, by omega, by go_num, ?_, hHeld.1⟩
                      simp only [allN, HK.out, Bool.true_and]
                      simp [hjl, HK4.out, hvh]
                    case measure => simp [intOf]; omega
              · have hkok : ksOk ks = true := by
                  have := HK.out
                  have e : j = ks.length := by omega
                  rw [e] at this; exact this
                have HKO := Lib.hid hkok
                clear hkok
                have hc3 : wr.cell? ⟨w.heap.size, 3, none⟩ = some (.slice A3 its.length c3) := (hc9 _ 3 (by simp)).trans ((kcl (heap_new w _) 3).trans rfl)
                have hc4 : wr.cell? ⟨w.heap.size, 4, none⟩ = some (.slice A4 ks.length c4) := (hc9 _ 4 (by simp)).trans ((kcl (heap_new w _) 4).trans rfl)
                have hc2 : wr.cell? ⟨w.heap.size, 2, none⟩ = some (.int .i64 pl) := (hc9 _ 2 (by simp)).trans ((kcl (heap_new w _) 2).trans rfl)
                clear hc9 hf9
                go_wp2
                all_goals
                  go_ret
                  refine ⟨ret_bool ?_, b1 hB⟩
                  rw [HT.out]
                  have hkok := HKO.out
                  go_light
                  first | (simp [tailB, hkok, *]; done) | (simp [tailB, hkok, *]; omega) | (rw [Bool.eq_iff_iff]; simp [tailB, hkok, *]; done) | (rw [Bool.eq_iff_iff]; simp [tailB, hkok, *]; omega)

          · replace q9 : inR pl 0 1000000 = false := by simpa using q9
            have HH := Lib.hid (show objB qS n ⟨2, nm, pl, its, ks, ns, vs⟩ = false by simp [objB, headB, midB, named, lam, p1, p2, p3, p4, p5, p6, hn60, q5, Q8.out, (by decide : inR 2 0 10 = true), q9])
            go_wp2_with (first
                | (go_at_call 103; refine (iRo _ _ _ _).mono ?_; rintro e w' ⟨rfl, rfl⟩)
                | (go_at_call 56; (first
                    | (with_reducible refine (vVo _ hn _ _ _ _ (h3.below (by ((first | exact b1 ‹_› | exact bN (b1 ‹_›) _ | exact bA (Below.refl _ _) _))))).mono ?_)
                    | (with_reducible refine (vVo _ hn _ _ _ _ (h4.below (by ((first | exact b1 ‹_› | exact bN (b1 ‹_›) _ | exact bA (Below.refl _ _) _))))).mono ?_)
                    | (with_reducible refine (vVn _ hn _ _ _ _ Q8.out.symm _ (h6.below (by ((first | exact b1 ‹_› | exact bN (b1 ‹_›) _ | exact bA (Below.refl _ _) _))))).mono ?_)); rintro e w1 ⟨rfl, hb⟩; (first | have hb0 := hbN ‹_› hb | have hb0 := hbF hb); clear hb; obtain ⟨hc, hf⟩ := bcell hb0)
                | (go_at_call 130; refine (oEo _ _ _ _ (h5.below (by ((first | exact b1 ‹_› | exact bN (b1 ‹_›) _ | exact bA (Below.refl _ _) _)))) hcc5 hz).mono ?_; rintro e w1 ⟨rfl, hb⟩; (first | have hb0 := hbN ‹_› hb | have hb0 := hbF hb); clear hb; obtain ⟨hc, hf⟩ := bcell hb0)
                | (go_at_call 131; refine (vNo _ hnm _).mono ?_; rintro e w1 ⟨rfl, hb⟩; (first | have hb0 := hbN ‹_› hb | have hb0 := hbF hb); clear hb; obtain ⟨hc, hf⟩ := bcell hb0))
            all_goals
              go_ret
              exact ⟨ret_bool HH.out.symm, by ((first | exact b1 ‹_› | exact bN (b1 ‹_›) _ | exact bA (Below.refl _ _) _))⟩
        · have fz : decide ((0 : Int) < (ns.length : Int)) = true := decide_eq_true (by omega)
          have fz2 : 0 < ns.length := by omega
          have ZZ := Lib.hid z
          clear z
          have HH := Lib.hid (show objB qS n ⟨2, nm, pl, its, ks, ns, vs⟩ = false by simp [objB, headB, midB, named, lam, p1, p2, p3, p4, p5, p6, hn60, q5, Q8.out, (by decide : inR 2 0 10 = true), ZZ.out])
          go_wp2_with (first
              | (go_at_call 103; refine (iRo _ _ _ _).mono ?_; rintro e w' ⟨rfl, rfl⟩)
              | (go_at_call 56; (first
                  | (with_reducible refine (vVo _ hn _ _ _ _ (h3.below (by ((first | exact b1 ‹_› | exact bN (b1 ‹_›) _ | exact bA (Below.refl _ _) _))))).mono ?_)
                  | (with_reducible refine (vVo _ hn _ _ _ _ (h4.below (by ((first | exact b1 ‹_› | exact bN (b1 ‹_›) _ | exact bA (Below.refl _ _) _))))).mono ?_)
                  | (with_reducible refine (vVn _ hn _ _ _ _ Q8.out.symm _ (h6.below (by ((first | exact b1 ‹_› | exact bN (b1 ‹_›) _ | exact bA (Below.refl _ _) _))))).mono ?_)); rintro e w1 ⟨rfl, hb⟩; (first | have hb0 := hbN ‹_› hb | have hb0 := hbF hb); clear hb; obtain ⟨hc, hf⟩ := bcell hb0)
              | (go_at_call 130; refine (oEo _ _ _ _ (h5.below (by ((first | exact b1 ‹_› | exact bN (b1 ‹_›) _ | exact bA (Below.refl _ _) _)))) hcc5 hz).mono ?_; rintro e w1 ⟨rfl, hb⟩; (first | have hb0 := hbN ‹_› hb | have hb0 := hbF hb); clear hb; obtain ⟨hc, hf⟩ := bcell hb0)
              | (go_at_call 131; refine (vNo _ hnm _).mono ?_; rintro e w1 ⟨rfl, hb⟩; (first | have hb0 := hbN ‹_› hb | have hb0 := hbF hb); clear hb; obtain ⟨hc, hf⟩ := bcell hb0))
          all_goals
            go_ret
            exact ⟨ret_bool HH.out.symm, by ((first | exact b1 ‹_› | exact bN (b1 ‹_›) _ | exact bA (Below.refl _ _) _))⟩
      · have fe : (nm.toList == []) = false := by simpa using e0
        have HH := Lib.hid (show objB qS n ⟨2, nm, pl, its, ks, ns, vs⟩ = false by simp [objB, headB, midB, named, lam, p1, p2, p3, p4, p5, p6, hn60, q5, Q8.out, (by decide : inR 2 0 10 = true), e0])
        go_wp2_with (first
            | (go_at_call 103; refine (iRo _ _ _ _).mono ?_; rintro e w' ⟨rfl, rfl⟩)
            | (go_at_call 56; (first
                | (with_reducible refine (vVo _ hn _ _ _ _ (h3.below (by ((first | exact b1 ‹_› | exact bN (b1 ‹_›) _ | exact bA (Below.refl _ _) _))))).mono ?_)
                | (with_reducible refine (vVo _ hn _ _ _ _ (h4.below (by ((first | exact b1 ‹_› | exact bN (b1 ‹_›) _ | exact bA (Below.refl _ _) _))))).mono ?_)
                | (with_reducible refine (vVn _ hn _ _ _ _ Q8.out.symm _ (h6.below (by ((first | exact b1 ‹_› | exact bN (b1 ‹_›) _ | exact bA (Below.refl _ _) _))))).mono ?_)); rintro e w1 ⟨rfl, hb⟩; (first | have hb0 := hbN ‹_› hb | have hb0 := hbF hb); clear hb; obtain ⟨hc, hf⟩ := bcell hb0)
            | (go_at_call 130; refine (oEo _ _ _ _ (h5.below (by ((first | exact b1 ‹_› | exact bN (b1 ‹_›) _ | exact bA (Below.refl _ _) _)))) hcc5 hz).mono ?_; rintro e w1 ⟨rfl, hb⟩; (first | have hb0 := hbN ‹_› hb | have hb0 := hbF hb); clear hb; obtain ⟨hc, hf⟩ := bcell hb0)
            | (go_at_call 131; refine (vNo _ hnm _).mono ?_; rintro e w1 ⟨rfl, hb⟩; (first | have hb0 := hbN ‹_› hb | have hb0 := hbF hb); clear hb; obtain ⟨hc, hf⟩ := bcell hb0))
        all_goals
          go_ret
          exact ⟨ret_bool HH.out.symm, by ((first | exact b1 ‹_› | exact bN (b1 ‹_›) _ | exact bA (Below.refl _ _) _))⟩
    · go_enter Try.func100, Try.ntmps100
      by_cases e0 : nm.toList = []
      · have fe : (nm.toList == []) = true := by simpa using e0
        have HH := Lib.hid (show objB qS n ⟨3, nm, pl, its, ks, ns, vs⟩ = false by simp [objB, headB, midB, named, lam, p1, p2, p3, p4, p5, p6, hn60, q5, Q8.out, (by decide : inR 3 0 10 = true), e0])
        go_wp2_with (first
            | (go_at_call 103; refine (iRo _ _ _ _).mono ?_; rintro e w' ⟨rfl, rfl⟩)
            | (go_at_call 56; (first
                | (with_reducible refine (vVo _ hn _ _ _ _ (h3.below (by ((first | exact b1 ‹_› | exact bN (b1 ‹_›) _ | exact bA (Below.refl _ _) _))))).mono ?_)
                | (with_reducible refine (vVo _ hn _ _ _ _ (h4.below (by ((first | exact b1 ‹_› | exact bN (b1 ‹_›) _ | exact bA (Below.refl _ _) _))))).mono ?_)
                | (with_reducible refine (vVn _ hn _ _ _ _ Q8.out.symm _ (h6.below (by ((first | exact b1 ‹_› | exact bN (b1 ‹_›) _ | exact bA (Below.refl _ _) _))))).mono ?_)); rintro e w1 ⟨rfl, hb⟩; (first | have hb0 := hbN ‹_› hb | have hb0 := hbF hb); clear hb; obtain ⟨hc, hf⟩ := bcell hb0)
            | (go_at_call 130; refine (oEo _ _ _ _ (h5.below (by ((first | exact b1 ‹_› | exact bN (b1 ‹_›) _ | exact bA (Below.refl _ _) _)))) hcc5 hz).mono ?_; rintro e w1 ⟨rfl, hb⟩; (first | have hb0 := hbN ‹_› hb | have hb0 := hbF hb); clear hb; obtain ⟨hc, hf⟩ := bcell hb0)
            | (go_at_call 131; refine (vNo _ hnm _).mono ?_; rintro e w1 ⟨rfl, hb⟩; (first | have hb0 := hbN ‹_› hb | have hb0 := hbF hb); clear hb; obtain ⟨hc, hf⟩ := bcell hb0))
        all_goals
          go_ret
          exact ⟨ret_bool HH.out.symm, by ((first | exact b1 ‹_› | exact bN (b1 ‹_›) _ | exact bA (Below.refl _ _) _))⟩
      · have fe : (nm.toList == []) = false := by simpa using e0
        by_cases hN : nameB nm = true
        · by_cases z : ns.length = 0
          · have fz : decide ((0 : Int) < (ns.length : Int)) = false := decide_eq_false (by omega)
            have fz2 : ¬ 0 < ns.length := by omega
            have ZZ := Lib.hid z
            clear z
            by_cases q9 : inR pl 0 1000000 = true
            · have HT := Lib.hid (show objB qS n ⟨3, nm, pl, its, ks, ns, vs⟩ = tailB n ⟨3, nm, pl, its, ks, ns, vs⟩ by simp [objB, headB, midB, named, lam, p1, p2, p3, p4, p5, p6, hn60, q5, Q8.out, (by decide : inR 3 0 10 = true), e0, hN, ZZ.out, q9])
              go_wp2_with (first
                  | (go_at_call 103; refine (iRo _ _ _ _).mono ?_; rintro e w' ⟨rfl, rfl⟩)
                  | (go_at_call 56; (first
                      | (with_reducible refine (vVo _ hn _ _ _ _ (h3.below (by ((first | exact b1 ‹_› | exact bN (b1 ‹_›) _ | exact bA (Below.refl _ _) _))))).mono ?_)
                      | (with_reducible refine (vVo _ hn _ _ _ _ (h4.below (by ((first | exact b1 ‹_› | exact bN (b1 ‹_›) _ | exact bA (Below.refl _ _) _))))).mono ?_)
                      | (with_reducible refine (vVn _ hn _ _ _ _ Q8.out.symm _ (h6.below (by ((first | exact b1 ‹_› | exact bN (b1 ‹_›) _ | exact bA (Below.refl _ _) _))))).mono ?_)); rintro e w1 ⟨rfl, hb⟩; (first | have hb0 := hbN ‹_› hb | have hb0 := hbF hb); clear hb; obtain ⟨hc, hf⟩ := bcell hb0)
                  | (go_at_call 130; refine (oEo _ _ _ _ (h5.below (by ((first | exact b1 ‹_› | exact bN (b1 ‹_›) _ | exact bA (Below.refl _ _) _)))) hcc5 hz).mono ?_; rintro e w1 ⟨rfl, hb⟩; (first | have hb0 := hbN ‹_› hb | have hb0 := hbF hb); clear hb; obtain ⟨hc, hf⟩ := bcell hb0)
                  | (go_at_call 131; refine (vNo _ hnm _).mono ?_; rintro e w1 ⟨rfl, hb⟩; (first | have hb0 := hbN ‹_› hb | have hb0 := hbF hb); clear hb; obtain ⟨hc, hf⟩ := bcell hb0))
              all_goals
                go_ret
                refine ⟨ret_bool ?_, by ((first | exact b1 ‹_› | exact bN (b1 ‹_›) _ | exact bA (Below.refl _ _) _))⟩
                rw [HT.out]
                go_light
                first | (simp [tailB, *]; done) | (simp [tailB, *]; omega) | (rw [Bool.eq_iff_iff]; simp [tailB, *]; done) | (rw [Bool.eq_iff_iff]; simp [tailB, *]; omega) | (rw [Bool.eq_iff_iff]; simp [tailB, -List.length_eq_zero_iff]; omega)
            · replace q9 : inR pl 0 1000000 = false := by simpa using q9
              have HH := Lib.hid (show objB qS n ⟨3, nm, pl, its, ks, ns, vs⟩ = false by simp [objB, headB, midB, named, lam, p1, p2, p3, p4, p5, p6, hn60, q5, Q8.out, (by decide : inR 3 0 10 = true), q9])
              go_wp2_with (first
                  | (go_at_call 103; refine (iRo _ _ _ _).mono ?_; rintro e w' ⟨rfl, rfl⟩)
                  | (go_at_call 56; (first
                      | (with_reducible refine (vVo _ hn _ _ _ _ (h3.below (by ((first | exact b1 ‹_› | exact bN (b1 ‹_›) _ | exact bA (Below.refl _ _) _))))).mono ?_)
                      | (with_reducible refine (vVo _ hn _ _ _ _ (h4.below (by ((first | exact b1 ‹_› | exact bN (b1 ‹_›) _ | exact bA (Below.refl _ _) _))))).mono ?_)
                      | (with_reducible refine (vVn _ hn _ _ _ _ Q8.out.symm _ (h6.below (by ((first | exact b1 ‹_› | exact bN (b1 ‹_›) _ | exact bA (Below.refl _ _) _))))).mono ?_)); rintro e w1 ⟨rfl, hb⟩; (first | have hb0 := hbN ‹_› hb | have hb0 := hbF hb); clear hb; obtain ⟨hc, hf⟩ := bcell hb0)
                  | (go_at_call 130; refine (oEo _ _ _ _ (h5.below (by ((first | exact b1 ‹_› | exact bN (b1 ‹_›) _ | exact bA (Below.refl _ _) _)))) hcc5 hz).mono ?_; rintro e w1 ⟨rfl, hb⟩; (first | have hb0 := hbN ‹_› hb | have hb0 := hbF hb); clear hb; obtain ⟨hc, hf⟩ := bcell hb0)
                  | (go_at_call 131; refine (vNo _ hnm _).mono ?_; rintro e w1 ⟨rfl, hb⟩; (first | have hb0 := hbN ‹_› hb | have hb0 := hbF hb); clear hb; obtain ⟨hc, hf⟩ := bcell hb0))
              all_goals
                go_ret
                exact ⟨ret_bool HH.out.symm, by ((first | exact b1 ‹_› | exact bN (b1 ‹_›) _ | exact bA (Below.refl _ _) _))⟩
          · have fz : decide ((0 : Int) < (ns.length : Int)) = true := decide_eq_true (by omega)
            have fz2 : 0 < ns.length := by omega
            have ZZ := Lib.hid z
            clear z
            have HH := Lib.hid (show objB qS n ⟨3, nm, pl, its, ks, ns, vs⟩ = false by simp [objB, headB, midB, named, lam, p1, p2, p3, p4, p5, p6, hn60, q5, Q8.out, (by decide : inR 3 0 10 = true), ZZ.out])
            go_wp2_with (first
                | (go_at_call 103; refine (iRo _ _ _ _).mono ?_; rintro e w' ⟨rfl, rfl⟩)
                | (go_at_call 56; (first
                    | (with_reducible refine (vVo _ hn _ _ _ _ (h3.below (by ((first | exact b1 ‹_› | exact bN (b1 ‹_›) _ | exact bA (Below.refl _ _) _))))).mono ?_)
                    | (with_reducible refine (vVo _ hn _ _ _ _ (h4.below (by ((first | exact b1 ‹_› | exact bN (b1 ‹_›) _ | exact bA (Below.refl _ _) _))))).mono ?_)
                    | (with_reducible refine (vVn _ hn _ _ _ _ Q8.out.symm _ (h6.below (by ((first | exact b1 ‹_› | exact bN (b1 ‹_›) _ | exact bA (Below.refl _ _) _))))).mono ?_)); rintro e w1 ⟨rfl, hb⟩; (first | have hb0 := hbN ‹_› hb | have hb0 := hbF hb); clear hb; obtain ⟨hc, hf⟩ := bcell hb0)
                | (go_at_call 130; refine (oEo _ _ _ _ (h5.below (by ((first | exact b1 ‹_› | exact bN (b1 ‹_›) _ | exact bA (Below.refl _ _) _)))) hcc5 hz).mono ?_; rintro e w1 ⟨rfl, hb⟩; (first | have hb0 := hbN ‹_› hb | have hb0 := hbF hb); clear hb; obtain ⟨hc, hf⟩ := bcell hb0)
                | (go_at_call 131; refine (vNo _ hnm _).mono ?_; rintro e w1 ⟨rfl, hb⟩; (first | have hb0 := hbN ‹_› hb | have hb0 := hbF hb); clear hb; obtain ⟨hc, hf⟩ := bcell hb0))
            all_goals
              go_ret
              exact ⟨ret_bool HH.out.symm, by ((first | exact b1 ‹_› | exact bN (b1 ‹_›) _ | exact bA (Below.refl _ _) _))⟩
        · replace hN : nameB nm = false := by simpa using hN
          by_cases hL : nm.toList = [108, 97, 109, 98, 100, 97]
          · have fl : (nm.toList == [108, 97, 109, 98, 100, 97]) = true := by simpa using hL
            by_cases z : ns.length = 0
            · have fz : decide ((0 : Int) < (ns.length : Int)) = false := decide_eq_false (by omega)
              have fz2 : ¬ 0 < ns.length := by omega
              have ZZ := Lib.hid z
              clear z
              by_cases q9 : inR pl 0 1000000 = true
              · have HT := Lib.hid (show objB qS n ⟨3, nm, pl, its, ks, ns, vs⟩ = tailB n ⟨3, nm, pl, its, ks, ns, vs⟩ by simp [objB, headB, midB, named, lam, p1, p2, p3, p4, p5, p6, hn60, q5, Q8.out, (by decide : inR 3 0 10 = true), e0, hN, hL, ZZ.out, q9])
                go_wp2_with (first
                    | (go_at_call 103; refine (iRo _ _ _ _).mono ?_; rintro e w' ⟨rfl, rfl⟩)
                    | (go_at_call 56; (first
                        | (with_reducible refine (vVo _ hn _ _ _ _ (h3.below (by ((first | exact b1 ‹_› | exact bN (b1 ‹_›) _ | exact bA (Below.refl _ _) _))))).mono ?_)
                        | (with_reducible refine (vVo _ hn _ _ _ _ (h4.below (by ((first | exact b1 ‹_› | exact bN (b1 ‹_›) _ | exact bA (Below.refl _ _) _))))).mono ?_)
                        | (with_reducible refine (vVn _ hn _ _ _ _ Q8.out.symm _ (h6.below (by ((first | exact b1 ‹_› | exact bN (b1 ‹_›) _ | exact bA (Below.refl _ _) _))))).mono ?_)); rintro e w1 ⟨rfl, hb⟩; (first | have hb0 := hbN ‹_› hb | have hb0 := hbF hb); clear hb; obtain ⟨hc, hf⟩ := bcell hb0)
                    | (go_at_call 130; refine (oEo _ _ _ _ (h5.below (by ((first | exact b1 ‹_› | exact bN (b1 ‹_›) _ | exact bA (Below.refl _ _) _)))) hcc5 hz).mono ?_; rintro e w1 ⟨rfl, hb⟩; (first | have hb0 := hbN ‹_› hb | have hb0 := hbF hb); clear hb; obtain ⟨hc, hf⟩ := bcell hb0)
                    | (go_at_call 131; refine (vNo _ hnm _).mono ?_; rintro e w1 ⟨rfl, hb⟩; (first | have hb0 := hbN ‹_› hb | have hb0 := hbF hb); clear hb; obtain ⟨hc, hf⟩ := bcell hb0))
                all_goals
                  go_ret
                  refine ⟨ret_bool ?_, by ((first | exact b1 ‹_› | exact bN (b1 ‹_›) _ | exact bA (Below.refl _ _) _))⟩
                  rw [HT.out]
                  go_light
                  first | (simp [tailB, *]; done) | (simp [tailB, *]; omega) | (rw [Bool.eq_iff_iff]; simp [tailB, *]; done) | (rw [Bool.eq_iff_iff]; simp [tailB, *]; omega) | (rw [Bool.eq_iff_iff]; simp [tailB, -List.length_eq_zero_iff]; omega)
              · replace q9 : inR pl 0 1000000 = false := by simpa using q9
                have HH := Lib.hid (show objB qS n ⟨3, nm, pl, its, ks, ns, vs⟩ = false by simp [objB, headB, midB, named, lam, p1, p2, p3, p4, p5, p6, hn60, q5, Q8.out, (by decide : inR 3 0 10 = true), q9])
                go_wp2_with (first
                    | (go_at_call 103; refine (iRo _ _ _ _).mono ?_; rintro e w' ⟨rfl, rfl⟩)
                    | (go_at_call 56; (first
                        | (with_reducible refine (vVo _ hn _ _ _ _ (h3.below (by ((first | exact b1 ‹_› | exact bN (b1 ‹_›) _ | exact bA (Below.refl _ _) _))))).mono ?_)
                        | (with_reducible refine (vVo _ hn _ _ _ _ (h4.below (by ((first | exact b1 ‹_› | exact bN (b1 ‹_›) _ | exact bA (Below.refl _ _) _))))).mono ?_)
                        | (with_reducible refine (vVn _ hn _ _ _ _ Q8.out.symm _ (h6.below (by ((first | exact b1 ‹_› | exact bN (b1 ‹_›) _ | exact bA (Below.refl _ _) _))))).mono ?_)); rintro e w1 ⟨rfl, hb⟩; (first | have hb0 := hbN ‹_› hb | have hb0 := hbF hb); clear hb; obtain ⟨hc, hf⟩ := bcell hb0)
                    | (go_at_call 130; refine (oEo _ _ _ _ (h5.below (by ((first | exact b1 ‹_› | exact bN (b1 ‹_›) _ | exact bA (Below.refl _ _) _)))) hcc5 hz).mono ?_; rintro e w1 ⟨rfl, hb⟩; (first | have hb0 := hbN ‹_› hb | have hb0 := hbF hb); clear hb; obtain ⟨hc, hf⟩ := bcell hb0)
                    | (go_at_call 131; refine (vNo _ hnm _).mono ?_; rintro e w1 ⟨rfl, hb⟩; (first | have hb0 := hbN ‹_› hb | have hb0 := hbF hb); clear hb; obtain ⟨hc, hf⟩ := bcell hb0))
                all_goals
                  go_ret
                  exact ⟨ret_bool HH.out.symm, by ((first | exact b1 ‹_› | exact bN (b1 ‹_›) _ | exact bA (Below.refl _ _) _))⟩
            · have fz : decide ((0 : Int) < (ns.length : Int)) = true := decide_eq_true (by omega)
              have fz2 : 0 < ns.length := by omega
              have ZZ := Lib.hid z
              clear z
              have HH := Lib.hid (show objB qS n ⟨3, nm, pl, its, ks, ns, vs⟩ = false by simp [objB, headB, midB, named, lam, p1, p2, p3, p4, p5, p6, hn60, q5, Q8.out, (by decide : inR 3 0 10 = true), ZZ.out])
              go_wp2_with (first
                  | (go_at_call 103; refine (iRo _ _ _ _).mono ?_; rintro e w' ⟨rfl, rfl⟩)
                  | (go_at_call 56; (first
                      | (with_reducible refine (vVo _ hn _ _ _ _ (h3.below (by ((first | exact b1 ‹_› | exact bN (b1 ‹_›) _ | exact bA (Below.refl _ _) _))))).mono ?_)
                      | (with_reducible refine (vVo _ hn _ _ _ _ (h4.below (by ((first | exact b1 ‹_› | exact bN (b1 ‹_›) _ | exact bA (Below.refl _ _) _))))).mono ?_)
                      | (with_reducible refine (vVn _ hn _ _ _ _ Q8.out.symm _ (h6.below (by ((first | exact b1 ‹_› | exact bN (b1 ‹_›) _ | exact bA (Below.refl _ _) _))))).mono ?_)); rintro e w1 ⟨rfl, hb⟩; (first | have hb0 := hbN ‹_› hb | have hb0 := hbF hb); clear hb; obtain ⟨hc, hf⟩ := bcell hb0)
                  | (go_at_call 130; refine (oEo _ _ _ _ (h5.below (by ((first | exact b1 ‹_› | exact bN (b1 ‹_›) _ | exact bA (Below.refl _ _) _)))) hcc5 hz).mono ?_; rintro e w1 ⟨rfl, hb⟩; (first | have hb0 := hbN ‹_› hb | have hb0 := hbF hb); clear hb; obtain ⟨hc, hf⟩ := bcell hb0)
                  | (go_at_call 131; refine (vNo _ hnm _).mono ?_; rintro e w1 ⟨rfl, hb⟩; (first | have hb0 := hbN ‹_› hb | have hb0 := hbF hb); clear hb; obtain ⟨hc, hf⟩ := bcell hb0))
              all_goals
                go_ret
                exact ⟨ret_bool HH.out.symm, by ((first | exact b1 ‹_› | exact bN (b1 ‹_›) _ | exact bA (Below.refl _ _) _))⟩
          · have fl : (nm.toList == [108, 97, 109, 98, 100, 97]) = false := by simpa using hL
            have HH := Lib.hid (show objB qS n ⟨3, nm, pl, its, ks, ns, vs⟩ = false by simp [objB, headB, midB, named, lam, p1, p2, p3, p4, p5, p6, hn60, q5, Q8.out, (by decide : inR 3 0 10 = true), e0, hN, hL])
            go_wp2_with (first
                | (go_at_call 103; refine (iRo _ _ _ _).mono ?_; rintro e w' ⟨rfl, rfl⟩)
                | (go_at_call 56; (first
                    | (with_reducible refine (vVo _ hn _ _ _ _ (h3.below (by ((first | exact b1 ‹_› | exact bN (b1 ‹_›) _ | exact bA (Below.refl _ _) _))))).mono ?_)
                    | (with_reducible refine (vVo _ hn _ _ _ _ (h4.below (by ((first | exact b1 ‹_› | exact bN (b1 ‹_›) _ | exact bA (Below.refl _ _) _))))).mono ?_)
                    | (with_reducible refine (vVn _ hn _ _ _ _ Q8.out.symm _ (h6.below (by ((first | exact b1 ‹_› | exact bN (b1 ‹_›) _ | exact bA (Below.refl _ _) _))))).mono ?_)); rintro e w1 ⟨rfl, hb⟩; (first | have hb0 := hbN ‹_› hb | have hb0 := hbF hb); clear hb; obtain ⟨hc, hf⟩ := bcell hb0)
                | (go_at_call 130; refine (oEo _ _ _ _ (h5.below (by ((first | exact b1 ‹_› | exact bN (b1 ‹_›) _ | exact bA (Below.refl _ _) _)))) hcc5 hz).mono ?_; rintro e w1 ⟨rfl, hb⟩; (first | have hb0 := hbN ‹_› hb | have hb0 := hbF hb); clear hb; obtain ⟨hc, hf⟩ := bcell hb0)
                | (go_at_call 131; refine (vNo _ hnm _).mono ?_; rintro e w1 ⟨rfl, hb⟩; (first | have hb0 := hbN ‹_› hb | have hb0 := hbF hb); clear hb; obtain ⟨hc, hf⟩ := bcell hb0))
            all_goals
              go_ret
              exact ⟨ret_bool HH.out.symm, by ((first | exact b1 ‹_› | exact bN (b1 ‹_›) _ | exact bA (Below.refl _ _) _))⟩
    · go_enter Try.func100, Try.ntmps100
      by_cases e0 : nm.toList = []
      · have fe : (nm.toList == []) = true := by simpa using e0
        by_cases z : ns.length = 0
        · have fz : decide ((0 : Int) < (ns.length : Int)) = false := decide_eq_false (by omega)
          have fz2 : ¬ 0 < ns.length := by omega
          have ZZ := Lib.hid z
          clear z
          by_cases q9 : inR pl 0 1000000 = true
          · have HT := Lib.hid (show objB qS n ⟨4, nm, pl, its, ks, ns, vs⟩ = tailB n ⟨4, nm, pl, its, ks, ns, vs⟩ by simp [objB, headB, midB, named, lam, p1, p2, p3, p4, p5, p6, hn60, q5, Q8.out, (by decide : inR 4 0 10 = true), e0, ZZ.out, q9])
            go_wp2_with (first
                | (go_at_call 103; refine (iRo _ _ _ _).mono ?_; rintro e w' ⟨rfl, rfl⟩)
                | (go_at_call 56; (first
                    | (with_reducible refine (vVo _ hn _ _ _ _ (h3.below (by ((first | exact b1 ‹_› | exact bN (b1 ‹_›) _ | exact bA (Below.refl _ _) _))))).mono ?_)
                    | (with_reducible refine (vVo _ hn _ _ _ _ (h4.below (by ((first | exact b1 ‹_› | exact bN (b1 ‹_›) _ | exact bA (Below.refl _ _) _))))).mono ?_)
                    | (with_reducible refine (vVn _ hn _ _ _ _ Q8.out.symm _ (h6.below (by ((first | exact b1 ‹_› | exact bN (b1 ‹_›) _ | exact bA (Below.refl _ _) _))))).mono ?_)); rintro e w1 ⟨rfl, hb⟩; (first | have hb0 := hbN ‹_› hb | have hb0 := hbF hb); clear hb; obtain ⟨hc, hf⟩ := bcell hb0)
                | (go_at_call 130; refine (oEo _ _ _ _ (h5.below (by ((first | exact b1 ‹_› | exact bN (b1 ‹_›) _ | exact bA (Below.refl _ _) _)))) hcc5 hz).mono ?_; rintro e w1 ⟨rfl, hb⟩; (first | have hb0 := hbN ‹_› hb | have hb0 := hbF hb); clear hb; obtain ⟨hc, hf⟩ := bcell hb0)
                | (go_at_call 131; refine (vNo _ hnm _).mono ?_; rintro e w1 ⟨rfl, hb⟩; (first | have hb0 := hbN ‹_› hb | have hb0 := hbF hb); clear hb; obtain ⟨hc, hf⟩ := bcell hb0))
            all_goals
              go_ret
              refine ⟨ret_bool ?_, by ((first | exact b1 ‹_› | exact bN (b1 ‹_›) _ | exact bA (Below.refl _ _) _))⟩
              rw [HT.out]
              go_light
              first | (simp [tailB, *]; done) | (simp [tailB, *]; omega) | (rw [Bool.eq_iff_iff]; simp [tailB, *]; done) | (rw [Bool.eq_iff_iff]; simp [tailB, *]; omega) | (rw [Bool.eq_iff_iff]; simp [tailB, -List.length_eq_zero_iff]; omega)
          · replace q9 : inR pl 0 1000000 = false := by simpa using q9
            have HH := Lib.hid (show objB qS n ⟨4, nm, pl, its, ks, ns, vs⟩ = false by simp [objB, headB, midB, named, lam, p1, p2, p3, p4, p5, p6, hn60, q5, Q8.out, (by decide : inR 4 0 10 = true), q9])
            go_wp2_with (first
                | (go_at_call 103; refine (iRo _ _ _ _).mono ?_; rintro e w' ⟨rfl, rfl⟩)
                | (go_at_call 56; (first
                    | (with_reducible refine (vVo _ hn _ _ _ _ (h3.below (by ((first | exact b1 ‹_› | exact bN (b1 ‹_›) _ | exact bA (Below.refl _ _) _))))).mono ?_)
                    | (with_reducible refine (vVo _ hn _ _ _ _ (h4.below (by ((first | exact b1 ‹_› | exact bN (b1 ‹_›) _ | exact bA (Below.refl _ _) _))))).mono ?_)
                    | (with_reducible refine (vVn _ hn _ _ _ _ Q8.out.symm _ (h6.below (by ((first | exact b1 ‹_› | exact bN (b1 ‹_›) _ | exact bA (Below.refl _ _) _))))).mono ?_)); rintro e w1 ⟨rfl, hb⟩; (first | have hb0 := hbN ‹_› hb | have hb0 := hbF hb); clear hb; obtain ⟨hc, hf⟩ := bcell hb0)
                | (go_at_call 130; refine (oEo _ _ _ _ (h5.below (by ((first | exact b1 ‹_› | exact bN (b1 ‹_›) _ | exact bA (Below.refl _ _) _)))) hcc5 hz).mono ?_; rintro e w1 ⟨rfl, hb⟩; (first | have hb0 := hbN ‹_› hb | have hb0 := hbF hb); clear hb; obtain ⟨hc, hf⟩ := bcell hb0)
                | (go_at_call 131; refine (vNo _ hnm _).mono ?_; rintro e w1 ⟨rfl, hb⟩; (first | have hb0 := hbN ‹_› hb | have hb0 := hbF hb); clear hb; obtain ⟨hc, hf⟩ := bcell hb0))
            all_goals
              go_ret
              exact ⟨ret_bool HH.out.symm, by ((first | exact b1 ‹_› | exact bN (b1 ‹_›) _ | exact bA (Below.refl _ _) _))⟩
        · have fz : decide ((0 : Int) < (ns.length : Int)) = true := decide_eq_true (by omega)
          have fz2 : 0 < ns.length := by omega
          have ZZ := Lib.hid z
          clear z
          have HH := Lib.hid (show objB qS n ⟨4, nm, pl, its, ks, ns, vs⟩ = false by simp [objB, headB, midB, named, lam, p1, p2, p3, p4, p5, p6, hn60, q5, Q8.out, (by decide : inR 4 0 10 = true), ZZ.out])
          go_wp2_with (first
              | (go_at_call 103; refine (iRo _ _ _ _).mono ?_; rintro e w' ⟨rfl, rfl⟩)
              | (go_at_call 56; (first
                  | (with_reducible refine (vVo _ hn _ _ _ _ (h3.below (by ((first | exact b1 ‹_› | exact bN (b1 ‹_›) _ | exact bA (Below.refl _ _) _))))).mono ?_)
                  | (with_reducible refine (vVo _ hn _ _ _ _ (h4.below (by ((first | exact b1 ‹_› | exact bN (b1 ‹_›) _ | exact bA (Below.refl _ _) _))))).mono ?_)
                  | (with_reducible refine (vVn _ hn _ _ _ _ Q8.out.symm _ (h6.below (by ((first | exact b1 ‹_› | exact bN (b1 ‹_›) _ | exact bA (Below.refl _ _) _))))).mono ?_)); rintro e w1 ⟨rfl, hb⟩; (first | have hb0 := hbN ‹_› hb | have hb0 := hbF hb); clear hb; obtain ⟨hc, hf⟩ := bcell hb0)
              | (go_at_call 130; refine (oEo _ _ _ _ (h5.below (by ((first | exact b1 ‹_› | exact bN (b1 ‹_›) _ | exact bA (Below.refl _ _) _)))) hcc5 hz).mono ?_; rintro e w1 ⟨rfl, hb⟩; (first | have hb0 := hbN ‹_› hb | have hb0 := hbF hb); clear hb; obtain ⟨hc, hf⟩ := bcell hb0)
              | (go_at_call 131; refine (vNo _ hnm _).mono ?_; rintro e w1 ⟨rfl, hb⟩; (first | have hb0 := hbN ‹_› hb | have hb0 := hbF hb); clear hb; obtain ⟨hc, hf⟩ := bcell hb0))
          all_goals
            go_ret
            exact ⟨ret_bool HH.out.symm, by ((first | exact b1 ‹_› | exact bN (b1 ‹_›) _ | exact bA (Below.refl _ _) _))⟩
      · have fe : (nm.toList == []) = false := by simpa using e0
        have HH := Lib.hid (show objB qS n ⟨4, nm, pl, its, ks, ns, vs⟩ = false by simp [objB, headB, midB, named, lam, p1, p2, p3, p4, p5, p6, hn60, q5, Q8.out, (by decide : inR 4 0 10 = true), e0])
        go_wp2_with (first
            | (go_at_call 103; refine (iRo _ _ _ _).mono ?_; rintro e w' ⟨rfl, rfl⟩)
            | (go_at_call 56; (first
                | (with_reducible refine (vVo _ hn _ _ _ _ (h3.below (by ((first | exact b1 ‹_› | exact bN (b1 ‹_›) _ | exact bA (Below.refl _ _) _))))).mono ?_)
                | (with_reducible refine (vVo _ hn _ _ _ _ (h4.below (by ((first | exact b1 ‹_› | exact bN (b1 ‹_›) _ | exact bA (Below.refl _ _) _))))).mono ?_)
                | (with_reducible refine (vVn _ hn _ _ _ _ Q8.out.symm _ (h6.below (by ((first | exact b1 ‹_› | exact bN (b1 ‹_›) _ | exact bA (Below.refl _ _) _))))).mono ?_)); rintro e w1 ⟨rfl, hb⟩; (first | have hb0 := hbN ‹_› hb | have hb0 := hbF hb); clear hb; obtain ⟨hc, hf⟩ := bcell hb0)
            | (go_at_call 130; refine (oEo _ _ _ _ (h5.below (by ((first | exact b1 ‹_› | exact bN (b1 ‹_›) _ | exact bA (Below.refl _ _) _)))) hcc5 hz).mono ?_; rintro e w1 ⟨rfl, hb⟩; (first | have hb0 := hbN ‹_› hb | have hb0 := hbF hb); clear hb; obtain ⟨hc, hf⟩ := bcell hb0)
            | (go_at_call 131; refine (vNo _ hnm _).mono ?_; rintro e w1 ⟨rfl, hb⟩; (first | have hb0 := hbN ‹_› hb | have hb0 := hbF hb); clear hb; obtain ⟨hc, hf⟩ := bcell hb0))
        all_goals
          go_ret
          exact ⟨ret_bool HH.out.symm, by ((first | exact b1 ‹_› | exact bN (b1 ‹_›) _ | exact bA (Below.refl _ _) _))⟩
    · go_enter Try.func100, Try.ntmps100
      by_cases e0 : nm.toList = []
      · have fe : (nm.toList == []) = true := by simpa using e0
        have HH := Lib.hid (show objB qS n ⟨5, nm, pl, its, ks, ns, vs⟩ = false by simp [objB, headB, midB, named, lam, p1, p2, p3, p4, p5, p6, hn60, q5, Q8.out, (by decide : inR 5 0 10 = true), e0])
        go_wp2_with (first
            | (go_at_call 103; refine (iRo _ _ _ _).mono ?_; rintro e w' ⟨rfl, rfl⟩)
            | (go_at_call 56; (first
                | (with_reducible refine (vVo _ hn _ _ _ _ (h3.below (by ((first | exact b1 ‹_› | exact bN (b1 ‹_›) _ | exact bA (Below.refl _ _) _))))).mono ?_)
                | (with_reducible refine (vVo _ hn _ _ _ _ (h4.below (by ((first | exact b1 ‹_› | exact bN (b1 ‹_›) _ | exact bA (Below.refl _ _) _))))).mono ?_)
                | (with_reducible refine (vVn _ hn _ _ _ _ Q8.out.symm _ (h6.below (by ((first | exact b1 ‹_› | exact bN (b1 ‹_›) _ | exact bA (Below.refl _ _) _))))).mono ?_)); rintro e w1 ⟨rfl, hb⟩; (first | have hb0 := hbN ‹_› hb | have hb0 := hbF hb); clear hb; obtain ⟨hc, hf⟩ := bcell hb0)
            | (go_at_call 130; refine (oEo _ _ _ _ (h5.below (by ((first | exact b1 ‹_› | exact bN (b1 ‹_›) _ | exact bA (Below.refl _ _) _)))) hcc5 hz).mono ?_; rintro e w1 ⟨rfl, hb⟩; (first | have hb0 := hbN ‹_› hb | have hb0 := hbF hb); clear hb; obtain ⟨hc, hf⟩ := bcell hb0)
            | (go_at_call 131; refine (vNo _ hnm _).mono ?_; rintro e w1 ⟨rfl, hb⟩; (first | have hb0 := hbN ‹_› hb | have hb0 := hbF hb); clear hb; obtain ⟨hc, hf⟩ := bcell hb0))
        all_goals
          go_ret
          exact ⟨ret_bool HH.out.symm, by ((first | exact b1 ‹_› | exact bN (b1 ‹_›) _ | exact bA (Below.refl _ _) _))⟩
      · have fe : (nm.toList == []) = false := by simpa using e0
        by_cases hN : nameB nm = true
        · by_cases z : ns.length = 0
          · have fz : decide ((0 : Int) < (ns.length : Int)) = false := decide_eq_false (by omega)
            have fz2 : ¬ 0 < ns.length := by omega
            have ZZ := Lib.hid z
            clear z
            by_cases q9 : inR pl 0 1000000 = true
            · have HT := Lib.hid (show objB qS n ⟨5, nm, pl, its, ks, ns, vs⟩ = tailB n ⟨5, nm, pl, its, ks, ns, vs⟩ by simp [objB, headB, midB, named, lam, p1, p2, p3, p4, p5, p6, hn60, q5, Q8.out, (by decide : inR 5 0 10 = true), e0, hN, ZZ.out, q9])
              go_wp2_with (first
                  | (go_at_call 103; refine (iRo _ _ _ _).mono ?_; rintro e w' ⟨rfl, rfl⟩)
                  | (go_at_call 56; (first
                      | (with_reducible refine (vVo _ hn _ _ _ _ (h3.below (by ((first | exact b1 ‹_› | exact bN (b1 ‹_›) _ | exact bA (Below.refl _ _) _))))).mono ?_)
                      | (with_reducible refine (vVo _ hn _ _ _ _ (h4.below (by ((first | exact b1 ‹_› | exact bN (b1 ‹_›) _ | exact bA (Below.refl _ _) _))))).mono ?_)
                      | (with_reducible refine (vVn _ hn _ _ _ _ Q8.out.symm _ (h6.below (by ((first | exact b1 ‹_› | exact bN (b1 ‹_›) _ | exact bA (Below.refl _ _) _))))).mono ?_)); rintro e w1 ⟨rfl, hb⟩; (first | have hb0 := hbN ‹_› hb | have hb0 := hbF hb); clear hb; obtain ⟨hc, hf⟩ := bcell hb0)
                  | (go_at_call 130; refine (oEo _ _ _ _ (h5.below (by ((first | exact b1 ‹_› | exact bN (b1 ‹_›) _ | exact bA (Below.refl _ _) _)))) hcc5 hz).mono ?_; rintro e w1 ⟨rfl, hb⟩; (first | have hb0 := hbN ‹_› hb | have hb0 := hbF hb); clear hb; obtain ⟨hc, hf⟩ := bcell hb0)
                  | (go_at_call 131; refine (vNo _ hnm _).mono ?_; rintro e w1 ⟨rfl, hb⟩; (first | have hb0 := hbN ‹_› hb | have hb0 := hbF hb); clear hb; obtain ⟨hc, hf⟩ := bcell hb0))
              all_goals
                go_ret
                refine ⟨ret_bool ?_, by ((first | exact b1 ‹_› | exact bN (b1 ‹_›) _ | exact bA (Below.refl _ _) _))⟩
                rw [HT.out]
                go_light
                first | (simp [tailB, *]; done) | (simp [tailB, *]; omega) | (rw [Bool.eq_iff_iff]; simp [tailB, *]; done) | (rw [Bool.eq_iff_iff]; simp [tailB, *]; omega) | (rw [Bool.eq_iff_iff]; simp [tailB, -List.length_eq_zero_iff]; omega)
            · replace q9 : inR pl 0 1000000 = false := by simpa using q9
              have HH := Lib.hid (show objB qS n ⟨5, nm, pl, its, ks, ns, vs⟩ = false by simp [objB, headB, midB, named, lam, p1, p2, p3, p4, p5, p6, hn60, q5, Q8.out, (by decide : inR 5 0 10 = true), q9])
              go_wp2_with (first
                  | (go_at_call 103; refine (iRo _ _ _ _).mono ?_; rintro e w' ⟨rfl, rfl⟩)
                  | (go_at_call 56; (first
                      | (with_reducible refine (vVo _ hn _ _ _ _ (h3.below (by ((first | exact b1 ‹_› | exact bN (b1 ‹_›) _ | exact bA (Below.refl _ _) _))))).mono ?_)
                      | (with_reducible refine (vVo _ hn _ _ _ _ (h4.below (by ((first | exact b1 ‹_› | exact bN (b1 ‹_›) _ | exact bA (Below.refl _ _) _))))).mono ?_)
                      | (with_reducible refine (vVn _ hn _ _ _ _ Q8.out.symm _ (h6.below (by ((first | exact b1 ‹_› | exact bN (b1 ‹_›) _ | exact bA (Below.refl _ _) _))))).mono ?_)); rintro e w1 ⟨rfl, hb⟩; (first | have hb0 := hbN ‹_› hb | have hb0 := hbF hb); clear hb; obtain ⟨hc, hf⟩ := bcell hb0)
                  | (go_at_call 130; refine (oEo _ _ _ _ (h5.below (by ((first | exact b1 ‹_› | exact bN (b1 ‹_›) _ | exact bA (Below.refl _ _) _)))) hcc5 hz).mono ?_; rintro e w1 ⟨rfl, hb⟩; (first | have hb0 := hbN ‹_› hb | have hb0 := hbF hb); clear hb; obtain ⟨hc, hf⟩ := bcell hb0)
                  | (go_at_call 131; refine (vNo _ hnm _).mono ?_; rintro e w1 ⟨rfl, hb⟩; (first | have hb0 := hbN ‹_› hb | have hb0 := hbF hb); clear hb; obtain ⟨hc, hf⟩ := bcell hb0))
              all_goals
                go_ret
                exact ⟨ret_bool HH.out.symm, by ((first | exact b1 ‹_› | exact bN (b1 ‹_›) _ | exact bA (Below.refl _ _) _))⟩
          · have fz : decide ((0 : Int) < (ns.length : Int)) = true := decide_eq_true (by omega)
            have fz2 : 0 < ns.length := by omega
            have ZZ := Lib.hid z
            clear z
            by_cases q9 : inR pl 0 1000000 = true
            · have HT := Lib.hid (show objB qS n ⟨5, nm, pl, its, ks, ns, vs⟩ = tailB n ⟨5, nm, pl, its, ks, ns, vs⟩ by simp [objB, headB, midB, named, lam, p1, p2, p3, p4, p5, p6, hn60, q5, Q8.out, (by decide : inR 5 0 10 = true), e0, hN, ZZ.out, q9])
              go_wp2_with (first
                  | (go_at_call 103; refine (iRo _ _ _ _).mono ?_; rintro e w' ⟨rfl, rfl⟩)
                  | (go_at_call 56; (first
                      | (with_reducible refine (vVo _ hn _ _ _ _ (h3.below (by ((first | exact b1 ‹_› | exact bN (b1 ‹_›) _ | exact bA (Below.refl _ _) _))))).mono ?_)
                      | (with_reducible refine (vVo _ hn _ _ _ _ (h4.below (by ((first | exact b1 ‹_› | exact bN (b1 ‹_›) _ | exact bA (Below.refl _ _) _))))).mono ?_)
                      | (with_reducible refine (vVn _ hn _ _ _ _ Q8.out.symm _ (h6.below (by ((first | exact b1 ‹_› | exact bN (b1 ‹_›) _ | exact bA (Below.refl _ _) _))))).mono ?_)); rintro e w1 ⟨rfl, hb⟩; (first | have hb0 := hbN ‹_› hb | have hb0 := hbF hb); clear hb; obtain ⟨hc, hf⟩ := bcell hb0)
                  | (go_at_call 130; refine (oEo _ _ _ _ (h5.below (by ((first | exact b1 ‹_› | exact bN (b1 ‹_›) _ | exact bA (Below.refl _ _) _)))) hcc5 hz).mono ?_; rintro e w1 ⟨rfl, hb⟩; (first | have hb0 := hbN ‹_› hb | have hb0 := hbF hb); clear hb; obtain ⟨hc, hf⟩ := bcell hb0)
                  | (go_at_call 131; refine (vNo _ hnm _).mono ?_; rintro e w1 ⟨rfl, hb⟩; (first | have hb0 := hbN ‹_› hb | have hb0 := hbF hb); clear hb; obtain ⟨hc, hf⟩ := bcell hb0))
              all_goals
                go_ret
                refine ⟨ret_bool ?_, by ((first | exact b1 ‹_› | exact bN (b1 ‹_›) _ | exact bA (Below.refl _ _) _))⟩
                rw [HT.out]
                go_light
                first | (simp [tailB, *]; done) | (simp [tailB, *]; omega) | (rw [Bool.eq_iff_iff]; simp [tailB, *]; done) | (rw [Bool.eq_iff_iff]; simp [tailB, *]; omega) | (rw [Bool.eq_iff_iff]; simp [tailB, -List.length_eq_zero_iff]; omega)
            · replace q9 : inR pl 0 1000000 = false := by simpa using q9
              have HH := Lib.hid (show objB qS n ⟨5, nm, pl, its, ks, ns, vs⟩ = false by simp [objB, headB, midB, named, lam, p1, p2, p3, p4, p5, p6, hn60, q5, Q8.out, (by decide : inR 5 0 10 = true), q9])
              go_wp2_with (first
                  | (go_at_call 103; refine (iRo _ _ _ _).mono ?_; rintro e w' ⟨rfl, rfl⟩)
                  | (go_at_call 56; (first
                      | (with_reducible refine (vVo _ hn _ _ _ _ (h3.below (by ((first | exact b1 ‹_› | exact bN (b1 ‹_›) _ | exact bA (Below.refl _ _) _))))).mono ?_)
                      | (with_reducible refine (vVo _ hn _ _ _ _ (h4.below (by ((first | exact b1 ‹_› | exact bN (b1 ‹_›) _ | exact bA (Below.refl _ _) _))))).mono ?_)
                      | (with_reducible refine (vVn _ hn _ _ _ _ Q8.out.symm _ (h6.below (by ((first | exact b1 ‹_› | exact bN (b1 ‹_›) _ | exact bA (Below.refl _ _) _))))).mono ?_)); rintro e w1 ⟨rfl, hb⟩; (first | have hb0 := hbN ‹_› hb | have hb0 := hbF hb); clear hb; obtain ⟨hc, hf⟩ := bcell hb0)
                  | (go_at_call 130; refine (oEo _ _ _ _ (h5.below (by ((first | exact b1 ‹_› | exact bN (b1 ‹_›) _ | exact bA (Below.refl _ _) _)))) hcc5 hz).mono ?_; rintro e w1 ⟨rfl, hb⟩; (first | have hb0 := hbN ‹_› hb | have hb0 := hbF hb); clear hb; obtain ⟨hc, hf⟩ := bcell hb0)
                  | (go_at_call 131; refine (vNo _ hnm _).mono ?_; rintro e w1 ⟨rfl, hb⟩; (first | have hb0 := hbN ‹_› hb | have hb0 := hbF hb); clear hb; obtain ⟨hc, hf⟩ := bcell hb0))
              all_goals
                go_ret
                exact ⟨ret_bool HH.out.symm, by ((first | exact b1 ‹_› | exact bN (b1 ‹_›) _ | exact bA (Below.refl _ _) _))⟩
        · replace hN : nameB nm = false := by simpa using hN
          by_cases hL : nm.toList = [108, 97, 109, 98, 100, 97]
          · have fl : (nm.toList == [108, 97, 109, 98, 100, 97]) = true := by simpa using hL
            by_cases z : ns.length = 0
            · have fz : decide ((0 : Int) < (ns.length : Int)) = false := decide_eq_false (by omega)
              have fz2 : ¬ 0 < ns.length := by omega
              have ZZ := Lib.hid z
              clear z
              by_cases q9 : inR pl 0 1000000 = true
              · have HT := Lib.hid (show objB qS n ⟨5, nm, pl, its, ks, ns, vs⟩ = tailB n ⟨5, nm, pl, its, ks, ns, vs⟩ by simp [objB, headB, midB, named, lam, p1, p2, p3, p4, p5, p6, hn60, q5, Q8.out, (by decide : inR 5 0 10 = true), e0, hN, hL, ZZ.out, q9])
                go_wp2_with (first
                    | (go_at_call 103; refine (iRo _ _ _ _).mono ?_; rintro e w' ⟨rfl, rfl⟩)
                    | (go_at_call 56; (first
                        | (with_reducible refine (vVo _ hn _ _ _ _ (h3.below (by ((first | exact b1 ‹_› | exact bN (b1 ‹_›) _ | exact bA (Below.refl _ _) _))))).mono ?_)
                        | (with_reducible refine (vVo _ hn _ _ _ _ (h4.below (by ((first | exact b1 ‹_› | exact bN (b1 ‹_›) _ | exact bA (Below.refl _ _) _))))).mono ?_)
                        | (with_reducible refine (vVn _ hn _ _ _ _ Q8.out.symm _ (h6.below (by ((first | exact b1 ‹_› | exact bN (b1 ‹_›) _ | exact bA (Below.refl _ _) _))))).mono ?_)); rintro e w1 ⟨rfl, hb⟩; (first | have hb0 := hbN ‹_› hb | have hb0 := hbF hb); clear hb; obtain ⟨hc, hf⟩ := bcell hb0)
                    | (go_at_call 130; refine (oEo _ _ _ _ (h5.below (by ((first | exact b1 ‹_› | exact bN (b1 ‹_›) _ | exact bA (Below.refl _ _) _)))) hcc5 hz).mono ?_; rintro e w1 ⟨rfl, hb⟩; (first | have hb0 := hbN ‹_› hb | have hb0 := hbF hb); clear hb; obtain ⟨hc, hf⟩ := bcell hb0)
                    | (go_at_call 131; refine (vNo _ hnm _).mono ?_; rintro e w1 ⟨rfl, hb⟩; (first | have hb0 := hbN ‹_› hb | have hb0 := hbF hb); clear hb; obtain ⟨hc, hf⟩ := bcell hb0))
                all_goals
                  go_ret
                  refine ⟨ret_bool ?_, by ((first | exact b1 ‹_› | exact bN (b1 ‹_›) _ | exact bA (Below.refl _ _) _))⟩
                  rw [HT.out]
                  go_light
                  first | (simp [tailB, *]; done) | (simp [tailB, *]; omega) | (rw [Bool.eq_iff_iff]; simp [tailB, *]; done) | (rw [Bool.eq_iff_iff]; simp [tailB, *]; omega) | (rw [Bool.eq_iff_iff]; simp [tailB, -List.length_eq_zero_iff]; omega)
              · replace q9 : inR pl 0 1000000 = false := by simpa using q9
                have HH := Lib.hid (show objB qS n ⟨5, nm, pl, its, ks, ns, vs⟩ = false by simp [objB, headB, midB, named, lam, p1, p2, p3, p4, p5, p6, hn60, q5, Q8.out, (by decide : inR 5 0 10 = true), q9])
                go_wp2_with (first
                    | (go_at_call 103; refine (iRo _ _ _ _).mono ?_; rintro e w' ⟨rfl, rfl⟩)
                    | (go_at_call 56; (first
                        | (with_reducible refine (vVo _ hn _ _ _ _ (h3.below (by ((first | exact b1 ‹_› | exact bN (b1 ‹_›) _ | exact bA (Below.refl _ _) _))))).mono ?_)
                        | (with_reducible refine (vVo _ hn _ _ _ _ (h4.below (by ((first | exact b1 ‹_› | exact bN (b1 ‹_›) _ | exact bA (Below.refl _ _) _))))).mono ?_)
                        | (with_reducible refine (vVn _ hn _ _ _ _ Q8.out.symm _ (h6.below (by ((first | exact b1 ‹_› | exact bN (b1 ‹_›) _ | exact bA (Below.refl _ _) _))))).mono ?_)); rintro e w1 ⟨rfl, hb⟩; (first | have hb0 := hbN ‹_› hb | have hb0 := hbF hb); clear hb; obtain ⟨hc, hf⟩ := bcell hb0)
                    | (go_at_call 130; refine (oEo _ _ _ _ (h5.below (by ((first | exact b1 ‹_› | exact bN (b1 ‹_›) _ | exact bA (Below.refl _ _) _)))) hcc5 hz).mono ?_; rintro e w1 ⟨rfl, hb⟩; (first | have hb0 := hbN ‹_› hb | have hb0 := hbF hb); clear hb; obtain ⟨hc, hf⟩ := bcell hb0)
                    | (go_at_call 131; refine (vNo _ hnm _).mono ?_; rintro e w1 ⟨rfl, hb⟩; (first | have hb0 := hbN ‹_› hb | have hb0 := hbF hb); clear hb; obtain ⟨hc, hf⟩ := bcell hb0))
                all_goals
                  go_ret
                  exact ⟨ret_bool HH.out.symm, by ((first | exact b1 ‹_› | exact bN (b1 ‹_›) _ | exact bA (Below.refl _ _) _))⟩
            · have fz : decide ((0 : Int) < (ns.length : Int)) = true := decide_eq_true (by omega)
              have fz2 : 0 < ns.length := by omega
              have ZZ := Lib.hid z
              clear z
              by_cases q9 : inR pl 0 1000000 = true
              · have HT := Lib.hid (show objB qS n ⟨5, nm, pl, its, ks, ns, vs⟩ = tailB n ⟨5, nm, pl, its, ks, ns, vs⟩ by simp [objB, headB, midB, named, lam, p1, p2, p3, p4, p5, p6, hn60, q5, Q8.out, (by decide : inR 5 0 10 = true), e0, hN, hL, ZZ.out, q9])
                go_wp2_with (first
                    | (go_at_call 103; refine (iRo _ _ _ _).mono ?_; rintro e w' ⟨rfl, rfl⟩)
                    | (go_at_call 56; (first
                        | (with_reducible refine (vVo _ hn _ _ _ _ (h3.below (by ((first | exact b1 ‹_› | exact bN (b1 ‹_›) _ | exact bA (Below.refl _ _) _))))).mono ?_)
                        | (with_reducible refine (vVo _ hn _ _ _ _ (h4.below (by ((first | exact b1 ‹_› | exact bN (b1 ‹_›) _ | exact bA (Below.refl _ _) _))))).mono ?_)
                        | (with_reducible refine (vVn _ hn _ _ _ _ Q8.out.symm _ (h6.below (by ((first | exact b1 ‹_› | exact bN (b1 ‹_›) _ | exact bA (Below.refl _ _) _))))).mono ?_)); rintro e w1 ⟨rfl, hb⟩; (first | have hb0 := hbN ‹_› hb | have hb0 := hbF hb); clear hb; obtain ⟨hc, hf⟩ := bcell hb0)
                    | (go_at_call 130; refine (oEo _ _ _ _ (h5.below (by ((first | exact b1 ‹_› | exact bN (b1 ‹_›) _ | exact bA (Below.refl _ _) _)))) hcc5 hz).mono ?_; rintro e w1 ⟨rfl, hb⟩; (first | have hb0 := hbN ‹_› hb | have hb0 := hbF hb); clear hb; obtain ⟨hc, hf⟩ := bcell hb0)
                    | (go_at_call 131; refine (vNo _ hnm _).mono ?_; rintro e w1 ⟨rfl, hb⟩; (first | have hb0 := hbN ‹_› hb | have hb0 := hbF hb); clear hb; obtain ⟨hc, hf⟩ := bcell hb0))
                all_goals
                  go_ret
                  refine ⟨ret_bool ?_, by ((first | exact b1 ‹_› | exact bN (b1 ‹_›) _ | exact bA (Below.refl _ _) _))⟩
                  rw [HT.out]
                  go_light
                  first | (simp [tailB, *]; done) | (simp [tailB, *]; omega) | (rw [Bool.eq_iff_iff]; simp [tailB, *]; done) | (rw [Bool.eq_iff_iff]; simp [tailB, *]; omega) | (rw [Bool.eq_iff_iff]; simp [tailB, -List.length_eq_zero_iff]; omega)
              · replace q9 : inR pl 0 1000000 = false := by simpa using q9
                have HH := Lib.hid (show objB qS n ⟨5, nm, pl, its, ks, ns, vs⟩ = false by simp [objB, headB, midB, named, lam, p1, p2, p3, p4, p5, p6, hn60, q5, Q8.out, (by decide : inR 5 0 10 = true), q9])
                go_wp2_with (first
                    | (go_at_call 103; refine (iRo _ _ _ _).mono ?_; rintro e w' ⟨rfl, rfl⟩)
                    | (go_at_call 56; (first
                        | (with_reducible refine (vVo _ hn _ _ _ _ (h3.below (by ((first | exact b1 ‹_› | exact bN (b1 ‹_›) _ | exact bA (Below.refl _ _) _))))).mono ?_)
                        | (with_reducible refine (vVo _ hn _ _ _ _ (h4.below (by ((first | exact b1 ‹_› | exact bN (b1 ‹_›) _ | exact bA (Below.refl _ _) _))))).mono ?_)
                        | (with_reducible refine (vVn _ hn _ _ _ _ Q8.out.symm _ (h6.below (by ((first | exact b1 ‹_› | exact bN (b1 ‹_›) _ | exact bA (Below.refl _ _) _))))).mono ?_)); rintro e w1 ⟨rfl, hb⟩; (first | have hb0 := hbN ‹_› hb | have hb0 := hbF hb); clear hb; obtain ⟨hc, hf⟩ := bcell hb0)
                    | (go_at_call 130; refine (oEo _ _ _ _ (h5.below (by ((first | exact b1 ‹_› | exact bN (b1 ‹_›) _ | exact bA (Below.refl _ _) _)))) hcc5 hz).mono ?_; rintro e w1 ⟨rfl, hb⟩; (first | have hb0 := hbN ‹_› hb | have hb0 := hbF hb); clear hb; obtain ⟨hc, hf⟩ := bcell hb0)
                    | (go_at_call 131; refine (vNo _ hnm _).mono ?_; rintro e w1 ⟨rfl, hb⟩; (first | have hb0 := hbN ‹_› hb | have hb0 := hbF hb); clear hb; obtain ⟨hc, hf⟩ := bcell hb0))
                all_goals
                  go_ret
                  exact ⟨ret_bool HH.out.symm, by ((first | exact b1 ‹_› | exact bN (b1 ‹_›) _ | exact bA (Below.refl _ _) _))⟩
          · have fl : (nm.toList == [108, 97, 109, 98, 100, 97]) = false := by simpa using hL
            have HH := Lib.hid (show objB qS n ⟨5, nm, pl, its, ks, ns, vs⟩ = false by simp [objB, headB, midB, named, lam, p1, p2, p3, p4, p5, p6, hn60, q5, Q8.out, (by decide : inR 5 0 10 = true), e0, hN, hL])
            go_wp2_with (first
                | (go_at_call 103; refine (iRo _ _ _ _).mono ?_; rintro e w' ⟨rfl, rfl⟩)
                | (go_at_call 56; (first
                    | (with_reducible refine (vVo _ hn _ _ _ _ (h3.below (by ((first | exact b1 ‹_› | exact bN (b1 ‹_›) _ | exact bA (Below.refl _ _) _))))).mono ?_)
                    | (with_reducible refine (vVo _ hn _ _ _ _ (h4.below (by ((first | exact b1 ‹_› | exact bN (b1 ‹_›) _ | exact bA (Below.refl _ _) _))))).mono ?_)
                    | (with_reducible refine (vVn _ hn _ _ _ _ Q8.out.symm _ (h6.below (by ((first | exact b1 ‹_› | exact bN (b1 ‹_›) _ | exact bA (Below.refl _ _) _))))).mono ?_)); rintro e w1 ⟨rfl, hb⟩; (first | have hb0 := hbN ‹_› hb | have hb0 := hbF hb); clear hb; obtain ⟨hc, hf⟩ := bcell hb0)
                | (go_at_call 130; refine (oEo _ _ _ _ (h5.below (by ((first | exact b1 ‹_› | exact bN (b1 ‹_›) _ | exact bA (Below.refl _ _) _)))) hcc5 hz).mono ?_; rintro e w1 ⟨rfl, hb⟩; (first | have hb0 := hbN ‹_› hb | have hb0 := hbF hb); clear hb; obtain ⟨hc, hf⟩ := bcell hb0)
                | (go_at_call 131; refine (vNo _ hnm _).mono ?_; rintro e w1 ⟨rfl, hb⟩; (first | have hb0 := hbN ‹_› hb | have hb0 := hbF hb); clear hb; obtain ⟨hc, hf⟩ := bcell hb0))
            all_goals
              go_ret
              exact ⟨ret_bool HH.out.symm, by ((first | exact b1 ‹_› | exact bN (b1 ‹_›) _ | exact bA (Below.refl _ _) _))⟩
    · go_enter Try.func100, Try.ntmps100
      by_cases e0 : nm.toList = []
      · have fe : (nm.toList == []) = true := by simpa using e0
        by_cases z : ns.length = 0
        · have fz : decide ((0 : Int) < (ns.length : Int)) = false := decide_eq_false (by omega)
          have fz2 : ¬ 0 < ns.length := by omega
          have ZZ := Lib.hid z
          clear z
          by_cases q9 : inR pl 0 1000000 = true
          · have HT := Lib.hid (show objB qS n ⟨6, nm, pl, its, ks, ns, vs⟩ = tailB n ⟨6, nm, pl, its, ks, ns, vs⟩ by simp [objB, headB, midB, named, lam, p1, p2, p3, p4, p5, p6, hn60, q5, Q8.out, (by decide : inR 6 0 10 = true), e0, ZZ.out, q9])
            go_wp2_with (first
                | (go_at_call 103; refine (iRo _ _ _ _).mono ?_; rintro e w' ⟨rfl, rfl⟩)
                | (go_at_call 56; (first
                    | (with_reducible refine (vVo _ hn _ _ _ _ (h3.below (by ((first | exact b1 ‹_› | exact bN (b1 ‹_›) _ | exact bA (Below.refl _ _) _))))).mono ?_)
                    | (with_reducible refine (vVo _ hn _ _ _ _ (h4.below (by ((first | exact b1 ‹_› | exact bN (b1 ‹_›) _ | exact bA (Below.refl _ _) _))))).mono ?_)
                    | (with_reducible refine (vVn _ hn _ _ _ _ Q8.out.symm _ (h6.below (by ((first | exact b1 ‹_› | exact bN (b1 ‹_›) _ | exact bA (Below.refl _ _) _))))).mono ?_)); rintro e w1 ⟨rfl, hb⟩; (first | have hb0 := hbN ‹_› hb | have hb0 := hbF hb); clear hb; obtain ⟨hc, hf⟩ := bcell hb0)
                | (go_at_call 130; refine (oEo _ _ _ _ (h5.below (by ((first | exact b1 ‹_› | exact bN (b1 ‹_›) _ | exact bA (Below.refl _ _) _)))) hcc5 hz).mono ?_; rintro e w1 ⟨rfl, hb⟩; (first | have hb0 := hbN ‹_› hb | have hb0 := hbF hb); clear hb; obtain ⟨hc, hf⟩ := bcell hb0)
                | (go_at_call 131; refine (vNo _ hnm _).mono ?_; rintro e w1 ⟨rfl, hb⟩; (first | have hb0 := hbN ‹_› hb | have hb0 := hbF hb); clear hb; obtain ⟨hc, hf⟩ := bcell hb0))
            all_goals
              go_ret
              refine ⟨ret_bool ?_, by ((first | exact b1 ‹_› | exact bN (b1 ‹_›) _ | exact bA (Below.refl _ _) _))⟩
              rw [HT.out]
              go_light
              first | (simp [tailB, *]; done) | (simp [tailB, *]; omega) | (rw [Bool.eq_iff_iff]; simp [tailB, *]; done) | (rw [Bool.eq_iff_iff]; simp [tailB, *]; omega) | (rw [Bool.eq_iff_iff]; simp [tailB, -List.length_eq_zero_iff]; omega)
          · replace q9 : inR pl 0 1000000 = false := by simpa using q9
            have HH := Lib.hid (show objB qS n ⟨6, nm, pl, its, ks, ns, vs⟩ = false by simp [objB, headB, midB, named, lam, p1, p2, p3, p4, p5, p6, hn60, q5, Q8.out, (by decide : inR 6 0 10 = true), q9])
            go_wp2_with (first
                | (go_at_call 103; refine (iRo _ _ _ _).mono ?_; rintro e w' ⟨rfl, rfl⟩)
                | (go_at_call 56; (first
                    | (with_reducible refine (vVo _ hn _ _ _ _ (h3.below (by ((first | exact b1 ‹_› | exact bN (b1 ‹_›) _ | exact bA (Below.refl _ _) _))))).mono ?_)
                    | (with_reducible refine (vVo _ hn _ _ _ _ (h4.below (by ((first | exact b1 ‹_› | exact bN (b1 ‹_›) _ | exact bA (Below.refl _ _) _))))).mono ?_)
                    | (with_reducible refine (vVn _ hn _ _ _ _ Q8.out.symm _ (h6.below (by ((first | exact b1 ‹_› | exact bN (b1 ‹_›) _ | exact bA (Below.refl _ _) _))))).mono ?_)); rintro e w1 ⟨rfl, hb⟩; (first | have hb0 := hbN ‹_› hb | have hb0 := hbF hb); clear hb; obtain ⟨hc, hf⟩ := bcell hb0)
                | (go_at_call 130; refine (oEo _ _ _ _ (h5.below (by ((first | exact b1 ‹_› | exact bN (b1 ‹_›) _ | exact bA (Below.refl _ _) _)))) hcc5 hz).mono ?_; rintro e w1 ⟨rfl, hb⟩; (first | have hb0 := hbN ‹_› hb | have hb0 := hbF hb); clear hb; obtain ⟨hc, hf⟩ := bcell hb0)
                | (go_at_call 131; refine (vNo _ hnm _).mono ?_; rintro e w1 ⟨rfl, hb⟩; (first | have hb0 := hbN ‹_› hb | have hb0 := hbF hb); clear hb; obtain ⟨hc, hf⟩ := bcell hb0))
            all_goals
              go_ret
              exact ⟨ret_bool HH.out.symm, by ((first | exact b1 ‹_› | exact bN (b1 ‹_›) _ | exact bA (Below.refl _ _) _))⟩
        · have fz : decide ((0 : Int) < (ns.length : Int)) = true := decide_eq_true (by omega)
          have fz2 : 0 < ns.length := by omega
          have ZZ := Lib.hid z
          clear z
          by_cases q9 : inR pl 0 1000000 = true
          · have HT := Lib.hid (show objB qS n ⟨6, nm, pl, its, ks, ns, vs⟩ = tailB n ⟨6, nm, pl, its, ks, ns, vs⟩ by simp [objB, headB, midB, named, lam, p1, p2, p3, p4, p5, p6, hn60, q5, Q8.out, (by decide : inR 6 0 10 = true), e0, ZZ.out, q9])
            go_wp2_with (first
                | (go_at_call 103; refine (iRo _ _ _ _).mono ?_; rintro e w' ⟨rfl, rfl⟩)
                | (go_at_call 56; (first
                    | (with_reducible refine (vVo _ hn _ _ _ _ (h3.below (by ((first | exact b1 ‹_› | exact bN (b1 ‹_›) _ | exact bA (Below.refl _ _) _))))).mono ?_)
                    | (with_reducible refine (vVo _ hn _ _ _ _ (h4.below (by ((first | exact b1 ‹_› | exact bN (b1 ‹_›) _ | exact bA (Below.refl _ _) _))))).mono ?_)
                    | (with_reducible refine (vVn _ hn _ _ _ _ Q8.out.symm _ (h6.below (by ((first | exact b1 ‹_› | exact bN (b1 ‹_›) _ | exact bA (Below.refl _ _) _))))).mono ?_)); rintro e w1 ⟨rfl, hb⟩; (first | have hb0 := hbN ‹_› hb | have hb0 := hbF hb); clear hb; obtain ⟨hc, hf⟩ := bcell hb0)
                | (go_at_call 130; refine (oEo _ _ _ _ (h5.below (by ((first | exact b1 ‹_› | exact bN (b1 ‹_›) _ | exact bA (Below.refl _ _) _)))) hcc5 hz).mono ?_; rintro e w1 ⟨rfl, hb⟩; (first | have hb0 := hbN ‹_› hb | have hb0 := hbF hb); clear hb; obtain ⟨hc, hf⟩ := bcell hb0)
                | (go_at_call 131; refine (vNo _ hnm _).mono ?_; rintro e w1 ⟨rfl, hb⟩; (first | have hb0 := hbN ‹_› hb | have hb0 := hbF hb); clear hb; obtain ⟨hc, hf⟩ := bcell hb0))
            all_goals
              go_ret
              refine ⟨ret_bool ?_, by ((first | exact b1 ‹_› | exact bN (b1 ‹_›) _ | exact bA (Below.refl _ _) _))⟩
              rw [HT.out]
              go_light
              first | (simp [tailB, *]; done) | (simp [tailB, *]; omega) | (rw [Bool.eq_iff_iff]; simp [tailB, *]; done) | (rw [Bool.eq_iff_iff]; simp [tailB, *]; omega) | (rw [Bool.eq_iff_iff]; simp [tailB, -List.length_eq_zero_iff]; omega)
          · replace q9 : inR pl 0 1000000 = false := by simpa using q9
            have HH := Lib.hid (show objB qS n ⟨6, nm, pl, its, ks, ns, vs⟩ = false by simp [objB, headB, midB, named, lam, p1, p2, p3, p4, p5, p6, hn60, q5, Q8.out, (by decide : inR 6 0 10 = true), q9])
            go_wp2_with (first
                | (go_at_call 103; refine (iRo _ _ _ _).mono ?_; rintro e w' ⟨rfl, rfl⟩)
                | (go_at_call 56; (first
                    | (with_reducible refine (vVo _ hn _ _ _ _ (h3.below (by ((first | exact b1 ‹_› | exact bN (b1 ‹_›) _ | exact bA (Below.refl _ _) _))))).mono ?_)
                    | (with_reducible refine (vVo _ hn _ _ _ _ (h4.below (by ((first | exact b1 ‹_› | exact bN (b1 ‹_›) _ | exact bA (Below.refl _ _) _))))).mono ?_)
                    | (with_reducible refine (vVn _ hn _ _ _ _ Q8.out.symm _ (h6.below (by ((first | exact b1 ‹_› | exact bN (b1 ‹_›) _ | exact bA (Below.refl _ _) _))))).mono ?_)); rintro e w1 ⟨rfl, hb⟩; (first | have hb0 := hbN ‹_› hb | have hb0 := hbF hb); clear hb; obtain ⟨hc, hf⟩ := bcell hb0)
                | (go_at_call 130; refine (oEo _ _ _ _ (h5.below (by ((first | exact b1 ‹_› | exact bN (b1 ‹_›) _ | exact bA (Below.refl _ _) _)))) hcc5 hz).mono ?_; rintro e w1 ⟨rfl, hb⟩; (first | have hb0 := hbN ‹_› hb | have hb0 := hbF hb); clear hb; obtain ⟨hc, hf⟩ := bcell hb0)
                | (go_at_call 131; refine (vNo _ hnm _).mono ?_; rintro e w1 ⟨rfl, hb⟩; (first | have hb0 := hbN ‹_› hb | have hb0 := hbF hb); clear hb; obtain ⟨hc, hf⟩ := bcell hb0))
            all_goals
              go_ret
              exact ⟨ret_bool HH.out.symm, by ((first | exact b1 ‹_› | exact bN (b1 ‹_›) _ | exact bA (Below.refl _ _) _))⟩
      · have fe : (nm.toList == []) = false := by simpa using e0
        have HH := Lib.hid (show objB qS n ⟨6, nm, pl, its, ks, ns, vs⟩ = false by simp [objB, headB, midB, named, lam, p1, p2, p3, p4, p5, p6, hn60, q5, Q8.out, (by decide : inR 6 0 10 = true), e0])
        go_wp2_with (first
            | (go_at_call 103; refine (iRo _ _ _ _).mono ?_; rintro e w' ⟨rfl, rfl⟩)
            | (go_at_call 56; (first
                | (with_reducible refine (vVo _ hn _ _ _ _ (h3.below (by ((first | exact b1 ‹_› | exact bN (b1 ‹_›) _ | exact bA (Below.refl _ _) _))))).mono ?_)
                | (with_reducible refine (vVo _ hn _ _ _ _ (h4.below (by ((first | exact b1 ‹_› | exact bN (b1 ‹_›) _ | exact bA (Below.refl _ _) _))))).mono ?_)
                | (with_reducible refine (vVn _ hn _ _ _ _ Q8.out.symm _ (h6.below (by ((first | exact b1 ‹_› | exact bN (b1 ‹_›) _ | exact bA (Below.refl _ _) _))))).mono ?_)); rintro e w1 ⟨rfl, hb⟩; (first | have hb0 := hbN ‹_› hb | have hb0 := hbF hb); clear hb; obtain ⟨hc, hf⟩ := bcell hb0)
            | (go_at_call 130; refine (oEo _ _ _ _ (h5.below (by ((first | exact b1 ‹_› | exact bN (b1 ‹_›) _ | exact bA (Below.refl _ _) _)))) hcc5 hz).mono ?_; rintro e w1 ⟨rfl, hb⟩; (first | have hb0 := hbN ‹_› hb | have hb0 := hbF hb); clear hb; obtain ⟨hc, hf⟩ := bcell hb0)
            | (go_at_call 131; refine (vNo _ hnm _).mono ?_; rintro e w1 ⟨rfl, hb⟩; (first | have hb0 := hbN ‹_› hb | have hb0 := hbF hb); clear hb; obtain ⟨hc, hf⟩ := bcell hb0))
        all_goals
          go_ret
          exact ⟨ret_bool HH.out.symm, by ((first | exact b1 ‹_› | exact bN (b1 ‹_›) _ | exact bA (Below.refl _ _) _))⟩
    · go_enter Try.func100, Try.ntmps100
      by_cases e0 : nm.toList = []
      · have fe : (nm.toList == []) = true := by simpa using e0
        by_cases z : ns.length = 0
        · have fz : decide ((0 : Int) < (ns.length : Int)) = false := decide_eq_false (by omega)
          have fz2 : ¬ 0 < ns.length := by omega
          have ZZ := Lib.hid z
          clear z
          by_cases q9 : inR pl 0 1000000 = true
          · have HT := Lib.hid (show objB qS n ⟨7, nm, pl, its, ks, ns, vs⟩ = tailB n ⟨7, nm, pl, its, ks, ns, vs⟩ by simp [objB, headB, midB, named, lam, p1, p2, p3, p4, p5, p6, hn60, q5, Q8.out, (by decide : inR 7 0 10 = true), e0, ZZ.out, q9])
            go_wp2_with (first
                | (go_at_call 103; refine (iRo _ _ _ _).mono ?_; rintro e w' ⟨rfl, rfl⟩)
                | (go_at_call 56; (first
                    | (with_reducible refine (vVo _ hn _ _ _ _ (h3.below (by ((first | exact b1 ‹_› | exact bN (b1 ‹_›) _ | exact bA (Below.refl _ _) _))))).mono ?_)
                    | (with_reducible refine (vVo _ hn _ _ _ _ (h4.below (by ((first | exact b1 ‹_› | exact bN (b1 ‹_›) _ | exact bA (Below.refl _ _) _))))).mono ?_)
                    | (with_reducible refine (vVn _ hn _ _ _ _ Q8.out.symm _ (h6.below (by ((first | exact b1 ‹_› | exact bN (b1 ‹_›) _ | exact bA (Below.refl _ _) _))))).mono ?_)); rintro e w1 ⟨rfl, hb⟩; (first | have hb0 := hbN ‹_› hb | have hb0 := hbF hb); clear hb; obtain ⟨hc, hf⟩ := bcell hb0)
                | (go_at_call 130; refine (oEo _ _ _ _ (h5.below (by ((first | exact b1 ‹_› | exact bN (b1 ‹_›) _ | exact bA (Below.refl _ _) _)))) hcc5 hz).mono ?_; rintro e w1 ⟨rfl, hb⟩; (first | have hb0 := hbN ‹_› hb | have hb0 := hbF hb); clear hb; obtain ⟨hc, hf⟩ := bcell hb0)
                | (go_at_call 131; refine (vNo _ hnm _).mono ?_; rintro e w1 ⟨rfl, hb⟩; (first | have hb0 := hbN ‹_› hb | have hb0 := hbF hb); clear hb; obtain ⟨hc, hf⟩ := bcell hb0))
            all_goals
              go_ret
              refine ⟨ret_bool ?_, by ((first | exact b1 ‹_› | exact bN (b1 ‹_›) _ | exact bA (Below.refl _ _) _))⟩
              rw [HT.out]
              go_light
              first | (simp [tailB, *]; done) | (simp [tailB, *]; omega) | (rw [Bool.eq_iff_iff]; simp [tailB, *]; done) | (rw [Bool.eq_iff_iff]; simp [tailB, *]; omega) | (rw [Bool.eq_iff_iff]; simp [tailB, -List.length_eq_zero_iff]; omega)
          · replace q9 : inR pl 0 1000000 = false := by simpa using q9
            have HH := Lib.hid (show objB qS n ⟨7, nm, pl, its, ks, ns, vs⟩ = false by simp [objB, headB, midB, named, lam, p1, p2, p3, p4, p5, p6, hn60, q5, Q8.out, (by decide : inR 7 0 10 = true), q9])
            go_wp2_with (first
                | (go_at_call 103; refine (iRo _ _ _ _).mono ?_; rintro e w' ⟨rfl, rfl⟩)
                | (go_at_call 56; (first
                    | (with_reducible refine (vVo _ hn _ _ _ _ (h3.below (by ((first | exact b1 ‹_› | exact bN (b1 ‹_›) _ | exact bA (Below.refl _ _) _))))).mono ?_)
                    | (with_reducible refine (vVo _ hn _ _ _ _ (h4.below (by ((first | exact b1 ‹_› | exact bN (b1 ‹_›) _ | exact bA (Below.refl _ _) _))))).mono ?_)
                    | (with_reducible refine (vVn _ hn _ _ _ _ Q8.out.symm _ (h6.below (by ((first | exact b1 ‹_› | exact bN (b1 ‹_›) _ | exact bA (Below.refl _ _) _))))).mono ?_)); rintro e w1 ⟨rfl, hb⟩; (first | have hb0 := hbN ‹_› hb | have hb0 := hbF hb); clear hb; obtain ⟨hc, hf⟩ := bcell hb0)
                | (go_at_call 130; refine (oEo _ _ _ _ (h5.below (by ((first | exact b1 ‹_› | exact bN (b1 ‹_›) _ | exact bA (Below.refl _ _) _)))) hcc5 hz).mono ?_; rintro e w1 ⟨rfl, hb⟩; (first | have hb0 := hbN ‹_› hb | have hb0 := hbF hb); clear hb; obtain ⟨hc, hf⟩ := bcell hb0)
                | (go_at_call 131; refine (vNo _ hnm _).mono ?_; rintro e w1 ⟨rfl, hb⟩; (first | have hb0 := hbN ‹_› hb | have hb0 := hbF hb); clear hb; obtain ⟨hc, hf⟩ := bcell hb0))
            all_goals
              go_ret
              exact ⟨ret_bool HH.out.symm, by ((first | exact b1 ‹_› | exact bN (b1 ‹_›) _ | exact bA (Below.refl _ _) _))⟩
        · have fz : decide ((0 : Int) < (ns.length : Int)) = true := decide_eq_true (by omega)
          have fz2 : 0 < ns.length := by omega
          have ZZ := Lib.hid z
          clear z
          have HH := Lib.hid (show objB qS n ⟨7, nm, pl, its, ks, ns, vs⟩ = false by simp [objB, headB, midB, named, lam, p1, p2, p3, p4, p5, p6, hn60, q5, Q8.out, (by decide : inR 7 0 10 = true), ZZ.out])
          go_wp2_with (first
              | (go_at_call 103; refine (iRo _ _ _ _).mono ?_; rintro e w' ⟨rfl, rfl⟩)
              | (go_at_call 56; (first
                  | (with_reducible refine (vVo _ hn _ _ _ _ (h3.below (by ((first | exact b1 ‹_› | exact bN (b1 ‹_›) _ | exact bA (Below.refl _ _) _))))).mono ?_)
                  | (with_reducible refine (vVo _ hn _ _ _ _ (h4.below (by ((first | exact b1 ‹_› | exact bN (b1 ‹_›) _ | exact bA (Below.refl _ _) _))))).mono ?_)
                  | (with_reducible refine (vVn _ hn _ _ _ _ Q8.out.symm _ (h6.below (by ((first | exact b1 ‹_› | exact bN (b1 ‹_›) _ | exact bA (Below.refl _ _) _))))).mono ?_)); rintro e w1 ⟨rfl, hb⟩; (first | have hb0 := hbN ‹_› hb | have hb0 := hbF hb); clear hb; obtain ⟨hc, hf⟩ := bcell hb0)
              | (go_at_call 130; refine (oEo _ _ _ _ (h5.below (by ((first | exact b1 ‹_› | exact bN (b1 ‹_›) _ | exact bA (Below.refl _ _) _)))) hcc5 hz).mono ?_; rintro e w1 ⟨rfl, hb⟩; (first | have hb0 := hbN ‹_› hb | have hb0 := hbF hb); clear hb; obtain ⟨hc, hf⟩ := bcell hb0)
              | (go_at_call 131; refine (vNo _ hnm _).mono ?_; rintro e w1 ⟨rfl, hb⟩; (first | have hb0 := hbN ‹_› hb | have hb0 := hbF hb); clear hb; obtain ⟨hc, hf⟩ := bcell hb0))
          all_goals
            go_ret
            exact ⟨ret_bool HH.out.symm, by ((first | exact b1 ‹_› | exact bN (b1 ‹_›) _ | exact bA (Below.refl _ _) _))⟩
      · have fe : (nm.toList == []) = false := by simpa using e0
        have HH := Lib.hid (show objB qS n ⟨7, nm, pl, its, ks, ns, vs⟩ = false by simp [objB, headB, midB, named, lam, p1, p2, p3, p4, p5, p6, hn60, q5, Q8.out, (by decide : inR 7 0 10 = true), e0])
        go_wp2_with (first
            | (go_at_call 103; refine (iRo _ _ _ _).mono ?_; rintro e w' ⟨rfl, rfl⟩)
            | (go_at_call 56; (first
                | (with_reducible refine (vVo _ hn _ _ _ _ (h3.below (by ((first | exact b1 ‹_› | exact bN (b1 ‹_›) _ | exact bA (Below.refl _ _) _))))).mono ?_)
                | (with_reducible refine (vVo _ hn _ _ _ _ (h4.below (by ((first | exact b1 ‹_› | exact bN (b1 ‹_›) _ | exact bA (Below.refl _ _) _))))).mono ?_)
                | (with_reducible refine (vVn _ hn _ _ _ _ Q8.out.symm _ (h6.below (by ((first | exact b1 ‹_› | exact bN (b1 ‹_›) _ | exact bA (Below.refl _ _) _))))).mono ?_)); rintro e w1 ⟨rfl, hb⟩; (first | have hb0 := hbN ‹_› hb | have hb0 := hbF hb); clear hb; obtain ⟨hc, hf⟩ := bcell hb0)
            | (go_at_call 130; refine (oEo _ _ _ _ (h5.below (by ((first | exact b1 ‹_› | exact bN (b1 ‹_›) _ | exact bA (Below.refl _ _) _)))) hcc5 hz).mono ?_; rintro e w1 ⟨rfl, hb⟩; (first | have hb0 := hbN ‹_› hb | have hb0 := hbF hb); clear hb; obtain ⟨hc, hf⟩ := bcell hb0)
            | (go_at_call 131; refine (vNo _ hnm _).mono ?_; rintro e w1 ⟨rfl, hb⟩; (first | have hb0 := hbN ‹_› hb | have hb0 := hbF hb); clear hb; obtain ⟨hc, hf⟩ := bcell hb0))
        all_goals
          go_ret
          exact ⟨ret_bool HH.out.symm, by ((first | exact b1 ‹_› | exact bN (b1 ‹_›) _ | exact bA (Below.refl _ _) _))⟩
    · go_enter Try.func100, Try.ntmps100
      by_cases e0 : nm.toList = []
      · have fe : (nm.toList == []) = true := by simpa using e0
        by_cases z : ns.length = 0
        · have fz : decide ((0 : Int) < (ns.length : Int)) = false := decide_eq_false (by omega)
          have fz2 : ¬ 0 < ns.length := by omega
          have ZZ := Lib.hid z
          clear z
          by_cases q9 : inR pl 0 1000000 = true
          · have HT := Lib.hid (show objB qS n ⟨8, nm, pl, its, ks, ns, vs⟩ = tailB n ⟨8, nm, pl, its, ks, ns, vs⟩ by simp [objB, headB, midB, named, lam, p1, p2, p3, p4, p5, p6, hn60, q5, Q8.out, (by decide : inR 8 0 10 = true), e0, ZZ.out, q9])
            go_wp2_with (first
                | (go_at_call 103; refine (iRo _ _ _ _).mono ?_; rintro e w' ⟨rfl, rfl⟩)
                | (go_at_call 56; (first
                    | (with_reducible refine (vVo _ hn _ _ _ _ (h3.below (by ((first | exact b1 ‹_› | exact bN (b1 ‹_›) _ | exact bA (Below.refl _ _) _))))).mono ?_)
                    | (with_reducible refine (vVo _ hn _ _ _ _ (h4.below (by ((first | exact b1 ‹_› | exact bN (b1 ‹_›) _ | exact bA (Below.refl _ _) _))))).mono ?_)
                    | (with_reducible refine (vVn _ hn _ _ _ _ Q8.out.symm _ (h6.below (by ((first | exact b1 ‹_› | exact bN (b1 ‹_›) _ | exact bA (Below.refl _ _) _))))).mono ?_)); rintro e w1 ⟨rfl, hb⟩; (first | have hb0 := hbN ‹_› hb | have hb0 := hbF hb); clear hb; obtain ⟨hc, hf⟩ := bcell hb0)
                | (go_at_call 130; refine (oEo _ _ _ _ (h5.below (by ((first | exact b1 ‹_› | exact bN (b1 ‹_›) _ | exact bA (Below.refl _ _) _)))) hcc5 hz).mono ?_; rintro e w1 ⟨rfl, hb⟩; (first | have hb0 := hbN ‹_› hb | have hb0 := hbF hb); clear hb; obtain ⟨hc, hf⟩ := bcell hb0)
                | (go_at_call 131; refine (vNo _ hnm _).mono ?_; rintro e w1 ⟨rfl, hb⟩; (first | have hb0 := hbN ‹_› hb | have hb0 := hbF hb); clear hb; obtain ⟨hc, hf⟩ := bcell hb0))
            all_goals
              go_ret
              refine ⟨ret_bool ?_, by ((first | exact b1 ‹_› | exact bN (b1 ‹_›) _ | exact bA (Below.refl _ _) _))⟩
              rw [HT.out]
              go_light
              first | (simp [tailB, *]; done) | (simp [tailB, *]; omega) | (rw [Bool.eq_iff_iff]; simp [tailB, *]; done) | (rw [Bool.eq_iff_iff]; simp [tailB, *]; omega) | (rw [Bool.eq_iff_iff]; simp [tailB, -List.length_eq_zero_iff]; omega)
          · replace q9 : inR pl 0 1000000 = false := by simpa using q9
            have HH := Lib.hid (show objB qS n ⟨8, nm, pl, its, ks, ns, vs⟩ = false by simp [objB, headB, midB, named, lam, p1, p2, p3, p4, p5, p6, hn60, q5, Q8.out, (by decide : inR 8 0 10 = true), q9])
            go_wp2_with (first
                | (go_at_call 103; refine (iRo _ _ _ _).mono ?_; rintro e w' ⟨rfl, rfl⟩)
                | (go_at_call 56; (first
                    | (with_reducible refine (vVo _ hn _ _ _ _ (h3.below (by ((first | exact b1 ‹_› | exact bN (b1 ‹_›) _ | exact bA (Below.refl _ _) _))))).mono ?_)
                    | (with_reducible refine (vVo _ hn _ _ _ _ (h4.below (by ((first | exact b1 ‹_› | exact bN (b1 ‹_›) _ | exact bA (Below.refl _ _) _))))).mono ?_)
                    | (with_reducible refine (vVn _ hn _ _ _ _ Q8.out.symm _ (h6.below (by ((first | exact b1 ‹_› | exact bN (b1 ‹_›) _ | exact bA (Below.refl _ _) _))))).mono ?_)); rintro e w1 ⟨rfl, hb⟩; (first | have hb0 := hbN ‹_› hb | have hb0 := hbF hb); clear hb; obtain ⟨hc, hf⟩ := bcell hb0)
                | (go_at_call 130; refine (oEo _ _ _ _ (h5.below (by ((first | exact b1 ‹_› | exact bN (b1 ‹_›) _ | exact bA (Below.refl _ _) _)))) hcc5 hz).mono ?_; rintro e w1 ⟨rfl, hb⟩; (first | have hb0 := hbN ‹_› hb | have hb0 := hbF hb); clear hb; obtain ⟨hc, hf⟩ := bcell hb0)
                | (go_at_call 131; refine (vNo _ hnm _).mono ?_; rintro e w1 ⟨rfl, hb⟩; (first | have hb0 := hbN ‹_› hb | have hb0 := hbF hb); clear hb; obtain ⟨hc, hf⟩ := bcell hb0))
            all_goals
              go_ret
              exact ⟨ret_bool HH.out.symm, by ((first | exact b1 ‹_› | exact bN (b1 ‹_›) _ | exact bA (Below.refl _ _) _))⟩
        · have fz : decide ((0 : Int) < (ns.length : Int)) = true := decide_eq_true (by omega)
          have fz2 : 0 < ns.length := by omega
          have ZZ := Lib.hid z
          clear z
          have HH := Lib.hid (show objB qS n ⟨8, nm, pl, its, ks, ns, vs⟩ = false by simp [objB, headB, midB, named, lam, p1, p2, p3, p4, p5, p6, hn60, q5, Q8.out, (by decide : inR 8 0 10 = true), ZZ.out])
          go_wp2_with (first
              | (go_at_call 103; refine (iRo _ _ _ _).mono ?_; rintro e w' ⟨rfl, rfl⟩)
              | (go_at_call 56; (first
                  | (with_reducible refine (vVo _ hn _ _ _ _ (h3.below (by ((first | exact b1 ‹_› | exact bN (b1 ‹_›) _ | exact bA (Below.refl _ _) _))))).mono ?_)
                  | (with_reducible refine (vVo _ hn _ _ _ _ (h4.below (by ((first | exact b1 ‹_› | exact bN (b1 ‹_›) _ | exact bA (Below.refl _ _) _))))).mono ?_)
                  | (with_reducible refine (vVn _ hn _ _ _ _ Q8.out.symm _ (h6.below (by ((first | exact b1 ‹_› | exact bN (b1 ‹_›) _ | exact bA (Below.refl _ _) _))))).mono ?_)); rintro e w1 ⟨rfl, hb⟩; (first | have hb0 := hbN ‹_› hb | have hb0 := hbF hb); clear hb; obtain ⟨hc, hf⟩ := bcell hb0)
              | (go_at_call 130; refine (oEo _ _ _ _ (h5.below (by ((first | exact b1 ‹_› | exact bN (b1 ‹_›) _ | exact bA (Below.refl _ _) _)))) hcc5 hz).mono ?_; rintro e w1 ⟨rfl, hb⟩; (first | have hb0 := hbN ‹_› hb | have hb0 := hbF hb); clear hb; obtain ⟨hc, hf⟩ := bcell hb0)
              | (go_at_call 131; refine (vNo _ hnm _).mono ?_; rintro e w1 ⟨rfl, hb⟩; (first | have hb0 := hbN ‹_› hb | have hb0 := hbF hb); clear hb; obtain ⟨hc, hf⟩ := bcell hb0))
          all_goals
            go_ret
            exact ⟨ret_bool HH.out.symm, by ((first | exact b1 ‹_› | exact bN (b1 ‹_›) _ | exact bA (Below.refl _ _) _))⟩
      · have fe : (nm.toList == []) = false := by simpa using e0
        have HH := Lib.hid (show objB qS n ⟨8, nm, pl, its, ks, ns, vs⟩ = false by simp [objB, headB, midB, named, lam, p1, p2, p3, p4, p5, p6, hn60, q5, Q8.out, (by decide : inR 8 0 10 = true), e0])
        go_wp2_with (first
            | (go_at_call 103; refine (iRo _ _ _ _).mono ?_; rintro e w' ⟨rfl, rfl⟩)
            | (go_at_call 56; (first
                | (with_reducible refine (vVo _ hn _ _ _ _ (h3.below (by ((first | exact b1 ‹_› | exact bN (b1 ‹_›) _ | exact bA (Below.refl _ _) _))))).mono ?_)
                | (with_reducible refine (vVo _ hn _ _ _ _ (h4.below (by ((first | exact b1 ‹_› | exact bN (b1 ‹_›) _ | exact bA (Below.refl _ _) _))))).mono ?_)
                | (with_reducible refine (vVn _ hn _ _ _ _ Q8.out.symm _ (h6.below (by ((first | exact b1 ‹_› | exact bN (b1 ‹_›) _ | exact bA (Below.refl _ _) _))))).mono ?_)); rintro e w1 ⟨rfl, hb⟩; (first | have hb0 := hbN ‹_› hb | have hb0 := hbF hb); clear hb; obtain ⟨hc, hf⟩ := bcell hb0)
            | (go_at_call 130; refine (oEo _ _ _ _ (h5.below (by ((first | exact b1 ‹_› | exact bN (b1 ‹_›) _ | exact bA (Below.refl _ _) _)))) hcc5 hz).mono ?_; rintro e w1 ⟨rfl, hb⟩; (first | have hb0 := hbN ‹_› hb | have hb0 := hbF hb); clear hb; obtain ⟨hc, hf⟩ := bcell hb0)
            | (go_at_call 131; refine (vNo _ hnm _).mono ?_; rintro e w1 ⟨rfl, hb⟩; (first | have hb0 := hbN ‹_› hb | have hb0 := hbF hb); clear hb; obtain ⟨hc, hf⟩ := bcell hb0))
        all_goals
          go_ret
          exact ⟨ret_bool HH.out.symm, by ((first | exact b1 ‹_› | exact bN (b1 ‹_›) _ | exact bA (Below.refl _ _) _))⟩
    · go_enter Try.func100, Try.ntmps100
      by_cases e0 : nm.toList = []
      · have fe : (nm.toList == []) = true := by simpa using e0
        by_cases z : ns.length = 0
        · have fz : decide ((0 : Int) < (ns.length : Int)) = false := decide_eq_false (by omega)
          have fz2 : ¬ 0 < ns.length := by omega
          have ZZ := Lib.hid z
          clear z
          by_cases q9 : inR pl 0 1000000 = true
          · have HT := Lib.hid (show objB qS n ⟨9, nm, pl, its, ks, ns, vs⟩ = tailB n ⟨9, nm, pl, its, ks, ns, vs⟩ by simp [objB, headB, midB, named, lam, p1, p2, p3, p4, p5, p6, hn60, q5, Q8.out, (by decide : inR 9 0 10 = true), e0, ZZ.out, q9])
            go_wp2_with (first
                | (go_at_call 103; refine (iRo _ _ _ _).mono ?_; rintro e w' ⟨rfl, rfl⟩)
                | (go_at_call 56; (first
                    | (with_reducible refine (vVo _ hn _ _ _ _ (h3.below (by ((first | exact b1 ‹_› | exact bN (b1 ‹_›) _ | exact bA (Below.refl _ _) _))))).mono ?_)
                    | (with_reducible refine (vVo _ hn _ _ _ _ (h4.below (by ((first | exact b1 ‹_› | exact bN (b1 ‹_›) _ | exact bA (Below.refl _ _) _))))).mono ?_)
                    | (with_reducible refine (vVn _ hn _ _ _ _ Q8.out.symm _ (h6.below (by ((first | exact b1 ‹_› | exact bN (b1 ‹_›) _ | exact bA (Below.refl _ _) _))))).mono ?_)); rintro e w1 ⟨rfl, hb⟩; (first | have hb0 := hbN ‹_› hb | have hb0 := hbF hb); clear hb; obtain ⟨hc, hf⟩ := bcell hb0)
                | (go_at_call 130; refine (oEo _ _ _ _ (h5.below (by ((first | exact b1 ‹_› | exact bN (b1 ‹_›) _ | exact bA (Below.refl _ _) _)))) hcc5 hz).mono ?_; rintro e w1 ⟨rfl, hb⟩; (first | have hb0 := hbN ‹_› hb | have hb0 := hbF hb); clear hb; obtain ⟨hc, hf⟩ := bcell hb0)
                | (go_at_call 131; refine (vNo _ hnm _).mono ?_; rintro e w1 ⟨rfl, hb⟩; (first | have hb0 := hbN ‹_› hb | have hb0 := hbF hb); clear hb; obtain ⟨hc, hf⟩ := bcell hb0))
            all_goals
              go_ret
              refine ⟨ret_bool ?_, by ((first | exact b1 ‹_› | exact bN (b1 ‹_›) _ | exact bA (Below.refl _ _) _))⟩
              rw [HT.out]
              go_light
              first | (simp [tailB, *]; done) | (simp [tailB, *]; omega) | (rw [Bool.eq_iff_iff]; simp [tailB, *]; done) | (rw [Bool.eq_iff_iff]; simp [tailB, *]; omega) | (rw [Bool.eq_iff_iff]; simp [tailB, -List.length_eq_zero_iff]; omega)
          · replace q9 : inR pl 0 1000000 = false := by simpa using q9
            have HH := Lib.hid (show objB qS n ⟨9, nm, pl, its, ks, ns, vs⟩ = false by simp [objB, headB, midB, named, lam, p1, p2, p3, p4, p5, p6, hn60, q5, Q8.out, (by decide : inR 9 0 10 = true), q9])
            go_wp2_with (first
                | (go_at_call 103; refine (iRo _ _ _ _).mono ?_; rintro e w' ⟨rfl, rfl⟩)
                | (go_at_call 56; (first
                    | (with_reducible refine (vVo _ hn _ _ _ _ (h3.below (by ((first | exact b1 ‹_› | exact bN (b1 ‹_›) _ | exact bA (Below.refl _ _) _))))).mono ?_)
                    | (with_reducible refine (vVo _ hn _ _ _ _ (h4.below (by ((first | exact b1 ‹_› | exact bN (b1 ‹_›) _ | exact bA (Below.refl _ _) _))))).mono ?_)
                    | (with_reducible refine (vVn _ hn _ _ _ _ Q8.out.symm _ (h6.below (by ((first | exact b1 ‹_› | exact bN (b1 ‹_›) _ | exact bA (Below.refl _ _) _))))).mono ?_)); rintro e w1 ⟨rfl, hb⟩; (first | have hb0 := hbN ‹_› hb | have hb0 := hbF hb); clear hb; obtain ⟨hc, hf⟩ := bcell hb0)
                | (go_at_call 130; refine (oEo _ _ _ _ (h5.below (by ((first | exact b1 ‹_› | exact bN (b1 ‹_›) _ | exact bA (Below.refl _ _) _)))) hcc5 hz).mono ?_; rintro e w1 ⟨rfl, hb⟩; (first | have hb0 := hbN ‹_› hb | have hb0 := hbF hb); clear hb; obtain ⟨hc, hf⟩ := bcell hb0)
                | (go_at_call 131; refine (vNo _ hnm _).mono ?_; rintro e w1 ⟨rfl, hb⟩; (first | have hb0 := hbN ‹_› hb | have hb0 := hbF hb); clear hb; obtain ⟨hc, hf⟩ := bcell hb0))
            all_goals
              go_ret
              exact ⟨ret_bool HH.out.symm, by ((first | exact b1 ‹_› | exact bN (b1 ‹_›) _ | exact bA (Below.refl _ _) _))⟩
        · have fz : decide ((0 : Int) < (ns.length : Int)) = true := decide_eq_true (by omega)
          have fz2 : 0 < ns.length := by omega
          have ZZ := Lib.hid z
          clear z
          have HH := Lib.hid (show objB qS n ⟨9, nm, pl, its, ks, ns, vs⟩ = false by simp [objB, headB, midB, named, lam, p1, p2, p3, p4, p5, p6, hn60, q5, Q8.out, (by decide : inR 9 0 10 = true), ZZ.out])
          go_wp2_with (first
              | (go_at_call 103; refine (iRo _ _ _ _).mono ?_; rintro e w' ⟨rfl, rfl⟩)
              | (go_at_call 56; (first
                  | (with_reducible refine (vVo _ hn _ _ _ _ (h3.below (by ((first | exact b1 ‹_› | exact bN (b1 ‹_›) _ | exact bA (Below.refl _ _) _))))).mono ?_)
                  | (with_reducible refine (vVo _ hn _ _ _ _ (h4.below (by ((first | exact b1 ‹_› | exact bN (b1 ‹_›) _ | exact bA (Below.refl _ _) _))))).mono ?_)
                  | (with_reducible refine (vVn _ hn _ _ _ _ Q8.out.symm _ (h6.below (by ((first | exact b1 ‹_› | exact bN (b1 ‹_›) _ | exact bA (Below.refl _ _) _))))).mono ?_)); rintro e w1 ⟨rfl, hb⟩; (first | have hb0 := hbN ‹_› hb | have hb0 := hbF hb); clear hb; obtain ⟨hc, hf⟩ := bcell hb0)
              | (go_at_call 130; refine (oEo _ _ _ _ (h5.below (by ((first | exact b1 ‹_› | exact bN (b1 ‹_›) _ | exact bA (Below.refl _ _) _)))) hcc5 hz).mono ?_; rintro e w1 ⟨rfl, hb⟩; (first | have hb0 := hbN ‹_› hb | have hb0 := hbF hb); clear hb; obtain ⟨hc, hf⟩ := bcell hb0)
              | (go_at_call 131; refine (vNo _ hnm _).mono ?_; rintro e w1 ⟨rfl, hb⟩; (first | have hb0 := hbN ‹_› hb | have hb0 := hbF hb); clear hb; obtain ⟨hc, hf⟩ := bcell hb0))
          all_goals
            go_ret
            exact ⟨ret_bool HH.out.symm, by ((first | exact b1 ‹_› | exact bN (b1 ‹_›) _ | exact bA (Below.refl _ _) _))⟩
      · have fe : (nm.toList == []) = false := by simpa using e0
        have HH := Lib.hid (show objB qS n ⟨9, nm, pl, its, ks, ns, vs⟩ = false by simp [objB, headB, midB, named, lam, p1, p2, p3, p4, p5, p6, hn60, q5, Q8.out, (by decide : inR 9 0 10 = true), e0])
        go_wp2_with (first
            | (go_at_call 103; refine (iRo _ _ _ _).mono ?_; rintro e w' ⟨rfl, rfl⟩)
            | (go_at_call 56; (first
                | (with_reducible refine (vVo _ hn _ _ _ _ (h3.below (by ((first | exact b1 ‹_› | exact bN (b1 ‹_›) _ | exact bA (Below.refl _ _) _))))).mono ?_)
                | (with_reducible refine (vVo _ hn _ _ _ _ (h4.below (by ((first | exact b1 ‹_› | exact bN (b1 ‹_›) _ | exact bA (Below.refl _ _) _))))).mono ?_)
                | (with_reducible refine (vVn _ hn _ _ _ _ Q8.out.symm _ (h6.below (by ((first | exact b1 ‹_› | exact bN (b1 ‹_›) _ | exact bA (Below.refl _ _) _))))).mono ?_)); rintro e w1 ⟨rfl, hb⟩; (first | have hb0 := hbN ‹_› hb | have hb0 := hbF hb); clear hb; obtain ⟨hc, hf⟩ := bcell hb0)
            | (go_at_call 130; refine (oEo _ _ _ _ (h5.below (by ((first | exact b1 ‹_› | exact bN (b1 ‹_›) _ | exact bA (Below.refl _ _) _)))) hcc5 hz).mono ?_; rintro e w1 ⟨rfl, hb⟩; (first | have hb0 := hbN ‹_› hb | have hb0 := hbF hb); clear hb; obtain ⟨hc, hf⟩ := bcell hb0)
            | (go_at_call 131; refine (vNo _ hnm _).mono ?_; rintro e w1 ⟨rfl, hb⟩; (first | have hb0 := hbN ‹_› hb | have hb0 := hbF hb); clear hb; obtain ⟨hc, hf⟩ := bcell hb0))
        all_goals
          go_ret
          exact ⟨ret_bool HH.out.symm, by ((first | exact b1 ‹_› | exact bN (b1 ‹_›) _ | exact bA (Below.refl _ _) _))⟩
    · go_enter Try.func100, Try.ntmps100
      by_cases e0 : nm.toList = []
      · have fe : (nm.toList == []) = true := by simpa using e0
        have HH := Lib.hid (show objB qS n ⟨10, nm, pl, its, ks, ns, vs⟩ = false by simp [objB, headB, midB, named, lam, p1, p2, p3, p4, p5, p6, hn60, q5, Q8.out, (by decide : inR 10 0 10 = true), e0])
        go_wp2_with (first
            | (go_at_call 103; refine (iRo _ _ _ _).mono ?_; rintro e w' ⟨rfl, rfl⟩)
            | (go_at_call 56; (first
                | (with_reducible refine (vVo _ hn _ _ _ _ (h3.below (by ((first | exact b1 ‹_› | exact bN (b1 ‹_›) _ | exact bA (Below.refl _ _) _))))).mono ?_)
                | (with_reducible refine (vVo _ hn _ _ _ _ (h4.below (by ((first | exact b1 ‹_› | exact bN (b1 ‹_›) _ | exact bA (Below.refl _ _) _))))).mono ?_)
                | (with_reducible refine (vVn _ hn _ _ _ _ Q8.out.symm _ (h6.below (by ((first | exact b1 ‹_› | exact bN (b1 ‹_›) _ | exact bA (Below.refl _ _) _))))).mono ?_)); rintro e w1 ⟨rfl, hb⟩; (first | have hb0 := hbN ‹_› hb | have hb0 := hbF hb); clear hb; obtain ⟨hc, hf⟩ := bcell hb0)
            | (go_at_call 130; refine (oEo _ _ _ _ (h5.below (by ((first | exact b1 ‹_› | exact bN (b1 ‹_›) _ | exact bA (Below.refl _ _) _)))) hcc5 hz).mono ?_; rintro e w1 ⟨rfl, hb⟩; (first | have hb0 := hbN ‹_› hb | have hb0 := hbF hb); clear hb; obtain ⟨hc, hf⟩ := bcell hb0)
            | (go_at_call 131; refine (vNo _ hnm _).mono ?_; rintro e w1 ⟨rfl, hb⟩; (first | have hb0 := hbN ‹_› hb | have hb0 := hbF hb); clear hb; obtain ⟨hc, hf⟩ := bcell hb0))
        all_goals
          go_ret
          exact ⟨ret_bool HH.out.symm, by ((first | exact b1 ‹_› | exact bN (b1 ‹_›) _ | exact bA (Below.refl _ _) _))⟩
      · have fe : (nm.toList == []) = false := by simpa using e0
        by_cases hN : nameB nm = true
        · by_cases z : ns.length = 0
          · have fz : decide ((0 : Int) < (ns.length : Int)) = false := decide_eq_false (by omega)
            have fz2 : ¬ 0 < ns.length := by omega
            have ZZ := Lib.hid z
            clear z
            by_cases q9 : inR pl 0 1000000 = true
            · have HT := Lib.hid (show objB qS n ⟨10, nm, pl, its, ks, ns, vs⟩ = tailB n ⟨10, nm, pl, its, ks, ns, vs⟩ by simp [objB, headB, midB, named, lam, p1, p2, p3, p4, p5, p6, hn60, q5, Q8.out, (by decide : inR 10 0 10 = true), e0, hN, ZZ.out, q9])
              go_wp2_with (first
                  | (go_at_call 103; refine (iRo _ _ _ _).mono ?_; rintro e w' ⟨rfl, rfl⟩)
                  | (go_at_call 56; (first
                      | (with_reducible refine (vVo _ hn _ _ _ _ (h3.below (by ((first | exact b1 ‹_› | exact bN (b1 ‹_›) _ | exact bA (Below.refl _ _) _))))).mono ?_)
                      | (with_reducible refine (vVo _ hn _ _ _ _ (h4.below (by ((first | exact b1 ‹_› | exact bN (b1 ‹_›) _ | exact bA (Below.refl _ _) _))))).mono ?_)
                      | (with_reducible refine (vVn _ hn _ _ _ _ Q8.out.symm _ (h6.below (by ((first | exact b1 ‹_› | exact bN (b1 ‹_›) _ | exact bA (Below.refl _ _) _))))).mono ?_)); rintro e w1 ⟨rfl, hb⟩; (first | have hb0 := hbN ‹_› hb | have hb0 := hbF hb); clear hb; obtain ⟨hc, hf⟩ := bcell hb0)
                  | (go_at_call 130; refine (oEo _ _ _ _ (h5.below (by ((first | exact b1 ‹_› | exact bN (b1 ‹_›) _ | exact bA (Below.refl _ _) _)))) hcc5 hz).mono ?_; rintro e w1 ⟨rfl, hb⟩; (first | have hb0 := hbN ‹_› hb | have hb0 := hbF hb); clear hb; obtain ⟨hc, hf⟩ := bcell hb0)
                  | (go_at_call 131; refine (vNo _ hnm _).mono ?_; rintro e w1 ⟨rfl, hb⟩; (first | have hb0 := hbN ‹_› hb | have hb0 := hbF hb); clear hb; obtain ⟨hc, hf⟩ := bcell hb0))
              all_goals
                go_ret
                refine ⟨ret_bool ?_, by ((first | exact b1 ‹_› | exact bN (b1 ‹_›) _ | exact bA (Below.refl _ _) _))⟩
                rw [HT.out]
                go_light
                first | (simp [tailB, *]; done) | (simp [tailB, *]; omega) | (rw [Bool.eq_iff_iff]; simp [tailB, *]; done) | (rw [Bool.eq_iff_iff]; simp [tailB, *]; omega) | (rw [Bool.eq_iff_iff]; simp [tailB, -List.length_eq_zero_iff]; omega)
            · replace q9 : inR pl 0 1000000 = false := by simpa using q9
              have HH := Lib.hid (show objB qS n ⟨10, nm, pl, its, ks, ns, vs⟩ = false by simp [objB, headB, midB, named, lam, p1, p2, p3, p4, p5, p6, hn60, q5, Q8.out, (by decide : inR 10 0 10 = true), q9])
              go_wp2_with (first
                  | (go_at_call 103; refine (iRo _ _ _ _).mono ?_; rintro e w' ⟨rfl, rfl⟩)
                  | (go_at_call 56; (first
                      | (with_reducible refine (vVo _ hn _ _ _ _ (h3.below (by ((first | exact b1 ‹_› | exact bN (b1 ‹_›) _ | exact bA (Below.refl _ _) _))))).mono ?_)
                      | (with_reducible refine (vVo _ hn _ _ _ _ (h4.below (by ((first | exact b1 ‹_› | exact bN (b1 ‹_›) _ | exact bA (Below.refl _ _) _))))).mono ?_)
                      | (with_reducible refine (vVn _ hn _ _ _ _ Q8.out.symm _ (h6.below (by ((first | exact b1 ‹_› | exact bN (b1 ‹_›) _ | exact bA (Below.refl _ _) _))))).mono ?_)); rintro e w1 ⟨rfl, hb⟩; (first | have hb0 := hbN ‹_› hb | have hb0 := hbF hb); clear hb; obtain ⟨hc, hf⟩ := bcell hb0)
                  | (go_at_call 130; refine (oEo _ _ _ _ (h5.below (by ((first | exact b1 ‹_› | exact bN (b1 ‹_›) _ | exact bA (Below.refl _ _) _)))) hcc5 hz).mono ?_; rintro e w1 ⟨rfl, hb⟩; (first | have hb0 := hbN ‹_› hb | have hb0 := hbF hb); clear hb; obtain ⟨hc, hf⟩ := bcell hb0)
                  | (go_at_call 131; refine (vNo _ hnm _).mono ?_; rintro e w1 ⟨rfl, hb⟩; (first | have hb0 := hbN ‹_› hb | have hb0 := hbF hb); clear hb; obtain ⟨hc, hf⟩ := bcell hb0))
              all_goals
                go_ret
                exact ⟨ret_bool HH.out.symm, by ((first | exact b1 ‹_› | exact bN (b1 ‹_›) _ | exact bA (Below.refl _ _) _))⟩
          · have fz : decide ((0 : Int) < (ns.length : Int)) = true := decide_eq_true (by omega)
            have fz2 : 0 < ns.length := by omega
            have ZZ := Lib.hid z
            clear z
            have HH := Lib.hid (show objB qS n ⟨10, nm, pl, its, ks, ns, vs⟩ = false by simp [objB, headB, midB, named, lam, p1, p2, p3, p4, p5, p6, hn60, q5, Q8.out, (by decide : inR 10 0 10 = true), ZZ.out])
            go_wp2_with (first
                | (go_at_call 103; refine (iRo _ _ _ _).mono ?_; rintro e w' ⟨rfl, rfl⟩)
                | (go_at_call 56; (first
                    | (with_reducible refine (vVo _ hn _ _ _ _ (h3.below (by ((first | exact b1 ‹_› | exact bN (b1 ‹_›) _ | exact bA (Below.refl _ _) _))))).mono ?_)
                    | (with_reducible refine (vVo _ hn _ _ _ _ (h4.below (by ((first | exact b1 ‹_› | exact bN (b1 ‹_›) _ | exact bA (Below.refl _ _) _))))).mono ?_)
                    | (with_reducible refine (vVn _ hn _ _ _ _ Q8.out.symm _ (h6.below (by ((first | exact b1 ‹_› | exact bN (b1 ‹_›) _ | exact bA (Below.refl _ _) _))))).mono ?_)); rintro e w1 ⟨rfl, hb⟩; (first | have hb0 := hbN ‹_› hb | have hb0 := hbF hb); clear hb; obtain ⟨hc, hf⟩ := bcell hb0)
                | (go_at_call 130; refine (oEo _ _ _ _ (h5.below (by ((first | exact b1 ‹_› | exact bN (b1 ‹_›) _ | exact bA (Below.refl _ _) _)))) hcc5 hz).mono ?_; rintro e w1 ⟨rfl, hb⟩; (first | have hb0 := hbN ‹_› hb | have hb0 := hbF hb); clear hb; obtain ⟨hc, hf⟩ := bcell hb0)
                | (go_at_call 131; refine (vNo _ hnm _).mono ?_; rintro e w1 ⟨rfl, hb⟩; (first | have hb0 := hbN ‹_› hb | have hb0 := hbF hb); clear hb; obtain ⟨hc, hf⟩ := bcell hb0))
            all_goals
              go_ret
              exact ⟨ret_bool HH.out.symm, by ((first | exact b1 ‹_› | exact bN (b1 ‹_›) _ | exact bA (Below.refl _ _) _))⟩
        · replace hN : nameB nm = false := by simpa using hN
          by_cases hL : nm.toList = [108, 97, 109, 98, 100, 97]
          · have fl : (nm.toList == [108, 97, 109, 98, 100, 97]) = true := by simpa using hL
            by_cases z : ns.length = 0
            · have fz : decide ((0 : Int) < (ns.length : Int)) = false := decide_eq_false (by omega)
              have fz2 : ¬ 0 < ns.length := by omega
              have ZZ := Lib.hid z
              clear z
              by_cases q9 : inR pl 0 1000000 = true
              · have HT := Lib.hid (show objB qS n ⟨10, nm, pl, its, ks, ns, vs⟩ = tailB n ⟨10, nm, pl, its, ks, ns, vs⟩ by simp [objB, headB, midB, named, lam, p1, p2, p3, p4, p5, p6, hn60, q5, Q8.out, (by decide : inR 10 0 10 = true), e0, hN, hL, ZZ.out, q9])
                go_wp2_with (first
                    | (go_at_call 103; refine (iRo _ _ _ _).mono ?_; rintro e w' ⟨rfl, rfl⟩)
                    | (go_at_call 56; (first
                        | (with_reducible refine (vVo _ hn _ _ _ _ (h3.below (by ((first | exact b1 ‹_› | exact bN (b1 ‹_›) _ | exact bA (Below.refl _ _) _))))).mono ?_)
                        | (with_reducible refine (vVo _ hn _ _ _ _ (h4.below (by ((first | exact b1 ‹_› | exact bN (b1 ‹_›) _ | exact bA (Below.refl _ _) _))))).mono ?_)
                        | (with_reducible refine (vVn _ hn _ _ _ _ Q8.out.symm _ (h6.below (by ((first | exact b1 ‹_› | exact bN (b1 ‹_›) _ | exact bA (Below.refl _ _) _))))).mono ?_)); rintro e w1 ⟨rfl, hb⟩; (first | have hb0 := hbN ‹_› hb | have hb0 := hbF hb); clear hb; obtain ⟨hc, hf⟩ := bcell hb0)
                    | (go_at_call 130; refine (oEo _ _ _ _ (h5.below (by ((first | exact b1 ‹_› | exact bN (b1 ‹_›) _ | exact bA (Below.refl _ _) _)))) hcc5 hz).mono ?_; rintro e w1 ⟨rfl, hb⟩; (first | have hb0 := hbN ‹_› hb | have hb0 := hbF hb); clear hb; obtain ⟨hc, hf⟩ := bcell hb0)
                    | (go_at_call 131; refine (vNo _ hnm _).mono ?_; rintro e w1 ⟨rfl, hb⟩; (first | have hb0 := hbN ‹_› hb | have hb0 := hbF hb); clear hb; obtain ⟨hc, hf⟩ := bcell hb0))
                all_goals
                  go_ret
                  refine ⟨ret_bool ?_, by ((first | exact b1 ‹_› | exact bN (b1 ‹_›) _ | exact bA (Below.refl _ _) _))⟩
                  rw [HT.out]
                  go_light
                  first | (simp [tailB, *]; done) | (simp [tailB, *]; omega) | (rw [Bool.eq_iff_iff]; simp [tailB, *]; done) | (rw [Bool.eq_iff_iff]; simp [tailB, *]; omega) | (rw [Bool.eq_iff_iff]; simp [tailB, -List.length_eq_zero_iff]; omega)
              · replace q9 : inR pl 0 1000000 = false := by simpa using q9
                have HH := Lib.hid (show objB qS n ⟨10, nm, pl, its, ks, ns, vs⟩ = false by simp [objB, headB, midB, named, lam, p1, p2, p3, p4, p5, p6, hn60, q5, Q8.out, (by decide : inR 10 0 10 = true), q9])
                go_wp2_with (first
                    | (go_at_call 103; refine (iRo _ _ _ _).mono ?_; rintro e w' ⟨rfl, rfl⟩)
                    | (go_at_call 56; (first
                        | (with_reducible refine (vVo _ hn _ _ _ _ (h3.below (by ((first | exact b1 ‹_› | exact bN (b1 ‹_›) _ | exact bA (Below.refl _ _) _))))).mono ?_)
                        | (with_reducible refine (vVo _ hn _ _ _ _ (h4.below (by ((first | exact b1 ‹_› | exact bN (b1 ‹_›) _ | exact bA (Below.refl _ _) _))))).mono ?_)
                        | (with_reducible refine (vVn _ hn _ _ _ _ Q8.out.symm _ (h6.below (by ((first | exact b1 ‹_› | exact bN (b1 ‹_›) _ | exact bA (Below.refl _ _) _))))).mono ?_)); rintro e w1 ⟨rfl, hb⟩; (first | have hb0 := hbN ‹_› hb | have hb0 := hbF hb); clear hb; obtain ⟨hc, hf⟩ := bcell hb0)
                    | (go_at_call 130; refine (oEo _ _ _ _ (h5.below (by ((first | exact b1 ‹_› | exact bN (b1 ‹_›) _ | exact bA (Below.refl _ _) _)))) hcc5 hz).mono ?_; rintro e w1 ⟨rfl, hb⟩; (first | have hb0 := hbN ‹_› hb | have hb0 := hbF hb); clear hb; obtain ⟨hc, hf⟩ := bcell hb0)
                    | (go_at_call 131; refine (vNo _ hnm _).mono ?_; rintro e w1 ⟨rfl, hb⟩; (first | have hb0 := hbN ‹_› hb | have hb0 := hbF hb); clear hb; obtain ⟨hc, hf⟩ := bcell hb0))
                all_goals
                  go_ret
                  exact ⟨ret_bool HH.out.symm, by ((first | exact b1 ‹_› | exact bN (b1 ‹_›) _ | exact bA (Below.refl _ _) _))⟩
            · have fz : decide ((0 : Int) < (ns.length : Int)) = true := decide_eq_true (by omega)
              have fz2 : 0 < ns.length := by omega
              have ZZ := Lib.hid z
              clear z
              have HH := Lib.hid (show objB qS n ⟨10, nm, pl, its, ks, ns, vs⟩ = false by simp [objB, headB, midB, named, lam, p1, p2, p3, p4, p5, p6, hn60, q5, Q8.out, (by decide : inR 10 0 10 = true), ZZ.out])
              go_wp2_with (first
                  | (go_at_call 103; refine (iRo _ _ _ _).mono ?_; rintro e w' ⟨rfl, rfl⟩)
                  | (go_at_call 56; (first
                      | (with_reducible refine (vVo _ hn _ _ _ _ (h3.below (by ((first | exact b1 ‹_› | exact bN (b1 ‹_›) _ | exact bA (Below.refl _ _) _))))).mono ?_)
                      | (with_reducible refine (vVo _ hn _ _ _ _ (h4.below (by ((first | exact b1 ‹_› | exact bN (b1 ‹_›) _ | exact bA (Below.refl _ _) _))))).mono ?_)
                      | (with_reducible refine (vVn _ hn _ _ _ _ Q8.out.symm _ (h6.below (by ((first | exact b1 ‹_› | exact bN (b1 ‹_›) _ | exact bA (Below.refl _ _) _))))).mono ?_)); rintro e w1 ⟨rfl, hb⟩; (first | have hb0 := hbN ‹_› hb | have hb0 := hbF hb); clear hb; obtain ⟨hc, hf⟩ := bcell hb0)
                  | (go_at_call 130; refine (oEo _ _ _ _ (h5.below (by ((first | exact b1 ‹_› | exact bN (b1 ‹_›) _ | exact bA (Below.refl _ _) _)))) hcc5 hz).mono ?_; rintro e w1 ⟨rfl, hb⟩; (first | have hb0 := hbN ‹_› hb | have hb0 := hbF hb); clear hb; obtain ⟨hc, hf⟩ := bcell hb0)
                  | (go_at_call 131; refine (vNo _ hnm _).mono ?_; rintro e w1 ⟨rfl, hb⟩; (first | have hb0 := hbN ‹_› hb | have hb0 := hbF hb); clear hb; obtain ⟨hc, hf⟩ := bcell hb0))
              all_goals
                go_ret
                exact ⟨ret_bool HH.out.symm, by ((first | exact b1 ‹_› | exact bN (b1 ‹_›) _ | exact bA (Below.refl _ _) _))⟩
          · have fl : (nm.toList == [108, 97, 109, 98, 100, 97]) = false := by simpa using hL
            have HH := Lib.hid (show objB qS n ⟨10, nm, pl, its, ks, ns, vs⟩ = false by simp [objB, headB, midB, named, lam, p1, p2, p3, p4, p5, p6, hn60, q5, Q8.out, (by decide : inR 10 0 10 = true), e0, hN, hL])
            go_wp2_with (first
                | (go_at_call 103; refine (iRo _ _ _ _).mono ?_; rintro e w' ⟨rfl, rfl⟩)
                | (go_at_call 56; (first
                    | (with_reducible refine (vVo _ hn _ _ _ _ (h3.below (by ((first | exact b1 ‹_› | exact bN (b1 ‹_›) _ | exact bA (Below.refl _ _) _))))).mono ?_)
                    | (with_reducible refine (vVo _ hn _ _ _ _ (h4.below (by ((first | exact b1 ‹_› | exact bN (b1 ‹_›) _ | exact bA (Below.refl _ _) _))))).mono ?_)
                    | (with_reducible refine (vVn _ hn _ _ _ _ Q8.out.symm _ (h6.below (by ((first | exact b1 ‹_› | exact bN (b1 ‹_›) _ | exact bA (Below.refl _ _) _))))).mono ?_)); rintro e w1 ⟨rfl, hb⟩; (first | have hb0 := hbN ‹_› hb | have hb0 := hbF hb); clear hb; obtain ⟨hc, hf⟩ := bcell hb0)
                | (go_at_call 130; refine (oEo _ _ _ _ (h5.below (by ((first | exact b1 ‹_› | exact bN (b1 ‹_›) _ | exact bA (Below.refl _ _) _)))) hcc5 hz).mono ?_; rintro e w1 ⟨rfl, hb⟩; (first | have hb0 := hbN ‹_› hb | have hb0 := hbF hb); clear hb; obtain ⟨hc, hf⟩ := bcell hb0)
                | (go_at_call 131; refine (vNo _ hnm _).mono ?_; rintro e w1 ⟨rfl, hb⟩; (first | have hb0 := hbN ‹_› hb | have hb0 := hbF hb); clear hb; obtain ⟨hc, hf⟩ := bcell hb0))
            all_goals
              go_ret
              exact ⟨ret_bool HH.out.symm, by ((first | exact b1 ‹_› | exact bN (b1 ‹_›) _ | exact bA (Below.refl _ _) _))⟩
  · have q0f : inR k 0 10 = false := by simpa using q0
    have hk : k < 0 ∨ 10 < k := by simp [inR] at q0f; omega
    have HH := Lib.hid (show objB qS n ⟨k, nm, pl, its, ks, ns, vs⟩ = false by simp [objB, headB, q0f])
    have walk : ∀ b1 b2 b3 : Bool, (nm.toList == []) = b1 → decide ((0 : Int) < (ns.length : Int)) = b2 → inR pl 0 1000000 = b3 → Calls Try.prog 100 #[.agg #[.int .i64 k, .string nm, .int .i64 pl, .slice A3 its.length c3, .slice A4 ks.length c4, .slice A5 ns.length c5, .slice A6 ns.length c6], .int .i64 n] w fun e w' => e = .returned (.bool (objB qS n ⟨k, nm, pl, its, ks, ns, vs⟩)) ∧ Below w.heap.size w w' := by
      intro b1 b2 b3 fe fz q9
      rcases hk with hk | hk
      all_goals
        have k0 : (k == 0) = false := beq_eq_false_iff_ne.2 (by omega)
        have k1 : (k == 1) = false := beq_eq_false_iff_ne.2 (by omega)
        have k2 : (k == 2) = false := beq_eq_false_iff_ne.2 (by omega)
        have k3 : (k == 3) = false := beq_eq_false_iff_ne.2 (by omega)
        have k4 : (k == 4) = false := beq_eq_false_iff_ne.2 (by omega)
        have k5 : (k == 5) = false := beq_eq_false_iff_ne.2 (by omega)
        have k6 : (k == 6) = false := beq_eq_false_iff_ne.2 (by omega)
        have k7 : (k == 7) = false := beq_eq_false_iff_ne.2 (by omega)
        have k8 : (k == 8) = false := beq_eq_false_iff_ne.2 (by omega)
        have k9 : (k == 9) = false := beq_eq_false_iff_ne.2 (by omega)
        have k10 : (k == 10) = false := beq_eq_false_iff_ne.2 (by omega)
        cases b1 <;> cases b2 <;> cases b3
        all_goals
          first
            | have fz2 : 0 < ns.length := by have := of_decide_eq_true fz; omega
            | have fz2 : ¬ 0 < ns.length := by have := of_decide_eq_false fz; omega
          go_enter Try.func100, Try.ntmps100
          go_wp2_with (first
              | (go_at_call 103; refine (iRo _ _ _ _).mono ?_; rintro e w' ⟨rfl, rfl⟩)
              | (go_at_call 56; (first
                  | (with_reducible refine (vVo _ hn _ _ _ _ (h3.below (by ((first | exact b1 ‹_› | exact bN (b1 ‹_›) _ | exact bA (Below.refl _ _) _))))).mono ?_)
                  | (with_reducible refine (vVo _ hn _ _ _ _ (h4.below (by ((first | exact b1 ‹_› | exact bN (b1 ‹_›) _ | exact bA (Below.refl _ _) _))))).mono ?_)
                  | (with_reducible refine (vVn _ hn _ _ _ _ Q8.out.symm _ (h6.below (by ((first | exact b1 ‹_› | exact bN (b1 ‹_›) _ | exact bA (Below.refl _ _) _))))).mono ?_)); rintro e w1 ⟨rfl, hb⟩; (first | have hb0 := hbN ‹_› hb | have hb0 := hbF hb); clear hb; obtain ⟨hc, hf⟩ := bcell hb0)
              | (go_at_call 130; refine (oEo _ _ _ _ (h5.below (by ((first | exact b1 ‹_› | exact bN (b1 ‹_›) _ | exact bA (Below.refl _ _) _)))) hcc5 hz).mono ?_; rintro e w1 ⟨rfl, hb⟩; (first | have hb0 := hbN ‹_› hb | have hb0 := hbF hb); clear hb; obtain ⟨hc, hf⟩ := bcell hb0)
              | (go_at_call 131; refine (vNo _ hnm _).mono ?_; rintro e w1 ⟨rfl, hb⟩; (first | have hb0 := hbN ‹_› hb | have hb0 := hbF hb); clear hb; obtain ⟨hc, hf⟩ := bcell hb0))
          all_goals
            go_ret
            exact ⟨ret_bool (by rw [HH.out]), by ((first | exact b1 ‹_› | exact bN (b1 ‹_›) _ | exact bA (Below.refl _ _) _))⟩
    exact walk _ _ _ rfl rfl rfl
end Go.Proofs.Ytgddblpgbkgpcaa.B
namespace Go.Proofs.Ytgddblpgbkgpcaa.B
set_option linter.unusedVariables false
set_option linter.unusedSimpArgs false
open Go.RowKit Go.Proofs.YtgddblpgbkgpcaaW.PrintLast
set_option linter.unusedVariables false
set_option linter.unusedSimpArgs false
theorem validObject_ok (n : Nat) (hn : n ≤ 9223372036854775807) (o : O) (A3 A4 A5 A6 : Option Addr) (c3 c4 c5 c6 : Nat) (w : World) (h3 : RV w A3 o.its) (h4 : RV w A4 o.ks) (h5 : RS w A5 o.ns) (h6 : RV w A6 o.vs) (hnm : o.nm.size ≤ 9223372036854775807) (hcc4 : o.ks.length ≤ c4) (hcc5 : o.ns.length ≤ c5) (hz : ∀ s ∈ o.ns, s.size ≤ 9223372036854775807) :
    Calls Try.prog 100 #[.agg #[.int .i64 o.k, .string o.nm, .int .i64 o.pl, .slice A3 o.its.length c3, .slice A4 o.ks.length c4, .slice A5 o.ns.length c5, .slice A6 o.vs.length c6], .int .i64 n] w fun e w' => e = .returned (.bool (objB qS n o)) ∧ Below w.heap.size w w' :=
  validObject_front n hn o A3 A4 A5 A6 c3 c4 c5 c6 w h3 h4 h5 h6 hnm hcc4 hcc5 hz fun hyp =>
    validObject_rest n hn o A3 A4 A5 A6 c3 c4 c5 c6 w h3 h4 h5 h6 hnm hcc4 hcc5 hz hyp
set_option maxRecDepth 100000 in
set_option maxHeartbeats 4000000 in
theorem heapOk_ok (A : Option Addr) (c : Nat) (l : List O) (w : World) (hR : RO w A l) :
    Calls Try.prog 30 #[.agg #[.slice A l.length c]] w fun e w' => e = .returned (.bool (decide (l.length ≤ 600) && l.all (objB nsOk l.length))) ∧ Below w.heap.size w w' := by
  have hn := hR.1
  by_cases hbig : l.length ≤ 600
  · have hb6 : ¬ (600 : Int) < (l.length : Int) := by omega
    go_enter Try.func30, Try.ntmps30
    go_wp2
    go_loopw [12] (fun i wr => ∃ k : Nat, k ≤ l.length ∧ i = .int .i64 k ∧ (l.take k).all (objB nsOk l.length) = true ∧ wr.heap[w.heap.size]? = some (.cells #[.slice A l.length c] 25 (0, 0)) ∧ Below w.heap.size w wr) (fun i _ => l.length - (intOf i).toNat)
    case atStart => exact ⟨0, Nat.zero_le _, rfl, by simp, heap_new _ _, bA (Below.refl _ _) _⟩
    case round =>
      obtain ⟨k, hk, rfl, hall, hbk, hB⟩ := hrel
      have HALL := Lib.hid hall
      clear hall
      have hRw := hR.below hB
      have hlt := blk_lt hbk
      have hc0 : wr.cell? ⟨w.heap.size, 0, none⟩ = some (.slice A l.length c) := (kcl hbk 0).trans rfl
      by_cases hkl : k < l.length
      · obtain ⟨ad, rfl, hx⟩ := hRw.2 (by omega)
        obtain ⟨A3, c3, A4, c4, A5, c5, A6, c6, h0, h1, h2, h3, h4, h5, h6, l3, r3, l4, r4, l5, r5, l6, r6, hnm, hz⟩ := hx k hkl
        clear hx
        go_wp2_with (go_at_call 71; refine (objectOk_ok (some ad) l.length c hn l[k] A3 A4 A5 A6 c3 c4 c5 c6 _ (r3.below (by ((first | exact b1 ‹_› | exact bN (b1 ‹_›) _ | exact bA (Below.refl _ _) _)))) (r4.below (by ((first | exact b1 ‹_› | exact bN (b1 ‹_›) _ | exact bA (Below.refl _ _) _)))) (r5.below (by ((first | exact b1 ‹_› | exact bN (b1 ‹_›) _ | exact bA (Below.refl _ _) _)))) (r6.below (by ((first | exact b1 ‹_› | exact bN (b1 ‹_›) _ | exact bA (Below.refl _ _) _)))) hnm l4 l5).mono ?_; rintro e w1 ⟨rfl, hb⟩; obtain ⟨hc, hf⟩ := bcell hb)
        · go_ret
          refine ⟨ret_bool ?_, bS (bA hB _) hb⟩
          have hv : objB nsOk l.length l[k] = false := by simp_all
          rw [eq_comm, Bool.and_eq_false_iff]
          right
          rw [List.all_eq_false]
          exact ⟨l[k], List.getElem_mem _, by simp [hv]⟩
        · go_roundw
          case rel =>
            refine ⟨k + 1, by omega, by go_num, ?_, ?_, bS (bA hB _) hb⟩
            · have := HALL.out
              rw [List.take_succ_eq_append_getElem hkl, List.all_append, this]
              simp_all
            · exact kbw (kla hbk _) hb
          case measure => simp [intOf]; omega
      · go_wp2
        go_ret
        refine ⟨ret_bool ?_, hB⟩
        have := HALL.out
        rw [List.take_of_length_le (by omega)] at this
        simp [this, hbig]
  · have hb6 : (600 : Int) < (l.length : Int) := by omega
    go_enter Try.func30, Try.ntmps30
    go_wp2
    go_ret
    exact ⟨ret_bool (by simp [hbig]), bA (Below.refl _ _) _⟩
set_option maxRecDepth 100000 in
set_option maxHeartbeats 4000000 in
theorem validHeap_ok (A : Option Addr) (c : Nat) (l : List O) (w : World) (hR : RO w A l) :
    Calls Try.prog 55 #[.agg #[.slice A l.length c]] w fun e w' => e = .returned (.bool (l.all (objB qS l.length) && decide (l.length ≤ 600))) ∧ Below w.heap.size w w' := by
  have hn := hR.1
  go_enter Try.func55, Try.ntmps55
  go_wp2
  go_loopw [3] (fun i wr => ∃ k : Nat, k ≤ l.length ∧ i = .int .i64 k ∧ (l.take k).all (objB qS l.length) = true ∧ w.heap.size < wr.heap.size ∧ wr.cell? ⟨w.heap.size, 0, none⟩ = some (.slice A l.length c) ∧ Below w.heap.size w wr) (fun i _ => l.length - (intOf i).toNat)
  case atStart => exact ⟨0, Nat.zero_le _, rfl, by simp, by simp, (kcl (heap_new _ _) 0).trans rfl, bA (Below.refl _ _) _⟩
  case round =>
    obtain ⟨k, hk, rfl, hall, hlt, hc0, hB⟩ := hrel
    have HALL := Lib.hid hall
    clear hall
    by_cases hkl : k < l.length
    · obtain ⟨ad, rfl, hx⟩ := hR.2 (by omega)
      obtain ⟨A3, c3, A4, c4, A5, c5, A6, c6, h0, h1, h2, h3, h4, h5, h6, l3, r3, l4, r4, l5, r5, l6, r6, hnm, hz⟩ := hx k hkl
      clear hx
      replace h0 := cell_keep hB h0
      replace h1 := cell_keep hB h1
      replace h2 := cell_keep hB h2
      replace h3 := cell_keep hB h3
      replace h4 := cell_keep hB h4
      replace h5 := cell_keep hB h5
      replace h6 := cell_keep hB h6
      have hk0 : (0 : Int) ≤ (k : Int) := Int.natCast_nonneg _
      have hkn : (k : Int) < (l.length : Int) := by omega
      go_wp2_with fail
      refine start_ (n := 10) (S := fun w' => Below w.heap.size w w' ∧ w'.cell? ⟨w.heap.size, 0, none⟩ = some (.slice (some ad) l.length c) ∧ w'.cell? (ad.add (k * 7)) = some (.int .i64 l[k].k) ∧ w'.cell? ⟨(ad.add (k * 7)).block, (ad.add (k * 7)).off + 1, none⟩ = some (.string l[k].nm) ∧ w'.cell? ⟨(ad.add (k * 7)).block, (ad.add (k * 7)).off + 2, none⟩ = some (.int .i64 l[k].pl) ∧ w'.cell? ⟨(ad.add (k * 7)).block, (ad.add (k * 7)).off + 3, none⟩ = some (.slice A3 l[k].its.length c3) ∧ w'.cell? ⟨(ad.add (k * 7)).block, (ad.add (k * 7)).off + 4, none⟩ = some (.slice A4 l[k].ks.length c4) ∧ w'.cell? ⟨(ad.add (k * 7)).block, (ad.add (k * 7)).off + 5, none⟩ = some (.slice A5 l[k].ns.length c5) ∧ w'.cell? ⟨(ad.add (k * 7)).block, (ad.add (k * 7)).off + 6, none⟩ = some (.slice A6 l[k].vs.length c6)) (ds := []) #[false, false, false, false, false, false, false, false, false, false] (by kernel_rfl) rfl rfl ⟨bD hB, hc0, h0, h1, h2, h3, h4, h5, h6⟩ (fun hHeld => ?_)
      refine pure_ (i := 0) (N := some 11) (v := ?_) (a' := ?_) #[true, false, false, false, false, false, false, false, false, false] rfl rfl (by kernel_rfl) (fun _ _ _ h => h) (Or.inl ⟨by rfl, ?_⟩) ?_ ?_
      rotate_left
      · intro w'
        go_simp
        with_reducible rfl
      rotate_left
      · simp only [Act.put, List.setIfInBounds_toArray, List.set_cons_zero, List.set_cons_succ, i64_w, i32_w]
        rfl
      refine pure_ (i := 2) (N := some 13) (v := ?_) (a' := ?_) #[true, false, true, false, false, false, false, false, false, false] rfl rfl (by kernel_rfl) (fun _ _ _ h => h) (Or.inl ⟨by rfl, ?_⟩) ?_ ?_
      rotate_left
      · intro w'
        go_simp
        with_reducible rfl
      rotate_left
      · simp only [Act.put, List.setIfInBounds_toArray, List.set_cons_zero, List.set_cons_succ, i64_w, i32_w]
        rfl
      refine pure_ (i := 5) (N := some 16) (v := ?_) (a' := ?_) #[true, false, true, false, false, true, false, false, false, false] rfl rfl (by kernel_rfl) (fun _ _ _ h => h) (Or.inl ⟨by rfl, ?_⟩) ?_ ?_
      rotate_left
      · intro w'
        go_simp
        with_reducible rfl
      rotate_left
      · simp only [Act.put, List.setIfInBounds_toArray, List.set_cons_zero, List.set_cons_succ, i64_w, i32_w]
        rfl
      refine take_ (i := 1) (N := some 12) (v := ?_) (a' := ?_) #[true, true, true, false, false, true, false, false, false, false] rfl rfl (by kernel_rfl) (fun _ _ _ h => h) (Or.inl ⟨by rfl, ?_⟩) hHeld ?_ ?_
      rotate_left
      · rintro w' ⟨s0, s1, s2, s3, s4, s5, s6, s7, s8⟩
        go_simp
        with_reducible rfl
      rotate_left
      · simp only [Act.put, List.setIfInBounds_toArray, List.set_cons_zero, List.set_cons_succ, i64_w, i32_w]
        rfl
      refine pure_ (i := 3) (N := some 14) (v := ?_) (a' := ?_) #[true, true, true, true, false, true, false, false, false, false] rfl rfl (by kernel_rfl) (fun _ _ _ h => h) (Or.inl ⟨by rfl, ?_⟩) ?_ ?_
      rotate_left
      · intro w'
        go_simp
        with_reducible rfl
      rotate_left
      · simp only [Act.put, List.setIfInBounds_toArray, List.set_cons_zero, List.set_cons_succ, i64_w, i32_w]
        rfl
      refine take_ (i := 4) (N := some 15) (v := ?_) (a' := ?_) #[true, true, true, true, true, true, false, false, false, false] rfl rfl (by kernel_rfl) (fun _ _ _ h => h) (Or.inl ⟨by rfl, ?_⟩) hHeld ?_ ?_
      rotate_left
      · rintro w' ⟨s0, s1, s2, s3, s4, s5, s6, s7, s8⟩
        go_simp
        with_reducible rfl
      rotate_left
      · simp only [Act.put, List.setIfInBounds_toArray, List.set_cons_zero, List.set_cons_succ, i64_w, i32_w]
        rfl
      refine take_ (i := 6) (N := some 17) (v := ?_) (a' := ?_) #[true, true, true, true, true, true, true, false, false, false] rfl rfl (by kernel_rfl) (fun _ _ _ h => h) (Or.inl ⟨by rfl, ?_⟩) hHeld ?_ ?_
      rotate_left
      · rintro w' ⟨s0, s1, s2, s3, s4, s5, s6, s7, s8⟩
        go_simp
        with_reducible rfl
      rotate_left
      · simp only [Act.put, List.setIfInBounds_toArray, List.set_cons_zero, List.set_cons_succ, i64_w, i32_w]
        rfl
      refine pure_ (i := 7) (N := some 18) (v := ?_) (a' := ?_) #[true, true, true, true, true, true, true, true, false, false] rfl rfl (by kernel_rfl) (fun _ _ _ h => h) (Or.inl ⟨by rfl, ?_⟩) ?_ ?_
      rotate_left
      · intro w'
        go_simp
        with_reducible rfl
      rotate_left
      · simp only [Act.put, List.setIfInBounds_toArray, List.set_cons_zero, List.set_cons_succ, i64_w, i32_w]
        rfl
      refine one_ (i := 8) (N := some 19) #[true, true, true, true, true, true, true, true, true, false] rfl rfl (by kernel_rfl) (by decide) (fun K hK => ?_)
      refine goes_ Try.func100 (by kernel_rfl) rfl #[.agg #[.int .i64 l[k].k, .string l[k].nm, .int .i64 l[k].pl, .slice A3 l[k].its.length c3, .slice A4 l[k].ks.length c4, .slice A5 l[k].ns.length c5, .slice A6 l[k].vs.length c6], .int .i64 (l.length : Int)] (by rfl) rfl rfl (by simp only [List.map_toArray, List.map_cons, List.map_nil]; rfl) ?_
      with_reducible refine (validObject_ok l.length hn l[k] A3 A4 A5 A6 c3 c4 c5 c6 _ (r3.below hHeld.1) (r4.below hHeld.1) (r5.below hHeld.1) (r6.below hHeld.1) hnm l4 l5 hz).mono ?_
      rintro e w1 ⟨rfl, hb⟩
      refine ⟨_, rfl, ?_⟩
      refine hK.out _ _ ⟨bS hHeld.1 hb, cell_keep hb hHeld.2.1, cell_keep hb hHeld.2.2.1, cell_keep hb hHeld.2.2.2.1, cell_keep hb hHeld.2.2.2.2.1, cell_keep hb hHeld.2.2.2.2.2.1, cell_keep hb hHeld.2.2.2.2.2.2.1, cell_keep hb hHeld.2.2.2.2.2.2.2.1, cell_keep hb hHeld.2.2.2.2.2.2.2.2⟩ (fun hHeld => ?_)
      clear hK K
      refine norm_ (a' := ?_) ?_ ?_
      rotate_left
      · show Act.put _ (some 19) _ = _
        simp only [Act.put, List.setIfInBounds_toArray, List.set_cons_zero, List.set_cons_succ, i64_w, i32_w]
        rfl
      refine pure_ (i := 9) (N := some 20) (v := ?_) (a' := ?_) #[true, true, true, true, true, true, true, true, true, true] rfl rfl (by kernel_rfl) (fun _ _ _ h => h) (Or.inl ⟨by rfl, ?_⟩) ?_ ?_
      rotate_left
      · intro w'
        go_simp
        with_reducible rfl
      rotate_left
      · simp only [Act.put, List.setIfInBounds_toArray, List.set_cons_zero, List.set_cons_succ, i64_w, i32_w]
        rfl
      refine done_ (by kernel_rfl) ?_
      go_wp2
      · go_ret
        refine ⟨ret_bool ?_, hHeld.1⟩
        have hv : objB qS l.length l[k] = false := by simp_all
        rw [eq_comm, Bool.and_eq_false_iff]
        left
        rw [List.all_eq_false]
        exact ⟨l[k], List.getElem_mem _, by simp [hv]⟩
      · have hv : objB qS l.length l[k] = true := by simp_all
        go_roundw
        case rel =>
          refine ⟨k + 1, by omega, by go_num, ?_, World.block_lt_of_cell? _ _ hHeld.2.1, hHeld.2.1, hHeld.1⟩
          have := HALL.out
          rw [List.take_succ_eq_append_getElem hkl, List.all_append, this]
          simp [hv]
        case measure => simp [intOf]; omega
    · go_wp2
      go_ret
      refine ⟨ret_bool ?_, hB⟩
      have := HALL.out
      rw [List.take_of_length_le (by omega)] at this
      rw [this]
      simp only [Bool.true_and]
      rw [Bool.eq_iff_iff]
      simp
      omega
end Go.Proofs.Ytgddblpgbkgpcaa.B
