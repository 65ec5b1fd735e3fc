/- Part of the proof of fnHeapSweep_holds. -/
import Derived.Test.YtgddblpgbkgpcaaZdr0
import Derived.Lib.Hide
import Derived.Deep.Light
import Derived.Test.YtgddblpgbkgpcaaZdb1
import Derived.Test.YtgddblpgbkgpcaaZdb0
namespace Go.Proofs.Ytgddblpgbkgpcaa.PR
set_option linter.unusedVariables false
set_option linter.unusedSimpArgs false
open Go.RowKit Go.Proofs.YtgddblpgbkgpcaaW.PrintWords Go.Proofs.YtgddblpgbkgpcaaW.PrintLast Go.Proofs.YtgddblpgbkgpcaaW.PrintMore
set_option linter.unusedVariables false
set_option linter.unusedSimpArgs false
def vis (x : S35) (p : List Bool × List Int) : List Bool × List Int := if x.f0 = 4 ∧ rdOf false p.1 x.f2 = false then (p.1.set x.f2.toNat true, p.2 ++ [x.f2]) else p
structure Vs (w : World) (base bs bw gs ns cap : Nat) (s : List Bool) (Aw : Option Addr) (nw cw : Nat) (wk : List Int) : Prop where
  c1 : w.heap[bs]? = some (.cells #[.slice (some ⟨gs, 0, none⟩) ns cap] 71 (0, 0))
  c2 : w.heap[bw]? = some (.cells #[.slice Aw nw cw] 29 (0, 0))
  rs : Kd.bool.R 4 w base (fun _ => True) (.slice (some ⟨gs, 0, none⟩) ns cap) s
  rw : (Kd.int .i64).R 3 w base (fun _ => True) (.slice Aw nw cw) wk
  b1 : base ≤ bs
  b2 : base ≤ bw
section
variable {w w1 : World} {base bs bw gs ns cap nw cw : Nat} {s : List Bool} {Aw : Option Addr} {wk : List Int}
theorem R_up0 {α : Type} {d : Kd α} {e base : Nat} {ok : Nat → Prop} {v : Value} {xs : List α} (h : d.R e w base ok v xs) (hm : ∀ k, base ≤ k → k < w.heap.size → w1.heap[k]? = w.heap[k]?) : d.R e w1 base ok v xs :=
  Kd.R_mono (Kd.R_move (Kd.R_bound h) (fun k hk => hm k hk.2.1 hk.2.2.1)) (fun _ hk => hk.1)
theorem Vs.up (h : Vs w base bs bw gs ns cap s Aw nw cw wk) (hm : ∀ k, base ≤ k → k < w.heap.size → w1.heap[k]? = w.heap[k]?) : Vs w1 base bs bw gs ns cap s Aw nw cw wk :=
  ⟨(hm bs h.b1 (blk_lt h.c1)).trans h.c1, (hm bw h.b2 (blk_lt h.c2)).trans h.c2, R_up0 h.rs hm, R_up0 h.rw hm, h.b1, h.b2⟩
theorem Vs.below (h : Vs w base bs bw gs ns cap s Aw nw cw wk) (hb : Below w.heap.size w w1) : Vs w1 base bs bw gs ns cap s Aw nw cw wk := h.up (fun k _ hk => hb.block k hk)
theorem Vs.alloc (h : Vs w base bs bw gs ns cap s Aw nw cw wk) (o : Obj) : Vs (w.alloc o) base bs bw gs ns cap s Aw nw cw wk := h.below (bla (Below.refl _ _) o)
theorem Vs.len (h : Vs w base bs bw gs ns cap s Aw nw cw wk) : ns = s.length ∧ nw = wk.length ∧ nw ≤ cw := by
  obtain ⟨a, _, _⟩ := Kd.R_reads' h.rs
  obtain ⟨c, d, _⟩ := Kd.R_reads' h.rw
  exact ⟨a, c, d⟩
theorem Vs.row (h : Vs w base bs bw gs ns cap s Aw nw cw wk) : base ≤ gs ∧ gs < w.heap.size ∧ ∃ cells, w.heap[gs]? = some (.cells cells 4 (0, 0)) :=
  ⟨Kd.R_base h.rs gs (by simp [Value.ownBlock]), Kd.R_lt h.rs gs (by simp [Value.ownBlock]), Kd.R_typed h.rs gs (by simp [Value.ownBlock])⟩
theorem Vs.mark (h : Vs w base bs bw gs ns cap s Aw nw cw wk) (i : Int) : Vs (w.setCell ⟨gs, i.toNat, none⟩ (.bool true)) base bs bw gs ns cap (s.set i.toNat true) Aw nw cw wk := by
  obtain ⟨hb, hlt, cells, hc⟩ := h.row
  have h1 : gs ≠ bs := blk_ne hc h.c1 (by decide)
  have h2 : gs ≠ bw := blk_ne hc h.c2 (by decide)
  exact ⟨blk_far h.c1 (Ne.symm h1) _, blk_far h.c2 (Ne.symm h2) _, Kd.R_putn h.rs i true, Kd.R_set h.rw hc (by decide) _ _, h.b1, h.b2⟩
theorem Vs.more (h : Vs w base bs bw gs ns cap s Aw nw cw wk) {A1 : Option Addr} {n1 c1 : Nat} {wk1 : List Int} (hr : (Kd.int .i64).R 3 w1 base (fun _ => True) (.slice A1 n1 c1) wk1) (hg : w.grownBy w1 (Value.slice Aw nw cw).ownBlock) :
    Vs (w1.setCell ⟨bw, 0, none⟩ (.slice A1 n1 c1)) base bs bw gs ns cap s A1 n1 c1 wk1 := by
  have hty := Kd.R_typed h.rw
  have ne : ∀ {g t : Nat} {cells : Array Value}, w.heap[g]? = some (.cells cells t (0, 0)) → t ≠ 3 → some g ≠ (Value.slice Aw nw cw).ownBlock := by
    intro g t cells hc ht e
    obtain ⟨c', hc'⟩ := hty g e.symm
    rw [hc] at hc'
    injection hc' with hc'
    injection hc' with _ hc'
    exact ht hc'
  have e1 := kgr h.c1 hg (ne h.c1 (by decide))
  have e2 := kgr h.c2 hg (ne h.c2 (by decide))
  have h12 : bs ≠ bw := blk_ne h.c1 h.c2 (by decide)
  exact ⟨blk_far e1 h12 _, blk_put e2 0 _ rfl, Kd.R_set (Kd.R_over' h.rs hty (by decide) hg) e2 (by decide) 0 _, Kd.R_set hr e2 (by decide) 0 _, h.b1, h.b2⟩
theorem Vs.old (h : Vs w base bs bw gs ns cap s Aw nw cw wk) (hg : w.grownBy w1 (Value.slice Aw nw cw).ownBlock) : w1.heap[bw]? = some (.cells #[.slice Aw nw cw] 29 (0, 0)) := by
  refine kgr h.c2 hg (fun e => ?_)
  obtain ⟨c', hc'⟩ := Kd.R_typed h.rw bw e.symm
  rw [h.c2] at hc'
  injection hc' with hc'
  injection hc' with _ hc'
  exact absurd hc' (by decide)
end
def Typ (w w' : World) : Prop := ∀ (k : Nat) (cells : Array Value) (t : TypeId), w.heap[k]? = some (.cells cells t (0, 0)) → t ≠ 4 → t ≠ 29 → t ≠ 3 → w'.heap[k]? = some (.cells cells t (0, 0))
theorem Typ.below {w w' : World} (h : Below w.heap.size w w') : Typ w w' := fun k cells t hk _ _ _ => kbw hk h
theorem Typ.set {w w1 : World} {g t0 : Nat} {c0 : Array Value} (h : Typ w w1) (hg : w1.heap[g]? = some (.cells c0 t0 (0, 0))) (ht : t0 = 4 ∨ t0 = 29 ∨ t0 = 3) (i : Nat) (u : Value) : Typ w (w1.setCell ⟨g, i, none⟩ u) := by
  intro b cells t hb h1 h2 h3
  have h' := h b cells t hb h1 h2 h3
  refine blk_far h' ?_ u
  refine blk_ne h' hg ?_
  rintro rfl
  rcases ht with rfl | rfl | rfl <;> contradiction
theorem Typ.grown {w w1 w2 : World} {v : Value} (h : Typ w w1) (hg : w1.grownBy w2 v.ownBlock) (hty : ∀ k, v.ownBlock = some k → ∃ cells, w1.heap[k]? = some (.cells cells 3 (0, 0))) : Typ w w2 := by
  intro b cells t hb h1 h2 h3
  have h' := h b cells t hb h1 h2 h3
  refine kgr h' hg (fun e => ?_)
  obtain ⟨c', hc'⟩ := hty b e.symm
  rw [h'] at hc'
  injection hc' with hc'
  injection hc' with _ hc'
  exact h3 hc'
def VPost (w : World) (base bs bw gs ns cap : Nat) (p : List Bool × List Int) (e : Ending) (w' : World) : Prop :=
  ∃ (A : Option Addr) (n c : Nat), e = .returned (.tuple #[]) ∧ Vs w' base bs bw gs ns cap p.1 A n c p.2 ∧ Below base w w' ∧ w.heap.size ≤ w'.heap.size ∧ Typ w w'
set_option maxRecDepth 100000 in
set_option maxHeartbeats 4000000 in
theorem visit_ok (base bs bw gs ns cap : Nat) (s : List Bool) (Aw : Option Addr) (nw cw : Nat) (wk : List Int) (x : S35) (w : World) (h : Vs w base bs bw gs ns cap s Aw nw cw wk) (hbase : base ≤ w.heap.size) (hx : x.f0 = 4 → 0 ≤ x.f2 ∧ x.f2 < ns) (hl : wk.length ≤ 1000000) :
    Calls Try.prog 99 #[.agg #[.int .i64 x.f0, .string x.f1, .int .i64 x.f2], .pointer (some ⟨bs, 0, none⟩), .pointer (some ⟨bw, 0, none⟩)] w (VPost w base bs bw gs ns cap (vis x (s, wk))) := by
  have H := Aside0.mk h
  have HL := Lib.hid h.len
  have hc1 := (kcl h.c1 0).trans (show _ = some (.slice (some ⟨gs, 0, none⟩) ns cap) from rfl)
  have hl1 := blk_lt h.c1
  have hl2 := blk_lt h.c2
  have hl3 := h.row.2.1
  obtain ⟨k, t, r⟩ := x
  simp only at hx
  by_cases h4 : k = 4
  · obtain ⟨h0, h1⟩ := hx h4
    have hk : (k == 4) = true := by simpa using h4
    obtain ⟨hcs, hfs⟩ := Kd.R_celln false h.rs r h0 h1
    by_cases hs : rdOf false s r = true
    · have HV := Lib.hid (show vis ⟨k, t, r⟩ (s, wk) = (s, wk) by unfold vis; rw [if_neg (by simp [hs])])
      rw [hs] at hcs
      have HB := Aside0.mk (show Below base w (w.alloc (.cells #[.int .i64 k, .string t, .int .i64 r] 35)) from (Below.refl _ _).alloc hbase _)
      clear h h4 hx hs
      go_enter Try.func99, Try.ntmps99
      go_wp2
      go_end0
      exact ⟨Aw, nw, cw, rfl, by rw [HV.out]; exact H.out.alloc _, HB.out, by simp, Typ.below (bla (Below.refl _ _) _)⟩
    · replace hs : rdOf false s r = false := by simpa using hs
      have HV := Lib.hid (show vis ⟨k, t, r⟩ (s, wk) = (s.set r.toNat true, wk ++ [r]) by unfold vis; rw [if_pos ⟨h4, hs⟩])
      rw [hs] at hcs
      have HB := Aside0.mk (show Below base w (w.alloc (.cells #[.int .i64 k, .string t, .int .i64 r] 35)) from (Below.refl _ _).alloc hbase _)
      have H2 := Aside0.mk ((H.out.alloc (.cells #[.int .i64 k, .string t, .int .i64 r] 35)).mark r)
      have HB2 := Aside0.mk (HB.out.setCell (p := ⟨gs, r.toNat, none⟩) H.out.row.1 (.bool true))
      have hsz : ((w.alloc (.cells #[.int .i64 k, .string t, .int .i64 r] 35)).setCell ⟨gs, r.toNat, none⟩ (.bool true)).heap.size = w.heap.size + 1 := by simp
      have HTy := Aside0.mk (show Typ w ((w.alloc (.cells #[.int .i64 k, .string t, .int .i64 r] 35)).setCell ⟨gs, r.toNat, none⟩ (.bool true)) from by
        obtain ⟨_, _, cells, hc⟩ := H.out.row
        exact (Typ.below (bla (Below.refl _ _) _)).set (kla hc _) (.inl rfl) _ _)
      rw [World.setCell_alloc_past _ _ _ _ hl3] at H2 HB2 hsz HTy
      have hd2 := (kcl H2.out.c2 0).trans (show _ = some (.slice Aw nw cw) from rfl)
      have hc2 := (kcl H.out.c2 0).trans (show _ = some (.slice Aw nw cw) from rfl)
      have hne1 : gs ≠ bw := by
        obtain ⟨_, _, cells, hc⟩ := H.out.row
        exact blk_ne hc H.out.c2 (by decide)
      have HSZ := Lib.hid hsz
      clear hsz h h4 hx hs
      go_enter Try.func99, Try.ntmps99
      go_wp2_with (first | ((with_reducible refine gate_builtin (b := .append) (xs := #[.tmp 19, .tmp 22]) rfl ?_); at_builtin; refine Kd.R_append (Kd.int .i64) (w0 := _) base rfl (.tmp 19) (.tmp 22) 29 3 (.int .i64 0) 8 rfl Try.underlying29 info3 rfl (by decide) (by omega) (.slice Aw nw cw) wk r [.int .i64 r] (fun _ => True) (fun _ => False) rfl (by first | rfl | (rw [HSZ.out]; rfl)) rfl (fun _ hk => hk.elim) (fun _ _ => trivial) H2.out.rw (Below.refl _ _) (by rw [HSZ.out]; omega) (by omega) ?_; intro v1 w6 ho hb6 hg hat; obtain ⟨A1, c1, rfl⟩ := Kd.R_slice ho; obtain ⟨n1, hn1⟩ : ∃ n1, n1 = (wk ++ [r]).length := ⟨_, rfl⟩; rw [← hn1] at ho hat ⊢; have HN := Aside0.mk (H2.out.more ho hg); have HB6 := Aside0.mk hb6; have hs6 : w6.heap[bw]? = some (.cells #[.slice Aw nw cw] 29 (0, 0)) := H2.out.old hg; have hsc := (kcl hs6 0).trans (show _ = some (.slice Aw nw cw) from rfl); have hsf := kfz hs6 0; have HG := Aside0.mk hg.size; have HT := Aside0.mk (((HTy.out.grown hg (Kd.R_typed H2.out.rw)).set hs6 (.inr (.inl rfl)) 0 (.slice A1 n1 c1))); clear hn1 ho hg hat hs6 hb6))
      go_end0
      refine ⟨A1, n1, c1, rfl, by rw [HV.out]; exact HN.out, ?_, ?_, HT.out⟩
      · exact (HB2.out.trans HB6.out).setCell H.out.b2 _
      · have := HG.out; have := HSZ.out; simp; omega
  · have hk : (k == 4) = false := by simpa using h4
    have HV := Lib.hid (show vis ⟨k, t, r⟩ (s, wk) = (s, wk) by unfold vis; rw [if_neg (by simp [h4])])
    have HB := Aside0.mk (show Below base w (w.alloc (.cells #[.int .i64 k, .string t, .int .i64 r] 35)) from (Below.refl _ _).alloc hbase _)
    clear h h4 hx
    go_enter Try.func99, Try.ntmps99
    go_wp2
    go_end0
    exact ⟨Aw, nw, cw, rfl, by rw [HV.out]; exact H.out.alloc _, HB.out, by simp, Typ.below (bla (Below.refl _ _) _)⟩
end Go.Proofs.Ytgddblpgbkgpcaa.PR
namespace Go.Proofs.Ytgddblpgbkgpcaa.PR
set_option linter.unusedVariables false
set_option linter.unusedSimpArgs false
open Go.RowKit Go.Proofs.YtgddblpgbkgpcaaW.PrintWords Go.Proofs.YtgddblpgbkgpcaaW.PrintLast Go.Proofs.YtgddblpgbkgpcaaW.PrintMore
def refs (o : S46) : List S35 := o.f4 ++ (o.f3 ++ (o.f6 ++ if o.f0 = 6 then [⟨4, ⟨#[]⟩, o.f2⟩] else []))
inductive Rc (l : List S46) (roots : List S35) : Nat → Prop
  | root (x : S35) (h : x ∈ roots) (hk : x.f0 = 4) : Rc l roots x.f2.toNat
  | step (i : Nat) (o : S46) (x : S35) (hi : Rc l roots i) (ho : l[i]? = some o) (hx : x ∈ refs o) (hk : x.f0 = 4) : Rc l roots x.f2.toNat
def visits (xs : List S35) (p : List Bool × List Int) : List Bool × List Int := xs.foldl (fun p x => vis x p) p
theorem visits_app (xs ys : List S35) (p : List Bool × List Int) : visits (xs ++ ys) p = visits ys (visits xs p) := List.foldl_append ..
theorem visits_snoc (xs : List S35) (k : Nat) (h : k < xs.length) (p : List Bool × List Int) : visits (xs.take (k + 1)) p = vis xs[k] (visits (xs.take k) p) := by
  rw [List.take_succ_eq_append_getElem h, visits_app]; rfl
def inN (n : Nat) (xs : List S35) : Prop := ∀ x ∈ xs, x.f0 = 4 → 0 ≤ x.f2 ∧ x.f2 < n
structure VR (n : Nat) (p p' : List Bool × List Int) (xs : List S35) : Prop where
  len : p'.1.length = p.1.length
  mono : ∀ i : Nat, p.1[i]? = some true → p'.1[i]? = some true
  new : ∀ i : Nat, p'.1[i]? = some true → p.1[i]? = some true ∨ ((∃ x ∈ xs, x.f0 = 4 ∧ x.f2.toNat = i) ∧ (i : Int) ∈ p'.2)
  done : ∀ x ∈ xs, x.f0 = 4 → p'.1[x.f2.toNat]? = some true
  wk : ∀ e ∈ p'.2, e ∈ p.2 ∨ ∃ x ∈ xs, x.f0 = 4 ∧ e = x.f2
  keep : ∀ e ∈ p.2, e ∈ p'.2
  meas : 2 * p'.1.count false + p'.2.length ≤ 2 * p.1.count false + p.2.length
theorem count_set (s : List Bool) (i : Nat) (h : s[i]? = some false) : (s.set i true).count false + 1 = s.count false := by
  induction s generalizing i with
  | nil => simp at h
  | cons b s ih =>
    cases i with
    | zero => simp at h; subst h; simp
    | succ i =>
      have := ih i (by simpa using h)
      simp only [List.set_cons_succ, List.count_cons]
      omega
theorem rdOf_at {s : List Bool} {i : Int} (h1 : i.toNat < s.length) : s[i.toNat]? = some (rdOf false s i) := by
  unfold rdOf; rw [List.getD_eq_getElem?_getD, List.getElem?_eq_getElem h1]; rfl
theorem VR.one {n : Nat} {p : List Bool × List Int} {x : S35} (hn : p.1.length = n) (hx : x.f0 = 4 → 0 ≤ x.f2 ∧ x.f2 < n) : VR n p (vis x p) [x] := by
  unfold vis
  by_cases h : x.f0 = 4 ∧ rdOf false p.1 x.f2 = false
  · rw [if_pos h]
    obtain ⟨h4, hf⟩ := h
    obtain ⟨h0, h1⟩ := hx h4
    have hlt : x.f2.toNat < p.1.length := by omega
    have hat := rdOf_at hlt
    rw [hf] at hat
    have hc := count_set p.1 x.f2.toNat hat
    refine ⟨by simp, fun i hi => ?_, fun i hi => ?_, fun y hy _ => ?_, fun e he => ?_, fun e he => List.mem_append_left _ he, by simp only [List.length_append, List.length_singleton]; omega⟩
    · rw [List.getElem?_set]; split
      · subst_vars; simp [hlt]
      · exact hi
    · simp only [List.getElem?_set] at hi
      split at hi
      · rename_i e
        exact .inr ⟨⟨x, by simp, h4, e⟩, List.mem_append_right _ (by simp; omega)⟩
      · exact .inl hi
    · rw [List.mem_singleton.1 hy]; simp [hlt]
    · rcases List.mem_append.1 he with he | he
      · exact .inl he
      · exact .inr ⟨x, by simp, h4, by simpa using he⟩
  · rw [if_neg h]
    refine ⟨rfl, fun _ h => h, fun _ h => .inl h, fun y hy h4 => ?_, fun _ h => .inl h, fun _ h => h, Nat.le_refl _⟩
    rw [List.mem_singleton.1 hy] at h4 ⊢
    obtain ⟨h0, h1⟩ := hx h4
    have hlt : x.f2.toNat < p.1.length := by omega
    rw [rdOf_at hlt]
    cases hb : rdOf false p.1 x.f2 with
    | true => rfl
    | false => exact absurd ⟨h4, hb⟩ h
theorem VR.refl (n : Nat) (p : List Bool × List Int) : VR n p p [] := ⟨rfl, fun _ h => h, fun _ h => .inl h, by simp, fun _ h => .inl h, fun _ h => h, Nat.le_refl _⟩
theorem VR.trans {n : Nat} {p p' p'' : List Bool × List Int} {xs ys : List S35} (h : VR n p p' xs) (k : VR n p' p'' ys) : VR n p p'' (xs ++ ys) := by
  refine ⟨k.len.trans h.len, fun i hi => k.mono i (h.mono i hi), fun i hi => ?_, fun x hx h4 => ?_, fun e he => ?_, fun e he => k.keep e (h.keep e he), Nat.le_trans k.meas h.meas⟩
  · rcases k.new i hi with hi | ⟨⟨x, hx, h4, e⟩, hw⟩
    · rcases h.new i hi with hi | ⟨⟨x, hx, h4, e⟩, hw⟩
      · exact .inl hi
      · exact .inr ⟨⟨x, List.mem_append_left _ hx, h4, e⟩, k.keep _ hw⟩
    · exact .inr ⟨⟨x, List.mem_append_right _ hx, h4, e⟩, hw⟩
  · rcases List.mem_append.1 hx with hx | hx
    · exact k.mono _ (h.done x hx h4)
    · exact k.done x hx h4
  · rcases k.wk e he with he | ⟨x, hx, h4, e⟩
    · rcases h.wk e he with he | ⟨x, hx, h4, e⟩
      · exact .inl he
      · exact .inr ⟨x, List.mem_append_left _ hx, h4, e⟩
    · exact .inr ⟨x, List.mem_append_right _ hx, h4, e⟩
theorem VR.all {n : Nat} : ∀ (xs : List S35) (p : List Bool × List Int), p.1.length = n → inN n xs → VR n p (visits xs p) xs
  | [], p, _, _ => VR.refl n p
  | x :: xs, p, hn, hx => by
    have h1 := VR.one (x := x) hn (hx x (by simp))
    have h2 := VR.all xs (vis x p) (h1.len.trans hn) (fun y hy => hx y (by simp [hy]))
    exact h1.trans h2
structure MI (l : List S46) (roots : List S35) (p : List Bool × List Int) : Prop where
  len : p.1.length = l.length
  a : ∀ i : Nat, p.1[i]? = some true → Rc l roots i
  b : ∀ e ∈ p.2, 0 ≤ e ∧ e < l.length ∧ p.1[e.toNat]? = some true
  c : ∀ i : Nat, p.1[i]? = some true → (i : Int) ∈ p.2 ∨ ∀ o, l[i]? = some o → ∀ x ∈ refs o, x.f0 = 4 → p.1[x.f2.toNat]? = some true
  d : ∀ x ∈ roots, x.f0 = 4 → p.1[x.f2.toNat]? = some true
theorem MI.start {l : List S46} {roots : List S35} (hr : inN l.length roots) : MI l roots (visits roots (List.replicate l.length false, [])) := by
  have h := VR.all roots (List.replicate l.length false, []) (by simp) hr
  have h0 : ∀ i : Nat, (List.replicate l.length false)[i]? ≠ some true := by
    intro i e
    rw [List.getElem?_replicate] at e
    split at e <;> simp at e
  refine ⟨by rw [h.len]; simp, fun i hi => ?_, fun e he => ?_, fun i hi => ?_, h.done⟩
  · rcases h.new i hi with hi | ⟨⟨x, hx, h4, e⟩, _⟩
    · exact absurd hi (h0 i)
    · rw [← e]; exact .root x hx h4
  · rcases h.wk e he with he | ⟨x, hx, h4, rfl⟩
    · simp at he
    · exact ⟨(hr x hx h4).1, (hr x hx h4).2, h.done x hx h4⟩
  · rcases h.new i hi with hi | ⟨_, hw⟩
    · exact absurd hi (h0 i)
    · exact .inl hw
theorem MI.round {l : List S46} {roots : List S35} {s : List Bool} {wk : List Int} {e : Int} {o : S46} (h : MI l roots (s, wk ++ [e])) (ho : l[e.toNat]? = some o) (hr : inN l.length (refs o)) : MI l roots (visits (refs o) (s, wk)) := by
  have hv := VR.all (refs o) (s, wk) h.len hr
  obtain ⟨e0, e1, e2⟩ := h.b e (by simp)
  refine ⟨hv.len.trans h.len, fun i hi => ?_, fun e' he => ?_, fun i hi => ?_, fun x hx h4 => hv.mono _ (h.d x hx h4)⟩
  · rcases hv.new i hi with hi | ⟨⟨x, hx, h4, e⟩, _⟩
    · exact h.a i hi
    · rw [← e]; exact .step _ o x (h.a _ e2) ho hx h4
  · rcases hv.wk e' he with he | ⟨x, hx, h4, rfl⟩
    · obtain ⟨a1, a2, a3⟩ := h.b e' (List.mem_append_left _ he)
      exact ⟨a1, a2, hv.mono _ a3⟩
    · exact ⟨(hr x hx h4).1, (hr x hx h4).2, hv.done x hx h4⟩
  · rcases hv.new i hi with hi | ⟨_, hw⟩
    · rcases h.c i hi with hc | hc
      · rcases List.mem_append.1 hc with hc | hc
        · exact .inl (hv.keep _ hc)
        · have hie : (i : Int) = e := by simpa using hc
          have : e.toNat = i := by omega
          rw [this] at ho
          refine .inr fun o' ho' x hx h4 => ?_
          rw [ho] at ho'
          injection ho' with ho'
          subst ho'
          exact hv.done x hx h4
      · exact .inr fun o' ho' x hx h4 => hv.mono _ (hc o' ho' x hx h4)
    · exact .inl hw
theorem MI.end_ {l : List S46} {roots : List S35} {s : List Bool} (h : MI l roots (s, [])) (i : Nat) : s[i]? = some true ↔ Rc l roots i := by
  refine ⟨h.a i, fun hr => ?_⟩
  induction hr with
  | root x hx h4 => exact h.d x hx h4
  | step i o x _ ho hx h4 ih =>
    rcases h.c i ih with hc | hc
    · simp at hc
    · exact hc o ho x hx h4
end Go.Proofs.Ytgddblpgbkgpcaa.PR
namespace Go.Proofs.Ytgddblpgbkgpcaa.PR
set_option linter.unusedVariables false
set_option linter.unusedSimpArgs false
open Go.RowKit Go.Proofs.YtgddblpgbkgpcaaW.PrintWords Go.Proofs.YtgddblpgbkgpcaaW.PrintLast Go.Proofs.YtgddblpgbkgpcaaW.PrintMore
set_option linter.unusedVariables false
set_option linter.unusedSimpArgs false
def RPost (w : World) (l : List S46) (roots : List S35) (e : Ending) (w' : World) : Prop :=
  ∃ (v : Value) (s : List Bool), e = .returned v ∧ Kd.bool.R 4 w' w.heap.size (fun _ => True) v s ∧ s.length = l.length ∧ (∀ i : Nat, s[i]? = some true ↔ Rc l roots i) ∧ Below w.heap.size w w'
theorem BXH {w w5 : World} {A : Option Addr} {n c : Nat} {H : Nat} (h : Below H (w.alloc (.cells #[.slice A n c] 25)) w5) (hH : w.heap.size < H) : w5.heap[w.heap.size]? = some (.cells #[.slice A n c] 25 (0, 0)) := (h.block _ hH).trans (blk_new _ _)
theorem vs_start {w5 : World} {H gs n cap : Nat} (hr : Kd.bool.R 4 w5 H (fun _ => True) (.slice (some ⟨gs, 0, none⟩) n cap) (List.replicate n false)) (hH : H ≤ w5.heap.size) :
    Vs ((w5.alloc (.cells #[.slice (some ⟨gs, 0, none⟩) n cap] 71)).alloc (.cells #[.slice none 0 0] 29)) H w5.heap.size (w5.heap.size + 1) gs n cap (List.replicate n false) none 0 0 [] := by
  have h1 := blk_new (w5.alloc (.cells #[.slice (some ⟨gs, 0, none⟩) n cap] 71)) (.cells #[.slice none 0 0] 29)
  rw [show (w5.alloc (.cells #[.slice (some ⟨gs, 0, none⟩) n cap] 71)).heap.size = w5.heap.size + 1 by simp] at h1
  exact ⟨kla (blk_new _ _) _, h1, Kd.R_below hr (bla (bla (Below.refl _ _) _) _), Kd.R_nil _ _ _ _ _, hH, by omega⟩
structure Vw (w wr : World) (bs bw gs n cap : Nat) (bx : Array Value) (p : List Bool × List Int) (A : Option Addr) (nw cw : Nat) : Prop where
  vs : Vs wr w.heap.size bs bw gs n cap p.1 A nw cw p.2
  bl : Below w.heap.size w wr
  bx : wr.heap[w.heap.size]? = some (.cells bx 25 (0, 0))
theorem Vw.below {w wr w1 : World} {bs bw gs n cap nw cw : Nat} {bx : Array Value} {p : List Bool × List Int} {A : Option Addr} (h : Vw w wr bs bw gs n cap bx p A nw cw) (hb : Below wr.heap.size wr w1) : Vw w w1 bs bw gs n cap bx p A nw cw :=
  ⟨h.vs.below hb, bth h.bl h.bl.size hb, kbw h.bx hb⟩
theorem Vw.alloc {w wr : World} {bs bw gs n cap nw cw : Nat} {bx : Array Value} {p : List Bool × List Int} {A : Option Addr} (h : Vw w wr bs bw gs n cap bx p A nw cw) (o : Obj) : Vw w (wr.alloc o) bs bw gs n cap bx p A nw cw := h.below (bla (Below.refl _ _) o)
theorem Vw.drew {w wr : World} {bs bw gs n cap nw cw : Nat} {bx : Array Value} {p : List Bool × List Int} {A : Option Addr} (h : Vw w wr bs bw gs n cap bx p A nw cw) : Vw w wr.drew bs bw gs n cap bx p A nw cw := h.below (below_drew (Below.refl _ _))
theorem Vw.visit {w wr : World} {bs bw gs n cap nw cw : Nat} {bx : Array Value} {p : List Bool × List Int} {A : Option Addr} (h : Vw w wr bs bw gs n cap bx p A nw cw) (x : S35) (hx : x.f0 = 4 → 0 ≤ x.f2 ∧ x.f2 < n) (hl : p.2.length ≤ 1000000) :
    Calls Try.prog 99 #[.agg #[.int .i64 x.f0, .string x.f1, .int .i64 x.f2], .pointer (some ⟨bs, 0, none⟩), .pointer (some ⟨bw, 0, none⟩)] wr fun e w' => ∃ (A' : Option Addr) (nw' cw' : Nat), e = .returned (.tuple #[]) ∧ Vw w w' bs bw gs n cap bx (vis x p) A' nw' cw' ∧ Below w.heap.size wr w' ∧ wr.heap.size ≤ w'.heap.size ∧ Typ wr w' := by
  refine (visit_ok w.heap.size bs bw gs n cap p.1 A nw cw p.2 x wr h.vs h.bl.size hx hl).mono ?_
  rintro e w' ⟨A', n', c', rfl, hv, hb, hs, ht⟩
  exact ⟨A', n', c', rfl, ⟨hv, h.bl.trans hb, ht _ _ _ h.bx (by decide) (by decide) (by decide)⟩, hb, hs, ht⟩
theorem R_pop {w : World} {base : Nat} {g n c : Nat} {xs : List Int} {e : Int} (h : (Kd.int .i64).R 3 w base (fun _ => True) (.slice (some ⟨g, 0, none⟩) (n + 1) c) (xs ++ [e])) : (Kd.int .i64).R 3 w base (fun _ => True) (.slice (some ⟨g, 0, none⟩) n c) xs := by
  obtain ⟨hn, _, _⟩ := Kd.R_reads' h
  rw [List.length_append, List.length_singleton] at hn
  obtain ⟨h0, inner, ho, hr⟩ := h
  obtain ⟨ho1, ho2⟩ := ho
  have e1 : (Kd.int .i64).sz = 1 := rfl
  rw [e1, Nat.mul_one] at ho1
  rcases ho2 with ⟨he, _⟩ | ⟨g', cap, cur, hv, hb, hh, hnc, hcm, hcs, ht⟩
  · cases he
  · injection hv with ha hn' hc'
    injection ha with ha
    injection ha with hg _
    subst hg; subst hc'
    rw [e1, Nat.mul_one, List.length_append, List.length_singleton] at ht
    refine ⟨fun _ _ => trivial, inner.take xs.length, ⟨by rw [e1]; simp [ho1], .inr ⟨g, c, cur, by rw [show n = xs.length by omega], hb, hh, by simp at hnc; omega, hcm, hcs, by rw [e1, Nat.mul_one, ← ht, List.take_take, Nat.min_eq_left (by omega)]⟩⟩, by rw [e1]; simp [ho1], fun j p hj => ?_⟩
    have hjl : j < xs.length := (List.getElem?_eq_some_iff.1 hj).1
    have := hr.2 j p (by rw [List.getElem?_append_left hjl]; exact hj)
    rw [e1] at this ⊢
    rw [Nat.mul_one] at this ⊢
    have e2 : ((inner.take xs.length).drop j).take 1 = (inner.drop j).take 1 := by
      rw [List.drop_take, List.take_take, Nat.min_eq_left (by omega)]
    rw [e2]
    exact this
theorem R_capn {w : World} {base : Nat} {g n c : Nat} {xs : List Int} (h : (Kd.int .i64).R 3 w base (fun _ => True) (.slice (some ⟨g, 0, none⟩) n c) xs) : n ≤ c := by
  obtain ⟨hn, _, _⟩ := Kd.R_reads' h
  obtain ⟨h0, inner, ho, hr⟩ := h
  obtain ⟨ho1, ho2⟩ := ho
  rcases ho2 with ⟨he, _⟩ | ⟨g', cap, cur, hv, hb, hh, hnc, hcm, hcs, ht⟩
  · cases he
  · have hc' : c = cap := by simp only [Value.slice.injEq] at hv; exact hv.2.2
    rw [hc', hn]
    exact hnc
theorem Vw.pop {w wr : World} {bs bw gs n cap gw nw cw : Nat} {bx : Array Value} {s : List Bool} {wk : List Int} {e : Int} (h : Vw w wr bs bw gs n cap bx (s, wk ++ [e]) (some ⟨gw, 0, none⟩) (nw + 1) cw) :
    Vw w (wr.setCell ⟨bw, 0, none⟩ (.slice (some ⟨gw, 0, none⟩) nw cw)) bs bw gs n cap bx (s, wk) (some ⟨gw, 0, none⟩) nw cw := by
  have h12 : bs ≠ bw := blk_ne h.vs.c1 h.vs.c2 (by decide)
  exact ⟨⟨blk_far h.vs.c1 h12 _, blk_put h.vs.c2 0 _ rfl, Kd.R_set h.vs.rs h.vs.c2 (by decide) 0 _, Kd.R_set (R_pop h.vs.rw) h.vs.c2 (by decide) 0 _, h.vs.b1, h.vs.b2⟩, h.bl.setCell h.vs.b2 _, blk_far h.bx (blk_ne h.bx h.vs.c2 (by decide)) _⟩
set_option maxRecDepth 100000 in
theorem refTo_w (a : Int) (w : World) : Calls Try.prog 85 #[.int .i64 a] w fun e w' => e = .returned (.agg #[.int .i64 4, .string ⟨#[]⟩, .int .i64 a]) ∧ Below w.heap.size w w' := by
  go_enter Try.func85, Try.ntmps85
  go_wp2
  exact bodyPost_ret (v := .agg #[.int .i64 4, .string ⟨#[]⟩, .int .i64 a]) (results_cell_row rfl _ _ w.heap.size 35 #[.int .i64 4, .string (⟨#[]⟩ : ByteArray), .int .i64 a] (0, 0) _ rfl (blk_new _ _) Try.underlying35 rfl rfl) rfl ⟨rfl, bla (Below.refl _ _) _⟩
def accs (o : S46) : Nat → List S35
  | 0 => []
  | 1 => o.f4
  | 2 => o.f4 ++ o.f3
  | _ => o.f4 ++ (o.f3 ++ o.f6)
structure Vz (w wr : World) (bs bw gs n cap : Nat) (bx : Array Value) (p : List Bool × List Int) (A : Option Addr) (nw cw : Nat) (b4 : Nat) (c4 : Array Value) (b2 : Nat) (c2 : Array Value) : Prop where
  v : Vw w wr bs bw gs n cap bx p A nw cw
  h4 : wr.heap[b4]? = some (.cells c4 46 (0, 0))
  h2 : wr.heap[b2]? = some (.cells c2 26 (0, 0))
section
variable {w wr w1 : World} {bs bw gs n cap nw cw b4 b2 : Nat} {bx c4 c2 : Array Value} {p : List Bool × List Int} {A : Option Addr}
theorem Vz.below (h : Vz w wr bs bw gs n cap bx p A nw cw b4 c4 b2 c2) (hb : Below wr.heap.size wr w1) : Vz w w1 bs bw gs n cap bx p A nw cw b4 c4 b2 c2 :=
  ⟨h.v.below hb, kbw h.h4 hb, kbw h.h2 hb⟩
theorem Vz.alloc (h : Vz w wr bs bw gs n cap bx p A nw cw b4 c4 b2 c2) (o : Obj) : Vz w (wr.alloc o) bs bw gs n cap bx p A nw cw b4 c4 b2 c2 := h.below (bla (Below.refl _ _) o)
theorem Vz.visit (h : Vz w wr bs bw gs n cap bx p A nw cw b4 c4 b2 c2) (x : S35) (hx : x.f0 = 4 → 0 ≤ x.f2 ∧ x.f2 < n) (hl : p.2.length ≤ 1000000) :
    Calls Try.prog 99 #[.agg #[.int .i64 x.f0, .string x.f1, .int .i64 x.f2], .pointer (some ⟨bs, 0, none⟩), .pointer (some ⟨bw, 0, none⟩)] wr fun e w' => ∃ (A' : Option Addr) (nw' cw' : Nat), e = .returned (.tuple #[]) ∧ Vz w w' bs bw gs n cap bx (vis x p) A' nw' cw' b4 c4 b2 c2 := by
  refine (h.v.visit x hx hl).mono ?_
  rintro e w' ⟨A', n', c', rfl, hv, _, _, ht⟩
  exact ⟨A', n', c', rfl, hv, ht _ _ _ h.h4 (by decide) (by decide) (by decide), ht _ _ _ h.h2 (by decide) (by decide) (by decide)⟩
end
theorem Vz.start {w w10 : World} {bs bw gs n cap nw cw gw : Nat} {bx : Array Value} {s : List Bool} {wk : List Int} {e : Int} {c4 : Array Value} (c2 : Array Value) (h1 : Vw w (w10.alloc (.cells c4 46)) bs bw gs n cap bx (s, wk ++ [e]) (some ⟨gw, 0, none⟩) (nw + 1) cw) (h0 : Vw w w10 bs bw gs n cap bx (s, wk ++ [e]) (some ⟨gw, 0, none⟩) (nw + 1) cw) :
    Vz w (((w10.alloc (.cells c4 46)).setCell ⟨bw, 0, none⟩ (.slice (some ⟨gw, 0, none⟩) nw cw)).alloc (.cells c2 26)) bs bw gs n cap bx (s, wk) (some ⟨gw, 0, none⟩) nw cw w10.heap.size c4 (w10.heap.size + 1) c2 := by
  have hb : w10.heap.size ≠ bw := fun h => by
    have := (List.getElem?_eq_some_iff.1 (Array.getElem?_toList (xs := w10.heap) ▸ h0.vs.c2)).1
    simp at this
    omega
  refine ⟨h1.pop.alloc _, kla (blk_far (g := w10.heap.size) (p := ⟨bw, 0, none⟩) (blk_new w10 _) hb _) _, ?_⟩
  have := blk_new ((w10.alloc (.cells c4 46)).setCell ⟨bw, 0, none⟩ (.slice (some ⟨gw, 0, none⟩) nw cw)) (.cells c2 26)
  rw [show ((w10.alloc (.cells c4 46)).setCell ⟨bw, 0, none⟩ (.slice (some ⟨gw, 0, none⟩) nw cw)).heap.size = w10.heap.size + 1 by simp] at this
  exact this
theorem SLF {l : List S46} {roots : List S35} {s : List Bool} {wk : List Int} {e : Int} {gk n : Nat} (h : MI l roots (s, wk ++ [e]) ∧ 2 * s.count false + (wk ++ [e]).length ≤ gk ∧ gk ≤ 2 * n) (hn : n = l.length) (h6 : n ≤ 1000) : s.length = n ∧ 2 * s.count false + wk.length + 1 ≤ gk ∧ gk ≤ 2 * n ∧ n ≤ 1000 := by
  obtain ⟨h1, h2, h3⟩ := h
  rw [List.length_append, List.length_singleton] at h2
  exact ⟨h1.len.trans hn.symm, by omega, h3, h6⟩
theorem wl_len {n gk : Nat} {s : List Bool} {wk : List Int} (h : s.length = n ∧ 2 * s.count false + wk.length + 1 ≤ gk ∧ gk ≤ 2 * n ∧ n ≤ 1000) (xs : List S35) (hin : inN n xs) : (visits xs (s, wk)).2.length ≤ 1000000 := by
  obtain ⟨h1, h2, h3, h4⟩ := h
  have := (VR.all xs (s, wk) h1 hin).meas
  simp only at this
  omega
theorem visits_snoc2 (a xs : List S35) (k : Nat) (h : k < xs.length) (p : List Bool × List Int) : visits (a ++ xs.take (k + 1)) p = vis xs[k] (visits (a ++ xs.take k) p) := by
  rw [visits_app, visits_app, visits_snoc]
theorem three {w : World} {o : S46} {A3 A4 A6 : Option Addr} {c3 c4 c6 n : Nat} (r3 : Kd.C k35 w A3 o.f3.length o.f3) (r4 : Kd.C k35 w A4 o.f4.length o.f4) (r6 : Kd.C k35 w A6 o.f6.length o.f6) (hi : inN n (refs o)) (hl : o.f3.length ≤ 100 ∧ o.f4.length ≤ 100 ∧ o.f6.length ≤ 100) (k : Nat) (hk : k < 3) :
    ∃ (A' : Option Addr) (n' c' : Nat) (xs : List S35), (#[.slice A4 o.f4.length c4, .slice A3 o.f3.length c3, .slice A6 o.f6.length c6] : Array Value)[k]? = some (.slice A' n' c') ∧ Kd.C k35 w A' n' xs ∧ xs.length = n' ∧ n' ≤ 100 ∧ inN n (accs o k ++ xs) ∧ accs o (k + 1) = accs o k ++ xs := by
  obtain ⟨h3, h4, h6⟩ := hl
  have hi' : ∀ x, (x ∈ o.f4 ∨ x ∈ o.f3 ∨ x ∈ o.f6) → x.f0 = 4 → 0 ≤ x.f2 ∧ x.f2 < n := fun x hx => hi x (by unfold refs; simp only [List.mem_append]; rcases hx with h | h | h <;> simp [h])
  match k, hk with
  | 0, _ => exact ⟨_, _, _, o.f4, rfl, r4, rfl, h4, fun x hx => hi' x (by simpa [accs] using .inl hx), by simp [accs]⟩
  | 1, _ => exact ⟨_, _, _, o.f3, rfl, r3, rfl, h3, fun x hx => hi' x (by rcases List.mem_append.1 hx with h | h; exact .inl h; exact .inr (.inl h)), by simp [accs]⟩
  | 2, _ => exact ⟨_, _, _, o.f6, rfl, r6, rfl, h6, fun x hx => hi' x (by rcases List.mem_append.1 hx with h | h; (rcases List.mem_append.1 h with h | h; exact .inl h; exact .inr (.inl h)); exact .inr (.inr h)), by simp [accs]⟩
theorem refs_n {o : S46} (h : o.f0 ≠ 6) : refs o = accs o 3 := by simp [refs, accs, h]
theorem refs_6 {o : S46} (h : o.f0 = 6) : refs o = accs o 3 ++ [⟨4, ⟨#[]⟩, o.f2⟩] := by simp [refs, accs, h]
theorem acc_in {n : Nat} {o : S46} (h : inN n (refs o)) : inN n (accs o 3) := fun x hx => h x (by simp only [accs, List.mem_append] at hx; simp only [refs, List.mem_append]; rcases hx with h | h | h <;> simp [h])
theorem last {l : List S46} {roots : List S35} {s : List Bool} {wk : List Int} {e : Int} {o : S46} {n gk : Nat} (hm : MI l roots (s, wk ++ [e])) (ho : l[e.toNat]? = some o) (hi : inN n (refs o)) (hn : n = l.length) (hs : s.length = n ∧ 2 * s.count false + wk.length + 1 ≤ gk ∧ gk ≤ 2 * n ∧ n ≤ 1000) :
    2 * (visits (refs o) (s, wk)).1.count false + (visits (refs o) (s, wk)).2.length < gk ∧ MI l roots (visits (refs o) (s, wk)) ∧ 2 * (visits (refs o) (s, wk)).1.count false + (visits (refs o) (s, wk)).2.length ≤ 2 * n := by
  obtain ⟨h1, h2, h3, h4⟩ := hs
  have hk := (VR.all (refs o) (s, wk) h1 hi).meas
  simp only at hk
  exact ⟨by omega, hm.round ho (by rw [← hn]; exact hi), by omega⟩
theorem inN_take {n : Nat} {a xs : List S35} (h : inN n (a ++ xs)) (k : Nat) : inN n (a ++ xs.take k) := fun x hx => h x (by rcases List.mem_append.1 hx with h | h; exact List.mem_append_left _ h; exact List.mem_append_right _ (List.mem_of_mem_take h))
theorem ck {w : World} {a : Addr} {v : Value} (h : w.cell? a = some v) (o : Obj) : (w.alloc o).cell? a = some v := ((bla (Below.refl _ _) o).cell (World.block_lt_of_cell? w a h)).trans h
set_option maxRecDepth 100000 in
set_option maxHeartbeats 40000000 in
theorem reach_ok (A : Option Addr) (n c : Nat) (A1 : Option Addr) (m c1 : Nat) (l : List S46) (roots : List S35) (w : World) (hC : Kd.C k46 w A n l) (hR : Kd.C k35 w A1 m roots) (hn0 : 0 < n) (hn6 : n ≤ 1000) (hi : ∀ o ∈ l, inN n (refs o)) (hl6 : ∀ o ∈ l, o.f3.length ≤ 100 ∧ o.f4.length ≤ 100 ∧ o.f6.length ≤ 100) (hr : inN n roots) (hm : m ≤ 1000) :
    Calls Try.prog 54 #[.agg #[.slice A n c], .slice A1 m c1] w (RPost w l roots) := by
  have hnl : n = l.length := hC.1.symm
  have hml : m = roots.length := hR.1.symm
  have HC := Aside0.mk hC
  have HR := Aside0.mk hR
  have HNL := Lib.hid hnl
  have HML := Lib.hid hml
  have HI := Aside0.mk hi
  have HL6 := Aside0.mk hl6
  have HRR := Aside0.mk hr
  clear hC hR hnl hml hi hl6 hr
  have hmf : ∀ (fn : Fn) (first cap : Array Value) (w : World), (Instr.makeFunc fn first cap).run Try.prog w = .ok (.func fn first cap) w := fun _ _ _ _ => rfl
  go_enter Try.func54, Try.ntmps54
  go_wp2_with (first
    | ((with_reducible refine gate_dst (N := 18) rfl ?_); go_loud (refine Kd.R_make Kd.bool (w0 := _) (w.heap.size + 1) 4 rfl (N := 18) rfl 71 _ _ rfl (n : Int) rfl rfl Try.underlying71 (.bool false) 1 info4 rfl (by decide) (by omega) false (ok := fun _ => True) (okp := fun _ => True) rfl (fun _ hk => hk) trivial (by omega) (by simp; omega) (Below.refl _ _) (by simp) ?_; intro v1 w5 ho hb5 hg5 hat; have e0 : (List.replicate ((n : Int).toNat) false).length = n := (by simp); obtain ⟨gs, cap, rfl, hgs0, hgs1, _⟩ := Kd.R_form ho (by omega); rw [e0] at ho ⊢; rw [Int.toNat_natCast] at ho; have HO := Aside0.mk ho; have HB5 := Aside0.mk hb5; clear ho hb5 hg5 hat e0)))
  have HV0 := Aside0.mk (show Vw w ((w5.alloc (.cells #[.slice (some ⟨gs, 0, none⟩) n cap] 71)).alloc (.cells #[.slice none 0 0] 29)) w5.heap.size (w5.heap.size + 1) gs n cap #[.slice A n c] (List.replicate n false, []) none 0 0 from by
    have hs5 := HB5.out.size
    have hb5 : Below w.heap.size w w5 := ((Below.refl w.heap.size w).alloc (Nat.le_refl _) _).trans (HB5.out.mono (Nat.le_succ _))
    exact ⟨vs_start (Kd.R_lower HO.out (Nat.le_succ _)) hb5.size, bla (bla hb5 _) _, kla (kla (BXH HB5.out (Nat.lt_succ_self _)) _) _⟩)
  obtain ⟨bs, hbs⟩ : ∃ bs, bs = w5.heap.size := ⟨_, rfl⟩
  obtain ⟨bw, hbw⟩ : ∃ bw, bw = w5.heap.size + 1 := ⟨_, rfl⟩
  rw [← hbw, ← hbs] at HV0 ⊢
  clear hbs hbw HO HB5
  have HMS := Aside0.mk (MI.start (by rw [← HNL.out]; exact HRR.out) : MI l roots (visits roots (List.replicate l.length false, [])))
  rw [← HNL.out] at HMS
  have HME := Lib.hid ((VR.all (n := n) roots (List.replicate n false, []) (by simp) HRR.out).meas)
  go_loopw [22] (fun i wr => ∃ (k : Nat) (A' : Option Addr) (nw cw : Nat), i = .int .i64 k ∧ k ≤ m ∧ Aside0 (Vw w wr bs bw gs n cap #[.slice A n c] (visits (roots.take k) (List.replicate n false, [])) A' nw cw)) (fun i _ => m - (intOf i).toNat)
  case atStart => exact ⟨0, none, 0, 0, rfl, Nat.zero_le _, HV0⟩
  case round =>
    clear HV0
    obtain ⟨k, A', nw, cw, rfl, hk, HV⟩ := hrel
    by_cases hkm : k < m
    · have hlr : k < roots.length := by have := HML.out; omega
      obtain ⟨adx, rfl, hx0, hx1, hx2⟩ := at_T35 (Kd.C_below HR.out (by exact HV.out.bl)) (k : Int) (by omega) (by omega)
      have hxk : rd_T35 roots (k : Int) = roots[k] := by unfold rd_T35; simp [List.getD_eq_getElem?_getD, hlr]
      rw [hxk] at hx0 hx1 hx2
      simp only [Int.toNat_natCast] at hx0 hx1 hx2
      generalize hxx : roots[k] = x at hx0 hx1 hx2
      have HX := Lib.hid hxx
      clear hxx hxk
      have hmes := (VR.all (n := n) (roots.take k) (List.replicate n false, []) (by simp) (fun y hy => HRR.out y (List.mem_of_mem_take hy))).meas
      have hlen : (visits (roots.take k) (List.replicate n false, [])).2.length ≤ 1000000 := by simp at hmes; omega
      clear hmes
      go_wp2_with (first | (go_at_call 99; refine ((HV.out.alloc (.cells #[.int .i64 x.f0, .string x.f1, .int .i64 x.f2] 35)).visit x (by rw [← HX.out]; exact HRR.out _ (List.getElem_mem _)) hlen).mono ?_; rintro e w6 ⟨A6, n6, c6, rfl, hv6, _, _, _⟩; have HV6 := Aside0.mk hv6; clear hv6))
      go_roundw
      case rel => exact ⟨k + 1, A6, n6, c6, by go_num, by omega, ⟨by rw [visits_snoc _ _ hlr, HX.out]; exact HV6.out⟩⟩
      case measure => simp [intOf]; omega
    · have hkm' : k = m := by omega
      have HVV := Aside0.mk (show Vw w wr bs bw gs n cap #[.slice A n c] (visits roots (List.replicate n false, [])) A' nw cw from by have := HV.out; rw [List.take_of_length_le (by have := HML.out; omega)] at this; exact this)
      clear HV hkm'
      go_wp2
      go_loopg [10] (2 * n) (fun kq u10 wr => ∃ (s : List Bool) (wk : List Int) (A' : Option Addr) (nw cw : Nat), Aside0 (Vw w wr bs bw gs n cap #[.slice A n c] (s, wk) A' nw cw ∧ MI l roots (s, wk) ∧ 2 * s.count false + wk.length ≤ kq ∧ kq ≤ 2 * n)) 
      case atStart =>
        refine ⟨(visits roots (List.replicate n false, [])).1, (visits roots (List.replicate n false, [])).2, A', nw, cw, ⟨HVV.out, HMS.out, ?_, Nat.le_refl _⟩⟩
        have := HME.out
        simpa using this
      case round =>
        clear HVV HMS HME
        obtain ⟨s, wk, A', nw, cw, HQ⟩ := hrel
        rcases List.eq_nil_or_concat wk with hwk | ⟨wk0, e, hwk⟩
        · subst hwk
          obtain ⟨h1, h2, h3⟩ := HQ.out.1.vs.len
          have hw0 : nw = 0 := h2
          have hc2 := (kcl HQ.out.1.vs.c2 0).trans (show _ = some (.slice A' nw cw) from rfl)
          have hc1 := (kcl HQ.out.1.vs.c1 0).trans (show _ = some (.slice (some ⟨gs, 0, none⟩) n cap) from rfl)
          clear h1 h2 h3
          subst hw0
          go_wp2
          go_ret
          exact ⟨_, s, rfl, HQ.out.1.vs.rs, HQ.out.2.1.len, fun i => HQ.out.2.1.end_ i, HQ.out.1.bl⟩
        · rw [List.concat_eq_append] at hwk
          subst hwk
          obtain ⟨h1, h2, h3⟩ := HQ.out.1.vs.len
          rw [List.length_append, List.length_singleton] at h2
          have hex : ∃ q, nw = q + 1 := ⟨_, h2⟩
          obtain ⟨nw, rfl⟩ := hex
          obtain ⟨e0, e1, _⟩ := HQ.out.2.1.b e (by simp)
          obtain ⟨ei, rfl⟩ := Int.eq_ofNat_of_zero_le e0
          obtain ⟨gw, cw', hA', _⟩ := Kd.R_form HQ.out.1.vs.rw (by simp)
          injection hA' with hA' hA1 hA2
          clear hA1 hA2
          subst hA'
          have hel : ei < l.length := by omega
          have hwl : nw = wk0.length := by omega
          have hwc := (Kd.R_celln (0 : Int) HQ.out.1.vs.rw (nw : Int) (by omega) (by omega)).1
          rw [show rdOf (0 : Int) (wk0 ++ [(ei : Int)]) (nw : Int) = ei by unfold rdOf; rw [hwl]; simp [List.getD_eq_getElem?_getD], show (nw : Int).toNat = nw from rfl] at hwc
          have hc2 := (kcl HQ.out.1.vs.c2 0).trans (show _ = some (.slice (some ⟨gw, 0, none⟩) (nw + 1) cw) from rfl)
          have hf2 := kfz HQ.out.1.vs.c2 0
          have hbx := (kcl HQ.out.1.bx 0).trans (show _ = some (.slice A n c) from rfl)
          obtain ⟨adh, A3, c3, A4, c4, A5, c5, A6, c6, rfl, g0, g1, g2, g3, g4, g5, g6, l3, r3, l4, r4, _, _, l6, r6⟩ := at_T46 HC.out (ei : Int) (by omega) (by have := HNL.out; omega)
          have hxo : rd_T46 l (ei : Int) = l[ei] := by unfold rd_T46; simp [List.getD_eq_getElem?_getD, hel]
          rw [hxo] at g0 g1 g2 g3 g4 g5 g6 l3 r3 l4 r4 l6 r6
          simp only [Int.toNat_natCast] at g0 g1 g2 g3 g4 g5 g6
          have HI1 := Aside0.mk (HI.out _ (List.getElem_mem hel))
          have HL1 := Aside0.mk (HL6.out _ (List.getElem_mem hel))
          have HOL := Lib.hid (show l[(ei : Int).toNat]? = some l[ei] by simp [hel])
          generalize l[ei] = o at g0 g1 g2 g3 g4 g5 g6 l3 r3 l4 r4 l6 r6 HI1 HL1 HOL
          have HR3 := Aside0.mk r3
          have HR4 := Aside0.mk r4
          have HR6 := Aside0.mk r6
          have hen : (ei : Int) < (n : Int) := by have := HNL.out; omega
          have hei0 : (0 : Int) ≤ (ei : Int) := Int.natCast_nonneg _
          have hnw0 : (0 : Int) ≤ (nw : Int) := Int.natCast_nonneg _
          have hbl := HQ.out.1.bl
          replace g0 := (hbl.cell (World.block_lt_of_cell? w _ g0)).trans g0
          replace g1 := (hbl.cell (World.block_lt_of_cell? w _ g1)).trans g1
          replace g2 := (hbl.cell (World.block_lt_of_cell? w _ g2)).trans g2
          replace g3 := (hbl.cell (World.block_lt_of_cell? w _ g3)).trans g3
          replace g4 := (hbl.cell (World.block_lt_of_cell? w _ g4)).trans g4
          replace g5 := (hbl.cell (World.block_lt_of_cell? w _ g5)).trans g5
          replace g6 := (hbl.cell (World.block_lt_of_cell? w _ g6)).trans g6
          have hnwu : (nw : Int) < 2001 := by have h5 := HQ.out.2.2.1; have h6 := HQ.out.2.2.2; rw [List.length_append, List.length_singleton] at h5; omega
          have hnwl : (nw : Int) < (nw : Int) + 1 := by omega
          have hnc0 : nw + 1 ≤ cw := R_capn HQ.out.1.vs.rw
          have hnc1 : nw ≤ cw := Nat.le_of_succ_le hnc0
          have hnc2 : (nw : Int) ≤ (cw : Int) := Int.ofNat_le.2 hnc1
          clear hnc0
          have hnww : wrap64 (nw : Int) = nw := by unfold wrap64; omega
          clear r3 r4 r6 hbl hxo h1 h3 e0 e1 hel h2 hwl
          replace HQ := Aside0.mk (show Vw w wr.drew bs bw gs n cap #[.slice (some adh) n c] (s, wk0 ++ [(ei : Int)]) (some ⟨gw, 0, none⟩) (nw + 1) cw ∧ MI l roots (s, wk0 ++ [(ei : Int)]) ∧ 2 * s.count false + (wk0 ++ [(ei : Int)]).length ≤ gk ∧ gk ≤ 2 * n from ⟨HQ.out.1.drew, HQ.out.2⟩)
          go_wp2_with fail
          refine start_ (n := 12) (S := fun w' => w'.cell? ⟨w.heap.size, 0, none⟩ = some (.slice (some adh) n c) ∧ w'.cell? ⟨bw, 0, none⟩ = some (.slice (some ⟨gw, 0, none⟩) (nw + 1) cw) ∧ w'.cell? ⟨gw, nw, none⟩ = some (.int .i64 ei) ∧ w'.cell? (adh.add (ei * 7)) = some (.int .i64 o.f0) ∧ w'.cell? ⟨(adh.add (ei * 7)).block, (adh.add (ei * 7)).off + 1, none⟩ = some (.string o.f1) ∧ w'.cell? ⟨(adh.add (ei * 7)).block, (adh.add (ei * 7)).off + 2, none⟩ = some (.int .i64 o.f2) ∧ w'.cell? ⟨(adh.add (ei * 7)).block, (adh.add (ei * 7)).off + 3, none⟩ = some (.slice A3 o.f3.length c3) ∧ w'.cell? ⟨(adh.add (ei * 7)).block, (adh.add (ei * 7)).off + 4, none⟩ = some (.slice A4 o.f4.length c4) ∧ w'.cell? ⟨(adh.add (ei * 7)).block, (adh.add (ei * 7)).off + 5, none⟩ = some (.slice A5 o.f5.length c5) ∧ w'.cell? ⟨(adh.add (ei * 7)).block, (adh.add (ei * 7)).off + 6, none⟩ = some (.slice A6 o.f6.length c6)) (ds := [11]) #[false, false, false, false, false, false, false, false, false, false, false, false] (by kernel_rfl) rfl rfl ⟨hbx, hc2, hwc, g0, g1, g2, g3, g4, g5, g6⟩ (fun hHeld => ?_)
          generalize wr.drew = w10 at HQ hHeld ⊢
          refine pure_ (i := 0) (N := some 33) (v := ?_) (a' := ?_) #[true, false, false, false, false, false, false, false, false, false, false, false] rfl rfl (by kernel_rfl) (fun _ _ _ h => h) (Or.inl ⟨by rfl, ?_⟩) ?_ ?_
          rotate_left
          · intro w'
            go_simp
            with_reducible rfl
          rotate_left
          · simp only [Act.put, List.setIfInBounds_toArray, List.set_cons_zero, List.set_cons_succ, i64_w, i32_w]
            rfl
          refine take_ (i := 1) (N := some 34) (v := ?_) (a' := ?_) #[true, true, false, false, false, false, false, false, false, false, false, false] rfl rfl (by kernel_rfl) (fun _ _ _ h => h) (Or.inl ⟨by rfl, ?_⟩) hHeld ?_ ?_
          rotate_left
          · rintro w' ⟨s0, s1, s2, s3, s4, s5, s6, s7, s8, s9⟩
            go_simp
            with_reducible rfl
          rotate_left
          · simp only [Act.put, List.setIfInBounds_toArray, List.set_cons_zero, List.set_cons_succ, i64_w, i32_w]
            rfl
          refine take_ (i := 2) (N := some 35) (v := ?_) (a' := ?_) #[true, true, true, false, false, false, false, false, false, false, false, false] rfl rfl (by kernel_rfl) (fun _ _ _ h => h) (Or.inl ⟨by rfl, ?_⟩) hHeld ?_ ?_
          rotate_left
          · rintro w' ⟨s0, s1, s2, s3, s4, s5, s6, s7, s8, s9⟩
            go_simp
            with_reducible rfl
          rotate_left
          · simp only [Act.put, List.setIfInBounds_toArray, List.set_cons_zero, List.set_cons_succ, i64_w, i32_w]
            rfl
          refine take_ (i := 3) (N := some 36) (v := ?_) (a' := ?_) #[true, true, true, true, false, false, false, false, false, false, false, false] rfl rfl (by kernel_rfl) (fun _ _ _ h => h) (Or.inl ⟨by rfl, ?_⟩) hHeld ?_ ?_
          rotate_left
          · rintro w' ⟨s0, s1, s2, s3, s4, s5, s6, s7, s8, s9⟩
            go_simp
            with_reducible rfl
          rotate_left
          · simp only [Act.put, List.setIfInBounds_toArray, List.set_cons_zero, List.set_cons_succ, i64_w, i32_w]
            rfl
          refine pure_ (i := 4) (N := some 37) (v := ?_) (a' := ?_) #[true, true, true, true, true, false, false, false, false, false, false, false] rfl rfl (by kernel_rfl) (fun _ _ _ h => h) (Or.inl ⟨by rfl, ?_⟩) ?_ ?_
          rotate_left
          · intro w'
            go_simp
            with_reducible rfl
          rotate_left
          · simp only [Act.put, List.setIfInBounds_toArray, List.set_cons_zero, List.set_cons_succ, i64_w, i32_w]
            rfl
          refine pure_ (i := 5) (N := some 38) (v := ?_) (a' := ?_) #[true, true, true, true, true, true, false, false, false, false, false, false] rfl rfl (by kernel_rfl) (fun _ _ _ h => h) (Or.inl ⟨by rfl, ?_⟩) ?_ ?_
          rotate_left
          · intro w'
            go_simp
            with_reducible rfl
          rotate_left
          · simp only [Act.put, List.setIfInBounds_toArray, List.set_cons_zero, List.set_cons_succ, i64_w, i32_w]
            rfl
          refine pure_ (i := 6) (N := some 39) (v := ?_) (a' := ?_) #[true, true, true, true, true, true, true, false, false, false, false, false] rfl rfl (by kernel_rfl) (fun _ _ _ h => h) (Or.inl ⟨by rfl, ?_⟩) ?_ ?_
          rotate_left
          · intro w'
            go_simp
            with_reducible rfl
          rotate_left
          · simp only [Act.put, List.setIfInBounds_toArray, List.set_cons_zero, List.set_cons_succ, i64_w, i32_w]
            rfl
          refine take_ (i := 7) (N := some 40) (v := ?_) (a' := ?_) #[true, true, true, true, true, true, true, true, false, false, false, false] rfl rfl (by kernel_rfl) (fun _ _ _ h => h) (Or.inl ⟨by rfl, ?_⟩) hHeld ?_ ?_
          rotate_left
          · rintro w' ⟨s0, s1, s2, s3, s4, s5, s6, s7, s8, s9⟩
            go_simp
            with_reducible rfl
          rotate_left
          · simp only [Act.put, List.setIfInBounds_toArray, List.set_cons_zero, List.set_cons_succ, i64_w, i32_w]
            rfl
          refine pure_ (i := 8) (N := some 41) (v := ?_) (a' := ?_) #[true, true, true, true, true, true, true, true, true, false, false, false] rfl rfl (by kernel_rfl) (fun _ _ _ h => h) (Or.inl ⟨by rfl, ?_⟩) ?_ ?_
          rotate_left
          · intro w'
            go_simp
            with_reducible rfl
          rotate_left
          · simp only [Act.put, List.setIfInBounds_toArray, List.set_cons_zero, List.set_cons_succ, i64_w, i32_w]
            rfl
          refine take_ (i := 9) (N := some 42) (v := ?_) (a' := ?_) #[true, true, true, true, true, true, true, true, true, true, false, false] rfl rfl (by kernel_rfl) (fun _ _ _ h => h) (Or.inl ⟨by rfl, ?_⟩) hHeld ?_ ?_
          rotate_left
          · rintro w' ⟨s0, s1, s2, s3, s4, s5, s6, s7, s8, s9⟩
            go_simp
            with_reducible rfl
          rotate_left
          · simp only [Act.put, List.setIfInBounds_toArray, List.set_cons_zero, List.set_cons_succ, i64_w, i32_w]
            rfl
          refine one_ (i := 10) (N := some 10) #[true, true, true, true, true, true, true, true, true, true, true, false] rfl rfl (by kernel_rfl) (by decide) (fun K hK => ?_)
          refine value_ (w1 := ?_) (v := ?_) (by rfl) rfl ?_ ?_
          rotate_left 2
          · go_simp
            constructor
            · rfl
            · rfl
          refine hK.out _ _ ⟨ck (hHeld.1) _, ck (hHeld.2.1) _, ck (hHeld.2.2.1) _, ck (hHeld.2.2.2.1) _, ck (hHeld.2.2.2.2.1) _, ck (hHeld.2.2.2.2.2.1) _, ck (hHeld.2.2.2.2.2.2.1) _, ck (hHeld.2.2.2.2.2.2.2.1) _, ck (hHeld.2.2.2.2.2.2.2.2.1) _, ck (hHeld.2.2.2.2.2.2.2.2.2) _⟩ (fun hHeld => ?_)
          clear hK K
          refine norm_ (a' := ?_) ?_ ?_
          rotate_left
          · show Act.put _ (some 10) _ = _
            simp only [Act.put, List.setIfInBounds_toArray, List.set_cons_zero, List.set_cons_succ, i64_w, i32_w]
            rfl
          refine last_ (i := 11) (N := none) #[true, true, true, true, true, true, true, true, true, true, true, true] rfl rfl (by kernel_rfl) (by decide) (fun K hK => ?_)
          refine skip_ (w1 := ?_) (by rfl) rfl ?_ ?_
          rotate_left
          · go_simp
            rfl
          refine hK.out _ _ ?_
          clear hK K
          refine done_ (by kernel_rfl) ?_
          have HV1 := Aside0.mk (HQ.out.1.alloc (.cells #[.int .i64 o.f0, .string o.f1, .int .i64 o.f2, .slice A3 o.f3.length c3, .slice A4 o.f4.length c4, .slice A5 o.f5.length c5, .slice A6 o.f6.length c6] 46))
          have HV2 := Aside0.mk (HQ.out.1.pop.alloc (.cells #[.int .i64 o.f0, .string o.f1, .int .i64 o.f2, .slice A3 o.f3.length c3, .slice A4 o.f4.length c4, .slice A5 o.f5.length c5, .slice A6 o.f6.length c6] 46))
          have hc2 := (kcl HV1.out.vs.c2 0).trans (show _ = some (.slice (some ⟨gw, 0, none⟩) (nw + 1) cw) from rfl)
          have hf2 := kfz HV1.out.vs.c2 0
          go_wp2_with fail
          have HZ := Aside0.mk (show Vz w _ bs bw gs n cap #[.slice (some adh) n c] (visits (accs o 0) (s, wk0)) (some ⟨gw, 0, none⟩) nw cw w10.heap.size #[.int .i64 o.f0, .string o.f1, .int .i64 o.f2, .slice A3 o.f3.length c3, .slice A4 o.f4.length c4, .slice A5 o.f5.length c5, .slice A6 o.f6.length c6] (w10.heap.size + 1) #[.slice A4 o.f4.length c4, .slice A3 o.f3.length c3, .slice A6 o.f6.length c6] from Vz.start _ HV1.out HQ.out.1)
          have HSL := Aside0.mk (show s.length = n ∧ 2 * s.count false + wk0.length + 1 ≤ gk ∧ gk ≤ 2 * n ∧ n ≤ 1000 from SLF HQ.out.2 HNL.out hn6)
          have HMI := Aside0.mk HQ.out.2.1
          clear HV1 HV2 HQ hnww hnwl hnwu hnc1 hnc2 hnw0 hc2 hf2 hwc
          obtain ⟨b4, hb4⟩ : ∃ b4, b4 = w10.heap.size := ⟨_, rfl⟩
          rw [← hb4] at HZ
          simp only [← hb4]
          clear hb4
          go_loopw [56] (fun i wr => ∃ (k : Nat) (A' : Option Addr) (nw cw : Nat), i = .int .i64 k ∧ k ≤ 3 ∧ Aside0 (Vz w wr bs bw gs n cap #[.slice (some adh) n c] (visits (accs o k) (s, wk0)) A' nw cw b4 #[.int .i64 o.f0, .string o.f1, .int .i64 o.f2, .slice A3 o.f3.length c3, .slice A4 o.f4.length c4, .slice A5 o.f5.length c5, .slice A6 o.f6.length c6] (b4 + 1) #[.slice A4 o.f4.length c4, .slice A3 o.f3.length c3, .slice A6 o.f6.length c6])) (fun i _ => 3 - (intOf i).toNat)
          case atStart => exact ⟨0, _, _, _, rfl, Nat.zero_le _, HZ⟩
          case round =>
            clear HZ
            obtain ⟨k3, A', nw', cw', rfl, hk3, HZ⟩ := hrel
            by_cases hkm3 : k3 < 3
            · obtain ⟨A7, n7, c7, xs, hcell, hr7, hn7, hn100, hin7, hacc⟩ := three (c3 := c3) (c4 := c4) (c6 := c6) HR3.out HR4.out HR6.out HI1.out HL1.out k3 hkm3
              have hq3 := (kcl HZ.out.h2 k3).trans hcell
              clear hcell
              have HR7 := Aside0.mk hr7
              have HN7 := Lib.hid hn7
              have HIN7 := Aside0.mk hin7
              have HACC := Lib.hid hacc
              clear hr7 hn7 hin7 hacc
              have hk30 : (0 : Int) ≤ (k3 : Int) := Int.natCast_nonneg _
              have hk33 : (k3 : Int) < 3 := by go_light; omega
              go_wp2
              go_loopw [62] (fun i wr => ∃ (j : Nat) (A' : Option Addr) (nw cw : Nat), i = .int .i64 j ∧ j ≤ n7 ∧ Aside0 (Vz w wr bs bw gs n cap #[.slice (some adh) n c] (visits (accs o k3 ++ xs.take j) (s, wk0)) A' nw cw b4 #[.int .i64 o.f0, .string o.f1, .int .i64 o.f2, .slice A3 o.f3.length c3, .slice A4 o.f4.length c4, .slice A5 o.f5.length c5, .slice A6 o.f6.length c6] (b4 + 1) #[.slice A4 o.f4.length c4, .slice A3 o.f3.length c3, .slice A6 o.f6.length c6])) (fun i _ => n7 - (intOf i).toNat)
              case atStart => exact ⟨0, _, _, _, rfl, Nat.zero_le _, ⟨by rw [List.take_zero, List.append_nil]; exact HZ.out⟩⟩
              case round =>
                clear HZ hq3
                obtain ⟨j, A', nw', cw', rfl, hj, HZ⟩ := hrel
                by_cases hjm : j < n7
                · have hlr : j < xs.length := by have := HN7.out; go_light; omega
                  obtain ⟨adx, rfl, hx0, hx1, hx2⟩ := at_T35 (Kd.C_below HR7.out (by exact HZ.out.v.bl)) (j : Int) (Int.natCast_nonneg _) (Int.ofNat_lt.2 hjm)
                  have hxk : rd_T35 xs (j : Int) = xs[j] := by unfold rd_T35; simp [List.getD_eq_getElem?_getD, hlr]
                  rw [hxk] at hx0 hx1 hx2
                  simp only [Int.toNat_natCast] at hx0 hx1 hx2
                  have HVS := Aside0.mk (visits_snoc2 (accs o k3) xs j hlr (s, wk0))
                  have HXI := Aside0.mk (HIN7.out xs[j] (List.mem_append_right _ (List.getElem_mem hlr)))
                  generalize xs[j] = x at hx0 hx1 hx2 HVS HXI
                  clear hxk
                  have HLEN := Aside0.mk (wl_len HSL.out _ (inN_take HIN7.out j))
                  go_wp2_with (first | (go_at_call 99; refine ((HZ.out.alloc (.cells #[.int .i64 x.f0, .string x.f1, .int .i64 x.f2] 35)).visit x HXI.out HLEN.out).mono ?_; rintro e w6 ⟨A6, n6, c6, rfl, hv6⟩; have HV6 := Aside0.mk hv6; clear hv6))
                  go_roundw
                  case rel => first | exact ⟨j + 1, A6, n6, c6, by go_num, hjm, ⟨by rw [HVS.out]; exact HV6.out⟩⟩ | ((repeat apply Exists.intro); exact ⟨⟨j + 1, A6, n6, c6, by go_num, hjm, ⟨by rw [HVS.out]; exact HV6.out⟩⟩, rfl⟩)
                  case measure => go_light; simp [intOf]; omega
                · have hjm' : j = n7 := by go_light; omega
                  have HZ9 := Aside0.mk (show Vz w wr bs bw gs n cap #[.slice (some adh) n c] (visits (accs o (k3 + 1)) (s, wk0)) A' nw' cw' b4 #[.int .i64 o.f0, .string o.f1, .int .i64 o.f2, .slice A3 o.f3.length c3, .slice A4 o.f4.length c4, .slice A5 o.f5.length c5, .slice A6 o.f6.length c6] (b4 + 1) #[.slice A4 o.f4.length c4, .slice A3 o.f3.length c3, .slice A6 o.f6.length c6] from by have := HZ.out; rw [List.take_of_length_le (by have := HN7.out; go_light; omega), ← HACC.out] at this; exact this)
                  clear HZ
                  go_wp2
                  go_roundw
                  case rel => exact ⟨k3 + 1, A', nw', cw', by go_num, hkm3, HZ9⟩
                  case measure => go_light; simp [intOf]; omega
            · have hk3' : k3 = 3 := Nat.le_antisymm hk3 (Nat.le_of_not_lt hkm3)
              subst hk3'
              clear hk3 hkm3
              have hm0 := (kcl HZ.out.h4 0).trans (show _ = some (.int .i64 o.f0) from rfl)
              have hm2 := (kcl HZ.out.h4 2).trans (show _ = some (.int .i64 o.f2) from rfl)
              by_cases h6 : o.f0 = 6
              · have HR6' := Lib.hid (refs_6 h6)
                have HLEN := Aside0.mk (wl_len HSL.out _ (acc_in HI1.out))
                have HXI := Aside0.mk (show 0 ≤ o.f2 ∧ o.f2 < n from HI1.out ⟨4, ⟨#[]⟩, o.f2⟩ (by rw [refs_6 h6]; simp) rfl)
                go_wp2_with (first
                  | (go_at_call 85; refine (refTo_w o.f2 _).mono ?_; rintro e7 w7 ⟨rfl, hb7⟩; have HZ7 := Aside0.mk (HZ.out.below hb7); clear hb7)
                  | (go_at_call 99; (refine (HZ7.out.visit ⟨4, ⟨#[]⟩, o.f2⟩ (fun _ => HXI.out) HLEN.out).mono ?_; rintro e8 w8 ⟨A8, n8, c8, rfl, hv8⟩; have HV8 := Aside0.mk hv8; clear hv8)))
                have HL := Aside0.mk (last HMI.out HOL.out HI1.out HNL.out HSL.out)
                go_roundg (2 * (visits (refs o) (s, wk0)).1.count false + (visits (refs o) (s, wk0)).2.length)
                case measure => exact HL.out.1
                case rel => exact ⟨(visits (refs o) (s, wk0)).1, (visits (refs o) (s, wk0)).2, _, _, _, ⟨by rw [HR6'.out, visits_app]; exact HV8.out.v, HL.out.2.1, Nat.le_refl _, HL.out.2.2⟩⟩
              · have HR6' := Lib.hid (refs_n h6)
                go_wp2
                have HL := Aside0.mk (last HMI.out HOL.out HI1.out HNL.out HSL.out)
                go_roundg (2 * (visits (refs o) (s, wk0)).1.count false + (visits (refs o) (s, wk0)).2.length)
                case measure => exact HL.out.1
                case rel => exact ⟨(visits (refs o) (s, wk0)).1, (visits (refs o) (s, wk0)).2, _, _, _, ⟨by rw [HR6'.out]; exact HZ.out.v, HL.out.2.1, Nat.le_refl _, HL.out.2.2⟩⟩
end Go.Proofs.Ytgddblpgbkgpcaa.PR
namespace Go.Proofs.Ytgddblpgbkgpcaa.PR
set_option linter.unusedVariables false
set_option linter.unusedSimpArgs false
open Go.RowKit Go.Proofs.YtgddblpgbkgpcaaW.PrintWords Go.Proofs.YtgddblpgbkgpcaaW.PrintLast Go.Proofs.YtgddblpgbkgpcaaW.PrintMore
def CsOk (cs : List Int) : Prop := cs.length ≤ 4000 ∧ ∀ c ∈ cs, 0 ≤ c ∧ c ≤ 255
theorem rd_cs {cs : List Int} (h : CsOk cs) (i : Int) : 0 ≤ rd cs i ∧ rd cs i ≤ 255 := by
  unfold rd
  rw [List.getD_eq_getElem?_getD]
  rcases Nat.lt_or_ge i.toNat cs.length with hl | hl
  · rw [List.getElem?_eq_getElem hl]; exact h.2 _ (List.getElem_mem hl)
  · rw [List.getElem?_eq_none hl]; simp
theorem w64 {x : Int} (h : -9223372036854775808 ≤ x ∧ x ≤ 9223372036854775807) : wrap64 x = x := by unfold wrap64; omega
theorem xor_nn (a b : Int) (ha : 0 ≤ a) (ha' : a < 1000000000) (hb : 0 ≤ b) (hb' : b < 1000000000) : 0 ≤ Go.bits .xor .i64 a b := by
  obtain ⟨a, rfl⟩ := Int.eq_ofNat_of_zero_le ha
  obtain ⟨b, rfl⟩ := Int.eq_ofNat_of_zero_le hb
  have h1 : a < 2 ^ 30 := by omega
  have h2 : b < 2 ^ 30 := by omega
  have h3 : a ^^^ b < 2 ^ 30 := Nat.xor_lt_two_pow h1 h2
  have e1 : a % 2 ^ IntKind.i64.bits = a := Nat.mod_eq_of_lt (Nat.lt_of_lt_of_le h1 (by decide))
  have e2 : b % 2 ^ IntKind.i64.bits = b := Nat.mod_eq_of_lt (Nat.lt_of_lt_of_le h2 (by decide))
  simp only [bits, BitVec.ofInt_natCast, BitVec.toNat_xor, BitVec.toNat_ofNat, e1, e2]
  rw [IntKind.wrap_i64]
  generalize a ^^^ b = c at h3
  omega
theorem mixv (A B t q : Int) (hA : 0 ≤ A ∧ A ≤ 255) (hB : 0 ≤ B ∧ B ≤ 255) (ht : 0 ≤ t ∧ t ≤ 1000000) (hq : 0 ≤ q ∧ q ≤ 1000000) :
    wrap64 ((wrap64 ((wrap64 ((wrap64 ((wrap64 A) * 131)) + (wrap64 ((wrap64 B) * 1117)))) + (wrap64 (t * 29)))) + (wrap64 ((wrap64 q) * 53))) = A * 131 + B * 1117 + t * 29 + q * 53 := by
  rw [w64 (x := A) (by omega), w64 (x := B) (by omega), w64 (x := q) (by omega), w64 (x := A * 131) (by omega), w64 (x := B * 1117) (by omega), w64 (x := t * 29) (by omega), w64 (x := q * 53) (by omega), w64 (x := A * 131 + B * 1117) (by omega), w64 (x := A * 131 + B * 1117 + t * 29) (by omega), w64 (by omega)]
theorem tmod_nn {a b : Int} (ha : 0 ≤ a) (hb : 0 < b) : 0 ≤ Int.tmod a b ∧ Int.tmod a b < b := by
  rw [Int.tmod_eq_emod_of_nonneg ha]
  exact ⟨Int.emod_nonneg _ (by omega), Int.emod_lt_of_pos _ hb⟩
theorem xr_tmod (v n : Int) (hv : 0 ≤ v ∧ v < 1000000000) (hn : 0 < n) : 0 ≤ Int.tmod (Go.bits .xor .i64 v (wrap64 (Int.tdiv v 64))) n ∧ Int.tmod (Go.bits .xor .i64 v (wrap64 (Int.tdiv v 64))) n < n := by
  refine tmod_nn ?_ hn
  have h1 : Int.tdiv v 64 = v / 64 := Int.tdiv_eq_ediv_of_nonneg hv.1
  rw [h1, w64 (by omega)]
  exact xor_nn _ _ hv.1 hv.2 (by omega) (by omega)
theorem pick_ex {cs : List Int} (t n : Int) (hc : CsOk cs) (h0 : 0 ≤ t) (h1 : t ≤ 1000000) (hn : n ≤ 1000000) : ∃ r t', spec_rnd_pick.f cs t n = some (r, t') ∧ t ≤ t' ∧ t' ≤ t + 1 ∧ 0 ≤ r ∧ (1 ≤ n → r < n) := by
  unfold spec_rnd_pick.f
  by_cases h2 : n < 2
  · rw [if_pos h2]; exact ⟨0, t, rfl, by omega, by omega, by omega, by omega⟩
  rw [if_neg h2]
  have et : wrap64 (t + 1) = t + 1 := w64 (by omega)
  by_cases hl : (cs.length : Int) > 0
  · have b1 := tmod_nn h0 hl
    have b2 := tmod_nn (show 0 ≤ t * 7 + 3 by omega) hl
    have e7 : wrap64 ((wrap64 (t * 7)) + 3) = t * 7 + 3 := by rw [w64 (x := t * 7) (by omega), w64 (by omega)]
    have hA := rd_cs hc (Int.tmod t (cs.length : Int))
    have hB := rd_cs hc (Int.tmod (t * 7 + 3) (cs.length : Int))
    have hq : 0 ≤ Int.tdiv t (cs.length : Int) ∧ Int.tdiv t (cs.length : Int) ≤ 1000000 := by
      rw [Int.tdiv_eq_ediv_of_nonneg h0]
      have h3 := Int.ediv_le_self (cs.length : Int) h0
      have h4 := Int.ediv_nonneg h0 (Int.le_of_lt hl)
      omega
    have hn0 : ¬ n = 0 := by omega
    rw [if_pos hl, if_neg (by omega), if_pos b1.1, if_pos b1.2, e7, if_pos b2.1, if_pos b2.2, mixv _ _ _ _ hA hB ⟨h0, h1⟩ hq, et]
    simp only [if_neg hn0]
    have hX := xr_tmod (rd cs (Int.tmod t (cs.length : Int)) * 131 + rd cs (Int.tmod (t * 7 + 3) (cs.length : Int)) * 1117 + t * 29 + Int.tdiv t (cs.length : Int) * 53) n (by omega) (by omega)
    have hY := tmod_nn (show 0 ≤ wrap64 (rd cs (Int.tmod t (cs.length : Int))) by rw [w64 (by omega)]; omega) (show 0 < n by omega)
    split
    · exact ⟨_, _, rfl, by omega, by omega, hX.1, fun _ => hX.2⟩
    · split
      · exact ⟨_, _, rfl, by omega, by omega, hX.1, fun _ => hX.2⟩
      · exact ⟨_, _, rfl, by omega, by omega, hY.1, fun _ => hY.2⟩
  · rw [if_neg hl, if_neg (by omega : ¬ n = 0), et, Int.zero_emod]
    exact ⟨_, _, rfl, by omega, by omega, by omega, by omega⟩
theorem one_ex {cs : List Int} (t : Int) (l : List Int) (hc : CsOk cs) (h0 : 0 ≤ t) (h1 : t ≤ 1000000) (hl : 0 < l.length) (hl' : l.length ≤ 1000) : ∃ r t', spec_rnd_one.f cs t l = some (r, t') ∧ t ≤ t' ∧ t' ≤ t + 1 ∧ r ∈ l := by
  obtain ⟨i, t', e, a, b, c, d⟩ := pick_ex t (l.length : Int) hc h0 h1 (by omega)
  have hd := d (by omega)
  unfold spec_rnd_one.f
  rw [e]
  simp only [Option.bind_some]
  rw [if_pos c, if_pos hd]
  refine ⟨_, _, rfl, a, b, ?_⟩
  unfold rd
  rw [List.getD_eq_getElem?_getD, List.getElem?_eq_getElem (by omega)]
  exact List.getElem_mem _
theorem of_ex {cs : List Int} (t : Int) (l : List ByteArray) (hc : CsOk cs) (h0 : 0 ≤ t) (h1 : t ≤ 1000000) (hl : 0 < l.length) (hl' : l.length ≤ 1000) : ∃ r t', spec_rnd_of.f cs t l = some (r, t') ∧ t ≤ t' ∧ t' ≤ t + 1 ∧ r ∈ l := by
  obtain ⟨i, t', e, a, b, c, d⟩ := pick_ex t (l.length : Int) hc h0 h1 (by omega)
  have hd := d (by omega)
  unfold spec_rnd_of.f
  rw [e]
  simp only [Option.bind_some]
  rw [if_pos c, if_pos hd]
  refine ⟨_, _, rfl, a, b, ?_⟩
  unfold rdOf
  rw [List.getD_eq_getElem?_getD, List.getElem?_eq_getElem (by omega)]
  exact List.getElem_mem _
theorem odd_ex {cs : List Int} (t : Int) (hc : CsOk cs) (h0 : 0 ≤ t) (h1 : t ≤ 1000000) : ∃ r t', spec_rnd_odd.f cs t = some (r, t') ∧ t ≤ t' ∧ t' ≤ t + 1 ∧ -9223372036854775808 ≤ r ∧ r ≤ 9223372036854775807 := by
  obtain ⟨r, t', e, a, b, c⟩ := one_ex t [(-1), 4611686018427387904, (-4611686018427387904), 1001, 7, 1000001, (-9223372036854775808), 9223372036854775807] hc h0 h1 (by decide) (by decide)
  unfold spec_rnd_odd.f
  rw [e]
  refine ⟨_, _, rfl, a, b, ?_⟩
  simp at c
  omega
theorem often_ex {cs : List Int} (t n : Int) (hc : CsOk cs) (h0 : 0 ≤ t) (h1 : t ≤ 999000) (hn : -9223372036854775808 ≤ n ∧ n ≤ 9223372036854775807) : ∃ r t', spec_rnd_often.f cs t n = some (r, t') ∧ t ≤ t' ∧ t' ≤ t + 2 ∧ -9223372036854775808 ≤ r ∧ r ≤ 9223372036854775807 := by
  obtain ⟨r, t', e, a, b, c, d⟩ := pick_ex t 16 hc h0 (by omega) (by omega)
  unfold spec_rnd_often.f
  rw [e]
  simp only [Option.bind_some]
  split
  · obtain ⟨r2, t2, e2, a2, b2, c2⟩ := odd_ex t' hc (by omega) (by omega)
    rw [e2]
    exact ⟨_, _, rfl, by omega, by omega, c2⟩
  · exact ⟨_, _, rfl, by omega, by omega, hn⟩
theorem dec_all : ∀ i : Fin 105, ((spec_decimal.f 20 ((i.val : Int) - 4)).map fun s => decide (s.size ≤ 5)) = some true := by decide +kernel
theorem dec_ex (x : Int) (h0 : -4 ≤ x) (h1 : x ≤ 100) : ∃ s, spec_decimal.f 20 x = some s ∧ s.size ≤ 5 := by
  have h := dec_all ⟨(x + 4).toNat, by omega⟩
  simp only at h
  rw [show (((x + 4).toNat : Nat) : Int) - 4 = x by omega] at h
  obtain ⟨s, e, hs⟩ := Option.map_eq_some_iff.1 h
  exact ⟨s, e, by simpa using hs⟩
theorem small_ex {cs : List Int} (t : Int) (hc : CsOk cs) (h0 : 0 ≤ t) (h1 : t ≤ 990000) : ∃ s t', spec_rnd_small.f 20 cs t = some (s, t') ∧ t ≤ t' ∧ t' ≤ t + 2 ∧ s.size ≤ 5 := by
  obtain ⟨r, t', e, a, b, c, d⟩ := pick_ex t 100 hc h0 (by omega) (by omega)
  obtain ⟨r2, t2, e2, a2, b2, c2⟩ := one_ex t' [0, 1, 2, 3, 4, 5, 7, 10, r] hc (by omega) (by omega) (by simp) (by simp)
  have hr := d (by omega)
  obtain ⟨s, e3, hs⟩ := dec_ex r2 (by simp at c2; omega) (by simp at c2; omega)
  unfold spec_rnd_small.f
  rw [e]; simp only [Option.bind_some]
  rw [e2]; simp only [Option.bind_some]
  rw [e3]
  exact ⟨_, _, rfl, by omega, by omega, hs⟩
def VOk (x : S35) : Prop := x.f1.size ≤ 5 ∧ -9223372036854775808 ≤ x.f0 ∧ x.f0 ≤ 9223372036854775807 ∧ -9223372036854775808 ≤ x.f2 ∧ x.f2 ≤ 9223372036854775807
end Go.Proofs.Ytgddblpgbkgpcaa.PR
namespace Go.Proofs.Ytgddblpgbkgpcaa.PR
set_option linter.unusedVariables false
set_option linter.unusedSimpArgs false
open Go.RowKit Go.Proofs.YtgddblpgbkgpcaaW.PrintWords Go.Proofs.YtgddblpgbkgpcaaW.PrintLast Go.Proofs.YtgddblpgbkgpcaaW.PrintMore
def Rn (w0 w : World) (g : Nat) (b : Int) : Prop := ∃ cs t, IsS102 w0 w g cs t ∧ CsOk cs ∧ 0 ≤ t ∧ t ≤ b
section
variable {w0 w w1 : World} {g : Nat} {b : Int}
theorem Rn.mono (h : Rn w0 w g b) {b' : Int} (hb : b ≤ b') : Rn w0 w g b' := by
  obtain ⟨cs, t, hI, hc, h0, h1⟩ := h
  exact ⟨cs, t, hI, hc, h0, by omega⟩
theorem Rn.grown (h : Rn w0 w g b) {row : Option Nat} (hg : w.grownBy w1 row) (hne : some g ≠ row) : Rn w0 w1 g b := by
  obtain ⟨cs, t, hI, hc⟩ := h
  exact ⟨cs, t, hI.grown hg hne, hc⟩
theorem Rn.below (h : Rn w0 w g b) (hb : Below w.heap.size w w1) : Rn w0 w1 g b := h.grown (grown_of_below hb none) (by simp)
theorem Rn.alloc (h : Rn w0 w g b) (o : Obj) : Rn w0 (w.alloc o) g b := h.below (bla (Below.refl _ _) o)
theorem Rn.drew (h : Rn w0 w g b) : Rn w0 w.drew g b := h.below (below_drew (Below.refl _ _))
theorem Rn.far (h : Rn w0 w g b) {p : Addr} (hne : g ≠ p.block) (u : Value) : Rn w0 (w.setCell p u) g b := by
  obtain ⟨cs, t, hI, hc⟩ := h
  exact ⟨cs, t, hI.far hne u, hc⟩
theorem Rn.lt (h : Rn w0 w g b) : g < w.heap.size := by
  obtain ⟨cs, t, hI, hc⟩ := h
  exact hI.lt
theorem Rn.ge (h : Rn w0 w g b) : w0.heap.size ≤ g := by
  obtain ⟨cs, t, hI, hc⟩ := h
  exact hI.ge
end
theorem C_ints (W : World) (l : List Int) (hl : l.length ≤ 9223372036854775807) (t : Nat) : Kd.C (Kd.int .i64) (W.alloc (.cells (l.map (Value.int .i64)).toArray t)) (some ⟨W.heap.size, 0, none⟩) l.length l := by
  refine Kd.C_of_reads (d := (0 : Int)) (h1 := fun _ => rfl) ⟨rfl, hl, fun _ => ⟨_, rfl, fun j hj => ?_⟩⟩
  rw [show (⟨W.heap.size, 0, none⟩ : Addr).add j = ⟨W.heap.size, j, none⟩ by unfold Addr.add; split <;> simp_all, kcl (blk_new W _) j]
  simp [hj]
theorem C_strs (W : World) (l : List ByteArray) (hl : l.length ≤ 9223372036854775807) (t : Nat) : Kd.C Kd.string (W.alloc (.cells (l.map Value.string).toArray t)) (some ⟨W.heap.size, 0, none⟩) l.length l := by
  refine Kd.C_of_reads (d := (ByteArray.empty : ByteArray)) (h1 := fun _ => rfl) ⟨rfl, hl, fun _ => ⟨_, rfl, fun j hj => ?_⟩⟩
  rw [show (⟨W.heap.size, 0, none⟩ : Addr).add j = ⟨W.heap.size, j, none⟩ by unfold Addr.add; split <;> simp_all, kcl (blk_new W _) j]
  simp [hj]
theorem pick_w (g : Nat) (n b : Int) (w0 w : World) (hR : Rn w0 w g b) (hB : Below w0.heap.size w0 w) (hb : b ≤ 1000000) (hn : n ≤ 1000000) :
    Calls Try.prog 51 #[.pointer (some ⟨g, 0, none⟩), .int .i64 n] w fun e w' => ∃ r : Int, e = .returned (.int .i64 r) ∧ 0 ≤ r ∧ (1 ≤ n → r < n) ∧ Rn w0 w' g (b + 1) ∧ Below w0.heap.size w0 w' ∧ KeepBut w w' g none := by
  obtain ⟨cs, t, hI, hc, h0, h1⟩ := hR
  obtain ⟨r, t', e, a, b', c, d⟩ := pick_ex t n hc h0 (by omega) hn
  refine (spec_rnd_pick.calls g cs t n r t' w0 w hI hB e).mono ?_
  rintro e w' ⟨rfl, hI', hB', hK⟩
  exact ⟨r, rfl, c, d, ⟨cs, t', hI', hc, by omega, by omega⟩, hB', hK⟩
theorem one_w (g : Nat) (A1 : Option Addr) (c1 : Nat) (l : List Int) (b : Int) (w0 w : World) (hR : Rn w0 w g b) (hB : Below w0.heap.size w0 w) (hb : b ≤ 1000000) (hr : Kd.C (Kd.int .i64) w A1 l.length l) (hc1 : l.length ≤ c1) (hf : ∀ ad, A1 = some ad → 0 < l.length → ad.block ≠ g) (hl : 0 < l.length) (hl' : l.length ≤ 1000) :
    Calls Try.prog 88 #[.pointer (some ⟨g, 0, none⟩), .slice A1 l.length c1] w fun e w' => ∃ r : Int, e = .returned (.int .i64 r) ∧ r ∈ l ∧ Rn w0 w' g (b + 1) ∧ Below w0.heap.size w0 w' ∧ KeepBut w w' g none := by
  obtain ⟨cs, t, hI, hc, h0, h1⟩ := hR
  obtain ⟨r, t', e, a, b', c⟩ := one_ex t l hc h0 (by omega) hl hl'
  refine (spec_rnd_one.calls g cs t A1 c1 l r t' w0 w hI hB hr hc1 hf e).mono ?_
  rintro e w' ⟨rfl, hI', hB', hK⟩
  exact ⟨r, rfl, c, ⟨cs, t', hI', hc, by omega, by omega⟩, hB', hK⟩
theorem of_w (g : Nat) (A1 : Option Addr) (c1 : Nat) (l : List ByteArray) (b : Int) (w0 w : World) (hR : Rn w0 w g b) (hB : Below w0.heap.size w0 w) (hb : b ≤ 1000000) (hr : Kd.C Kd.string w A1 l.length l) (hc1 : l.length ≤ c1) (hf : ∀ ad, A1 = some ad → 0 < l.length → ad.block ≠ g) (hl : 0 < l.length) (hl' : l.length ≤ 1000) :
    Calls Try.prog 90 #[.pointer (some ⟨g, 0, none⟩), .slice A1 l.length c1] w fun e w' => ∃ r : ByteArray, e = .returned (.string r) ∧ r ∈ l ∧ Rn w0 w' g (b + 1) ∧ Below w0.heap.size w0 w' ∧ KeepBut w w' g none := by
  obtain ⟨cs, t, hI, hc, h0, h1⟩ := hR
  obtain ⟨r, t', e, a, b', c⟩ := of_ex t l hc h0 (by omega) hl hl'
  refine (spec_rnd_of.calls g cs t A1 c1 l r t' w0 w hI hB hr hc1 hf e).mono ?_
  rintro e w' ⟨rfl, hI', hB', hK⟩
  exact ⟨r, rfl, c, ⟨cs, t', hI', hc, by omega, by omega⟩, hB', hK⟩
theorem odd_w (g : Nat) (b : Int) (w0 w : World) (hR : Rn w0 w g b) (hB : Below w0.heap.size w0 w) (hb : b ≤ 1000000) :
    Calls Try.prog 92 #[.pointer (some ⟨g, 0, none⟩)] w fun e w' => ∃ r : Int, e = .returned (.int .i64 r) ∧ -9223372036854775808 ≤ r ∧ r ≤ 9223372036854775807 ∧ Rn w0 w' g (b + 1) ∧ Below w0.heap.size w0 w' ∧ KeepBut w w' g none := by
  obtain ⟨cs, t, hI, hc, h0, h1⟩ := hR
  obtain ⟨r, t', e, a, b', c, d⟩ := odd_ex t hc h0 (by omega)
  refine (spec_rnd_odd.calls g cs t r t' w0 w hI hB e).mono ?_
  rintro e w' ⟨rfl, hI', hB', hK⟩
  exact ⟨r, rfl, c, d, ⟨cs, t', hI', hc, by omega, by omega⟩, hB', hK⟩
theorem often_w (g : Nat) (n b : Int) (w0 w : World) (hR : Rn w0 w g b) (hB : Below w0.heap.size w0 w) (hb : b ≤ 999000) (hn : -9223372036854775808 ≤ n ∧ n ≤ 9223372036854775807) :
    Calls Try.prog 93 #[.pointer (some ⟨g, 0, none⟩), .int .i64 n] w fun e w' => ∃ r : Int, e = .returned (.int .i64 r) ∧ -9223372036854775808 ≤ r ∧ r ≤ 9223372036854775807 ∧ Rn w0 w' g (b + 2) ∧ Below w0.heap.size w0 w' ∧ KeepBut w w' g none := by
  obtain ⟨cs, t, hI, hc, h0, h1⟩ := hR
  obtain ⟨r, t', e, a, b', c, d⟩ := often_ex t n hc h0 (by omega) hn
  refine (spec_rnd_often.calls g cs t n r t' w0 w hI hB e).mono ?_
  rintro e w' ⟨rfl, hI', hB', hK⟩
  exact ⟨r, rfl, c, d, ⟨cs, t', hI', hc, by omega, by omega⟩, hB', hK⟩
def nm4 : List ByteArray := [⟨#[97]⟩, ⟨#[98]⟩, ⟨#[99]⟩, ⟨#[116, 101, 120, 116]⟩]
def oB (o : S46) : Bool := decide (o.f1.size ≤ 100) && decide (o.f3.length ≤ 40) && decide (o.f4.length ≤ 40) && decide (o.f5.length ≤ 40) && decide (o.f6.length ≤ 40) &&
  o.f3.all (fun x => decide (x.f1.size ≤ 5)) && o.f4.all (fun x => decide (x.f1.size ≤ 5)) && o.f6.all (fun x => decide (x.f1.size ≤ 5)) && o.f5.all (fun s => nm4.any fun y => y.toList == s.toList)
def kB (o : S46) : Bool := o.f0 == 5 || o.f0 == 10
end Go.Proofs.Ytgddblpgbkgpcaa.PR
namespace Go.Proofs.Ytgddblpgbkgpcaa.PR
set_option linter.unusedVariables false
set_option linter.unusedSimpArgs false
open Go.RowKit Go.Proofs.YtgddblpgbkgpcaaW.PrintWords Go.Proofs.YtgddblpgbkgpcaaW.PrintLast Go.Proofs.YtgddblpgbkgpcaaW.PrintMore
set_option linter.unusedVariables false
set_option linter.unusedSimpArgs false
def tV (x : S35) : B.V := ⟨x.f0, x.f1, x.f2⟩
def tO (o : S46) : B.O := ⟨o.f0, o.f1, o.f2, o.f3.map tV, o.f4.map tV, o.f5, o.f6.map tV⟩
theorem rd35 {xs : List S35} {i : Nat} (h : i < xs.length) : rd_T35 xs (i : Int) = xs[i] := by unfold rd_T35; simp [List.getD_eq_getElem?_getD, h]
theorem rd46 {xs : List S46} {i : Nat} (h : i < xs.length) : rd_T46 xs (i : Int) = xs[i] := by unfold rd_T46; simp [List.getD_eq_getElem?_getD, h]
theorem rv_of {w : World} {A : Option Addr} {n : Nat} {xs : List S35} (h : Kd.C k35 w A n xs) (hs : ∀ x ∈ xs, x.f1.size ≤ 100) (hl : xs.length ≤ 1000) : B.RV w A (xs.map tV) := by
  have hn : xs.length = n := h.1
  refine ⟨by simp; omega, fun h0 => ?_⟩
  simp only [List.length_map] at h0
  obtain ⟨ad, rfl, _⟩ := at_T35 h 0 (by omega) (by omega)
  refine ⟨ad, rfl, fun i hi => ?_⟩
  simp only [List.length_map] at hi
  obtain ⟨ad', e, g0, g1, g2⟩ := at_T35 h (i : Int) (by omega) (by omega)
  injection e with e
  subst e
  rw [rd35 hi] at g0 g1 g2
  simp only [Int.toNat_natCast] at g0 g1 g2
  rw [List.getElem_map]
  exact ⟨g0, g1, g2, by have := hs _ (List.getElem_mem hi); simp only [tV]; omega⟩
theorem rs_of {w : World} {A : Option Addr} {n : Nat} {xs : List ByteArray} (h : Kd.C Kd.string w A n xs) (hl : xs.length ≤ 1000) : B.RS w A xs := by
  have hn : xs.length = n := h.1
  refine ⟨by omega, fun h0 => ?_⟩
  obtain ⟨ad, c, e, _⟩ := Kd.C_get h (⟨#[]⟩ : ByteArray) 0 (by omega) (by omega)
  refine ⟨ad, e, fun i hi => ?_⟩
  obtain ⟨ad', c', e', _, hK, hc⟩ := Kd.C_get h (⟨#[]⟩ : ByteArray) (i : Int) (by omega) (by omega)
  rw [e] at e'
  injection e' with e'
  subst e'
  have hK' : c' = [.string (xs.getD (i : Int).toNat (⟨#[]⟩ : ByteArray))] := hK
  subst hK'
  have := hc 0 _ rfl
  rw [show (xs.getD (i : Int).toNat (⟨#[]⟩ : ByteArray)) = xs[i] by simp [List.getD_eq_getElem?_getD, hi]] at this
  simpa [show (Kd.string).sz = 1 from rfl] using this
theorem oB_facts {o : S46} (h : oB o = true) : o.f1.size ≤ 100 ∧ o.f3.length ≤ 40 ∧ o.f4.length ≤ 40 ∧ o.f5.length ≤ 40 ∧ o.f6.length ≤ 40 ∧ (∀ x ∈ o.f3, x.f1.size ≤ 5) ∧ (∀ x ∈ o.f4, x.f1.size ≤ 5) ∧ (∀ x ∈ o.f6, x.f1.size ≤ 5) ∧ ∀ s ∈ o.f5, s ∈ nm4 := by
  unfold oB at h
  simp only [Bool.and_eq_true, decide_eq_true_eq, List.all_eq_true, List.any_eq_true, beq_iff_eq] at h
  obtain ⟨⟨⟨⟨⟨⟨⟨⟨a1, a2⟩, a3⟩, a4⟩, a5⟩, a6⟩, a7⟩, a8⟩, a9⟩ := h
  refine ⟨a1, a2, a3, a4, a5, a6, a7, a8, fun s hs => ?_⟩
  obtain ⟨y, hy, e⟩ := a9 s hs
  have : y = s := by
    cases y; cases s
    simpa [ByteArray.toList_eq] using e
  exact this ▸ hy
theorem nm4_small : ∀ s ∈ nm4, s.size ≤ 100 := by decide +kernel
theorem ro_of {w : World} {A : Option Addr} {n : Nat} {l : List S46} (h : Kd.C k46 w A n l) (hs : ∀ o ∈ l, oB o = true) (hl : l.length ≤ 1000) : B.RO w A (l.map tO) := by
  have hn : l.length = n := h.1
  refine ⟨by simp; omega, fun h0 => ?_⟩
  simp only [List.length_map] at h0
  obtain ⟨ad, _, _, _, _, _, _, _, _, rfl, _⟩ := at_T46 h 0 (by omega) (by omega)
  refine ⟨ad, rfl, fun i hi => ?_⟩
  simp only [List.length_map] at hi
  obtain ⟨ad', A3, c3, A4, c4, A5, c5, A6, c6, e, g0, g1, g2, g3, g4, g5, g6, l3, r3, l4, r4, l5, r5, l6, r6⟩ := at_T46 h (i : Int) (by omega) (by omega)
  injection e with e
  subst e
  rw [rd46 hi] at g0 g1 g2 g3 g4 g5 g6 l3 r3 l4 r4 l5 r5 l6 r6
  simp only [Int.toNat_natCast] at g0 g1 g2 g3 g4 g5 g6
  obtain ⟨a1, a2, a3, a4, a5, a6, a7, a8, a9⟩ := oB_facts (hs _ (List.getElem_mem hi))
  have q5 := rs_of r5 (by omega)
  rw [List.getElem_map]
  refine ⟨A3, c3, A4, c4, A5, c5, A6, c6, g0, g1, g2, ?_, ?_, g5, ?_, ?_, rv_of r3 (fun x hx => Nat.le_trans (a6 x hx) (by decide)) (by omega), ?_, rv_of r4 (fun x hx => Nat.le_trans (a7 x hx) (by decide)) (by omega), l5, q5, ?_, rv_of r6 (fun x hx => Nat.le_trans (a8 x hx) (by decide)) (by omega), ?_, fun s hs => ?_⟩
  · simpa [tO] using g3
  · simpa [tO] using g4
  · simpa [tO] using g6
  · simpa [tO] using l3
  · simpa [tO] using l4
  · simpa [tO] using l6
  · simp only [tO]; omega
  · have := nm4_small s (a9 s hs); omega
theorem names_ok : ∀ s ∈ nm4, B.nameB s = true := by decide +kernel
theorem allN_congr {p q : Nat → Bool} : ∀ (n : Nat), (∀ k, k < n → p k = q k) → B.allN p n = B.allN q n
  | 0, _ => rfl
  | n + 1, h => by rw [B.allN, B.allN, allN_congr n fun k hk => h k (by omega), h n (by omega)]
theorem ns_qs {ns : List ByteArray} (h : ∀ s ∈ ns, s ∈ nm4) : B.qS ns = B.nsOk ns := by
  unfold B.qS B.nsOk
  refine allN_congr _ fun k hk => ?_
  have : ns.getD k ⟨#[]⟩ ∈ nm4 := h _ (by simp [List.getD_eq_getElem?_getD, hk])
  rw [names_ok _ this, Bool.true_and]
theorem obj_same {o : S46} (n : Nat) (h : oB o = true) : B.objB B.qS n (tO o) = B.objB B.nsOk n (tO o) := by
  unfold B.objB
  rw [ns_qs (ns := (tO o).ns) (oB_facts h).2.2.2.2.2.2.2.2]
theorem all_same {l : List S46} (h : ∀ o ∈ l, oB o = true) (n : Nat) : (l.map tO).all (B.objB B.qS n) = (l.map tO).all (B.objB B.nsOk n) := by
  induction l with
  | nil => rfl
  | cons o l ih =>
    simp only [List.map_cons, List.all_cons]
    rw [obj_same n (h o (by simp)), ih fun o ho => h o (by simp [ho])]
end Go.Proofs.Ytgddblpgbkgpcaa.PR
namespace Go.Proofs.Ytgddblpgbkgpcaa.PR
set_option linter.unusedVariables false
set_option linter.unusedSimpArgs false
open Go.RowKit Go.Proofs.YtgddblpgbkgpcaaW.PrintWords Go.Proofs.YtgddblpgbkgpcaaW.PrintLast Go.Proofs.YtgddblpgbkgpcaaW.PrintMore
set_option linter.unusedVariables false
set_option linter.unusedSimpArgs false
def nums : List S35 → List Int
  | [] => []
  | x :: xs => if x.f0 = 4 then x.f2 :: nums xs else nums xs
theorem nums_app (xs ys : List S35) : nums (xs ++ ys) = nums xs ++ nums ys := by
  induction xs with
  | nil => rfl
  | cons x xs ih => by_cases h : x.f0 = 4 <;> simp [nums, h, ih]
theorem nums_len (xs : List S35) : (nums xs).length ≤ xs.length := by
  induction xs with
  | nil => simp [nums]
  | cons x xs ih => by_cases h : x.f0 = 4 <;> simp [nums, h] <;> omega
theorem nums_mem {xs : List S35} {e : Int} : e ∈ nums xs ↔ ∃ x ∈ xs, x.f0 = 4 ∧ x.f2 = e := by
  induction xs with
  | nil => simp [nums]
  | cons x xs ih =>
    by_cases h : x.f0 = 4
    · simp [nums, h, ih, eq_comm]
    · simp [nums, h, ih]
theorem w64n {n : Nat} (h : n ≤ 100000) : wrap64 ((n : Int) + 1) = ((n + 1 : Nat) : Int) := by unfold wrap64; omega
theorem rdT {xs : List S35} {j : Nat} (h : j < xs.length) : rd_T35 xs (j : Int) = xs[j] := by unfold rd_T35; simp [List.getD_eq_getElem?_getD, h]
theorem refsOf_l1 {x4 : List (List S35)} {i : Nat} (hi : i < x4.length) (a : Int) (b : ByteArray) (c : Int) (d3 d4 : List S35) (d5 : List ByteArray) (d6 : List S35) (k : Nat) (hi9 : i ≤ 1000) :
    ∀ (d j : Nat) (x3 : List Int), x4[i].length = j + d → x4[i].length ≤ 1000 → x3.length + d ≤ 10000 → spec_refsOf.l1 (k + d + 1) x3 x4 i j a b c d3 d4 d5 d6 = spec_refsOf.l0 k (x3 ++ nums (x4[i].drop j)) x4 ((i + 1 : Nat) : Int) a b c d3 d4 d5 d6
  | 0, j, x3, h, hx, h3 => by
    have e : rd_L3 x4 (i : Int) = x4[i] := by unfold rd_L3; simp [List.getD_eq_getElem?_getD, hi]
    rw [spec_refsOf.l1, e, if_pos (by omega), if_pos (by omega), if_neg (by omega), w64n (by omega), List.drop_eq_nil_of_le (by omega)]
    simp [nums]
  | d + 1, j, x3, h, hx, h3 => by
    have e : rd_L3 x4 (i : Int) = x4[i] := by unfold rd_L3; simp [List.getD_eq_getElem?_getD, hi]
    have hj : j < x4[i].length := by omega
    rw [spec_refsOf.l1, e, if_pos (by omega), if_pos (by omega), if_pos (by omega), if_pos (by omega), rdT hj, w64n (by omega), List.drop_eq_getElem_cons hj]
    by_cases h4 : x4[i][j].f0 = 4
    · rw [if_pos h4, if_pos (by omega), show k + (d + 1) = k + d + 1 by omega, refsOf_l1 hi a b c d3 d4 d5 d6 k hi9 d (j + 1) _ (by omega) hx (by simp; omega)]
      simp [nums, h4]
    · rw [if_neg h4, show k + (d + 1) = k + d + 1 by omega, refsOf_l1 hi a b c d3 d4 d5 d6 k hi9 d (j + 1) _ (by omega) hx (by omega)]
      simp [nums, h4]
theorem refsOf_f {o : S46} (h3 : o.f3.length ≤ 100) (h4 : o.f4.length ≤ 100) (h6 : o.f6.length ≤ 100) (k : Nat) :
    spec_refsOf.f (k + 1 + (o.f6.length + 1) + 1 + (o.f3.length + 1) + 1 + (o.f4.length + 1) + 1) o.f0 o.f1 o.f2 o.f3 o.f4 o.f5 o.f6 = some (nums (refs o)) := by
  have n3 := nums_len o.f3
  have n4 := nums_len o.f4
  have n6 := nums_len o.f6
  unfold spec_refsOf.f
  rw [spec_refsOf.l0, if_pos (by simp)]
  rw [← Nat.add_assoc, show (0 : Int) = ((0 : Nat) : Int) from rfl, refsOf_l1 (by simp) _ _ _ _ _ _ _ _ (by omega) o.f4.length 0 _ (by simp) (by simp; omega) (by simp; omega)]
  rw [spec_refsOf.l0, if_pos (by simp)]
  rw [← Nat.add_assoc, show (0 : Int) = ((0 : Nat) : Int) from rfl, refsOf_l1 (by simp) _ _ _ _ _ _ _ _ (by omega) o.f3.length 0 _ (by simp) (by simp; omega) (by simp; omega)]
  rw [spec_refsOf.l0, if_pos (by simp)]
  rw [← Nat.add_assoc, show (0 : Int) = ((0 : Nat) : Int) from rfl, refsOf_l1 (by simp) _ _ _ _ _ _ _ _ (by omega) o.f6.length 0 _ (by simp) (by simp; omega) (by simp; omega)]
  rw [spec_refsOf.l0, if_neg (by simp)]
  by_cases h : o.f0 = 6
  · rw [if_pos h, if_pos (by simp; omega)]
    simp [refs, h, nums_app, nums]
  · rw [if_neg h]
    simp [refs, h, nums_app, nums]
end Go.Proofs.Ytgddblpgbkgpcaa.PR
namespace Go.Proofs.Ytgddblpgbkgpcaa.PR
set_option linter.unusedVariables false
set_option linter.unusedSimpArgs false
open Go.RowKit Go.Proofs.YtgddblpgbkgpcaaW.PrintWords Go.Proofs.YtgddblpgbkgpcaaW.PrintLast Go.Proofs.YtgddblpgbkgpcaaW.PrintMore
set_option linter.unusedVariables false
set_option linter.unusedSimpArgs false
theorem refsOf_ge {o : S46} (h3 : o.f3.length ≤ 100) (h4 : o.f4.length ≤ 100) (h6 : o.f6.length ≤ 100) (K : Nat) (hK : 400 ≤ K) : spec_refsOf.f K o.f0 o.f1 o.f2 o.f3 o.f4 o.f5 o.f6 = some (nums (refs o)) := by
  have := refsOf_f h3 h4 h6 (K - (o.f6.length + o.f3.length + o.f4.length + 7))
  rw [show K - (o.f6.length + o.f3.length + o.f4.length + 7) + 1 + (o.f6.length + 1) + 1 + (o.f3.length + 1) + 1 + (o.f4.length + 1) + 1 = K by omega] at this
  exact this
theorem refs_len {o : S46} (h3 : o.f3.length ≤ 100) (h4 : o.f4.length ≤ 100) (h6 : o.f6.length ≤ 100) : (nums (refs o)).length ≤ 301 := by
  refine Nat.le_trans (nums_len _) ?_
  unfold refs
  split <;> simp <;> omega
structure BI (l : List S46) (roots : List S35) (s : List Bool) (todo : List Int) (j : Nat) : Prop where
  len : s.length = l.length
  jle : j ≤ todo.length
  tl : todo.length + 400 * s.count false ≤ 90000
  t : ∀ e ∈ todo, 0 ≤ e ∧ e < l.length ∧ Rc l roots e.toNat
  a : ∀ i : Nat, s[i]? = some true → Rc l roots i
  c : ∀ (i : Nat) (o : S46), s[i]? = some true → l[i]? = some o → ∀ x ∈ refs o, x.f0 = 4 → x.f2 ∈ todo
  d : ∀ x ∈ roots, x.f0 = 4 → x.f2 ∈ todo
  p : ∀ (q : Nat) (e : Int), q < j → todo[q]? = some e → s[e.toNat]? = some true
theorem BI.end_ {l : List S46} {roots : List S35} {s : List Bool} {todo : List Int} (h : BI l roots s todo todo.length) (i : Nat) : s[i]? = some true ↔ Rc l roots i := by
  have hs : ∀ e ∈ todo, s[e.toNat]? = some true := fun e he => by
    obtain ⟨q, hq, rfl⟩ := List.getElem_of_mem he
    exact h.p q _ hq (by simp [hq])
  refine ⟨h.a i, fun hr => ?_⟩
  induction hr with
  | root x hx h4 => exact hs _ (h.d x hx h4)
  | step i o x _ ho hx h4 ih => exact hs _ (h.c i o ih ho x hx h4)
theorem rdI {xs : List Int} {j : Nat} (h : j < xs.length) : rd xs (j : Int) = xs[j] := by unfold rd; simp [List.getD_eq_getElem?_getD, h]
theorem reached_l1 {l : List S46} {roots : List S35} (hl : ∀ o ∈ l, o.f3.length ≤ 100 ∧ o.f4.length ≤ 100 ∧ o.f6.length ≤ 100) (hin : ∀ o ∈ l, inN l.length (refs o)) :
    ∀ (D : Nat) (s : List Bool) (todo : List Int) (j K : Nat), BI l roots s todo j → 400 * s.count false + (todo.length - j) ≤ D → D + 500 ≤ K →
      ∃ s' : List Bool, spec_reached.l1 K s todo (j : Int) l = some s' ∧ s'.length = l.length ∧ ∀ i : Nat, s'[i]? = some true ↔ Rc l roots i := by
  intro D
  induction D with
  | zero =>
    intro s todo j K h hD hK
    obtain ⟨k, rfl⟩ : ∃ k, K = k + 1 := ⟨K - 1, by omega⟩
    have hj : j = todo.length := by have := h.jle; omega
    subst hj
    exact ⟨s, by rw [spec_reached.l1, if_neg (by omega)], h.len, h.end_⟩
  | succ D ih =>
    intro s todo j K h hD hK
    obtain ⟨k, rfl⟩ : ∃ k, K = k + 1 := ⟨K - 1, by omega⟩
    by_cases hj : j < todo.length
    · obtain ⟨e0, e1, eR⟩ := h.t _ (List.getElem_mem hj)
      have htl := h.tl
      have hlen := h.len
      rw [spec_reached.l1, rdI hj, if_pos (by omega), if_pos (by omega), if_pos e0, if_pos (by omega), w64n (by omega)]
      generalize he : todo[j] = e at e0 e1 eR ⊢
      have hel : e.toNat < s.length := by omega
      have hat := rdOf_at hel
      by_cases hs : rdOf false s e = true
      · rw [if_pos hs]
        rw [hs] at hat
        refine ih s todo (j + 1) k ⟨h.len, hj, h.tl, h.t, h.a, h.c, h.d, fun q e' hq hqe => ?_⟩ (by omega) (by omega)
        by_cases hq' : q < j
        · exact h.p q e' hq' hqe
        · have : q = j := by omega
          subst this
          rw [List.getElem?_eq_getElem hj, he] at hqe
          injection hqe with hqe
          rw [← hqe]; exact hat
      · have hsf : rdOf false s e = false := by simpa using hs
        rw [if_neg hs, if_pos e1]
        rw [hsf] at hat
        have hel2 : e.toNat < l.length := by omega
        have hro : rd_T46 l e = l[e.toNat] := by unfold rd_T46; simp [List.getD_eq_getElem?_getD, hel2]
        have hol := hl _ (List.getElem_mem hel2)
        have hio := hin _ (List.getElem_mem hel2)
        rw [hro, refsOf_ge hol.1 hol.2.1 hol.2.2 k (by omega)]
        have hrl := refs_len hol.1 hol.2.1 hol.2.2
        have hcs := count_set s e.toNat hat
        simp only [Option.bind_some]
        rw [if_pos (by omega)]
        have hset : ∀ i : Nat, (s.set e.toNat true)[i]? = some true ↔ (i = e.toNat ∨ s[i]? = some true) := fun i => by
          rw [List.getElem?_set]
          by_cases hi : e.toNat = i
          · subst hi; simp [hel]
          · simp [hi, Ne.symm hi]
        refine ih (s.set e.toNat true) (todo ++ nums (refs l[e.toNat])) (j + 1) k ⟨by simp [h.len], by simp; omega, by simp; omega, fun e' he' => ?_, fun i hi => ?_, fun i o hi ho x hx h4 => ?_, fun x hx h4 => List.mem_append_left _ (h.d x hx h4), fun q e' hq hqe => ?_⟩ (by simp; omega) (by omega)
        · rcases List.mem_append.1 he' with he' | he'
          · exact h.t e' he'
          · obtain ⟨x, hx, h4, rfl⟩ := nums_mem.1 he'
            obtain ⟨b0, b1⟩ := hio x hx h4
            exact ⟨b0, b1, .step e.toNat _ x eR (by simp [hel2]) hx h4⟩
        · rcases (hset i).1 hi with rfl | hi
          · exact eR
          · exact h.a i hi
        · rcases (hset i).1 hi with rfl | hi
          · rw [List.getElem?_eq_getElem hel2] at ho
            injection ho with ho
            subst ho
            exact List.mem_append_right _ (nums_mem.2 ⟨x, hx, h4, rfl⟩)
          · exact List.mem_append_left _ (h.c i o hi ho x hx h4)
        · rw [hset]
          by_cases hq' : q < j
          · rw [List.getElem?_append_left (by omega)] at hqe
            exact .inr (h.p q e' hq' hqe)
          · have : q = j := by omega
            subst this
            rw [List.getElem?_append_left hj, List.getElem?_eq_getElem hj, he] at hqe
            injection hqe with hqe
            exact .inl (by rw [← hqe])
    · have hj' : j = todo.length := by have := h.jle; omega
      subst hj'
      exact ⟨s, by rw [spec_reached.l1, if_neg (by omega)], h.len, h.end_⟩
theorem reached_l0 {x1 : List S35} {x5 : List Bool} {l : List S46} (hx : x1.length ≤ 1000) (K : Nat) :
    ∀ (d j : Nat) (x6 : List Int), x1.length = j + d → x6.length + d ≤ 10000 → spec_reached.l0 (K + d + 1) x1 x5 x6 j l = spec_reached.l1 K x5 (x6 ++ nums (x1.drop j)) 0 l
  | 0, j, x6, h, h6 => by
    rw [spec_reached.l0, if_neg (by omega), List.drop_eq_nil_of_le (by omega)]
    simp [nums]
  | d + 1, j, x6, h, h6 => by
    have hj : j < x1.length := by omega
    rw [spec_reached.l0, if_pos (by omega), if_pos (by omega), rdT hj, w64n (by omega), List.drop_eq_getElem_cons hj]
    by_cases h4 : x1[j].f0 = 4
    · rw [if_pos h4, if_pos (by omega), show K + (d + 1) = K + d + 1 by omega, reached_l0 hx K d (j + 1) _ (by omega) (by simp; omega)]
      simp [nums, h4]
    · rw [if_neg h4, show K + (d + 1) = K + d + 1 by omega, reached_l0 hx K d (j + 1) _ (by omega) (by omega)]
      simp [nums, h4]
theorem reached_f {l : List S46} {roots : List S35} (hn : l.length ≤ 200) (hr : roots.length ≤ 1000) (hl : ∀ o ∈ l, o.f3.length ≤ 100 ∧ o.f4.length ≤ 100 ∧ o.f6.length ≤ 100) (hin : ∀ o ∈ l, inN l.length (refs o)) (hri : inN l.length roots) :
    ∃ (K : Nat) (s : List Bool), spec_reached.f K l roots = some s ∧ s.length = l.length ∧ ∀ i : Nat, s[i]? = some true ↔ Rc l roots i := by
  have hc : (List.replicate l.length false).count false = l.length := by simp
  have hnl := nums_len roots
  have h0 : ∀ i : Nat, (List.replicate l.length false)[i]? ≠ some true := by
    intro i e
    rw [List.getElem?_replicate] at e
    split at e <;> simp at e
  obtain ⟨s, h1, h2, h3⟩ := reached_l1 (roots := roots) hl hin 100000 (List.replicate l.length false) (nums roots) 0 100500 ⟨by simp, by omega, by rw [hc]; omega, fun e he => by
      obtain ⟨x, hx, h4, rfl⟩ := nums_mem.1 he
      obtain ⟨b0, b1⟩ := hri x hx h4
      exact ⟨b0, b1, .root x hx h4⟩, fun i hi => absurd hi (h0 i), fun i o hi => absurd hi (h0 i), fun x hx h4 => nums_mem.2 ⟨x, hx, h4, rfl⟩, fun q e hq => by omega⟩ (by rw [hc]; omega) (by omega)
  refine ⟨100500 + roots.length + 1, s, ?_, h2, h3⟩
  unfold spec_reached.f
  rw [if_pos (by omega), if_pos (by omega), show (0 : Int) = ((0 : Nat) : Int) from rfl, Int.toNat_natCast, reached_l0 hr 100500 roots.length 0 _ (by omega) (by simp; omega)]
  simpa using h1
end Go.Proofs.Ytgddblpgbkgpcaa.PR
namespace Go.Proofs.Ytgddblpgbkgpcaa.PR
set_option linter.unusedVariables false
set_option linter.unusedSimpArgs false
open Go.RowKit Go.Proofs.YtgddblpgbkgpcaaW.PrintWords Go.Proofs.YtgddblpgbkgpcaaW.PrintLast Go.Proofs.YtgddblpgbkgpcaaW.PrintMore
set_option linter.unusedVariables false
set_option linter.unusedSimpArgs false
theorem val_in {n : Nat} {x : S35} (h : B.valOk n (tV x) = true) : x.f0 = 4 → 0 ≤ x.f2 ∧ x.f2 < n := by
  intro h4
  unfold B.valOk at h
  simp [tV, h4, B.inR] at h
  omega
theorem vals_in {n : Nat} {xs : List S35} (h : (xs.map tV).all (B.valOk n) = true) : inN n xs := by
  intro x hx
  rw [List.all_eq_true] at h
  exact val_in (h _ (List.mem_map_of_mem hx))
theorem obj_in {n : Nat} {o : S46} (h : B.objB B.nsOk n (tO o) = true) : inN n (refs o) := by
  unfold B.objB at h
  simp only [Bool.and_eq_true] at h
  obtain ⟨⟨⟨hh, _⟩, _⟩, ht⟩ := h
  unfold B.headB at hh
  simp only [Bool.and_eq_true] at hh
  obtain ⟨⟨⟨⟨⟨⟨⟨⟨_, h1⟩, h2⟩, h3⟩, _⟩, _⟩, _⟩, _⟩, hp⟩ := hh
  have i1 := vals_in h1
  have i2 := vals_in h2
  have i3 := vals_in h3
  intro x hx h4
  unfold refs at hx
  simp only [List.mem_append] at hx
  rcases hx with hx | hx | hx | hx
  · exact i2 x hx h4
  · exact i1 x hx h4
  · exact i3 x hx h4
  · by_cases h6 : o.f0 = 6
    · rw [if_pos h6, List.mem_singleton] at hx
      subst hx
      unfold B.tailB at ht
      simp [tO, h6] at ht
      simp [B.inR, tO] at hp
      exact ⟨of_decide_eq_true hp.1, by first | exact ht.2 | exact of_decide_eq_true ht.2⟩
    · rw [if_neg h6] at hx
      simp at hx
def okB (l : List S46) (roots : List S35) : Bool := decide (l.length ≤ 600) && (l.map tO).all (B.objB B.nsOk l.length) && (roots.map tV).all (B.valOk l.length)
theorem okB_in {l : List S46} {roots : List S35} (h : okB l roots = true) : (∀ o ∈ l, inN l.length (refs o)) ∧ inN l.length roots := by
  unfold okB at h
  simp only [Bool.and_eq_true] at h
  obtain ⟨⟨_, h1⟩, h2⟩ := h
  rw [List.all_eq_true] at h1
  exact ⟨fun o ho => obj_in (h1 _ (List.mem_map_of_mem ho)), vals_in h2⟩
def idx (s : List Bool) : Nat → List Int
  | 0 => []
  | k + 1 => if s[k]? = some true then idx s k ++ [(k : Int)] else idx s k
theorem idx_mem {s : List Bool} {e : Int} : ∀ {k : Nat}, e ∈ idx s k ↔ ∃ q : Nat, q < k ∧ s[q]? = some true ∧ (q : Int) = e
  | 0 => by simp [idx]
  | k + 1 => by
    unfold idx
    have hstep : (∃ q : Nat, q < k + 1 ∧ s[q]? = some true ∧ (q : Int) = e) ↔ ((∃ q : Nat, q < k ∧ s[q]? = some true ∧ (q : Int) = e) ∨ (s[k]? = some true ∧ (k : Int) = e)) := by
      constructor
      · rintro ⟨q, hq, h⟩
        by_cases h' : q < k
        · exact .inl ⟨q, h', h⟩
        · have : q = k := by omega
          subst this
          exact .inr h
      · rintro (⟨q, hq, h⟩ | h)
        · exact ⟨q, by omega, h⟩
        · exact ⟨k, by omega, h⟩
    rw [hstep]
    split
    · rename_i h
      rw [List.mem_append, idx_mem, List.mem_singleton]
      simp [h, eq_comm]
    · rename_i h
      rw [idx_mem]
      simp [h]
theorem idx_len (s : List Bool) : ∀ k, (idx s k).length ≤ k
  | 0 => by simp [idx]
  | k + 1 => by
    unfold idx
    have := idx_len s k
    split <;> simp <;> omega
theorem same_s {s s' : List Bool} (hl : s.length = s'.length) (h : ∀ i : Nat, s[i]? = some true ↔ s'[i]? = some true) : s = s' := by
  refine List.ext_getElem? fun i => ?_
  have hi := h i
  by_cases hlt : i < s.length
  · have hlt' : i < s'.length := by omega
    rw [List.getElem?_eq_getElem hlt, List.getElem?_eq_getElem hlt'] at hi ⊢
    cases ha : s[i] <;> cases hb : s'[i] <;> simp_all
  · rw [List.getElem?_eq_none (by omega), List.getElem?_eq_none (by omega)]
end Go.Proofs.Ytgddblpgbkgpcaa.PR
namespace Go.Proofs.Ytgddblpgbkgpcaa.PR
set_option linter.unusedVariables false
set_option linter.unusedSimpArgs false
open Go.RowKit Go.Proofs.YtgddblpgbkgpcaaW.PrintWords Go.Proofs.YtgddblpgbkgpcaaW.PrintLast Go.Proofs.YtgddblpgbkgpcaaW.PrintMore
set_option linter.unusedVariables false
set_option linter.unusedSimpArgs false
def okH (l : List S46) : Bool := decide (l.length ≤ 600) && (l.map tO).all (B.objB B.nsOk l.length)
def okV (n : Nat) (roots : List S35) : Bool := (roots.map tV).all (B.valOk n)
theorem okB_eq (l : List S46) (roots : List S35) : okB l roots = (okH l && okV l.length roots) := rfl
theorem heapOk_k {A : Option Addr} {n : Nat} (c : Nat) {l : List S46} {w : World} (hC : Kd.C k46 w A n l) (ob : ∀ o ∈ l, oB o = true) (hl : l.length ≤ 1000) :
    Calls Try.prog 30 #[.agg #[.slice A n c]] w fun e w' => e = .returned (.bool (okH l)) ∧ Below w.heap.size w w' := by
  have h := B.heapOk_ok A c (l.map tO) w (ro_of hC ob hl)
  rw [List.length_map, hC.1] at h
  rw [show okH l = (decide (n ≤ 600) && (l.map tO).all (B.objB B.nsOk n)) by unfold okH; rw [hC.1]]
  exact h
theorem validHeap_k {A : Option Addr} {n : Nat} (c : Nat) {l : List S46} {w : World} (hC : Kd.C k46 w A n l) (ob : ∀ o ∈ l, oB o = true) (hl : l.length ≤ 1000) :
    Calls Try.prog 55 #[.agg #[.slice A n c]] w fun e w' => e = .returned (.bool (okH l)) ∧ Below w.heap.size w w' := by
  have h := B.validHeap_ok A c (l.map tO) w (ro_of hC ob hl)
  rw [List.length_map, hC.1, all_same ob, Bool.and_comm] at h
  rw [show okH l = (decide (n ≤ 600) && (l.map tO).all (B.objB B.nsOk n)) by unfold okH; rw [hC.1]]
  exact h
theorem valuesOk_k {A : Option Addr} {n : Nat} (c : Nat) (hn : n ≤ 1000) {A1 : Option Addr} {m : Nat} (c1 : Nat) {roots : List S35} {w : World} (hR : Kd.C k35 w A1 m roots) (hs : ∀ x ∈ roots, x.f1.size ≤ 100) (hm : roots.length ≤ 1000) :
    Calls Try.prog 53 #[.agg #[.slice A n c], .slice A1 m c1] w fun e w' => e = .returned (.bool (okV n roots)) ∧ Below w.heap.size w w' := by
  have h := B.valuesOk_n A n c (by omega) A1 c1 (roots.map tV) m (by rw [List.length_map, hR.1]) w (rv_of hR hs hm)
  exact h
theorem validValues_k {n : Nat} (hn : n ≤ 1000) {A1 : Option Addr} {m : Nat} (c1 : Nat) {roots : List S35} {w : World} (hR : Kd.C k35 w A1 m roots) (hs : ∀ x ∈ roots, x.f1.size ≤ 100) (hm : roots.length ≤ 60) :
    Calls Try.prog 56 #[.slice A1 m c1, .int .i64 n] w fun e w' => e = .returned (.bool (okV n roots)) ∧ Below w.heap.size w w' := by
  have h := B.vVo n (by omega) A1 c1 (roots.map tV) w (rv_of hR hs (by omega))
  rw [List.length_map, hR.1, decide_eq_true (by rw [← hR.1]; exact hm), Bool.and_true] at h
  exact h
end Go.Proofs.Ytgddblpgbkgpcaa.PR
namespace Go.Proofs.Ytgddblpgbkgpcaa.PR
set_option linter.unusedVariables false
set_option linter.unusedSimpArgs false
open Go.RowKit Go.Proofs.YtgddblpgbkgpcaaW.PrintWords Go.Proofs.YtgddblpgbkgpcaaW.PrintLast Go.Proofs.YtgddblpgbkgpcaaW.PrintMore
set_option linter.unusedVariables false
set_option linter.unusedSimpArgs false
def IPost (w : World) (out : List Int) (e : Ending) (w' : World) : Prop :=
  ∃ v : Value, e = .returned v ∧ (Kd.int .i64).R 3 w' w.heap.size (fun _ => True) v out ∧ Below w.heap.size w w'
set_option maxRecDepth 100000 in
set_option maxHeartbeats 40000000 in
theorem implReach_w (A : Option Addr) (n c : Nat) (A1 : Option Addr) (m c1 : Nat) (l : List S46) (roots : List S35) (s : List Bool) (w : World) (hC : Kd.C k46 w A n l) (hR : Kd.C k35 w A1 m roots) (hn0 : 0 < n) (hn6 : n ≤ 200) (ob : ∀ o ∈ l, oB o = true) (hs : ∀ x ∈ roots, x.f1.size ≤ 100) (hm : m ≤ 60) (hsl : s.length = n) (hst : okB l roots = true → ∀ i : Nat, s[i]? = some true ↔ Rc l roots i) (out : List Int) (ho1 : okB l roots = true → out = idx s n) (ho0 : okB l roots = false → out = []) :
    Calls Try.prog 16 #[.agg #[.slice A n c], .slice A1 m c1] w (IPost w out) := by
  have hnl : l.length = n := hC.1
  have hml : roots.length = m := hR.1
  have HB0 := Aside0.mk (fun (w1 : World) (hb : Below w.heap.size w w1) => heapOk_k c (Kd.C_below hC hb) ob (by omega))
  have HB1 := Aside0.mk (fun (w1 : World) (hb : Below w.heap.size w w1) => valuesOk_k (A := A) c (show n ≤ 1000 by omega) c1 (Kd.C_below hR hb) hs (by omega))
  have HC := Aside0.mk hC
  have HR := Aside0.mk hR
  have HNL := Lib.hid hnl
  have HML := Lib.hid hml
  have HOB := Aside0.mk ob
  have HST := Aside0.mk hst
  have HSL := Lib.hid hsl
  have hm6 : ¬ (60 : Int) < (m : Int) := by omega
  have HO1 := Aside0.mk ho1
  have HO0 := Aside0.mk ho0
  clear hC hR hnl hml ob hs hst hsl ho1 ho0
  go_enter Try.func16, Try.ntmps16
  have hb1 : Below w.heap.size w (w.alloc (.cells #[.slice A n c] 25)) := (Below.refl _ _).alloc (Nat.le_refl _) _
  cases h1 : okH l
  · have HE := Lib.hid (HO0.out (by rw [okB_eq, h1]; rfl))
    go_wp2_with (first
      | (go_at_call 30; refine (HB0.out _ hb1).mono ?_; rintro e w1 ⟨rfl, hb⟩; have hbx := (kcl (kbw (blk_new w (.cells #[.slice A n c] 25)) hb) 0).trans (show _ = some (Value.slice A n c) from rfl); have HB2 := Aside0.mk (bth hb1 hb1.size hb); clear hb))
    all_goals
      go_ret
      exact ⟨.slice none 0 0, rfl, by rw [HE.out]; exact Kd.R_nil _ _ _ _ _, HB2.out⟩
  · cases h2 : okV n roots
    · have HE := Lib.hid (HO0.out (by rw [okB_eq, h1, HNL.out, h2]; rfl))
      go_wp2_with (first
        | (go_at_call 30; refine (HB0.out _ hb1).mono ?_; rintro e w1 ⟨rfl, hb⟩; have hbx := (kcl (kbw (blk_new w (.cells #[.slice A n c] 25)) hb) 0).trans (show _ = some (Value.slice A n c) from rfl); have HB2 := Aside0.mk (bth hb1 hb1.size hb); clear hb)
        | (go_at_call 53; refine (HB1.out _ HB2.out).mono ?_; rintro e w2 ⟨rfl, hb⟩; have hbx2 := (B.cell_keep hb hbx); have HB3 := Aside0.mk (bth HB2.out HB2.out.size hb); clear hb))
      all_goals
        go_ret
        exact ⟨.slice none 0 0, rfl, by rw [HE.out]; exact Kd.R_nil _ _ _ _ _, HB3.out⟩
    · have hok : okB l roots = true := by rw [okB_eq, h1, HNL.out, h2]; rfl
      have HI := okB_in hok
      have HOI := HO1.out hok
      have HW := Aside0.mk (fun (w1 : World) (hb : Below w.heap.size w w1) => reach_ok A n c A1 m c1 l roots w1 (Kd.C_below HC.out hb) (Kd.C_below HR.out hb) hn0 (by omega) (by have := HI.1; rw [HNL.out] at this; exact this) (fun o ho => by have := oB_facts (HOB.out o ho); omega) (by have := HI.2; rw [HNL.out] at this; exact this) (by omega))
      have HSS := Aside0.mk (HST.out hok)
      have HOUT := Lib.hid HOI
      clear HI HOI hok
      go_wp2_with (first
        | (go_at_call 30; refine (HB0.out _ hb1).mono ?_; rintro e w1 ⟨rfl, hb⟩; have hbx := (kcl (kbw (blk_new w (.cells #[.slice A n c] 25)) hb) 0).trans (show _ = some (Value.slice A n c) from rfl); have HB2 := Aside0.mk (bth hb1 hb1.size hb); clear hb)
        | (go_at_call 53; (refine (HB1.out _ HB2.out).mono ?_; rintro e w2 ⟨rfl, hb⟩; have hbx2 := (B.cell_keep hb hbx); have HB3 := Aside0.mk (bth HB2.out HB2.out.size hb); clear hb))
        | (go_at_call 54; (refine (HW.out _ HB3.out).mono ?_; rintro e w3 ⟨v3, s3, rfl, hr3, hl3, ht3, hb3⟩; have e3 : s = s3 := (same_s (by rw [hl3, HNL.out, HSL.out]) (fun i => (ht3 i).trans (HSS.out i).symm)).symm; subst e3; obtain ⟨g3, cap3, rfl, hg30, hg31, _⟩ := Kd.R_form hr3 (by have := HSL.out; omega); rw [HSL.out] at hr3 ⊢; have HB4 := Aside0.mk (bth HB3.out HB3.out.size hb3); have HR3 := Aside0.mk hr3; clear hr3 hl3 ht3 hb3)))
      have HRS := Aside0.mk (Kd.R_lower HR3.out HB3.out.size)
      clear HR3
      go_loopg [5, 26] n (fun kq u5 u26 wr => ∃ (k : Nat) (A5 : Option Addr) (n5 c5 : Nat), u26 = .int .i64 k ∧ u5 = .slice A5 n5 c5 ∧ k ≤ n ∧ kq = n - k ∧ Aside0 ((Kd.int .i64).R 3 wr w.heap.size (fun _ => True) (.slice A5 n5 c5) (idx s k) ∧ Below w.heap.size w wr ∧ Kd.bool.R 4 wr w.heap.size (fun _ => True) (.slice (some ⟨g3, 0, none⟩) n cap3) s))
      case atStart => exact ⟨0, none, 0, 0, rfl, rfl, Nat.zero_le _, rfl, ⟨Kd.R_nil _ _ _ _ _, HB4.out, HRS.out⟩⟩
      case round =>
        clear HRS HB4
        obtain ⟨k, A5, n5, c5, rfl, rfl, hk, rfl, HQ⟩ := hrel
        by_cases hkn : k < n
        · have hbc := (Kd.R_celln false HQ.out.2.2 (k : Int) (by omega) (by omega)).1
          rw [show (k : Int).toNat = k from rfl] at hbc
          have hsk : s[k]? = some (rdOf false s (k : Int)) := rdOf_at (s := s) (i := (k : Int)) (by have := HSL.out; simp; omega)
          cases hbk : rdOf false s (k : Int)
          · rw [hbk] at hbc hsk
            have HI := Lib.hid (show idx s (k + 1) = idx s k by rw [idx, hsk]; rfl)
            clear hsk hbk
            go_wp2
            go_roundg (n - (k + 1))
            case measure => omega
            case rel => exact ⟨k + 1, A5, n5, c5, by go_num, rfl, by omega, rfl, ⟨by rw [HI.out]; exact HQ.out.1, HQ.out.2.1, HQ.out.2.2⟩⟩
          · rw [hbk] at hbc hsk
            have HI := Lib.hid (show idx s (k + 1) = idx s k ++ [(k : Int)] by rw [idx, hsk]; rfl)
            clear hsk hbk
            go_wp2_with (first | ((with_reducible refine gate_builtin (b := .append) (xs := #[.tmp 32, .tmp 34]) rfl ?_); at_builtin; refine Kd.R_append (Kd.int .i64) (w0 := _) w.heap.size rfl (.tmp 32) (.tmp 34) 29 3 (.int .i64 0) 8 rfl Try.underlying29 info3 rfl (by decide) (by omega) (.slice A5 n5 c5) (idx s k) (k : Int) [.int .i64 (k : Int)] (fun _ => True) (fun _ => False) rfl (by rfl) rfl (fun _ hk => hk.elim) (fun _ _ => trivial) HQ.out.1 (Below.refl _ _) (by have := HQ.out.2.1.size; omega) (by have := idx_len s k; omega) ?_; intro v1 w6 ho hb6 hg hat; obtain ⟨A6, c6, rfl⟩ := Kd.R_slice ho; obtain ⟨n6, hn6⟩ : ∃ n6, n6 = (idx s k ++ [(k : Int)]).length := ⟨_, rfl⟩; rw [← hn6] at ho hat ⊢; have HR6 := Aside0.mk ho; have HB6 := Aside0.mk (HQ.out.2.1.trans hb6); have HS6 := Aside0.mk (Kd.R_over' HQ.out.2.2 (Kd.R_typed HQ.out.1) (by decide) hg); clear hn6 ho hg hat hb6))
            go_roundg (n - (k + 1))
            case measure => omega
            case rel => exact ⟨k + 1, A6, n6, c6, by go_num, rfl, by omega, rfl, ⟨by rw [HI.out]; exact HR6.out, HB6.out, HS6.out⟩⟩
        · have HKN := Lib.hid (show k = n by omega)
          go_wp2
          go_ret
          exact ⟨_, rfl, by rw [HOUT.out, ← HKN.out]; exact HQ.out.1, HQ.out.2.1⟩
end Go.Proofs.Ytgddblpgbkgpcaa.PR
namespace Go.Proofs.Ytgddblpgbkgpcaa.PR
set_option linter.unusedVariables false
set_option linter.unusedSimpArgs false
open Go.RowKit Go.Proofs.YtgddblpgbkgpcaaW.PrintWords Go.Proofs.YtgddblpgbkgpcaaW.PrintLast Go.Proofs.YtgddblpgbkgpcaaW.PrintMore
set_option linter.unusedVariables false
set_option linter.unusedSimpArgs false
def VPost1 (w0 w : World) (g : Nat) (b : Int) (e : Ending) (w' : World) : Prop := ∃ x : S35, e = .returned (.agg #[.int .i64 x.f0, .string x.f1, .int .i64 x.f2]) ∧ VOk x ∧ Rn w0 w' g b ∧ Below w0.heap.size w0 w' ∧ KeepBut w w' g none
structure Vd (w0 w wi : World) (g : Nat) (b : Int) : Prop where
  rn : Rn w0 wi g b
  bl : Below w0.heap.size w0 wi
  kp : KeepBut w wi g none
  c : wi.heap[w.heap.size]? = some (.cells #[.int .i64 0, .string ⟨#[]⟩, .int .i64 0] 35 (0, 0))
  gw : g < w.heap.size
section
variable {w0 w wi w1 : World} {g : Nat} {b b' : Int}
theorem Vd.call (h : Vd w0 w wi g b) (hR : Rn w0 w1 g b') (hB : Below w0.heap.size w0 w1) (hK : KeepBut wi w1 g none) : Vd w0 w w1 g b' := by
  have := h.gw
  exact ⟨hR, hB, h.kp.trans hK (.inl rfl), hK.blk h.c (by omega) (by simp), h.gw⟩
theorem Vd.below (h : Vd w0 w wi g b) (hb : Below wi.heap.size wi w1) : Vd w0 w w1 g b := h.call (h.rn.below hb) (bst h.bl hb) (KeepBut.of_below hb g none)
theorem Vd.fin (h : Vd w0 w wi g b) (hb : b ≤ b') {x : S35} (hx : VOk x) :
    (((wi.setCell ⟨w.heap.size, 0, none⟩ (.int .i64 x.f0)).setCell ⟨w.heap.size, 1, none⟩ (.string x.f1)).setCell ⟨w.heap.size, 2, none⟩ (.int .i64 x.f2)).heap[w.heap.size]? = some (.cells #[.int .i64 x.f0, .string x.f1, .int .i64 x.f2] 35 (0, 0)) ∧
    VPost1 w0 w g b' (.returned (.agg #[.int .i64 x.f0, .string x.f1, .int .i64 x.f2])) (((wi.setCell ⟨w.heap.size, 0, none⟩ (.int .i64 x.f0)).setCell ⟨w.heap.size, 1, none⟩ (.string x.f1)).setCell ⟨w.heap.size, 2, none⟩ (.int .i64 x.f2)) := by
  have h1 := h.gw
  have h2 := h.rn.ge
  have e0 : (wi.setCell ⟨w.heap.size, 0, none⟩ (.int .i64 x.f0)).heap[w.heap.size]? = some (.cells #[.int .i64 x.f0, .string ⟨#[]⟩, .int .i64 0] 35 (0, 0)) := blk_put h.c 0 _ rfl
  have e1 : ((wi.setCell ⟨w.heap.size, 0, none⟩ (.int .i64 x.f0)).setCell ⟨w.heap.size, 1, none⟩ (.string x.f1)).heap[w.heap.size]? = some (.cells #[.int .i64 x.f0, .string x.f1, .int .i64 0] 35 (0, 0)) := blk_put e0 1 _ rfl
  exact ⟨blk_put e1 2 _ rfl, x, rfl, hx, (((h.rn.mono hb).far (by simp; omega) _).far (by simp; omega) _).far (by simp; omega) _, ((h.bl.setCell (by simp; omega) _).setCell (by simp; omega) _).setCell (by simp; omega) _, keep_far (keep_far (keep_far h.kp (by simp) _) (by simp) _) (by simp) _⟩
end
theorem boolVal_w (a : Bool) (w : World) : Calls Try.prog 94 #[.bool a] w fun e w' => ∃ x : S35, e = .returned (.agg #[.int .i64 x.f0, .string x.f1, .int .i64 x.f2]) ∧ VOk x ∧ Below w.heap.size w w' := by
  cases a
  · refine (spec_boolVal.calls false _ _ _ w (by unfold spec_boolVal.f; rfl)).mono ?_
    rintro e w' ⟨rfl, hb⟩
    exact ⟨⟨_, _, _⟩, rfl, ⟨by decide, by decide, by decide, by decide, by decide⟩, hb⟩
  · refine (spec_boolVal.calls true _ _ _ w (by unfold spec_boolVal.f; rfl)).mono ?_
    rintro e w' ⟨rfl, hb⟩
    exact ⟨⟨_, _, _⟩, rfl, ⟨by decide, by decide, by decide, by decide, by decide⟩, hb⟩
theorem intVal_w (s : ByteArray) (w : World) (hs : s.size ≤ 5) : Calls Try.prog 95 #[.string s] w fun e w' => ∃ x : S35, e = .returned (.agg #[.int .i64 x.f0, .string x.f1, .int .i64 x.f2]) ∧ VOk x ∧ Below w.heap.size w w' := by
  refine (spec_intVal.calls s _ _ _ w rfl).mono ?_
  rintro e w' ⟨rfl, hb⟩
  exact ⟨⟨_, _, _⟩, rfl, ⟨hs, by simp, by simp, by simp, by simp⟩, hb⟩
theorem textVal_w (s : ByteArray) (w : World) (hs : s.size ≤ 5) : Calls Try.prog 97 #[.string s] w fun e w' => ∃ x : S35, e = .returned (.agg #[.int .i64 x.f0, .string x.f1, .int .i64 x.f2]) ∧ VOk x ∧ Below w.heap.size w w' := by
  refine (spec_textVal.calls s _ _ _ w rfl).mono ?_
  rintro e w' ⟨rfl, hb⟩
  exact ⟨⟨_, _, _⟩, rfl, ⟨hs, by simp, by simp, by simp, by simp⟩, hb⟩
theorem refT_w (a : Int) (w : World) (ha : 0 ≤ a ∧ a ≤ 1000000) : Calls Try.prog 59 #[.int .i64 a] w fun e w' => ∃ x : S35, e = .returned (.agg #[.int .i64 x.f0, .string x.f1, .int .i64 x.f2]) ∧ VOk x ∧ Below w.heap.size w w' := by
  refine (spec_refTo.calls a _ _ _ w rfl).mono ?_
  rintro e w' ⟨rfl, hb⟩
  exact ⟨⟨_, _, _⟩, rfl, ⟨show (⟨#[]⟩ : ByteArray).size ≤ 5 by decide, by simp, by simp, by simp; omega, by simp; omega⟩, hb⟩
theorem decimal_w (a : Int) (w : World) (h0 : -4 ≤ a) (h1 : a ≤ 100) : Calls Try.prog 96 #[.int .i64 a] w fun e w' => ∃ s : ByteArray, e = .returned (.string s) ∧ s.size ≤ 5 ∧ Below w.heap.size w w' := by
  obtain ⟨s, hf, hs⟩ := dec_ex a h0 h1
  refine (spec_decimal.calls 20 a s w hf).mono ?_
  rintro e w' ⟨rfl, hb⟩
  exact ⟨s, rfl, hs, hb⟩
theorem small_w (g : Nat) (b : Int) (w0 w : World) (hR : Rn w0 w g b) (hB : Below w0.heap.size w0 w) (hb : b ≤ 990000) : Calls Try.prog 98 #[.pointer (some ⟨g, 0, none⟩)] w fun e w' => ∃ s : ByteArray, e = .returned (.string s) ∧ s.size ≤ 5 ∧ Rn w0 w' g (b + 2) ∧ Below w0.heap.size w0 w' ∧ KeepBut w w' g none := by
  obtain ⟨cs, t, hI, hc, h0, h1⟩ := hR
  obtain ⟨s, t', e, a, b', hs⟩ := small_ex t hc h0 (by omega)
  refine (spec_rnd_small.calls 20 g cs t s t' w0 w hI hB e).mono ?_
  rintro e w' ⟨rfl, hI', hB', hK⟩
  exact ⟨s, rfl, hs, ⟨cs, t', hI', hc, by omega, by omega⟩, hB', hK⟩
set_option maxRecDepth 100000 in
set_option maxHeartbeats 40000000 in
theorem value_w (g : Nat) (n b : Int) (w0 w : World) (hR : Rn w0 w g b) (hB : Below w0.heap.size w0 w) (hb : b ≤ 980000) (hn : 0 ≤ n) (hn' : n ≤ 100000) :
    Calls Try.prog 52 #[.pointer (some ⟨g, 0, none⟩), .int .i64 n] w (VPost1 w0 w g (b + 10)) := by
  have HV := Aside0.mk (show Vd w0 w (w.alloc (.cells #[.int .i64 0, .string ⟨#[]⟩, .int .i64 0] 35)) g b from ⟨hR.alloc _, bla hB _, KeepBut.of_below (bla (Below.refl _ _) _) g none, blk_new _ _, hR.lt⟩)
  clear hR hB
  go_enter Try.func52, Try.ntmps52
  go_wp2_with fail
  refine (pick_w g 7 b w0 _ (HV.out.rn.mono (by omega)) HV.out.bl (by omega) (by omega)).mono ?_
  rintro e y ⟨p, rfl, p0, p1, hR, hB, hK⟩
  replace HV := Aside0.mk (HV.out.call hR hB hK)
  clear hR hB hK
  replace p1 := p1 (by decide)
  by_cases h0 : p = 0
  · subst h0
    have hx : VOk ⟨0, ⟨#[]⟩, 0⟩ := ⟨by decide, by decide, by decide, by decide, by decide⟩
    have c0 := (kcl HV.out.c 0).trans (show _ = some (.int .i64 0) from rfl)
    have c1 := (kcl HV.out.c 1).trans (show _ = some (.string ⟨#[]⟩) from rfl)
    have c2 := (kcl HV.out.c 2).trans (show _ = some (.int .i64 0) from rfl)
    have f0 := kfz HV.out.c 0
    have f1 := kfz HV.out.c 1
    have f2 := kfz HV.out.c 2
    go_wp2_with fail
    obtain ⟨o1, o2⟩ := HV.out.fin (b' := b + 10) (by omega) hx
    refine bodyPost_ret (v := .agg #[.int .i64 0, .string ⟨#[]⟩, .int .i64 0]) (B.res_c rfl _ _ w.heap.size 35 _ (0, 0) _ rfl o1 Try.underlying35 rfl rfl) rfl o2
  by_cases h1 : p = 1
  · subst h1
    clear h0
    go_wp2_with fail
    refine (pick_w g 2 (b + 1) w0 _ (HV.out.rn.mono (by omega)) HV.out.bl (by omega) (by omega)).mono ?_
    rintro e y ⟨r, rfl, r0, r1, hR, hB, hK⟩
    replace HV := Aside0.mk (HV.out.call hR hB hK)
    clear hR hB hK
    go_wp2_with fail
    refine (boolVal_w _ _).mono ?_
    rintro e y ⟨x, rfl, hx, hb⟩
    replace HV := Aside0.mk (HV.out.below hb)
    clear hb
    have c0 := (kcl HV.out.c 0).trans (show _ = some (.int .i64 0) from rfl)
    have c1 := (kcl HV.out.c 1).trans (show _ = some (.string ⟨#[]⟩) from rfl)
    have c2 := (kcl HV.out.c 2).trans (show _ = some (.int .i64 0) from rfl)
    have f0 := kfz HV.out.c 0
    have f1 := kfz HV.out.c 1
    have f2 := kfz HV.out.c 2
    go_wp2_with fail
    obtain ⟨o1, o2⟩ := HV.out.fin (b' := b + 10) (by omega) hx
    refine bodyPost_ret (v := .agg #[.int .i64 x.f0, .string x.f1, .int .i64 x.f2]) (B.res_c rfl _ _ w.heap.size 35 _ (0, 0) _ rfl o1 Try.underlying35 rfl rfl) rfl o2
  by_cases h2 : p = 2
  · subst h2
    clear h0 h1
    go_wp2_with fail
    refine (pick_w g 9 (b + 1) w0 _ (HV.out.rn.mono (by omega)) HV.out.bl (by omega) (by omega)).mono ?_
    rintro e y ⟨r, rfl, r0, r1, hR, hB, hK⟩
    replace HV := Aside0.mk (HV.out.call hR hB hK)
    clear hR hB hK
    replace r1 := r1 (by decide)
    have e4 : wrap64 (r - 4) = r - 4 := by unfold wrap64; omega
    go_wp2_with fail
    refine (decimal_w (r - 4) _ (by omega) (by omega)).mono ?_
    rintro e y ⟨t, rfl, ht, hb⟩
    replace HV := Aside0.mk (HV.out.below hb)
    clear hb
    go_wp2_with fail
    refine (intVal_w t _ ht).mono ?_
    rintro e y ⟨x, rfl, hx, hb⟩
    replace HV := Aside0.mk (HV.out.below hb)
    clear hb
    have c0 := (kcl HV.out.c 0).trans (show _ = some (.int .i64 0) from rfl)
    have c1 := (kcl HV.out.c 1).trans (show _ = some (.string ⟨#[]⟩) from rfl)
    have c2 := (kcl HV.out.c 2).trans (show _ = some (.int .i64 0) from rfl)
    have f0 := kfz HV.out.c 0
    have f1 := kfz HV.out.c 1
    have f2 := kfz HV.out.c 2
    go_wp2_with fail
    obtain ⟨o1, o2⟩ := HV.out.fin (b' := b + 10) (by omega) hx
    refine bodyPost_ret (v := .agg #[.int .i64 x.f0, .string x.f1, .int .i64 x.f2]) (B.res_c rfl _ _ w.heap.size 35 _ (0, 0) _ rfl o1 Try.underlying35 rfl rfl) rfl o2
  by_cases h3 : p = 3
  · subst h3
    clear h0 h1 h2
    have HS := Aside0.mk (fun (W : World) => C_strs W [⟨#[]⟩, ⟨#[97]⟩, ⟨#[97, 98]⟩, ⟨#[98, 39]⟩] (by decide) 9)
    go_wp2_with fail
    have hgi := HV.out.rn.lt
    refine (of_w g _ 4 [⟨#[]⟩, ⟨#[97]⟩, ⟨#[97, 98]⟩, ⟨#[98, 39]⟩] (b + 1) w0 _ (HV.out.rn.alloc _) (bla HV.out.bl _) (by omega) (HS.out _) (by decide) (by intro ad e _; injection e with e; subst e; simp; omega) (by decide) (by decide)).mono ?_
    rintro e y2 ⟨t, rfl, ht, hR, hB, hK⟩
    replace HV := Aside0.mk ((HV.out.below (bla (Below.refl _ _) _)).call hR hB hK)
    have ht5 : t.size ≤ 5 := by simp at ht; rcases ht with rfl | rfl | rfl | rfl <;> decide
    clear hR hB hK hgi ht
    go_wp2_with fail
    refine (textVal_w t _ ht5).mono ?_
    rintro e y ⟨x, rfl, hx, hb⟩
    replace HV := Aside0.mk (HV.out.below hb)
    clear hb
    have c0 := (kcl HV.out.c 0).trans (show _ = some (.int .i64 0) from rfl)
    have c1 := (kcl HV.out.c 1).trans (show _ = some (.string ⟨#[]⟩) from rfl)
    have c2 := (kcl HV.out.c 2).trans (show _ = some (.int .i64 0) from rfl)
    have f0 := kfz HV.out.c 0
    have f1 := kfz HV.out.c 1
    have f2 := kfz HV.out.c 2
    go_wp2_with fail
    obtain ⟨o1, o2⟩ := HV.out.fin (b' := b + 10) (by omega) hx
    refine bodyPost_ret (v := .agg #[.int .i64 x.f0, .string x.f1, .int .i64 x.f2]) (B.res_c rfl _ _ w.heap.size 35 _ (0, 0) _ rfl o1 Try.underlying35 rfl rfl) rfl o2
  have g0 : (p == 0) = false := by simpa using h0
  have g1 : (p == 1) = false := by simpa using h1
  have g2 : (p == 2) = false := by simpa using h2
  have g3 : (p == 3) = false := by simpa using h3
  clear h0 h1 h2 h3
  by_cases h4 : p = 4
  · have g4 : (p == 4) = true := by simp [h4]
    go_wp2_with fail
    refine (pick_w g 12 (b + 1) w0 _ (HV.out.rn.mono (by omega)) HV.out.bl (by omega) (by omega)).mono ?_
    rintro e y ⟨r, rfl, r0, r1, hR, hB, hK⟩
    replace HV := Aside0.mk (HV.out.call hR hB hK)
    clear hR hB hK
    by_cases hr : r = 0
    · have gr : (r == 0) = true := by simp [hr]
      clear hr h4
      go_wp2_with fail
      refine (pick_w g 6 (b + 2) w0 _ (HV.out.rn.mono (by omega)) HV.out.bl (by omega) (by omega)).mono ?_
      rintro e y ⟨u, rfl, u0, u1, hR, hB, hK⟩
      replace HV := Aside0.mk (HV.out.call hR hB hK)
      clear hR hB hK
      replace u1 := u1 (by decide)
      go_wp2_with fail
      refine (often_w g u (b + 3) w0 _ (HV.out.rn.mono (by omega)) HV.out.bl (by omega) (by omega)).mono ?_
      rintro e y ⟨v, rfl, v0, v1, hR, hB, hK⟩
      replace HV := Aside0.mk (HV.out.call hR hB hK)
      clear hR hB hK
      have HS := Aside0.mk (fun (W : World) => C_strs W [⟨#[]⟩, ⟨#[48, 49]⟩] (by decide) 9)
      go_wp2_with fail
      have hgi := HV.out.rn.lt
      refine (of_w g _ 2 [⟨#[]⟩, ⟨#[48, 49]⟩] (b + 5) w0 _ ((HV.out.rn.mono (by omega)).alloc _) (bla HV.out.bl _) (by omega) (HS.out _) (by decide) (by intro ad e _; injection e with e; subst e; simp; omega) (by decide) (by decide)).mono ?_
      rintro e y2 ⟨t, rfl, ht, hR, hB, hK⟩
      replace HV := Aside0.mk ((HV.out.below (bla (Below.refl _ _) _)).call hR hB hK)
      have ht5 : t.size ≤ 5 := by simp at ht; rcases ht with rfl | rfl <;> decide
      clear hR hB hK hgi ht
      go_wp2_with fail
      refine (odd_w g (b + 6) w0 _ (HV.out.rn.mono (by omega)) HV.out.bl (by omega)).mono ?_
      rintro e y ⟨o, rfl, o0, o1, hR, hB, hK⟩
      replace HV := Aside0.mk (HV.out.call hR hB hK)
      clear hR hB hK
      have hx : VOk ⟨v, t, o⟩ := ⟨ht5, v0, v1, o0, o1⟩
      have c0 := (kcl HV.out.c 0).trans (show _ = some (.int .i64 0) from rfl)
      have c1 := (kcl HV.out.c 1).trans (show _ = some (.string ⟨#[]⟩) from rfl)
      have c2 := (kcl HV.out.c 2).trans (show _ = some (.int .i64 0) from rfl)
      have f0 := kfz HV.out.c 0
      have f1 := kfz HV.out.c 1
      have f2 := kfz HV.out.c 2
      go_wp2_with fail
      obtain ⟨o1, o2⟩ := HV.out.fin (b' := b + 10) (by omega) hx
      refine bodyPost_ret (v := .agg #[.int .i64 v, .string t, .int .i64 o]) (B.res_c rfl _ _ w.heap.size 35 _ (0, 0) _ rfl o1 Try.underlying35 rfl rfl) rfl o2
    · have gr : (r == 0) = false := by simpa using hr
      clear hr h4
      by_cases hn0 : n = 0
      · have gn : (n == 0) = true := by simp [hn0]
        go_wp2_with fail
        refine (small_w g (b + 2) w0 _ (HV.out.rn.mono (by omega)) HV.out.bl (by omega)).mono ?_
        rintro e y ⟨t, rfl, ht, hR, hB, hK⟩
        replace HV := Aside0.mk (HV.out.call hR hB hK)
        clear hR hB hK
        go_wp2_with fail
        refine (intVal_w t _ ht).mono ?_
        rintro e y ⟨x, rfl, hx, hb⟩
        replace HV := Aside0.mk (HV.out.below hb)
        clear hb
        have c0 := (kcl HV.out.c 0).trans (show _ = some (.int .i64 0) from rfl)
        have c1 := (kcl HV.out.c 1).trans (show _ = some (.string ⟨#[]⟩) from rfl)
        have c2 := (kcl HV.out.c 2).trans (show _ = some (.int .i64 0) from rfl)
        have f0 := kfz HV.out.c 0
        have f1 := kfz HV.out.c 1
        have f2 := kfz HV.out.c 2
        go_wp2_with fail
        obtain ⟨o1, o2⟩ := HV.out.fin (b' := b + 10) (by omega) hx
        refine bodyPost_ret (v := .agg #[.int .i64 x.f0, .string x.f1, .int .i64 x.f2]) (B.res_c rfl _ _ w.heap.size 35 _ (0, 0) _ rfl o1 Try.underlying35 rfl rfl) rfl o2
      · have gn : (n == 0) = false := by simpa using hn0
        by_cases hn19 : 19 < n
        · go_wp2_with fail
          refine (pick_w g 3 (b + 2) w0 _ (HV.out.rn.mono (by omega)) HV.out.bl (by omega) (by omega)).mono ?_
          rintro e y ⟨q, rfl, q0, q1, hR, hB, hK⟩
          replace HV := Aside0.mk (HV.out.call hR hB hK)
          clear hR hB hK
          by_cases hq : 0 < q
          · have e19 : wrap64 (n - 19) = n - 19 := by unfold wrap64; omega
            go_wp2_with fail
            refine (pick_w g (n - 19) ((b + 2) + 1) w0 _ (HV.out.rn.mono (by omega)) HV.out.bl (by omega) (by omega)).mono ?_
            rintro e y ⟨u, rfl, u0, u1, hR, hB, hK⟩
            replace HV := Aside0.mk (HV.out.call hR hB hK)
            clear hR hB hK
            replace u1 := u1 (by omega)
            have e20 : wrap64 (19 + u) = 19 + u := by unfold wrap64; omega
            go_wp2_with fail
            refine (refT_w (19 + u) _ (by omega)).mono ?_
            rintro e y ⟨x, rfl, hx, hb⟩
            replace HV := Aside0.mk (HV.out.below hb)
            clear hb
            have c0 := (kcl HV.out.c 0).trans (show _ = some (.int .i64 0) from rfl)
            have c1 := (kcl HV.out.c 1).trans (show _ = some (.string ⟨#[]⟩) from rfl)
            have c2 := (kcl HV.out.c 2).trans (show _ = some (.int .i64 0) from rfl)
            have f0 := kfz HV.out.c 0
            have f1 := kfz HV.out.c 1
            have f2 := kfz HV.out.c 2
            go_wp2_with fail
            obtain ⟨o1, o2⟩ := HV.out.fin (b' := b + 10) (by omega) hx
            refine bodyPost_ret (v := .agg #[.int .i64 x.f0, .string x.f1, .int .i64 x.f2]) (B.res_c rfl _ _ w.heap.size 35 _ (0, 0) _ rfl o1 Try.underlying35 rfl rfl) rfl o2
          · go_wp2_with fail
            refine (pick_w g n ((b + 2) + 1) w0 _ (HV.out.rn.mono (by omega)) HV.out.bl (by omega) (by omega)).mono ?_
            rintro e y ⟨u, rfl, u0, u1, hR, hB, hK⟩
            replace HV := Aside0.mk (HV.out.call hR hB hK)
            clear hR hB hK
            replace u1 := u1 (by omega)
            go_wp2_with fail
            refine (refT_w u _ (by omega)).mono ?_
            rintro e y ⟨x, rfl, hx, hb⟩
            replace HV := Aside0.mk (HV.out.below hb)
            clear hb
            have c0 := (kcl HV.out.c 0).trans (show _ = some (.int .i64 0) from rfl)
            have c1 := (kcl HV.out.c 1).trans (show _ = some (.string ⟨#[]⟩) from rfl)
            have c2 := (kcl HV.out.c 2).trans (show _ = some (.int .i64 0) from rfl)
            have f0 := kfz HV.out.c 0
            have f1 := kfz HV.out.c 1
            have f2 := kfz HV.out.c 2
            go_wp2_with fail
            obtain ⟨o1, o2⟩ := HV.out.fin (b' := b + 10) (by omega) hx
            refine bodyPost_ret (v := .agg #[.int .i64 x.f0, .string x.f1, .int .i64 x.f2]) (B.res_c rfl _ _ w.heap.size 35 _ (0, 0) _ rfl o1 Try.underlying35 rfl rfl) rfl o2
        · go_wp2_with fail
          refine (pick_w g n (b + 2) w0 _ (HV.out.rn.mono (by omega)) HV.out.bl (by omega) (by omega)).mono ?_
          rintro e y ⟨u, rfl, u0, u1, hR, hB, hK⟩
          replace HV := Aside0.mk (HV.out.call hR hB hK)
          clear hR hB hK
          replace u1 := u1 (by omega)
          go_wp2_with fail
          refine (refT_w u _ (by omega)).mono ?_
          rintro e y ⟨x, rfl, hx, hb⟩
          replace HV := Aside0.mk (HV.out.below hb)
          clear hb
          have c0 := (kcl HV.out.c 0).trans (show _ = some (.int .i64 0) from rfl)
          have c1 := (kcl HV.out.c 1).trans (show _ = some (.string ⟨#[]⟩) from rfl)
          have c2 := (kcl HV.out.c 2).trans (show _ = some (.int .i64 0) from rfl)
          have f0 := kfz HV.out.c 0
          have f1 := kfz HV.out.c 1
          have f2 := kfz HV.out.c 2
          go_wp2_with fail
          obtain ⟨o1, o2⟩ := HV.out.fin (b' := b + 10) (by omega) hx
          refine bodyPost_ret (v := .agg #[.int .i64 x.f0, .string x.f1, .int .i64 x.f2]) (B.res_c rfl _ _ w.heap.size 35 _ (0, 0) _ rfl o1 Try.underlying35 rfl rfl) rfl o2
  · have g4 : (p == 4) = false := by simpa using h4
    clear h4
    by_cases hn0 : n = 0
    · have gn : (n == 0) = true := by simp [hn0]
      go_wp2_with fail
      refine (small_w g (b + 1) w0 _ (HV.out.rn.mono (by omega)) HV.out.bl (by omega)).mono ?_
      rintro e y ⟨t, rfl, ht, hR, hB, hK⟩
      replace HV := Aside0.mk (HV.out.call hR hB hK)
      clear hR hB hK
      go_wp2_with fail
      refine (intVal_w t _ ht).mono ?_
      rintro e y ⟨x, rfl, hx, hb⟩
      replace HV := Aside0.mk (HV.out.below hb)
      clear hb
      have c0 := (kcl HV.out.c 0).trans (show _ = some (.int .i64 0) from rfl)
      have c1 := (kcl HV.out.c 1).trans (show _ = some (.string ⟨#[]⟩) from rfl)
      have c2 := (kcl HV.out.c 2).trans (show _ = some (.int .i64 0) from rfl)
      have f0 := kfz HV.out.c 0
      have f1 := kfz HV.out.c 1
      have f2 := kfz HV.out.c 2
      go_wp2_with fail
      obtain ⟨o1, o2⟩ := HV.out.fin (b' := b + 10) (by omega) hx
      refine bodyPost_ret (v := .agg #[.int .i64 x.f0, .string x.f1, .int .i64 x.f2]) (B.res_c rfl _ _ w.heap.size 35 _ (0, 0) _ rfl o1 Try.underlying35 rfl rfl) rfl o2
    · have gn : (n == 0) = false := by simpa using hn0
      by_cases hn19 : 19 < n
      · go_wp2_with fail
        refine (pick_w g 3 (b + 1) w0 _ (HV.out.rn.mono (by omega)) HV.out.bl (by omega) (by omega)).mono ?_
        rintro e y ⟨q, rfl, q0, q1, hR, hB, hK⟩
        replace HV := Aside0.mk (HV.out.call hR hB hK)
        clear hR hB hK
        by_cases hq : 0 < q
        · have e19 : wrap64 (n - 19) = n - 19 := by unfold wrap64; omega
          go_wp2_with fail
          refine (pick_w g (n - 19) ((b + 1) + 1) w0 _ (HV.out.rn.mono (by omega)) HV.out.bl (by omega) (by omega)).mono ?_
          rintro e y ⟨u, rfl, u0, u1, hR, hB, hK⟩
          replace HV := Aside0.mk (HV.out.call hR hB hK)
          clear hR hB hK
          replace u1 := u1 (by omega)
          have e20 : wrap64 (19 + u) = 19 + u := by unfold wrap64; omega
          go_wp2_with fail
          refine (refT_w (19 + u) _ (by omega)).mono ?_
          rintro e y ⟨x, rfl, hx, hb⟩
          replace HV := Aside0.mk (HV.out.below hb)
          clear hb
          have c0 := (kcl HV.out.c 0).trans (show _ = some (.int .i64 0) from rfl)
          have c1 := (kcl HV.out.c 1).trans (show _ = some (.string ⟨#[]⟩) from rfl)
          have c2 := (kcl HV.out.c 2).trans (show _ = some (.int .i64 0) from rfl)
          have f0 := kfz HV.out.c 0
          have f1 := kfz HV.out.c 1
          have f2 := kfz HV.out.c 2
          go_wp2_with fail
          obtain ⟨o1, o2⟩ := HV.out.fin (b' := b + 10) (by omega) hx
          refine bodyPost_ret (v := .agg #[.int .i64 x.f0, .string x.f1, .int .i64 x.f2]) (B.res_c rfl _ _ w.heap.size 35 _ (0, 0) _ rfl o1 Try.underlying35 rfl rfl) rfl o2
        · go_wp2_with fail
          refine (pick_w g n ((b + 1) + 1) w0 _ (HV.out.rn.mono (by omega)) HV.out.bl (by omega) (by omega)).mono ?_
          rintro e y ⟨u, rfl, u0, u1, hR, hB, hK⟩
          replace HV := Aside0.mk (HV.out.call hR hB hK)
          clear hR hB hK
          replace u1 := u1 (by omega)
          go_wp2_with fail
          refine (refT_w u _ (by omega)).mono ?_
          rintro e y ⟨x, rfl, hx, hb⟩
          replace HV := Aside0.mk (HV.out.below hb)
          clear hb
          have c0 := (kcl HV.out.c 0).trans (show _ = some (.int .i64 0) from rfl)
          have c1 := (kcl HV.out.c 1).trans (show _ = some (.string ⟨#[]⟩) from rfl)
          have c2 := (kcl HV.out.c 2).trans (show _ = some (.int .i64 0) from rfl)
          have f0 := kfz HV.out.c 0
          have f1 := kfz HV.out.c 1
          have f2 := kfz HV.out.c 2
          go_wp2_with fail
          obtain ⟨o1, o2⟩ := HV.out.fin (b' := b + 10) (by omega) hx
          refine bodyPost_ret (v := .agg #[.int .i64 x.f0, .string x.f1, .int .i64 x.f2]) (B.res_c rfl _ _ w.heap.size 35 _ (0, 0) _ rfl o1 Try.underlying35 rfl rfl) rfl o2
      · go_wp2_with fail
        refine (pick_w g n (b + 1) w0 _ (HV.out.rn.mono (by omega)) HV.out.bl (by omega) (by omega)).mono ?_
        rintro e y ⟨u, rfl, u0, u1, hR, hB, hK⟩
        replace HV := Aside0.mk (HV.out.call hR hB hK)
        clear hR hB hK
        replace u1 := u1 (by omega)
        go_wp2_with fail
        refine (refT_w u _ (by omega)).mono ?_
        rintro e y ⟨x, rfl, hx, hb⟩
        replace HV := Aside0.mk (HV.out.below hb)
        clear hb
        have c0 := (kcl HV.out.c 0).trans (show _ = some (.int .i64 0) from rfl)
        have c1 := (kcl HV.out.c 1).trans (show _ = some (.string ⟨#[]⟩) from rfl)
        have c2 := (kcl HV.out.c 2).trans (show _ = some (.int .i64 0) from rfl)
        have f0 := kfz HV.out.c 0
        have f1 := kfz HV.out.c 1
        have f2 := kfz HV.out.c 2
        go_wp2_with fail
        obtain ⟨o1, o2⟩ := HV.out.fin (b' := b + 10) (by omega) hx
        refine bodyPost_ret (v := .agg #[.int .i64 x.f0, .string x.f1, .int .i64 x.f2]) (B.res_c rfl _ _ w.heap.size 35 _ (0, 0) _ rfl o1 Try.underlying35 rfl rfl) rfl o2
end Go.Proofs.Ytgddblpgbkgpcaa.PR
namespace Go.Proofs.Ytgddblpgbkgpcaa.PR
set_option linter.unusedVariables false
set_option linter.unusedSimpArgs false
open Go.RowKit Go.Proofs.YtgddblpgbkgpcaaW.PrintWords Go.Proofs.YtgddblpgbkgpcaaW.PrintLast Go.Proofs.YtgddblpgbkgpcaaW.PrintMore
set_option linter.unusedVariables false
set_option linter.unusedSimpArgs false
theorem sfN {α : Type} {d : Kd α} {e base : Nat} {ok : Nat → Prop} {w : World} {v : Value} {xs : List α} (h : d.R e w base ok v xs) : ∃ A n c, v = .slice A n c := by
  obtain ⟨A, c, rfl⟩ := Kd.R_slice h
  exact ⟨A, _, c, rfl⟩
def refN (e : Int) : S35 := ⟨4, ⟨#[]⟩, e⟩
theorem sfN1 {w : World} {base : Nat} {ok : Nat → Prop} {v : Value} {x : S35} (h : k35.R 35 w base ok v [x]) : ∃ A c, v = .slice A 1 c := by
  obtain ⟨A, c, rfl⟩ := Kd.R_slice h
  exact ⟨A, c, rfl⟩
theorem r_after {X Y : World} {b8 N : Nat} {v : Value} {xs : List S35} (h : k35.R 35 Y X.heap.size (fun _ => True) v xs) (hb : b8 < X.heap.size) (hN : N ≤ X.heap.size) : k35.R 35 Y N (fun k => k ≠ b8) v xs :=
  Kd.R_lower (Kd.R_mono (Kd.R_bound h) (fun k hk => by have := hk.2.1; omega)) hN
theorem r_before {X Y : World} {b8 N : Nat} {v : Value} {xs : List S35} (h : k35.R 35 Y X.heap.size (fun _ => True) v xs) (hg : b8 = Y.heap.size) (hN : N ≤ X.heap.size) : k35.R 35 Y N (fun k => k ≠ b8) v xs :=
  Kd.R_lower (Kd.R_mono (Kd.R_bound h) (fun k hk => by have := hk.2.2.1; omega)) hN
structure Nh (w wi : World) (u : Value) (l : List S46) (gn cn m : Nat) (ns : List ByteArray) : Prop where
  bl : Below w.heap.size w wi
  c0 : wi.heap[w.heap.size]? = some (.cells #[.slice none 0 0] 25 (0, 0))
  c1 : wi.heap[w.heap.size + 1]? = some (.cells #[u] 25 (0, 0))
  hr : k46.R 46 wi (w.heap.size + 2) (fun _ => True) u l
  nm : Kd.string.R 9 wi (w.heap.size + 2) (fun _ => True) (.slice (some ⟨gn, 0, none⟩) m cn) ns
  all : ∀ o ∈ l, oB o = true ∧ kB o = true
structure Fr (w wi : World) (N b4 : Nat) (u : Value) (l : List S46) (gn cn m : Nat) (ns : List ByteArray) (cs : Array Value) (v3 : Value) (x3 : List S35) (v4 : Value) (x4 : List S35) : Prop where
  bl : Below w.heap.size w wi
  c0 : wi.heap[w.heap.size]? = some (.cells #[.slice none 0 0] 25 (0, 0))
  c1 : wi.heap[w.heap.size + 1]? = some (.cells #[u] 25 (0, 0))
  hr : k46.R 46 wi (w.heap.size + 2) (fun k => k < N) u l
  nm : Kd.string.R 9 wi (w.heap.size + 2) (fun k => k < N) (.slice (some ⟨gn, 0, none⟩) m cn) ns
  cb : wi.heap[b4]? = some (.cells cs 46 (0, 0))
  b4N : N ≤ b4
  N2 : w.heap.size + 2 ≤ N
  r3 : k35.R 35 wi N (fun k => k ≠ b4) v3 x3
  r4 : k35.R 35 wi N (fun k => k ≠ b4) v4 x4
section
variable {w wi w1 cur w10 : World} {N N4 b4 : Nat} {u v3 v4 : Value} {l : List S46} {gn cn m : Nat} {ns : List ByteArray} {cs cs' : Array Value} {x3 x4 : List S35}
theorem Nh.below (h : Nh w wi u l gn cn m ns) (hb : Below wi.heap.size wi w1) : Nh w w1 u l gn cn m ns := ⟨bst h.bl hb, kbw h.c0 hb, kbw h.c1 hb, Kd.R_below h.hr hb, Kd.R_below h.nm hb, h.all⟩
theorem Nh.alloc (h : Nh w wi u l gn cn m ns) (o : Obj) : Nh w (wi.alloc o) u l gn cn m ns := h.below (bla (Below.refl _ _) o)
theorem Nh.cell1 (h : Nh w wi u l gn cn m ns) : wi.cell? ⟨w.heap.size + 1, 0, none⟩ = some u := (kcl h.c1 0).trans rfl
theorem Nh.grow (h : Nh w wi u l gn cn m ns) (hg : wi.grownBy w1 u.ownBlock) : Below w.heap.size w w1 ∧ w1.heap[w.heap.size]? = some (.cells #[.slice none 0 0] 25 (0, 0)) ∧ w1.heap[w.heap.size + 1]? = some (.cells #[u] 25 (0, 0)) ∧ Kd.string.R 9 w1 (w.heap.size + 2) (fun _ => True) (.slice (some ⟨gn, 0, none⟩) m cn) ns := by
  have hb := Kd.R_base h.hr
  have ne : ∀ k, k < w.heap.size + 2 → some k ≠ u.ownBlock := fun k hk e => by have := hb k e.symm; omega
  exact ⟨pw_below_grown h.bl _ h.bl.size hg (fun k hk => by have := hb k hk; omega), kgr h.c0 hg (ne _ (by omega)), kgr h.c1 hg (ne _ (by omega)), Kd.R_over' h.nm (Kd.R_typed h.hr) (by decide) hg⟩
theorem Nh.put {u1 : Value} {o : S46} (h : Below w.heap.size w w1 ∧ w1.heap[w.heap.size]? = some (.cells #[.slice none 0 0] 25 (0, 0)) ∧ w1.heap[w.heap.size + 1]? = some (.cells #[u] 25 (0, 0)) ∧ Kd.string.R 9 w1 (w.heap.size + 2) (fun _ => True) (.slice (some ⟨gn, 0, none⟩) m cn) ns) (hr : k46.R 46 w1 (w.heap.size + 2) (fun _ => True) u1 (l ++ [o])) (ho : oB o = true ∧ kB o = true) (hall : ∀ o ∈ l, oB o = true ∧ kB o = true) :
    Nh w (w1.setCell ⟨w.heap.size + 1, 0, none⟩ u1) u1 (l ++ [o]) gn cn m ns := by
  refine ⟨h.1.setCell (show w.heap.size ≤ w.heap.size + 1 by omega) _, blk_far h.2.1 (by simp) _, blk_put h.2.2.1 0 _ rfl, ?_, ?_, fun x hx => ?_⟩
  · exact Kd.R_mono (Kd.R_far (Kd.R_bound hr) (fun k hk => by have := hk.2.1; simp; omega) _) (fun _ _ => trivial)
  · exact Kd.R_mono (Kd.R_far (Kd.R_bound h.2.2.2) (fun k hk => by have := hk.2.1; simp; omega) _) (fun _ _ => trivial)
  · rcases List.mem_append.1 hx with hx | hx
    · exact hall x hx
    · rw [List.mem_singleton.1 hx]; exact ho
theorem fr_close (h : Nh w wi u l gn cn m ns) (hq : Below wi.heap.size wi w10) (hh : Below w10.heap.size w10 cur) (cb : cur.heap[b4]? = some (.cells cs 46 (0, 0))) (hb4 : w10.heap.size ≤ b4) (r3 : k35.R 35 cur w10.heap.size (fun k => k ≠ b4) v3 x3) :
    Fr w cur w10.heap.size b4 u l gn cn m ns cs v3 x3 (.slice none 0 0) [] := by
  have h1 := (h.below hq)
  have l1 := blk_lt h1.c1
  exact ⟨bst h1.bl hh, kbw h1.c0 hh, kbw h1.c1 hh, Kd.R_below (Kd.R_mono (Kd.R_bound h1.hr) (fun k hk => hk.2.2.1)) hh, Kd.R_below (Kd.R_mono (Kd.R_bound h1.nm) (fun k hk => hk.2.2.1)) hh, cb, hb4, by omega, r3, Kd.R_nil _ _ _ _ _⟩
theorem Fr.below (h : Fr w wi N b4 u l gn cn m ns cs v3 x3 v4 x4) (hb : Below wi.heap.size wi w1) : Fr w w1 N b4 u l gn cn m ns cs v3 x3 v4 x4 :=
  ⟨bst h.bl hb, kbw h.c0 hb, kbw h.c1 hb, Kd.R_below h.hr hb, Kd.R_below h.nm hb, kbw h.cb hb, h.b4N, h.N2, Kd.R_below h.r3 hb, Kd.R_below h.r4 hb⟩
theorem Fr.drew (h : Fr w wi N b4 u l gn cn m ns cs v3 x3 v4 x4) : Fr w wi.drew N b4 u l gn cn m ns cs v3 x3 v4 x4 := h.below (below_drew (Below.refl _ _))
theorem Fr.set (h : Fr w wi N b4 u l gn cn m ns cs v3 x3 v4 x4) (j : Nat) (x : Value) (e : cs.setIfInBounds j x = cs') : Fr w (wi.setCell ⟨b4, j, none⟩ x) N b4 u l gn cn m ns cs' v3 x3 v4 x4 := by
  have h1 := h.b4N
  have h2 := h.N2
  exact ⟨h.bl.setCell (by simp; omega) _, blk_far h.c0 (by simp; omega) _, blk_far h.c1 (by simp; omega) _, Kd.R_far h.hr (fun k hk => by simp; omega) _, Kd.R_far h.nm (fun k hk => by simp; omega) _, blk_put h.cb j _ e, h1, h2, Kd.R_far h.r3 (fun k hk => hk) _, Kd.R_far h.r4 (fun k hk => hk) _⟩
theorem Fr.row4 (h : Fr w w1 N b4 u l gn cn m ns cs v3 x3 v4 x4) {v5 : Value} {x5 : List S35} (ho : k35.R 35 w1 N (fun k => k ≠ b4) v5 x5) : Fr w w1 N b4 u l gn cn m ns cs v3 x3 v5 x5 :=
  ⟨h.bl, h.c0, h.c1, h.hr, h.nm, h.cb, h.b4N, h.N2, h.r3, ho⟩
theorem Fr.grow3 (h : Fr w wi N b4 u l gn cn m ns cs v3 x3 v4 x4) (hr4 : k35.R 35 wi N4 (fun k => k ≠ b4) v4 x4) (h4 : N ≤ N4) (hs : ∀ k, v3.ownBlock = some k → k < N4) (hg : wi.grownBy w1 v3.ownBlock) {v5 : Value} {x5 : List S35} (ho : k35.R 35 w1 N (fun k => k ≠ b4) v5 x5) :
    w1.heap[b4]? = some (.cells cs 46 (0, 0)) ∧ ∀ (cs' : Array Value), cs.setIfInBounds 3 v5 = cs' → Fr w (w1.setCell ⟨b4, 3, none⟩ v5) N b4 u l gn cn m ns cs' v5 x5 v4 x4 := by
  have h1 := h.b4N
  have h2 := h.N2
  have hub := Kd.R_base h.r3
  have ne : ∀ k, k < N → some k ≠ v3.ownBlock := fun k hk e => by have := hub k e.symm; omega
  have neb : some b4 ≠ v3.ownBlock := fun e => h.r3.1 b4 e.symm rfl
  have r4 : k35.R 35 w1 N4 (fun k => k ≠ b4) v4 x4 := Kd.R_mono (Kd.R_grown (Kd.R_bound hr4) hg (fun k hk e => by have := hs k e.symm; have := hk.2.1; omega)) (fun _ hk => hk.1)
  have hbl : Below w.heap.size w w1 := pw_below_grown h.bl _ h.bl.size hg (fun k hk => by have := hub k hk; omega)
  refine ⟨kgr h.cb hg neb, fun cs' e => ⟨hbl.setCell (by simp; omega) _, blk_far (kgr h.c0 hg (ne _ (by omega))) (by simp; omega) _, blk_far (kgr h.c1 hg (ne _ (by omega))) (by simp; omega) _, Kd.R_far (Kd.R_grown h.hr hg (fun k hk => ne k hk)) (fun k hk => by simp; omega) _, Kd.R_far (Kd.R_grown h.nm hg (fun k hk => ne k hk)) (fun k hk => by simp; omega) _, blk_put (kgr h.cb hg neb) 3 _ e, h1, h2, Kd.R_far ho (fun k hk => hk) _, Kd.R_far (Kd.R_lower r4 h4) (fun k hk => hk) _⟩⟩
theorem Fr.cell3 {a0 a1 a2 a4 a5 a6 : Value} (h : Fr w wi N b4 u l gn cn m ns #[a0, a1, a2, v3, a4, a5, a6] v3 x3 v4 x4) : wi.cell? ⟨b4, 3, none⟩ = some v3 := (kcl h.cb 3).trans rfl
theorem Fr.sep (h : Fr w wi N b4 u l gn cn m ns cs v3 x3 v4 x4) {k : Nat} (hk : N ≤ k) : True ∧ some k ≠ u.ownBlock := ⟨trivial, fun e => by have := h.hr.1 k e.symm; omega⟩
theorem Fr.obj (h : Fr w wi N b4 u l gn cn m ns cs v3 x3 v4 x4) {nm : ByteArray} : k46.M wi (w.heap.size + 2) (fun k => N ≤ k) ⟨5, nm, 0, x3, x4, [], []⟩ [.int .i64 5, .string nm, .int .i64 0, v3, v4, .slice none 0 0, .slice none 0 0] := by
  have h2 := h.N2
  exact k46_mkM wi _ _ (⟨5, nm, 0, x3, x4, [], []⟩ : S46) (Kd.R_lower (Kd.R_mono (Kd.R_bound h.r3) (fun k hk => hk.2.1)) h2) (Kd.R_lower (Kd.R_mono (Kd.R_bound h.r4) (fun k hk => hk.2.1)) h2) (Kd.R_nil _ _ _ _ _) (Kd.R_nil _ _ _ _ _)
theorem Fr.growH (h : Fr w wi N b4 u l gn cn m ns cs v3 x3 v4 x4) (hg : wi.grownBy w1 u.ownBlock) : Below w.heap.size w w1 ∧ w1.heap[w.heap.size]? = some (.cells #[.slice none 0 0] 25 (0, 0)) ∧ w1.heap[w.heap.size + 1]? = some (.cells #[u] 25 (0, 0)) ∧ Kd.string.R 9 w1 (w.heap.size + 2) (fun _ => True) (.slice (some ⟨gn, 0, none⟩) m cn) ns := by
  have hb := Kd.R_base h.hr
  have ne : ∀ k, k < w.heap.size + 2 → some k ≠ u.ownBlock := fun k hk e => by have := hb k e.symm; omega
  exact ⟨pw_below_grown h.bl _ h.bl.size hg (fun k hk => by have := hb k hk; omega), kgr h.c0 hg (ne _ (by omega)), kgr h.c1 hg (ne _ (by omega)), Kd.R_mono (Kd.R_over' h.nm (Kd.R_typed h.hr) (by decide) hg) (fun _ _ => trivial)⟩
end
theorem errs_n (w : World) : Calls Try.prog 109 #[] w fun e w' => ∃ (g c : Nat) (ns : List ByteArray), e = .returned (.slice (some ⟨g, 0, none⟩) 13 c) ∧ Kd.string.R 9 w' w.heap.size (fun _ => True) (.slice (some ⟨g, 0, none⟩) 13 c) ns ∧ ns.length = 13 ∧ (∀ s ∈ ns, s.size ≤ 100) ∧ Below w.heap.size w w' := by
  have h : ∃ l, spec_errorNames.f = some l ∧ l.length = 13 ∧ ∀ s ∈ l, s.size ≤ 100 := ⟨_, rfl, rfl, by decide +kernel⟩
  obtain ⟨l, hf, hl, hs⟩ := h
  refine (spec_errorNames.calls l w hf).mono ?_
  rintro e w' ⟨v, rfl, hr, hb⟩
  obtain ⟨g, c, rfl, _⟩ := Kd.R_form hr (by omega)
  rw [hl] at hr
  exact ⟨g, c, l, by rw [hl], hr, hl, hs, hb⟩
theorem built_n (w : World) : Calls Try.prog 110 #[] w fun e w' => ∃ (g c : Nat) (ns : List ByteArray), e = .returned (.slice (some ⟨g, 0, none⟩) 6 c) ∧ Kd.string.R 9 w' w.heap.size (fun _ => True) (.slice (some ⟨g, 0, none⟩) 6 c) ns ∧ ns.length = 6 ∧ (∀ s ∈ ns, s.size ≤ 100) ∧ Below w.heap.size w w' := by
  have h : ∃ l, spec_builtNames.f = some l ∧ l.length = 6 ∧ ∀ s ∈ l, s.size ≤ 100 := ⟨_, rfl, rfl, by decide +kernel⟩
  obtain ⟨l, hf, hl, hs⟩ := h
  refine (spec_builtNames.calls l w hf).mono ?_
  rintro e w' ⟨v, rfl, hr, hb⟩
  obtain ⟨g, c, rfl, _⟩ := Kd.R_form hr (by omega)
  rw [hl] at hr
  exact ⟨g, c, l, by rw [hl], hr, hl, hs, hb⟩
theorem name_at {W : World} {base g n c : Nat} {ns : List ByteArray} (h : Kd.string.R 9 W base (fun _ => True) (.slice (some ⟨g, 0, none⟩) n c) ns) (hs : ∀ s ∈ ns, s.size ≤ 100) (k : Nat) (hk : k < n) : ∃ nm : ByteArray, W.cell? ⟨g, k, none⟩ = some (.string nm) ∧ nm.size ≤ 100 := by
  have hl := (Kd.R_reads' h).1
  have hc := (Kd.R_celln (⟨#[]⟩ : ByteArray) h (k : Int) (by omega) (by omega)).1
  rw [show (k : Int).toNat = k from rfl] at hc
  refine ⟨_, hc, hs _ ?_⟩
  unfold rdOf
  simp [List.getD_eq_getElem?_getD, show k < ns.length by omega]
theorem new5 {nm : ByteArray} (h : nm.size ≤ 100) (k : Int) : oB ⟨5, nm, 0, [refN k], [], [], []⟩ = true ∧ kB ⟨5, nm, 0, [refN k], [], [], []⟩ = true := by
  refine ⟨?_, rfl⟩
  simp [oB, refN, h]
  decide
theorem new5' {nm : ByteArray} (h : nm.size ≤ 100) (k : Int) : oB ⟨5, nm, 0, [refN k] ++ [refN 0], [refN 0], [], []⟩ = true ∧ kB ⟨5, nm, 0, [refN k] ++ [refN 0], [refN 0], [], []⟩ = true := by
  refine ⟨?_, rfl⟩
  simp [oB, refN, h]
  decide
theorem new10 {nm : ByteArray} (h : nm.size ≤ 100) : oB ⟨10, nm, 0, [], [], [], []⟩ = true ∧ kB ⟨10, nm, 0, [], [], [], []⟩ = true := by
  refine ⟨?_, rfl⟩
  simp [oB, h]
set_option maxRecDepth 100000 in
set_option maxHeartbeats 40000000 in
theorem newHeap_w (w : World) : Calls Try.prog 87 #[] w fun e w' => ∃ (v : Value) (l : List S46), e = .returned (.agg #[v]) ∧ k46.R 46 w' w.heap.size (fun _ => True) v l ∧ l.length = 19 ∧ l.all oB = true ∧ l.all kB = true ∧ Below w.heap.size w w' := by
  have e1 := blk_new (w.alloc (.cells #[.slice none 0 0] 25)) (.cells #[.slice none 0 0] 25)
  rw [show (w.alloc (.cells #[.slice none 0 0] 25)).heap.size = w.heap.size + 1 by simp] at e1
  have H0 := Aside0.mk (show Below w.heap.size w ((w.alloc (.cells #[.slice none 0 0] 25)).alloc (.cells #[.slice none 0 0] 25)) ∧ ((w.alloc (.cells #[.slice none 0 0] 25)).alloc (.cells #[.slice none 0 0] 25)).heap[w.heap.size]? = some (.cells #[.slice none 0 0] 25 (0, 0)) ∧ ((w.alloc (.cells #[.slice none 0 0] 25)).alloc (.cells #[.slice none 0 0] 25)).heap[w.heap.size + 1]? = some (.cells #[.slice none 0 0] 25 (0, 0)) ∧ ((w.alloc (.cells #[.slice none 0 0] 25)).alloc (.cells #[.slice none 0 0] 25)).heap.size = w.heap.size + 2 from ⟨bla (bla (Below.refl _ _) _) _, kla (blk_new _ _) _, e1, by simp⟩)
  clear e1
  go_enter Try.func87, Try.ntmps87
  go_wp2_with fail
  refine (errs_n _).mono ?_
  rintro e w2 ⟨gn, cn, ns, rfl, hr, hl, hs, hb⟩
  rw [H0.out.2.2.2] at hr
  have HN := Aside0.mk (show Nh w w2 (.slice none 0 0) [] gn cn 13 ns from ⟨bst H0.out.1 hb, kbw H0.out.2.1 hb, kbw H0.out.2.2.1 hb, Kd.R_nil _ _ _ _ _, hr, by simp⟩)
  have HS := Aside0.mk hs
  obtain ⟨m, hm⟩ : ∃ m : Nat, m = 13 := ⟨_, rfl⟩
  clear hr hl hs hb H0
  go_wp2_with fail
  go_loopw [3] (fun u3 wr => ∃ (k : Nat) (l : List S46) (A1 : Option Addr) (n1 c1 : Nat), u3 = .int .i64 k ∧ k ≤ 13 ∧ Aside0 (Nh w wr (.slice A1 n1 c1) l gn cn 13 ns) ∧ l.length = k) (fun u3 _ => 13 - (intOf u3).toNat)
  case atStart => exact ⟨0, [], none, 0, 0, rfl, by omega, ⟨HN.out⟩, rfl⟩
  case round =>
    clear HN
    obtain ⟨k, l, A1, n1, c1, rfl, hk13, HQ, hlk⟩ := hrel
    have hl40 : l.length ≤ 40 := by omega
    have HLK := Lib.hid hlk
    clear hlk
    by_cases hk : k < 13
    · have HALL := Aside0.mk HQ.out.all
      obtain ⟨nm, hnm, hnm1⟩ := name_at HQ.out.nm HS.out k hk
      have HNM := Aside0.mk hnm1
      clear hnm1
      go_wp2_with fail
      have hq0 : Below wr.heap.size wr wr.drew := below_drew (Below.refl _ _)
      refine start_ (n := 10) (S := fun w' => w'.cell? ⟨gn, k, none⟩ = some (.string nm)) (ds := [9]) #[false, false, false, false, false, false, false, false, false, false] (by kernel_rfl) rfl rfl (B.cell_keep hq0 hnm) (fun hHeld => ?_)
      generalize wr.drew = w10 at hq0 hHeld ⊢
      have hh : Below w10.heap.size w10 w10 := Below.refl _ _
      replace hnm := B.cell_keep hq0 hnm
      refine pure_ (i := 0) (N := some 15) (v := ?_) (a' := ?_) #[true, false, false, false, false, false, false, false, false, false] rfl rfl (by kernel_rfl) (fun _ _ _ h => h) (Or.inl ⟨by rfl, ?_⟩) ?_ ?_
      rotate_left
      · intro w'
        go_simp
        with_reducible rfl
      rotate_left
      · simp only [Act.put, List.setIfInBounds_toArray, List.set_cons_zero, List.set_cons_succ, i64_w, i32_w]
        rfl
      refine pure_ (i := 1) (N := some 16) (v := ?_) (a' := ?_) #[true, true, false, false, false, false, false, false, false, false] rfl rfl (by kernel_rfl) (fun _ _ _ h => h) (Or.inl ⟨by rfl, ?_⟩) ?_ ?_
      rotate_left
      · intro w'
        go_simp
        with_reducible rfl
      rotate_left
      · simp only [Act.put, List.setIfInBounds_toArray, List.set_cons_zero, List.set_cons_succ, i64_w, i32_w]
        rfl
      refine pure_ (i := 2) (N := some 17) (v := ?_) (a' := ?_) #[true, true, true, false, false, false, false, false, false, false] rfl rfl (by kernel_rfl) (fun _ _ _ h => h) (Or.inl ⟨by rfl, ?_⟩) ?_ ?_
      rotate_left
      · intro w'
        go_simp
        with_reducible rfl
      rotate_left
      · simp only [Act.put, List.setIfInBounds_toArray, List.set_cons_zero, List.set_cons_succ, i64_w, i32_w]
        rfl
      refine pure_ (i := 4) (N := some 19) (v := ?_) (a' := ?_) #[true, true, true, false, true, false, false, false, false, false] rfl rfl (by kernel_rfl) (fun _ _ _ h => h) (Or.inl ⟨by rfl, ?_⟩) ?_ ?_
      rotate_left
      · intro w'
        go_simp
        with_reducible rfl
      rotate_left
      · simp only [Act.put, List.setIfInBounds_toArray, List.set_cons_zero, List.set_cons_succ, i64_w, i32_w]
        rfl
      refine take_ (i := 3) (N := some 18) (v := ?_) (a' := ?_) #[true, true, true, true, true, false, false, false, false, false] rfl rfl (by kernel_rfl) (fun _ _ _ h => h) (Or.inl ⟨by rfl, ?_⟩) hHeld ?_ ?_
      rotate_left
      · intro w' s0
        go_simp
        with_reducible rfl
      rotate_left
      · simp only [Act.put, List.setIfInBounds_toArray, List.set_cons_zero, List.set_cons_succ, i64_w, i32_w]
        rfl
      refine join_ (σ := Option Addr × Nat × Nat) 1 #[true, true, true, true, true, true, true, true, true, false] (fun s_ => [(20, .agg #[.int .i64 4, .string ⟨#[]⟩, .int .i64 (k : Int)]), (21, .slice s_.1 1 s_.2.1), (4, .pointer (some ⟨s_.2.2, 0, none⟩)), (22, .agg #[.int .i64 5, .string nm, .int .i64 0, .slice s_.1 1 s_.2.1, .slice none 0 0, .slice none 0 0, .slice none 0 0])]) (fun s_ w' => w'.cell? ⟨gn, k, none⟩ = some (.string nm) ∧ Fr w w' w10.heap.size s_.2.2 (.slice A1 n1 c1) l gn cn 13 ns #[.int .i64 0, .string (⟨#[]⟩ : ByteArray), .int .i64 0, .slice none 0 0, .slice none 0 0, .slice none 0 0, .slice none 0 0] (.slice s_.1 1 s_.2.1) [refN k] (.slice none 0 0) []) ?_ ?_
      rotate_left
      · intro hCont
        refine two_ (i := 5) (j := 8) (Ni := some 20) (Nj := some 4) #[true, true, true, true, true, true, false, false, false, false] #[true, true, true, true, true, false, false, false, true, false] rfl rfl rfl rfl (by kernel_rfl) (by decide) (by decide) (fun K hK => ?_) (fun K hK => ?_)
        · skip
          refine goes_ Try.func59 (by kernel_rfl) rfl #[.int .i64 (k : Int)] (by rfl) rfl rfl (by simp only [List.map_toArray, List.map_cons, List.map_nil]; rfl) ?_
          with_reducible refine (spec_refTo.calls (k : Int) _ _ _ _ rfl).mono ?_
          rintro e y5 ⟨rfl, hb5⟩
          refine ⟨_, rfl, ?_⟩
          have hh5 := bth hh hh.size hb5
          refine hK.out _ _ (B.cell_keep hh5 hnm) (fun hHeld => ?_)
          clear hK K
          refine norm_ (a' := ?_) ?_ ?_
          rotate_left
          · show Act.put _ (some 20) _ = _
            simp only [Act.put, List.setIfInBounds_toArray, List.set_cons_zero, List.set_cons_succ, i64_w, i32_w]
            rfl
          refine two_ (i := 6) (j := 8) (Ni := some 21) (Nj := some 4) #[true, true, true, true, true, true, true, false, false, false] #[true, true, true, true, true, true, false, false, true, false] rfl rfl rfl rfl (by kernel_rfl) (by decide) (by decide) (fun K hK => ?_) (fun K hK => ?_)
          · skip
            refine Kd.R_lit_step k35 _ 35 ?hg (N := 21) ?hd (xs := ([(⟨4, ⟨#[]⟩, (k : Int)⟩ : S35)] : List S35)) (inner := [.int .i64 4, .string ⟨#[]⟩, .int .i64 (k : Int)]) (ok := fun _ => True) (okp := fun _ => True) ?hr ?hp (fun _ hk => hk) trivial (Below.refl _ _) (Nat.le_refl _) (by simp) ?_; (case hd => rfl); (case hg => rfl); (case hr => first | (go_simp; done) | (go_simp; rfl)); (case hp => exact (Reps.c3 (show Kd.M k35 _ _ _ (⟨4, ⟨#[]⟩, (k : Int)⟩ : S35) [.int .i64 4, .string ⟨#[]⟩, .int .i64 (k : Int)] from (k35_mkM _ _ _ (⟨4, ⟨#[]⟩, (k : Int)⟩ : S35))) (Reps.none _ _)))
            intro v6 y6 ho6 hb6 _ _
            obtain ⟨A6, c6, rfl⟩ := sfN1 ho6
            have hh56 := bth hh5 hh5.size hb6
            refine hK.out _ _ (B.cell_keep hh56 hnm) (fun hHeld => ?_)
            clear hK K
            refine norm_ (a' := ?_) ?_ ?_
            rotate_left
            · show Act.put _ (some 21) _ = _
              simp only [Act.put, List.setIfInBounds_toArray, List.set_cons_zero, List.set_cons_succ, i64_w, i32_w]
              rfl
            refine pure_ (i := 7) (N := some 22) (v := ?_) (a' := ?_) #[true, true, true, true, true, true, true, true, false, false] rfl rfl (by kernel_rfl) (fun _ _ _ h => h) (Or.inl ⟨by rfl, ?_⟩) ?_ ?_
            rotate_left
            · intro w'
              go_simp
              with_reducible rfl
            rotate_left
            · simp only [Act.put, List.setIfInBounds_toArray, List.set_cons_zero, List.set_cons_succ, i64_w, i32_w]
              rfl
            refine one_ (i := 8) (N := some 4) #[true, true, true, true, true, true, true, true, true, false] rfl rfl (by kernel_rfl) (by decide) (fun K hK => ?_)
            refine box_step ?hg (N := 4) ?hd (cs := #[.int .i64 0, .string (⟨#[]⟩ : ByteArray), .int .i64 0, .slice none 0 0, .slice none 0 0, .slice none 0 0, .slice none 0 0]) (t := 46) ?hr ?_; (case hd => rfl); (case hg => rfl); (case hr => first | (go_simp; done) | (go_simp; rfl))
            intro b8 hg8 y8 hbox hb8
            have hh568 := bth hh56 hh56.size hb8
            refine hK.out _ _ (B.cell_keep hh568 hnm) (fun hHeld => ?_)
            clear hK K
            refine norm_ (a' := ?_) ?_ ?_
            rotate_left
            · show Act.put _ (some 4) _ = _
              simp only [Act.put, List.setIfInBounds_toArray, List.set_cons_zero, List.set_cons_succ, i64_w, i32_w]
              rfl
            exact norm_ (by simp only [putAll, Act.put, List.setIfInBounds_toArray, List.set_cons_zero, List.set_cons_succ]) (hCont ⟨A6, c6, b8⟩ _ ⟨B.cell_keep hh568 hnm, fr_close HQ.out hq0 hh568 (hbox) (by show w10.heap.size ≤ b8; have := hh56.size; omega) (Kd.R_below (r_before ho6 hg8 (by have := hh5.size; omega)) hb8)⟩)
          · skip
            refine box_step ?hg (N := 4) ?hd (cs := #[.int .i64 0, .string (⟨#[]⟩ : ByteArray), .int .i64 0, .slice none 0 0, .slice none 0 0, .slice none 0 0, .slice none 0 0]) (t := 46) ?hr ?_; (case hd => rfl); (case hg => rfl); (case hr => first | (go_simp; done) | (go_simp; rfl))
            intro b8 hg8 y8 hbox hb8
            have hh58 := bth hh5 hh5.size hb8
            refine hK.out _ _ (B.cell_keep hh58 hnm) (fun hHeld => ?_)
            clear hK K
            refine norm_ (a' := ?_) ?_ ?_
            rotate_left
            · show Act.put _ (some 4) _ = _
              simp only [Act.put, List.setIfInBounds_toArray, List.set_cons_zero, List.set_cons_succ, i64_w, i32_w]
              rfl
            refine one_ (i := 6) (N := some 21) #[true, true, true, true, true, true, true, false, true, false] rfl rfl (by kernel_rfl) (by decide) (fun K hK => ?_)
            refine Kd.R_lit_step k35 _ 35 ?hg (N := 21) ?hd (xs := ([(⟨4, ⟨#[]⟩, (k : Int)⟩ : S35)] : List S35)) (inner := [.int .i64 4, .string ⟨#[]⟩, .int .i64 (k : Int)]) (ok := fun _ => True) (okp := fun _ => True) ?hr ?hp (fun _ hk => hk) trivial (Below.refl _ _) (Nat.le_refl _) (by simp) ?_; (case hd => rfl); (case hg => rfl); (case hr => first | (go_simp; done) | (go_simp; rfl)); (case hp => exact (Reps.c3 (show Kd.M k35 _ _ _ (⟨4, ⟨#[]⟩, (k : Int)⟩ : S35) [.int .i64 4, .string ⟨#[]⟩, .int .i64 (k : Int)] from (k35_mkM _ _ _ (⟨4, ⟨#[]⟩, (k : Int)⟩ : S35))) (Reps.none _ _)))
            intro v6 y6 ho6 hb6 _ _
            obtain ⟨A6, c6, rfl⟩ := sfN1 ho6
            have hh586 := bth hh58 hh58.size hb6
            refine hK.out _ _ (B.cell_keep hh586 hnm) (fun hHeld => ?_)
            clear hK K
            refine norm_ (a' := ?_) ?_ ?_
            rotate_left
            · show Act.put _ (some 21) _ = _
              simp only [Act.put, List.setIfInBounds_toArray, List.set_cons_zero, List.set_cons_succ, i64_w, i32_w]
              rfl
            refine pure_ (i := 7) (N := some 22) (v := ?_) (a' := ?_) #[true, true, true, true, true, true, true, true, true, false] rfl rfl (by kernel_rfl) (fun _ _ _ h => h) (Or.inl ⟨by rfl, ?_⟩) ?_ ?_
            rotate_left
            · intro w'
              go_simp
              with_reducible rfl
            rotate_left
            · simp only [Act.put, List.setIfInBounds_toArray, List.set_cons_zero, List.set_cons_succ, i64_w, i32_w]
              rfl
            exact norm_ (by simp only [putAll, Act.put, List.setIfInBounds_toArray, List.set_cons_zero, List.set_cons_succ]) (hCont ⟨A6, c6, b8⟩ _ ⟨B.cell_keep hh586 hnm, fr_close HQ.out hq0 hh586 (kbw hbox hb6) (by show w10.heap.size ≤ b8; have := hh5.size; omega) (r_after ho6 (blk_lt hbox) (by have := hh58.size; omega))⟩)
        · skip
          refine box_step ?hg (N := 4) ?hd (cs := #[.int .i64 0, .string (⟨#[]⟩ : ByteArray), .int .i64 0, .slice none 0 0, .slice none 0 0, .slice none 0 0, .slice none 0 0]) (t := 46) ?hr ?_; (case hd => rfl); (case hg => rfl); (case hr => first | (go_simp; done) | (go_simp; rfl))
          intro b8 hg8 y8 hbox hb8
          have hh8 := bth hh hh.size hb8
          refine hK.out _ _ (B.cell_keep hh8 hnm) (fun hHeld => ?_)
          clear hK K
          refine norm_ (a' := ?_) ?_ ?_
          rotate_left
          · show Act.put _ (some 4) _ = _
            simp only [Act.put, List.setIfInBounds_toArray, List.set_cons_zero, List.set_cons_succ, i64_w, i32_w]
            rfl
          refine one_ (i := 5) (N := some 20) #[true, true, true, true, true, true, false, false, true, false] rfl rfl (by kernel_rfl) (by decide) (fun K hK => ?_)
          refine goes_ Try.func59 (by kernel_rfl) rfl #[.int .i64 (k : Int)] (by rfl) rfl rfl (by simp only [List.map_toArray, List.map_cons, List.map_nil]; rfl) ?_
          with_reducible refine (spec_refTo.calls (k : Int) _ _ _ _ rfl).mono ?_
          rintro e y5 ⟨rfl, hb5⟩
          refine ⟨_, rfl, ?_⟩
          have hh85 := bth hh8 hh8.size hb5
          refine hK.out _ _ (B.cell_keep hh85 hnm) (fun hHeld => ?_)
          clear hK K
          refine norm_ (a' := ?_) ?_ ?_
          rotate_left
          · show Act.put _ (some 20) _ = _
            simp only [Act.put, List.setIfInBounds_toArray, List.set_cons_zero, List.set_cons_succ, i64_w, i32_w]
            rfl
          refine one_ (i := 6) (N := some 21) #[true, true, true, true, true, true, true, false, true, false] rfl rfl (by kernel_rfl) (by decide) (fun K hK => ?_)
          refine Kd.R_lit_step k35 _ 35 ?hg (N := 21) ?hd (xs := ([(⟨4, ⟨#[]⟩, (k : Int)⟩ : S35)] : List S35)) (inner := [.int .i64 4, .string ⟨#[]⟩, .int .i64 (k : Int)]) (ok := fun _ => True) (okp := fun _ => True) ?hr ?hp (fun _ hk => hk) trivial (Below.refl _ _) (Nat.le_refl _) (by simp) ?_; (case hd => rfl); (case hg => rfl); (case hr => first | (go_simp; done) | (go_simp; rfl)); (case hp => exact (Reps.c3 (show Kd.M k35 _ _ _ (⟨4, ⟨#[]⟩, (k : Int)⟩ : S35) [.int .i64 4, .string ⟨#[]⟩, .int .i64 (k : Int)] from (k35_mkM _ _ _ (⟨4, ⟨#[]⟩, (k : Int)⟩ : S35))) (Reps.none _ _)))
          intro v6 y6 ho6 hb6 _ _
          obtain ⟨A6, c6, rfl⟩ := sfN1 ho6
          have hh856 := bth hh85 hh85.size hb6
          refine hK.out _ _ (B.cell_keep hh856 hnm) (fun hHeld => ?_)
          clear hK K
          refine norm_ (a' := ?_) ?_ ?_
          rotate_left
          · show Act.put _ (some 21) _ = _
            simp only [Act.put, List.setIfInBounds_toArray, List.set_cons_zero, List.set_cons_succ, i64_w, i32_w]
            rfl
          refine pure_ (i := 7) (N := some 22) (v := ?_) (a' := ?_) #[true, true, true, true, true, true, true, true, true, false] rfl rfl (by kernel_rfl) (fun _ _ _ h => h) (Or.inl ⟨by rfl, ?_⟩) ?_ ?_
          rotate_left
          · intro w'
            go_simp
            with_reducible rfl
          rotate_left
          · simp only [Act.put, List.setIfInBounds_toArray, List.set_cons_zero, List.set_cons_succ, i64_w, i32_w]
            rfl
          exact norm_ (by simp only [putAll, Act.put, List.setIfInBounds_toArray, List.set_cons_zero, List.set_cons_succ]) (hCont ⟨A6, c6, b8⟩ _ ⟨B.cell_keep hh856 hnm, fr_close HQ.out hq0 hh856 (kbw (kbw hbox hb5) hb6) (by show w10.heap.size ≤ b8; omega) (r_after ho6 (by show b8 < y5.heap.size; have := hb5.size; have := blk_lt hbox; omega) (by have := hh85.size; omega))⟩)
      rintro ⟨A6, c6, b4⟩ w11 ⟨hHeld, HF⟩
      have z0 := (kcl HF.cb 0).trans (show _ = some (.int .i64 0) from rfl)
      have z1 := (kcl HF.cb 1).trans (show _ = some (.string (⟨#[]⟩ : ByteArray)) from rfl)
      have z2 := (kcl HF.cb 2).trans (show _ = some (.int .i64 0) from rfl)
      have z3 := (kcl HF.cb 3).trans (show _ = some (.slice none 0 0) from rfl)
      have z4 := (kcl HF.cb 4).trans (show _ = some (.slice none 0 0) from rfl)
      have z5 := (kcl HF.cb 5).trans (show _ = some (.slice none 0 0) from rfl)
      have z6 := (kcl HF.cb 6).trans (show _ = some (.slice none 0 0) from rfl)
      have f0 := kfz HF.cb 0
      have f1 := kfz HF.cb 1
      have f2 := kfz HF.cb 2
      have f3 := kfz HF.cb 3
      have f4 := kfz HF.cb 4
      have f5 := kfz HF.cb 5
      have f6 := kfz HF.cb 6
      refine norm_ (a' := ?_) ?_ ?_
      rotate_left
      · simp only [putAll, Act.put, List.setIfInBounds_toArray, List.set_cons_zero, List.set_cons_succ]
        rfl
      refine last_ (i := 9) (N := none) #[true, true, true, true, true, true, true, true, true, true] rfl rfl (by kernel_rfl) (by decide) (fun K hK => ?_)
      refine skip_ (w1 := ?_) (by rfl) rfl ?_ ?_
      rotate_left
      · go_simp
        rfl
      refine hK.out _ _ ?_
      clear hK K
      refine done_ (by kernel_rfl) ?_
      obtain ⟨W1, hW1⟩ : ∃ W1 : World, W1 = (((((((w11.setCell ⟨b4, 0, none⟩ (.int .i64 5)).setCell ⟨b4, 1, none⟩ (.string nm)).setCell ⟨b4, 2, none⟩ (.int .i64 0)).setCell ⟨b4, 3, none⟩ (.slice A6 1 c6)).setCell ⟨b4, 4, none⟩ (.slice none 0 0)).setCell ⟨b4, 5, none⟩ (.slice none 0 0)).setCell ⟨b4, 6, none⟩ (.slice none 0 0)) := ⟨_, rfl⟩
      rw [← hW1]
      obtain ⟨N, hN⟩ : ∃ N, N = w10.heap.size := ⟨_, rfl⟩
      rw [← hN] at HF
      have HF1 := Aside0.mk (show Fr w W1 N b4 (.slice A1 n1 c1) l gn cn 13 ns #[.int .i64 5, .string nm, .int .i64 0, .slice A6 1 c6, .slice none 0 0, .slice none 0 0, .slice none 0 0] (.slice A6 1 c6) [refN k] (.slice none 0 0) [] from by
        rw [hW1]
        exact ((((((HF.set 0 _ rfl).set 1 _ rfl).set 2 _ rfl).set 3 _ rfl).set 4 _ rfl).set 5 _ rfl).set 6 _ rfl)
      clear z0 z1 z2 z3 z4 z5 z6 f0 f1 f2 f3 f4 f5 f6 HF hHeld hW1 hN hnm hh hq0 HQ
      by_cases hk0 : 0 < k
      · go_wp2_with fail
        refine (spec_refTo.calls 0 _ _ _ _ rfl).mono ?_
        rintro e y ⟨rfl, hb⟩
        have HF2 := Aside0.mk (HF1.out.below hb)
        have d4 := (kcl HF2.out.cb 4).trans (show _ = some (.slice none 0 0) from rfl)
        clear HF1 hb
        go_upto_region 9 with (first
          | ((with_reducible refine gate_dst (N := 26) rfl ?_); refine Kd.R_lit k35 _ 35 ?hg (N := 26) ?hd (xs := ([(⟨4, ⟨#[]⟩, 0⟩ : S35)] : List S35)) (inner := [.int .i64 4, .string ⟨#[]⟩, .int .i64 0]) (ok := fun _ => True) (okp := fun _ => True) ?hr ?hp (fun _ hk => hk) trivial (Below.refl _ _) (Nat.le_refl _) (by simp) ?_; (case hd => rfl); (case hg => rfl); (case hr => first | (go_simp; done) | (go_simp; rfl)); (case hp => exact (Reps.c3 (show Kd.M k35 _ _ _ (⟨4, ⟨#[]⟩, 0⟩ : S35) [.int .i64 4, .string ⟨#[]⟩, .int .i64 0] from (k35_mkM _ _ _ (⟨4, ⟨#[]⟩, 0⟩ : S35))) (Reps.none _ _))); intro v7 y7 ho7 hb7 _ _; obtain ⟨A7, c7, rfl⟩ := sfN1 ho7; have HF3 := Aside0.mk (HF2.out.below hb7); have d4' := B.cell_keep hb7 d4; have df := kfz HF3.out.cb 4; have HR4 := Aside0.mk (r_after ho7 (blk_lt HF2.out.cb) (Nat.le_refl _)); have HN4 := Aside0.mk (show N ≤ y.heap.size by have := HF2.out.b4N; have := blk_lt HF2.out.cb; omega); have hs4 : ∀ k, (Value.slice A6 1 c6).ownBlock = some k → k < y.heap.size := Kd.R_lt HF2.out.r3; clear ho7 hb7 d4))
        obtain ⟨W3, hW3⟩ : ∃ W3 : World, W3 = y7.setCell ⟨b4, 4, none⟩ (.slice A7 1 c7) := ⟨_, rfl⟩
        rw [← hW3]
        have HF5 := Aside0.mk (show Fr w W3 N b4 (.slice A1 n1 c1) l gn cn 13 ns #[.int .i64 5, .string nm, .int .i64 0, .slice A6 1 c6, .slice A7 1 c7, .slice none 0 0, .slice none 0 0] (.slice A6 1 c6) [refN k] (.slice A7 1 c7) [refN 0] from by
          rw [hW3]
          exact (HF3.out.row4 (Kd.R_lower HR4.out HN4.out)).set 4 _ rfl)
        replace HR4 := Aside0.mk (show k35.R 35 W3 y.heap.size (fun k => k ≠ b4) (.slice A7 1 c7) [refN 0] by rw [hW3]; exact Kd.R_far HR4.out (fun k hk => hk) _)
        clear hW3 HF3 HF2 d4' df
        go_wp2_with fail
        have hF8 := HF5.out.drew
        have hR48 := Kd.R_drew HR4.out
        refine start_ (n := 7) (S := fun w' => w'.cell? ⟨b4, 3, none⟩ = some (.slice A6 1 c6)) (ds := [4, 6]) #[false, false, false, false, false, false, false] (by kernel_rfl) rfl rfl (hF8.cell3) (fun hHeld => ?_)
        generalize W3.drew = w10b at hF8 hR48 hHeld ⊢
        refine pure_ (i := 0) (N := some 28) (v := ?_) (a' := ?_) #[true, false, false, false, false, false, false] rfl rfl (by kernel_rfl) (fun _ _ _ h => h) (Or.inl ⟨by rfl, ?_⟩) ?_ ?_
        rotate_left
        · intro w'
          go_simp
          with_reducible rfl
        rotate_left
        · simp only [Act.put, List.setIfInBounds_toArray, List.set_cons_zero, List.set_cons_succ, i64_w, i32_w]
          rfl
        refine take_ (i := 1) (N := some 29) (v := ?_) (a' := ?_) #[true, true, false, false, false, false, false] rfl rfl (by kernel_rfl) (fun _ _ _ h => h) (Or.inl ⟨by rfl, ?_⟩) hHeld ?_ ?_
        rotate_left
        · intro w' s0
          go_simp
          with_reducible rfl
        rotate_left
        · simp only [Act.put, List.setIfInBounds_toArray, List.set_cons_zero, List.set_cons_succ, i64_w, i32_w]
          rfl
        refine one_ (i := 2) (N := some 30) #[true, true, true, false, false, false, false] rfl rfl (by kernel_rfl) (by decide) (fun K hK => ?_)
        refine goes_ Try.func59 (by kernel_rfl) rfl #[.int .i64 0] (by rfl) rfl rfl (by simp only [List.map_toArray, List.map_cons, List.map_nil]; rfl) ?_
        with_reducible refine (spec_refTo.calls 0 _ _ _ _ rfl).mono ?_
        rintro e y9 ⟨rfl, hb9⟩
        refine ⟨_, rfl, ?_⟩
        have hF9 := hF8.below hb9
        have hR49 := Kd.R_below hR48 hb9
        refine hK.out _ _ (hF9.cell3) (fun hHeld => ?_)
        clear hK K
        refine norm_ (a' := ?_) ?_ ?_
        rotate_left
        · show Act.put _ (some 30) _ = _
          simp only [Act.put, List.setIfInBounds_toArray, List.set_cons_zero, List.set_cons_succ, i64_w, i32_w]
          rfl
        refine one_ (i := 3) (N := some 31) #[true, true, true, true, false, false, false] rfl rfl (by kernel_rfl) (by decide) (fun K hK => ?_)
        refine value_ (w1 := ?_) (v := ?_) (by rfl) rfl ?_ ?_
        rotate_left 2
        · go_simp
          constructor
          · rfl
          · rfl
        refine hK.out _ _ ((hF9.below (bla (Below.refl _ _) _)).cell3) (fun hHeld => ?_)
        clear hK K
        refine norm_ (a' := ?_) ?_ ?_
        rotate_left
        · show Act.put _ (some 31) _ = _
          simp only [Act.put, List.setIfInBounds_toArray, List.set_cons_zero, List.set_cons_succ, i64_w, i32_w]
          rfl
        refine last_ (i := 4) (N := some 32) #[true, true, true, true, true, false, false] rfl rfl (by kernel_rfl) (by decide) (fun K hK => ?_)
        refine Kd.R_append_step k35 (w0 := y9) N (by rfl) (.tmp 29) (.tmp 31) 26 35 (.agg #[(.int .i64 0), (.string ⟨#[]⟩), (.int .i64 0)]) 32 rfl Try.underlying26 info35 rfl (by decide) (by omega) (.slice A6 1 c6) [refN k] (refN 0) [.int .i64 4, .string ⟨#[]⟩, .int .i64 0] (fun k => k ≠ b4) (fun _ => False) rfl rfl ?aP (fun _ hk => hk.elim) ?aF ?aO ?aB ?aS ?aL ?_
        case aP => exact k35_mkM _ _ _ (refN 0)
        case aF => exact fun k hk => by have := blk_lt hF9.cb; omega
        case aO => exact hF9.r3
        case aB => exact Below.refl _ _
        case aS => have := hF9.b4N; have := blk_lt hF9.cb; omega
        case aL => simp
        intro v1 w13 ho _ hg hat
        obtain ⟨A8, n8, c8, rfl⟩ := sfN ho
        have hF10 := hF9.grow3 hR49 HN4.out hs4 hg ho
        have q3 := (kcl hF10.1 3).trans (show _ = some (.slice A6 1 c6) from rfl)
        have qf := kfz hF10.1 3
        have HF11 := Aside0.mk (hF10.2 _ rfl)
        refine hK.out _ _ ?_
        clear hK K
        refine norm_ (a' := ?_) ?_ ?_
        rotate_left
        · show Act.put _ (some 32) _ = _
          simp only [Act.put, List.setIfInBounds_toArray, List.set_cons_zero, List.set_cons_succ, i64_w, i32_w]
          rfl
        refine pure_ (i := 5) (N := some 33) (v := ?_) (a' := ?_) #[true, true, true, true, true, true, false] rfl rfl (by kernel_rfl) (fun _ _ _ h => h) (Or.inl ⟨by rfl, ?_⟩) ?_ ?_
        rotate_left
        · intro w'
          go_simp
          with_reducible rfl
        rotate_left
        · simp only [Act.put, List.setIfInBounds_toArray, List.set_cons_zero, List.set_cons_succ, i64_w, i32_w]
          rfl
        refine last_ (i := 6) (N := none) #[true, true, true, true, true, true, true] rfl rfl (by kernel_rfl) (by decide) (fun K hK => ?_)
        refine skip_ (w1 := ?_) (by rfl) rfl ?_ ?_
        rotate_left
        · go_simp
          rfl
        refine hK.out _ _ ?_
        clear hK K
        refine done_ (by kernel_rfl) ?_
        obtain ⟨W4, hW4⟩ : ∃ W4 : World, W4 = w13.setCell ⟨b4, 3, none⟩ (.slice A8 n8 c8) := ⟨_, rfl⟩
        rw [← hW4] at HF11 ⊢
        clear hW4 q3 qf hF10 hF9 hF8 hR48 hR49 hs4 HF5 HR4 HN4 ho hg hat hb9 hHeld
        have z1 := (kcl HF11.out.c1 0).trans (show _ = some (.slice A1 n1 c1) from rfl)
        have k0 := (kcl HF11.out.cb 0).trans (show _ = some (.int .i64 5) from rfl)
        have k1 := (kcl HF11.out.cb 1).trans (show _ = some (.string nm) from rfl)
        have k2 := (kcl HF11.out.cb 2).trans (show _ = some (.int .i64 0) from rfl)
        have k3 := (kcl HF11.out.cb 3).trans (show _ = some (.slice A8 n8 c8) from rfl)
        have k4 := (kcl HF11.out.cb 4).trans (show _ = some (.slice A7 1 c7) from rfl)
        have k5 := (kcl HF11.out.cb 5).trans (show _ = some (.slice none 0 0) from rfl)
        have k6 := (kcl HF11.out.cb 6).trans (show _ = some (.slice none 0 0) from rfl)
        go_wp2_with (first
          | ((with_reducible refine gate_builtin (b := .append) (xs := #[.tmp 35, .tmp 37]) rfl ?_); at_builtin; refine Kd.R_append k46 (w0 := W4) (w.heap.size + 2) rfl (.tmp 35) (.tmp 37) 23 46 (.agg #[(.int .i64 0), (.string ⟨#[]⟩), (.int .i64 0), (.slice none 0 0), (.slice none 0 0), (.slice none 0 0), (.slice none 0 0)]) 128 rfl Try.underlying23 info46 rfl (by decide) (by omega) (.slice A1 n1 c1) l ⟨5, nm, 0, [refN k] ++ [refN 0], [refN 0], [], []⟩ [.int .i64 5, .string nm, .int .i64 0, .slice A8 n8 c8, .slice A7 1 c7, .slice none 0 0, .slice none 0 0] (fun _ => True) (fun k => N ≤ k) rfl (by rfl) HF11.out.obj (fun k hk => HF11.out.sep hk) (fun _ _ => trivial) (Kd.R_mono HF11.out.hr (fun _ _ => trivial)) (Below.refl _ _) (by have := blk_lt HF11.out.c1; omega) (by omega) ?_; intro v1 w13 ho _ hg _; have hp := HF11.out.growH hg; obtain ⟨A2, n2, c2, rfl⟩ := sfN ho; have q1 := (kcl hp.2.2.1 0).trans (show _ = some (.slice A1 n1 c1) from rfl); have qf1 := kfz hp.2.2.1 0; have HPUT := Aside0.mk (Nh.put hp ho (new5' HNM.out k) HALL.out); clear hp ho hg))
        go_roundw
        case rel => exact ⟨k + 1, _, A2, n2, c2, by go_num, by omega, ⟨HPUT.out⟩, by have := HLK.out; simp; omega⟩
        case measure => simp [intOf]; omega
      · have hk00 : k = 0 := by omega
        have z1 := (kcl HF1.out.c1 0).trans (show _ = some (.slice A1 n1 c1) from rfl)
        have k0 := (kcl HF1.out.cb 0).trans (show _ = some (.int .i64 5) from rfl)
        have k1 := (kcl HF1.out.cb 1).trans (show _ = some (.string nm) from rfl)
        have k2 := (kcl HF1.out.cb 2).trans (show _ = some (.int .i64 0) from rfl)
        have k3 := (kcl HF1.out.cb 3).trans (show _ = some (.slice A6 1 c6) from rfl)
        have k4 := (kcl HF1.out.cb 4).trans (show _ = some (.slice none 0 0) from rfl)
        have k5 := (kcl HF1.out.cb 5).trans (show _ = some (.slice none 0 0) from rfl)
        have k6 := (kcl HF1.out.cb 6).trans (show _ = some (.slice none 0 0) from rfl)
        go_wp2_with (first
          | ((with_reducible refine gate_builtin (b := .append) (xs := #[.tmp 35, .tmp 37]) rfl ?_); at_builtin; refine Kd.R_append k46 (w0 := W1) (w.heap.size + 2) rfl (.tmp 35) (.tmp 37) 23 46 (.agg #[(.int .i64 0), (.string ⟨#[]⟩), (.int .i64 0), (.slice none 0 0), (.slice none 0 0), (.slice none 0 0), (.slice none 0 0)]) 128 rfl Try.underlying23 info46 rfl (by decide) (by omega) (.slice A1 n1 c1) l ⟨5, nm, 0, [refN k], [], [], []⟩ [.int .i64 5, .string nm, .int .i64 0, .slice A6 1 c6, .slice none 0 0, .slice none 0 0, .slice none 0 0] (fun _ => True) (fun k => N ≤ k) rfl (by rfl) HF1.out.obj (fun k hk => HF1.out.sep hk) (fun _ _ => trivial) (Kd.R_mono HF1.out.hr (fun _ _ => trivial)) (Below.refl _ _) (by have := blk_lt HF1.out.c1; omega) (by omega) ?_; intro v1 w13 ho _ hg _; have hp := HF1.out.growH hg; obtain ⟨A2, n2, c2, rfl⟩ := sfN ho; have q1 := (kcl hp.2.2.1 0).trans (show _ = some (.slice A1 n1 c1) from rfl); have qf1 := kfz hp.2.2.1 0; have HPUT := Aside0.mk (Nh.put hp ho (new5 HNM.out k) HALL.out); clear hp ho hg))
        go_roundw
        case rel => exact ⟨k + 1, _, A2, n2, c2, by go_num, by omega, ⟨HPUT.out⟩, by have := HLK.out; simp; omega⟩
        case measure => simp [intOf]; omega
    · have HN := Aside0.mk HQ.out
      clear HQ
      go_wp2_with fail
      refine (built_n _).mono ?_
      rintro e w5 ⟨gn2, cn2, ns2, rfl, hr, hl, hs, hb⟩
      have hb2 := HN.out.below hb
      have HN2 := Aside0.mk (show Nh w w5 (.slice A1 n1 c1) l gn2 cn2 6 ns2 from ⟨hb2.bl, hb2.c0, hb2.c1, hb2.hr, Kd.R_lower hr (by have := blk_lt HN.out.c1; omega), hb2.all⟩)
      have HS2 := Aside0.mk hs
      clear hr hl hs hb hb2 HN
      go_wp2_with fail
      go_loopw [6] (fun u6 wr => ∃ (k : Nat) (l : List S46) (A1 : Option Addr) (n1 c1 : Nat), u6 = .int .i64 k ∧ k ≤ 6 ∧ Aside0 (Nh w wr (.slice A1 n1 c1) l gn2 cn2 6 ns2) ∧ l.length = 13 + k) (fun u6 _ => 6 - (intOf u6).toNat)
      case atStart => exact ⟨0, l, A1, n1, c1, rfl, by omega, ⟨HN2.out⟩, by have := HLK.out; omega⟩
      case round =>
        clear HN2
        obtain ⟨k, l, A1, n1, c1, rfl, hk6, HQ, hlk⟩ := hrel
        have hl40 : l.length ≤ 40 := by omega
        have HLK := Lib.hid hlk
        clear hlk
        by_cases hk : k < 6
        · obtain ⟨nm, hnm, hnm1⟩ := name_at HQ.out.nm HS2.out k hk
          have HNM := Aside0.mk hnm1
          clear hnm1
          go_wp2_with fail
          have hq0 : Below wr.heap.size wr wr.drew := below_drew (Below.refl _ _)
          have hD := HQ.out.below hq0
          refine start_ (n := 11) (S := fun w' => w'.cell? ⟨w.heap.size + 1, 0, none⟩ = some (.slice A1 n1 c1) ∧ w'.cell? ⟨gn2, k, none⟩ = some (.string nm)) (ds := [8, 10]) #[false, false, false, false, false, false, false, false, false, false, false] (by kernel_rfl) rfl rfl ⟨hD.cell1, B.cell_keep hq0 hnm⟩ (fun hHeld => ?_)
          generalize wr.drew = w10 at hq0 hD hHeld ⊢
          refine pure_ (i := 0) (N := some 47) (v := ?_) (a' := ?_) #[true, false, false, false, false, false, false, false, false, false, false] rfl rfl (by kernel_rfl) (fun _ _ _ h => h) (Or.inl ⟨by rfl, ?_⟩) ?_ ?_
          rotate_left
          · intro w'
            go_simp
            with_reducible rfl
          rotate_left
          · simp only [Act.put, List.setIfInBounds_toArray, List.set_cons_zero, List.set_cons_succ, i64_w, i32_w]
            rfl
          refine pure_ (i := 2) (N := some 49) (v := ?_) (a' := ?_) #[true, false, true, false, false, false, false, false, false, false, false] rfl rfl (by kernel_rfl) (fun _ _ _ h => h) (Or.inl ⟨by rfl, ?_⟩) ?_ ?_
          rotate_left
          · intro w'
            go_simp
            with_reducible rfl
          rotate_left
          · simp only [Act.put, List.setIfInBounds_toArray, List.set_cons_zero, List.set_cons_succ, i64_w, i32_w]
            rfl
          refine pure_ (i := 3) (N := some 50) (v := ?_) (a' := ?_) #[true, false, true, true, false, false, false, false, false, false, false] rfl rfl (by kernel_rfl) (fun _ _ _ h => h) (Or.inl ⟨by rfl, ?_⟩) ?_ ?_
          rotate_left
          · intro w'
            go_simp
            with_reducible rfl
          rotate_left
          · simp only [Act.put, List.setIfInBounds_toArray, List.set_cons_zero, List.set_cons_succ, i64_w, i32_w]
            rfl
          refine pure_ (i := 4) (N := some 51) (v := ?_) (a' := ?_) #[true, false, true, true, true, false, false, false, false, false, false] rfl rfl (by kernel_rfl) (fun _ _ _ h => h) (Or.inl ⟨by rfl, ?_⟩) ?_ ?_
          rotate_left
          · intro w'
            go_simp
            with_reducible rfl
          rotate_left
          · simp only [Act.put, List.setIfInBounds_toArray, List.set_cons_zero, List.set_cons_succ, i64_w, i32_w]
            rfl
          refine take_ (i := 1) (N := some 48) (v := ?_) (a' := ?_) #[true, true, true, true, true, false, false, false, false, false, false] rfl rfl (by kernel_rfl) (fun _ _ _ h => h) (Or.inl ⟨by rfl, ?_⟩) hHeld ?_ ?_
          rotate_left
          · rintro w' ⟨s0, s1⟩
            go_simp
            with_reducible rfl
          rotate_left
          · simp only [Act.put, List.setIfInBounds_toArray, List.set_cons_zero, List.set_cons_succ, i64_w, i32_w]
            rfl
          refine take_ (i := 5) (N := some 52) (v := ?_) (a' := ?_) #[true, true, true, true, true, true, false, false, false, false, false] rfl rfl (by kernel_rfl) (fun _ _ _ h => h) (Or.inl ⟨by rfl, ?_⟩) hHeld ?_ ?_
          rotate_left
          · rintro w' ⟨s0, s1⟩
            go_simp
            with_reducible rfl
          rotate_left
          · simp only [Act.put, List.setIfInBounds_toArray, List.set_cons_zero, List.set_cons_succ, i64_w, i32_w]
            rfl
          refine pure_ (i := 6) (N := some 53) (v := ?_) (a' := ?_) #[true, true, true, true, true, true, true, false, false, false, false] rfl rfl (by kernel_rfl) (fun _ _ _ h => h) (Or.inl ⟨by rfl, ?_⟩) ?_ ?_
          rotate_left
          · intro w'
            go_simp
            with_reducible rfl
          rotate_left
          · simp only [Act.put, List.setIfInBounds_toArray, List.set_cons_zero, List.set_cons_succ, i64_w, i32_w]
            rfl
          refine one_ (i := 7) (N := some 54) #[true, true, true, true, true, true, true, true, false, false, false] rfl rfl (by kernel_rfl) (by decide) (fun K hK => ?_)
          refine value_ (w1 := ?_) (v := ?_) (by rfl) rfl ?_ ?_
          rotate_left 2
          · go_simp
            constructor
            · rfl
            · rfl
          have hD2 := hD.alloc (.cells #[.int .i64 10, .string nm, .int .i64 0, .slice none 0 0, .slice none 0 0, .slice none 0 0, .slice none 0 0] 46)
          refine hK.out _ _ ⟨hD2.cell1, B.cell_keep (bth hq0 hq0.size (bla (Below.refl _ _) _)) hnm⟩ (fun hHeld => ?_)
          clear hK K
          refine norm_ (a' := ?_) ?_ ?_
          rotate_left
          · show Act.put _ (some 54) _ = _
            simp only [Act.put, List.setIfInBounds_toArray, List.set_cons_zero, List.set_cons_succ, i64_w, i32_w]
            rfl
          refine last_ (i := 8) (N := some 55) #[true, true, true, true, true, true, true, true, true, false, false] rfl rfl (by kernel_rfl) (by decide) (fun K hK => ?_)
          refine Kd.R_append_step k46 (w0 := w10) (w.heap.size + 2) (by rfl) (.tmp 48) (.tmp 54) 23 46 (.agg #[(.int .i64 0), (.string ⟨#[]⟩), (.int .i64 0), (.slice none 0 0), (.slice none 0 0), (.slice none 0 0), (.slice none 0 0)]) 128 rfl Try.underlying23 info46 rfl (by decide) (by omega) (.slice A1 n1 c1) l ⟨10, nm, 0, [], [], [], []⟩ [.int .i64 10, .string nm, .int .i64 0, .slice none 0 0, .slice none 0 0, .slice none 0 0, .slice none 0 0] (fun _ => True) (fun _ => False) rfl rfl ?aP (fun _ hk => hk.elim) (fun _ _ => trivial) ?aO ?aB ?aS ?aL ?_
          case aP => exact k46_mkM w10 _ _ (⟨10, nm, 0, [], [], [], []⟩ : S46) (Kd.R_nil _ _ _ _ _) (Kd.R_nil _ _ _ _ _) (Kd.R_nil _ _ _ _ _) (Kd.R_nil _ _ _ _ _)
          case aO => exact hD.hr
          case aB => exact Below.refl _ _
          case aS => have := blk_lt hD.c1; omega
          case aL => omega
          intro v1 w13 ho _ hg _
          have hp := hD.grow hg
          obtain ⟨A2, n2, c2, rfl⟩ := sfN ho
          have hq2' := (kcl hp.2.2.1 0).trans (show _ = some (.slice A1 n1 c1) from rfl)
          have hf2' := kfz hp.2.2.1 0
          have HPUT := Aside0.mk (Nh.put hp ho (new10 HNM.out) hD.all)
          refine hK.out _ _ ?_
          clear hK K
          refine norm_ (a' := ?_) ?_ ?_
          rotate_left
          · show Act.put _ (some 55) _ = _
            simp only [Act.put, List.setIfInBounds_toArray, List.set_cons_zero, List.set_cons_succ, i64_w, i32_w]
            rfl
          refine pure_ (i := 9) (N := some 56) (v := ?_) (a' := ?_) #[true, true, true, true, true, true, true, true, true, true, false] rfl rfl (by kernel_rfl) (fun _ _ _ h => h) (Or.inl ⟨by rfl, ?_⟩) ?_ ?_
          rotate_left
          · intro w'
            go_simp
            with_reducible rfl
          rotate_left
          · simp only [Act.put, List.setIfInBounds_toArray, List.set_cons_zero, List.set_cons_succ, i64_w, i32_w]
            rfl
          refine last_ (i := 10) (N := none) #[true, true, true, true, true, true, true, true, true, true, true] rfl rfl (by kernel_rfl) (by decide) (fun K hK => ?_)
          refine skip_ (w1 := ?_) (by rfl) rfl ?_ ?_
          rotate_left
          · go_simp
            rfl
          refine hK.out _ _ ?_
          clear hK K
          refine done_ (by kernel_rfl) ?_
          go_wp2_with fail
          go_roundw
          case rel => exact ⟨k + 1, _, A2, n2, c2, by go_num, by omega, ⟨HPUT.out⟩, by have := HLK.out; simp; omega⟩
          case measure => simp [intOf]; omega
        · have q1 := HQ.out.cell1
          have q0 := (kcl HQ.out.c0 0).trans (show _ = some (.slice none 0 0) from rfl)
          have qf := kfz HQ.out.c0 0
          go_wp2_with fail
          refine bodyPost_ret (v := .agg #[.slice A1 n1 c1]) (B.res_c rfl _ _ w.heap.size 25 _ (0, 0) _ rfl (blk_put HQ.out.c0 0 _ rfl) Try.underlying25 rfl rfl) rfl ⟨_, l, rfl, ?_, by have := HLK.out; omega, ?_, ?_, HQ.out.bl.setCell (Nat.le_refl _) _⟩
          · exact Kd.R_mono (Kd.R_lower (Kd.R_far (Kd.R_bound HQ.out.hr) (p := ⟨w.heap.size, 0, none⟩) (fun k hk => by have := hk.2.1; simp; omega) (.slice A1 n1 c1)) (by omega)) (fun _ _ => trivial)
          · exact List.all_eq_true.2 fun o ho => (HQ.out.all o ho).1
          · exact List.all_eq_true.2 fun o ho => (HQ.out.all o ho).2
end Go.Proofs.Ytgddblpgbkgpcaa.PR
namespace Go.Proofs.Ytgddblpgbkgpcaa.PR
set_option linter.unusedVariables false
set_option linter.unusedSimpArgs false
open Go.RowKit Go.Proofs.YtgddblpgbkgpcaaW.PrintWords Go.Proofs.YtgddblpgbkgpcaaW.PrintLast Go.Proofs.YtgddblpgbkgpcaaW.PrintMore
def apart (u v : Value) : Prop := ∀ k, u.ownBlock = some k → v.ownBlock ≠ some k
theorem apart.symm {u v : Value} (h : apart u v) : apart v u := fun k hk he => h k he hk
theorem apart.left {u u1 v : Value} (h : apart u v) {N : Nat} (hv : ∀ k, v.ownBlock = some k → k < N) (hat : u1.ownBlock = u.ownBlock ∨ ∃ b, u1.ownBlock = some b ∧ N ≤ b) : apart u1 v := by
  intro k hk he
  rcases hat with hat | ⟨b, hb, hle⟩
  · exact h k (by rw [← hat]; exact hk) he
  · rw [hk] at hb
    injection hb with hb
    have := hv k he
    omega
theorem apart_nil (v : Value) : apart (.slice none 0 0) v := fun k hk => by simp [Value.ownBlock] at hk
def nl {α : Type} (xs : List α) (v : Value) : Prop := xs = [] → v = .slice none 0 0
theorem nl_app {α : Type} (xs : List α) (x : α) (v : Value) : nl (xs ++ [x]) v := fun h => by simp at h
def nilc (x : S46) (cs : List Value) : Prop := x.f0 = 5 ∨ x.f0 = 10 ∨ (∀ v3 v4 v5 v6 : Value, ∀ a b c : Value, cs = [a, b, c, v3, v4, v5, v6] → nl x.f3 v3 ∧ nl x.f4 v4 ∧ nl x.f5 v5 ∧ nl x.f6 v6)
def k46n : Kd S46 where
  sz := k46.sz
  E := k46.E
  K := k46.K
  M := fun w base ok x cs => k46.M w base ok x cs ∧ nilc x cs
  K_len := k46.K_len
  K_one := k46.K_one
  K_below := k46.K_below
  K_of_M := fun h => k46.K_of_M h.1
  M_mono := fun hok h => ⟨k46.M_mono hok h.1, h.2⟩
  M_bound := fun h => ⟨k46.M_bound h.1, h.2⟩
  M_move := fun hm h => ⟨k46.M_move hm h.1, h.2⟩
  M_lower := fun hb h => ⟨k46.M_lower hb h.1, h.2⟩
theorem R_n {w : World} {base : Nat} {ok : Nat → Prop} {v : Value} {xs : List S46} (h : k46.R 46 w base ok v xs) (hx : ∀ x ∈ xs, x.f0 = 5 ∨ x.f0 = 10) : k46n.R 46 w base ok v xs := by
  obtain ⟨h0, inner, ho, hr⟩ := h
  refine ⟨h0, inner, ho, hr.1, fun j p hj => ⟨hr.2 j p hj, ?_⟩⟩
  rcases hx p (List.mem_of_getElem? hj) with h | h
  · exact .inl h
  · exact .inr (.inl h)
theorem n_R {w : World} {base : Nat} {ok : Nat → Prop} {v : Value} {xs : List S46} (h : k46n.R 46 w base ok v xs) : k46.R 46 w base ok v xs := by
  obtain ⟨h0, inner, ho, hr⟩ := h
  exact ⟨h0, inner, ho, hr.imp_ (fun _ _ hp => hp.1)⟩
structure Ob (w : World) (H : Nat) (o : S46) (v3 v4 v5 v6 : Value) : Prop where
  r3 : k35.R 35 w (H + 1) (fun _ => True) v3 o.f3
  r4 : k35.R 35 w (H + 1) (fun _ => True) v4 o.f4
  r5 : Kd.string.R 9 w (H + 1) (fun _ => True) v5 o.f5
  r6 : k35.R 35 w (H + 1) (fun _ => True) v6 o.f6
  n34 : apart v3 v4
  n36 : apart v3 v6
  n46 : apart v4 v6
  z3 : nl o.f3 v3
  z4 : nl o.f4 v4
  z5 : nl o.f5 v5
  z6 : nl o.f6 v6
section
variable {w w1 : World} {H : Nat} {o : S46} {v3 v4 v5 v6 : Value}
theorem R_up {α : Type} {d : Kd α} {e base : Nat} {ok : Nat → Prop} {v : Value} {xs : List α} (h : d.R e w base ok v xs) (hm : ∀ k, base ≤ k → k < w.heap.size → w1.heap[k]? = w.heap[k]?) : d.R e w1 base ok v xs :=
  Kd.R_mono (Kd.R_move (Kd.R_bound h) (fun k hk => hm k hk.2.1 hk.2.2.1)) (fun _ hk => hk.1)
theorem Ob.step (h : Ob w H o v3 v4 v5 v6) (hm : ∀ k, H + 1 ≤ k → k < w.heap.size → w1.heap[k]? = w.heap[k]?) : Ob w1 H o v3 v4 v5 v6 :=
  ⟨R_up h.r3 hm, R_up h.r4 hm, R_up h.r5 hm, R_up h.r6 hm, h.n34, h.n36, h.n46, h.z3, h.z4, h.z5, h.z6⟩
theorem Ob.keep (h : Ob w H o v3 v4 v5 v6) {g : Nat} (hk : KeepBut w w1 g none) (hg : g ≤ H) : Ob w1 H o v3 v4 v5 v6 := h.step (fun k h1 h2 => hk.2 k h2 (by omega) (by simp))
theorem Ob.far (h : Ob w H o v3 v4 v5 v6) {p : Addr} (hp : p.block ≤ H) (u : Value) : Ob (w.setCell p u) H o v3 v4 v5 v6 := h.step (fun k h1 _ => Below.heap_setCell w p u k (by omega))
theorem Ob.kind (h : Ob w H o v3 v4 v5 v6) (a : Int) : Ob w H { o with f2 := a } v3 v4 v5 v6 := ⟨h.r3, h.r4, h.r5, h.r6, h.n34, h.n36, h.n46, h.z3, h.z4, h.z5, h.z6⟩
theorem R_other {α β : Type} {d : Kd α} {d' : Kd β} {e e' base base' : Nat} {ok ok' : Nat → Prop} {u v : Value} {xs : List α} {ys : List β} (h : d.R e w base ok u xs) (hE : d.E = []) (_hv : d'.R e' w base' ok' v ys) (hn : apart u v) (hg : w.grownBy w1 v.ownBlock) : d.R e w1 base ok u xs :=
  Kd.R_grown2 h hE hg (fun k hk he => hn k he.symm hk)
theorem Ob.put3 (h : Ob w H o v3 v4 v5 v6) {v : Value} {xs : List S35} (hr : k35.R 35 w1 (H + 1) (fun _ => True) v xs) (hg : w.grownBy w1 v3.ownBlock) (hat : v.ownBlock = v3.ownBlock ∨ ∃ b, v.ownBlock = some b ∧ w.heap.size ≤ b) (hz : nl xs v) : Ob w1 H { o with f3 := xs } v v4 v5 v6 :=
  ⟨hr, R_other h.r4 rfl h.r3 h.n34.symm hg, Kd.R_over' h.r5 (Kd.R_typed h.r3) (by decide) hg, R_other h.r6 rfl h.r3 h.n36.symm hg, h.n34.left (Kd.R_lt h.r4) hat, h.n36.left (Kd.R_lt h.r6) hat, h.n46, hz, h.z4, h.z5, h.z6⟩
theorem Ob.put4 (h : Ob w H o v3 v4 v5 v6) {v : Value} {xs : List S35} (hr : k35.R 35 w1 (H + 1) (fun _ => True) v xs) (hg : w.grownBy w1 v4.ownBlock) (hat : v.ownBlock = v4.ownBlock ∨ ∃ b, v.ownBlock = some b ∧ w.heap.size ≤ b) (hz : nl xs v) : Ob w1 H { o with f4 := xs } v3 v v5 v6 :=
  ⟨R_other h.r3 rfl h.r4 h.n34 hg, hr, Kd.R_over' h.r5 (Kd.R_typed h.r4) (by decide) hg, R_other h.r6 rfl h.r4 h.n46.symm hg, (h.n34.symm.left (Kd.R_lt h.r3) hat).symm, h.n36, h.n46.left (Kd.R_lt h.r6) hat, h.z3, hz, h.z5, h.z6⟩
theorem Ob.put6 (h : Ob w H o v3 v4 v5 v6) {v : Value} {xs : List S35} (hr : k35.R 35 w1 (H + 1) (fun _ => True) v xs) (hg : w.grownBy w1 v6.ownBlock) (hat : v.ownBlock = v6.ownBlock ∨ ∃ b, v.ownBlock = some b ∧ w.heap.size ≤ b) (hz : nl xs v) : Ob w1 H { o with f6 := xs } v3 v4 v5 v :=
  ⟨R_other h.r3 rfl h.r6 h.n36 hg, R_other h.r4 rfl h.r6 h.n46 hg, Kd.R_over' h.r5 (Kd.R_typed h.r6) (by decide) hg, hr, h.n34, (h.n36.symm.left (Kd.R_lt h.r3) hat).symm, (h.n46.symm.left (Kd.R_lt h.r4) hat).symm, h.z3, h.z4, h.z5, hz⟩
theorem Ob.put5 (h : Ob w H o v3 v4 v5 v6) {v : Value} {xs : List ByteArray} (hr : Kd.string.R 9 w1 (H + 1) (fun _ => True) v xs) (hg : w.grownBy w1 v5.ownBlock) (hz : nl xs v) : Ob w1 H { o with f5 := xs } v3 v4 v v6 :=
  ⟨Kd.R_over' h.r3 (Kd.R_typed h.r5) (by decide) hg, Kd.R_over' h.r4 (Kd.R_typed h.r5) (by decide) hg, hr, Kd.R_over' h.r6 (Kd.R_typed h.r5) (by decide) hg, h.n34, h.n36, h.n46, h.z3, h.z4, hz, h.z6⟩
theorem Ob.new (w : World) (H : Nat) (k : Int) (nm : ByteArray) (p : Int) : Ob w H ⟨k, nm, p, [], [], [], []⟩ (.slice none 0 0) (.slice none 0 0) (.slice none 0 0) (.slice none 0 0) :=
  ⟨Kd.R_nil _ _ _ _ _, Kd.R_nil _ _ _ _ _, Kd.R_nil _ _ _ _ _, Kd.R_nil _ _ _ _ _, apart_nil _, apart_nil _, apart_nil _, fun _ => rfl, fun _ => rfl, fun _ => rfl, fun _ => rfl⟩
theorem R_fresh (w : World) (base : Nat) (hb : base ≤ w.heap.size) (xs : List S35) (hl : xs.length ≤ 1000) :
    k35.R 35 (w.alloc (.cells (xs.flatMap fun x => [Value.int .i64 x.f0, .string x.f1, .int .i64 x.f2]).toArray 35)) base (fun _ => True) (.slice (some ⟨w.heap.size, 0, none⟩) xs.length xs.length) xs := by
  have hlen : ∀ l : List S35, (l.flatMap fun x => [Value.int .i64 x.f0, .string x.f1, .int .i64 x.f2]).length = l.length * 3 := by
    intro l
    induction l with
    | nil => rfl
    | cons x l ih => simp only [List.flatMap_cons, List.length_append, List.length_cons, List.length_nil, ih]; omega
  refine ⟨fun _ _ => trivial, (xs.flatMap fun x => [Value.int .i64 x.f0, .string x.f1, .int .i64 x.f2]), ?_, ?_⟩
  · have h2 := World.ownsRow_lit (base := base) (e := 35) (size := 3) w (xs.flatMap fun x => [Value.int .i64 x.f0, .string x.f1, .int .i64 x.f2]).toArray xs.length hb (by unfold maxLen; omega) (by simpa using hlen xs)
    show World.ownsRow _ base 35 3 _ _ _
    simpa using h2
  · refine ⟨hlen xs, fun j p hj => ?_⟩
    have key : ∀ (l : List S35) (j : Nat) (p : S35), l[j]? = some p → ((l.flatMap fun x => [Value.int .i64 x.f0, .string x.f1, .int .i64 x.f2]).drop (j * 3)).take 3 = [Value.int .i64 p.f0, .string p.f1, .int .i64 p.f2] := by
      intro l
      induction l with
      | nil => intro j p h; simp at h
      | cons x l ih =>
        intro j p h
        cases j with
        | zero =>
          simp at h
          subst h
          simp
        | succ j =>
          have := ih j p (by simpa using h)
          rw [← this]
          simp [Nat.succ_mul, List.drop_append]
    show k35.M _ _ _ p (((xs.flatMap fun x => [Value.int .i64 x.f0, .string x.f1, .int .i64 x.f2]).drop (j * 3)).take 3)
    rw [key xs j p hj]
    exact k35_mkM _ _ _ p
theorem Ob.whole (h : Ob w H o v3 v4 v5 v6) {base : Nat} (hb : base ≤ H + 1) : k46n.M w base (fun k => H + 1 ≤ k) o [.int .i64 o.f0, .string o.f1, .int .i64 o.f2, v3, v4, v5, v6] := by
  have up : ∀ {α : Type} {d : Kd α} {e : Nat} {v : Value} {xs : List α}, d.R e w (H + 1) (fun _ => True) v xs → d.R e w base (fun k => H + 1 ≤ k) v xs :=
    fun h => Kd.R_lower (Kd.R_mono (Kd.R_bound h) (fun _ hk => hk.2.1)) hb
  refine ⟨k46_mkM w base _ o (up h.r3) (up h.r4) (up h.r5) (up h.r6), .inr (.inr ?_)⟩
  intro u3 u4 u5 u6 a b c e
  simp only [List.cons.injEq] at e
  obtain ⟨rfl, rfl, rfl, rfl, rfl, rfl, rfl, _⟩ := e
  exact ⟨h.z3, h.z4, h.z5, h.z6⟩
end
def vsz (l : List S35) : Prop := ∀ x ∈ l, x.f1.size ≤ 5
def oG (m : Nat) (o : S46) : Prop := o.f1.size ≤ 100 ∧ o.f3.length ≤ m + 2 ∧ o.f4.length ≤ m ∧ o.f5.length ≤ m ∧ o.f6.length ≤ m ∧ vsz o.f3 ∧ vsz o.f4 ∧ vsz o.f6 ∧ ∀ s ∈ o.f5, s ∈ nm4
theorem oG_oB {m : Nat} {o : S46} (h : oG m o) (hm : m ≤ 30) : oB o = true := by
  obtain ⟨h1, h2, h3, h4, h5, h6, h7, h8, h9⟩ := h
  unfold oB
  simp only [Bool.and_eq_true, decide_eq_true_eq, List.all_eq_true, List.any_eq_true]
  exact ⟨⟨⟨⟨⟨⟨⟨⟨h1, by omega⟩, by omega⟩, by omega⟩, by omega⟩, fun x hx => h6 x hx⟩, fun x hx => h7 x hx⟩, fun x hx => h8 x hx⟩, fun s hs => ⟨s, h9 s hs, by simp⟩⟩
theorem vsz_snoc {l : List S35} {x : S35} (h : vsz l) (hx : VOk x) : vsz (l ++ [x]) := by
  intro y hy
  rcases List.mem_append.1 hy with hy | hy
  · exact h y hy
  · rw [List.mem_singleton.1 hy]; exact hx.1
def un (o : S46) : Prop := ∃ k : Int, k ≠ 5 ∧ k ≠ 10 ∧ o = ⟨k, ⟨#[]⟩, 0, [], [], [], []⟩
theorem un_oG {o : S46} (h : un o) : oG 0 o := by
  obtain ⟨k, _, _, rfl⟩ := h
  exact ⟨by simp; decide, by simp, by simp, by simp, by simp, by intro x hx; simp at hx, by intro x hx; simp at hx, by intro x hx; simp at hx, by intro s hs; simp at hs⟩
end Go.Proofs.Ytgddblpgbkgpcaa.PR
namespace Go.Proofs.Ytgddblpgbkgpcaa.PR
set_option linter.unusedVariables false
set_option linter.unusedSimpArgs false
open Go.RowKit Go.Proofs.YtgddblpgbkgpcaaW.PrintWords Go.Proofs.YtgddblpgbkgpcaaW.PrintLast Go.Proofs.YtgddblpgbkgpcaaW.PrintMore
structure Hp (w0 w wi : World) (g b4 : Nat) (b : Int) (v : Value) (l : List S46) : Prop where
  rn : Rn w0 wi g b
  bl : Below w0.heap.size w0 wi
  kp : KeepBut w wi g none
  c2 : wi.heap[w.heap.size]? = some (.cells #[.slice none 0 0] 25 (0, 0))
  c3 : wi.heap[w.heap.size + 1]? = some (.cells #[.int .i64 0, .string ⟨#[]⟩, .int .i64 0] 35 (0, 0))
  c4 : wi.heap[b4]? = some (.cells #[v] 25 (0, 0))
  gw : g < w.heap.size
  h4 : w.heap.size + 2 ≤ b4
  hl : k46n.R 46 wi (w.heap.size + 2) (fun k => k ≠ b4) v l
section
variable {w0 w wi w1 : World} {g b4 : Nat} {b b' : Int} {v : Value} {l : List S46}
theorem Hp.mono (h : Hp w0 w wi g b4 b v l) (hb : b ≤ b') : Hp w0 w wi g b4 b' v l := ⟨h.rn.mono hb, h.bl, h.kp, h.c2, h.c3, h.c4, h.gw, h.h4, h.hl⟩
theorem Hp.call (h : Hp w0 w wi g b4 b v l) (hR : Rn w0 w1 g b') (hB : Below w0.heap.size w0 w1) (hK : KeepBut wi w1 g none) : Hp w0 w w1 g b4 b' v l := by
  have := h.gw
  have := h.h4
  refine ⟨hR, hB, h.kp.trans hK (.inl rfl), hK.blk h.c2 (by omega) (by simp), hK.blk h.c3 (by omega) (by simp), hK.blk h.c4 (by omega) (by simp), h.gw, h.h4, R_up h.hl (fun k h1 h2 => hK.2 k h2 (by omega) (by simp))⟩
theorem Hp.below (h : Hp w0 w wi g b4 b v l) (hb : Below wi.heap.size wi w1) : Hp w0 w w1 g b4 b v l :=
  h.call (h.rn.below hb) (bth h.bl h.bl.size hb) (KeepBut.of_below hb g none)
theorem Hp.drew (h : Hp w0 w wi g b4 b v l) : Hp w0 w wi.drew g b4 b v l := h.below (below_drew (Below.refl _ _))
theorem Hp.alloc (h : Hp w0 w wi g b4 b v l) (o : Obj) : Hp w0 w (wi.alloc o) g b4 b v l := h.below (bla (Below.refl _ _) o)
theorem Hp.cell (h : Hp w0 w wi g b4 b v l) : wi.cell? ⟨b4, 0, none⟩ = some v := (kcl h.c4 0).trans rfl
theorem Hp.lt4 (h : Hp w0 w wi g b4 b v l) : b4 < wi.heap.size := blk_lt h.c4
theorem Hp.w0w (h : Hp w0 w wi g b4 b v l) : w0.heap.size ≤ g := h.rn.ge
theorem Hp.put (h : Hp w0 w wi g b4 b v l) {v1 : Value} {l1 : List S46} (hl1 : k46n.R 46 w1 (w.heap.size + 2) (fun k => k ≠ b4) v1 l1) (hg : wi.grownBy w1 v.ownBlock) : Hp w0 w (w1.setCell ⟨b4, 0, none⟩ v1) g b4 b v1 l1 := by
  have h1 := h.gw
  have h2 := h.h4
  have h3 := h.w0w
  have hbase := Kd.R_base h.hl
  have hne4 : some b4 ≠ v.ownBlock := fun e => h.hl.1 b4 e.symm rfl
  have ne : ∀ k, k < w.heap.size + 2 → some k ≠ v.ownBlock := fun k hk e => by have := hbase k e.symm; omega
  have hB1 : Below w0.heap.size w0 w1 := pw_below_grown h.bl _ h.bl.size hg (fun k hk => by have := hbase k hk; omega)
  refine ⟨(h.rn.grown hg (ne g (by omega))).far (by simp; omega) _, hB1.setCell (by simp; omega) _, ?_, blk_far (kgr h.c2 hg (ne _ (by omega))) (by simp; omega) _, blk_far (kgr h.c3 hg (ne _ (by omega))) (by simp; omega) _, blk_put (kgr h.c4 hg hne4) 0 v1 rfl, h1, h2, Kd.R_far (p := ⟨b4, 0, none⟩) hl1 (fun k hk => hk) v1⟩
  refine keep_far (KeepBut.trans h.kp (KeepBut.of_grown hg g) ?_) (by simp; omega) _
  cases he : v.ownBlock with
  | none => exact .inl rfl
  | some k => exact .inr ⟨k, rfl, by have := hbase k he; omega⟩
end
theorem one_n (g m : Nat) (A1 : Option Addr) (c1 : Nat) (l : List Int) (hm : m = l.length) (b : Int) (w0 w : World) (hR : Rn w0 w g b) (hB : Below w0.heap.size w0 w) (hb : b ≤ 1000000) (hr : Kd.C (Kd.int .i64) w A1 l.length l) (hc1 : l.length ≤ c1) (hf : ∀ ad, A1 = some ad → 0 < l.length → ad.block ≠ g) (hl : 0 < l.length) (hl' : l.length ≤ 1000) :
    Calls Try.prog 88 #[.pointer (some ⟨g, 0, none⟩), .slice A1 m c1] w fun e w' => ∃ r : Int, e = .returned (.int .i64 r) ∧ r ∈ l ∧ Rn w0 w' g (b + 1) ∧ Below w0.heap.size w0 w' ∧ KeepBut w w' g none := by
  subst hm; exact one_w g A1 c1 l b w0 w hR hB hb hr hc1 hf hl hl'
theorem of_n (g m : Nat) (A1 : Option Addr) (c1 : Nat) (l : List ByteArray) (hm : m = l.length) (b : Int) (w0 w : World) (hR : Rn w0 w g b) (hB : Below w0.heap.size w0 w) (hb : b ≤ 1000000) (hr : Kd.C Kd.string w A1 l.length l) (hc1 : l.length ≤ c1) (hf : ∀ ad, A1 = some ad → 0 < l.length → ad.block ≠ g) (hl : 0 < l.length) (hl' : l.length ≤ 1000) :
    Calls Try.prog 90 #[.pointer (some ⟨g, 0, none⟩), .slice A1 m c1] w fun e w' => ∃ r : ByteArray, e = .returned (.string r) ∧ r ∈ l ∧ Rn w0 w' g (b + 1) ∧ Below w0.heap.size w0 w' ∧ KeepBut w w' g none := by
  subst hm; exact of_w g A1 c1 l b w0 w hR hB hb hr hc1 hf hl hl'
end Go.Proofs.Ytgddblpgbkgpcaa.PR
namespace Go.Proofs.Ytgddblpgbkgpcaa.PR
set_option linter.unusedVariables false
set_option linter.unusedSimpArgs false
open Go.RowKit Go.Proofs.YtgddblpgbkgpcaaW.PrintWords Go.Proofs.YtgddblpgbkgpcaaW.PrintLast Go.Proofs.YtgddblpgbkgpcaaW.PrintMore
structure L2 (m : Nat) (l : List S46) : Prop where
  lo : 19 ≤ l.length
  hi : l.length ≤ 24
  m19 : 19 ≤ m
  ml : m ≤ l.length
  all : ∀ x ∈ l, oB x = true
  rest : ∀ j (h : j < l.length), m ≤ j → un l[j]
theorem L2.next {m : Nat} {l : List S46} (h : L2 m l) (hm : m < l.length) {o : S46} (ho : oB o = true) : L2 (m + 1) (l.set m o) := by
  refine ⟨by simpa using h.lo, by simpa using h.hi, by have := h.m19; omega, by simp; omega, fun x hx => ?_, fun j hj h1 => ?_⟩
  · rcases List.mem_or_eq_of_mem_set hx with hx | rfl
    · exact h.all x hx
    · exact ho
  · rw [List.getElem_set_ne (by omega)]
    exact h.rest j (by simpa using hj) (by omega)
theorem Hp.elem {w0 w wi : World} {g b4 : Nat} {b : Int} {A : Option Addr} {n c : Nat} {l : List S46} (h : Hp w0 w wi g b4 b (.slice A n c) l) (m : Nat) (hm : m < l.length) (hu : un l[m]) :
    ∃ gb q, A = some ⟨gb, 0, none⟩ ∧ n = l.length ∧ n ≤ c ∧ l[m] = ⟨q, ⟨#[]⟩, 0, [], [], [], []⟩ ∧ q ≠ 5 ∧ q ≠ 10 ∧ w.heap.size + 2 ≤ gb ∧ gb < wi.heap.size ∧ gb ≠ b4 ∧
      wi.cell? ⟨gb, m * 7, none⟩ = some (.int .i64 q) ∧ wi.cell? ⟨gb, m * 7 + 1, none⟩ = some (.string ⟨#[]⟩) ∧ wi.cell? ⟨gb, m * 7 + 2, none⟩ = some (.int .i64 0) ∧
      wi.cell? ⟨gb, m * 7 + 3, none⟩ = some (.slice none 0 0) ∧ wi.cell? ⟨gb, m * 7 + 4, none⟩ = some (.slice none 0 0) ∧ wi.cell? ⟨gb, m * 7 + 5, none⟩ = some (.slice none 0 0) ∧ wi.cell? ⟨gb, m * 7 + 6, none⟩ = some (.slice none 0 0) ∧ ∃ cells, wi.heap[gb]? = some (.cells cells 46 (0, 0)) := by
  obtain ⟨hn, hnc, _⟩ := Kd.R_reads' h.hl
  obtain ⟨gb, cap, e, hb, hlt, hcc⟩ := Kd.R_form h.hl (by omega)
  injection e with e1 e2 e3
  subst e1; subst e3
  have hl := h.hl
  obtain ⟨cs, hcl, hM, hc, _⟩ := Kd.R_elem hl z46 (m : Int) (by omega) (by omega)
  have hne : gb ≠ b4 := fun e => hl.1 gb (by simp [Value.ownBlock]) e
  have e7 : k46n.sz = 7 := rfl
  have ex : l.getD (m : Int).toNat z46 = l[m] := by simp [List.getD_eq_getElem?_getD, hm]
  rw [ex] at hM
  obtain ⟨q, q5, q10, hq⟩ := hu
  rw [hq] at hM
  obtain ⟨v3, v4, v5, v6, rfl, _, _, _, _⟩ := k46_openM hM.1
  have hz := (hM.2.resolve_left (by simpa using q5)).resolve_left (by simpa using q10)
  obtain ⟨z3, z4, z5, z6⟩ := hz v3 v4 v5 v6 _ _ _ rfl
  obtain rfl := z3 rfl
  obtain rfl := z4 rfl
  obtain rfl := z5 rfl
  obtain rfl := z6 rfl
  rw [e7] at hc
  exact ⟨gb, q, rfl, hn, hnc, hq, q5, q10, hb, hlt, hne, hc 0 _ rfl, hc 1 _ rfl, hc 2 _ rfl, hc 3 _ rfl, hc 4 _ rfl, hc 5 _ rfl, hc 6 _ rfl, hcc⟩
structure In (w0 wi wr : World) (g : Nat) (b : Int) (q : Int) (j : Nat) (x3 x4 : List S35) (x5 : List ByteArray) (x6 : List S35) (v3 v4 v5 v6 : Value) : Prop where
  rn : Rn w0 wr g b
  bl : Below w0.heap.size w0 wr
  kp : KeepBut wi wr g none
  gi : g < wi.heap.size
  c9 : wr.heap[wi.heap.size]? = some (.cells #[.int .i64 q, .string ⟨#[]⟩, .int .i64 0, v3, v4, v5, v6] 46 (0, 0))
  ob : Ob wr wi.heap.size ⟨q, ⟨#[]⟩, 0, x3, x4, x5, x6⟩ v3 v4 v5 v6
  gd : oG j ⟨q, ⟨#[]⟩, 0, x3, x4, x5, x6⟩
section
variable {w0 wi wr w1 : World} {g : Nat} {b b' : Int} {q : Int} {j : Nat} {x3 x4 x6 : List S35} {x5 : List ByteArray} {v3 v4 v5 v6 : Value}
theorem In.mono (h : In w0 wi wr g b q j x3 x4 x5 x6 v3 v4 v5 v6) (hb : b ≤ b') : In w0 wi wr g b' q j x3 x4 x5 x6 v3 v4 v5 v6 := ⟨h.rn.mono hb, h.bl, h.kp, h.gi, h.c9, h.ob, h.gd⟩
theorem In.call (h : In w0 wi wr g b q j x3 x4 x5 x6 v3 v4 v5 v6) (hR : Rn w0 w1 g b') (hB : Below w0.heap.size w0 w1) (hK : KeepBut wr w1 g none) : In w0 wi w1 g b' q j x3 x4 x5 x6 v3 v4 v5 v6 :=
  ⟨hR, hB, h.kp.trans hK (.inl rfl), h.gi, hK.blk h.c9 (by have := h.gi; omega) (by simp), h.ob.keep hK (by have := h.gi; omega), h.gd⟩
theorem In.below (h : In w0 wi wr g b q j x3 x4 x5 x6 v3 v4 v5 v6) (hb : Below wr.heap.size wr w1) : In w0 wi w1 g b q j x3 x4 x5 x6 v3 v4 v5 v6 :=
  h.call (h.rn.below hb) (bth h.bl h.bl.size hb) (KeepBut.of_below hb g none)
theorem In.alloc (h : In w0 wi wr g b q j x3 x4 x5 x6 v3 v4 v5 v6) (o : Obj) : In w0 wi (wr.alloc o) g b q j x3 x4 x5 x6 v3 v4 v5 v6 := h.below (bla (Below.refl _ _) o)
theorem In.cell (h : In w0 wi wr g b q j x3 x4 x5 x6 v3 v4 v5 v6) (i : Nat) : wr.cell? ⟨wi.heap.size, i, none⟩ = #[Value.int .i64 q, .string ⟨#[]⟩, .int .i64 0, v3, v4, v5, v6][i]? := kcl h.c9 i
theorem In.free (h : In w0 wi wr g b q j x3 x4 x5 x6 v3 v4 v5 v6) (i : Nat) : wr.frozen? ⟨wi.heap.size, i, none⟩ = false := kfz h.c9 i
theorem In.old (h : In w0 wi wr g b q j x3 x4 x5 x6 v3 v4 v5 v6) {a : Addr} {v : Value} (hc : wi.cell? a = some v) (hne : a.block ≠ g) : wr.cell? a = some v := keep_cell h.kp hc hne
theorem In.grown (h : In w0 wi wr g b q j x3 x4 x5 x6 v3 v4 v5 v6) {row : Option Nat} (hg : wr.grownBy w1 row) (hr : ∀ k, row = some k → wi.heap.size + 1 ≤ k) :
    Rn w0 w1 g b ∧ Below w0.heap.size w0 w1 ∧ KeepBut wi w1 g none ∧ w1.heap[wi.heap.size]? = some (.cells #[.int .i64 q, .string ⟨#[]⟩, .int .i64 0, v3, v4, v5, v6] 46 (0, 0)) := by
  have hgi := h.gi
  have h0 := h.rn.ge
  have ne : ∀ k, k ≤ wi.heap.size → some k ≠ row := fun k hk e => by have := hr k e.symm; omega
  refine ⟨h.rn.grown hg (ne g (by omega)), pw_below_grown h.bl _ h.bl.size hg (fun k hk => by have := hr k hk; omega), ?_, kgr h.c9 hg (ne _ (by omega))⟩
  refine KeepBut.trans h.kp (KeepBut.of_grown hg g) ?_
  cases he : row with
  | none => exact .inl rfl
  | some k => exact .inr ⟨k, rfl, by have := hr k he; omega⟩
theorem In.set (hR : Rn w0 w1 g b) (hB : Below w0.heap.size w0 w1) (hK : KeepBut wi w1 g none) (hgi : g < wi.heap.size) (h0 : w0.heap.size ≤ g) (hc : w1.heap[wi.heap.size]? = some (.cells #[.int .i64 q, .string ⟨#[]⟩, .int .i64 0, v3, v4, v5, v6] 46 (0, 0))) (i : Nat) (u : Value) {cs : Array Value} (hcs : (#[Value.int .i64 q, .string ⟨#[]⟩, .int .i64 0, v3, v4, v5, v6]).setIfInBounds i u = cs) :
    Rn w0 (w1.setCell ⟨wi.heap.size, i, none⟩ u) g b ∧ Below w0.heap.size w0 (w1.setCell ⟨wi.heap.size, i, none⟩ u) ∧ KeepBut wi (w1.setCell ⟨wi.heap.size, i, none⟩ u) g none ∧ (w1.setCell ⟨wi.heap.size, i, none⟩ u).heap[wi.heap.size]? = some (.cells cs 46 (0, 0)) :=
  ⟨hR.far (by simp; omega) u, hB.setCell (by simp; omega) u, keep_far hK (by simp) u, blk_put hc i u hcs⟩
theorem In.app3 (h : In w0 wi wr g b q j x3 x4 x5 x6 v3 v4 v5 v6) {v : Value} {x : S35} (hx : VOk x) (hr : k35.R 35 w1 (wi.heap.size + 1) (fun _ => True) v (x3 ++ [x])) (hg : wr.grownBy w1 v3.ownBlock) (hat : v.ownBlock = v3.ownBlock ∨ ∃ b, v.ownBlock = some b ∧ wr.heap.size ≤ b) :
    In w0 wi (w1.setCell ⟨wi.heap.size, 3, none⟩ v) g b q (j + 1) (x3 ++ [x]) x4 x5 x6 v v4 v5 v6 := by
  obtain ⟨a1, a2, a3, a4⟩ := h.grown hg (Kd.R_base h.ob.r3)
  obtain ⟨d1, d2, d3, d4, d5, d6, d7, d8, d9⟩ := h.gd
  obtain ⟨s1, s2, s3, s4⟩ := In.set a1 a2 a3 h.gi h.rn.ge a4 3 v rfl
  refine ⟨s1, s2, s3, h.gi, s4, (h.ob.put3 hr hg hat (nl_app _ _ _)).far (Nat.le_refl _) v, d1, by simp at d2 ⊢; omega, Nat.le_succ_of_le d3, Nat.le_succ_of_le d4, Nat.le_succ_of_le d5, vsz_snoc d6 hx, d7, d8, d9⟩
theorem In.app4 (h : In w0 wi wr g b q j x3 x4 x5 x6 v3 v4 v5 v6) {v : Value} {x : S35} (hx : VOk x) (hr : k35.R 35 w1 (wi.heap.size + 1) (fun _ => True) v (x4 ++ [x])) (hg : wr.grownBy w1 v4.ownBlock) (hat : v.ownBlock = v4.ownBlock ∨ ∃ b, v.ownBlock = some b ∧ wr.heap.size ≤ b) :
    In w0 wi (w1.setCell ⟨wi.heap.size, 4, none⟩ v) g b q (j + 1) x3 (x4 ++ [x]) x5 x6 v3 v v5 v6 := by
  obtain ⟨a1, a2, a3, a4⟩ := h.grown hg (Kd.R_base h.ob.r4)
  obtain ⟨d1, d2, d3, d4, d5, d6, d7, d8, d9⟩ := h.gd
  obtain ⟨s1, s2, s3, s4⟩ := In.set a1 a2 a3 h.gi h.rn.ge a4 4 v rfl
  refine ⟨s1, s2, s3, h.gi, s4, (h.ob.put4 hr hg hat (nl_app _ _ _)).far (Nat.le_refl _) v, d1, Nat.le_succ_of_le d2, by simp at d3 ⊢; omega, Nat.le_succ_of_le d4, Nat.le_succ_of_le d5, d6, vsz_snoc d7 hx, d8, d9⟩
theorem In.app6 (h : In w0 wi wr g b q j x3 x4 x5 x6 v3 v4 v5 v6) {v : Value} {x : S35} (hx : VOk x) (hr : k35.R 35 w1 (wi.heap.size + 1) (fun _ => True) v (x6 ++ [x])) (hg : wr.grownBy w1 v6.ownBlock) (hat : v.ownBlock = v6.ownBlock ∨ ∃ b, v.ownBlock = some b ∧ wr.heap.size ≤ b) :
    In w0 wi (w1.setCell ⟨wi.heap.size, 6, none⟩ v) g b q (j + 1) x3 x4 x5 (x6 ++ [x]) v3 v4 v5 v := by
  obtain ⟨a1, a2, a3, a4⟩ := h.grown hg (Kd.R_base h.ob.r6)
  obtain ⟨d1, d2, d3, d4, d5, d6, d7, d8, d9⟩ := h.gd
  obtain ⟨s1, s2, s3, s4⟩ := In.set a1 a2 a3 h.gi h.rn.ge a4 6 v rfl
  refine ⟨s1, s2, s3, h.gi, s4, (h.ob.put6 hr hg hat (nl_app _ _ _)).far (Nat.le_refl _) v, d1, Nat.le_succ_of_le d2, Nat.le_succ_of_le d3, Nat.le_succ_of_le d4, by simp at d5 ⊢; omega, d6, d7, vsz_snoc d8 hx, d9⟩
theorem In.app5 (h : In w0 wi wr g b q j x3 x4 x5 x6 v3 v4 v5 v6) {v : Value} {s : ByteArray} (hs : s ∈ nm4) (hr : Kd.string.R 9 w1 (wi.heap.size + 1) (fun _ => True) v (x5 ++ [s])) (hg : wr.grownBy w1 v5.ownBlock) :
    In w0 wi (w1.setCell ⟨wi.heap.size, 5, none⟩ v) g b q (j + 1) x3 x4 (x5 ++ [s]) x6 v3 v4 v v6 := by
  obtain ⟨a1, a2, a3, a4⟩ := h.grown hg (Kd.R_base h.ob.r5)
  obtain ⟨d1, d2, d3, d4, d5, d6, d7, d8, d9⟩ := h.gd
  obtain ⟨s1, s2, s3, s4⟩ := In.set a1 a2 a3 h.gi h.rn.ge a4 5 v rfl
  refine ⟨s1, s2, s3, h.gi, s4, (h.ob.put5 hr hg (nl_app _ _ _)).far (Nat.le_refl _) v, d1, Nat.le_succ_of_le d2, Nat.le_succ_of_le d3, by simp at d4 ⊢; omega, Nat.le_succ_of_le d5, d6, d7, d8, fun y hy => ?_⟩
  rcases List.mem_append.1 hy with hy | hy
  · exact d9 y hy
  · rw [List.mem_singleton.1 hy]; exact hs
theorem In.lit3 (h : In w0 wi wr g b q j x3 x4 x5 x6 v3 v4 v5 v6) (xs : List S35) (hl : xs.length ≤ 2) (h1 : 0 < xs.length) (hx : vsz xs) {cs : Array Value} (hcs : cs = (xs.flatMap fun x => [Value.int .i64 x.f0, .string x.f1, .int .i64 x.f2]).toArray) :
    In w0 wi ((wr.alloc (.cells cs 35)).setCell ⟨wi.heap.size, 3, none⟩ (.slice (some ⟨wr.heap.size, 0, none⟩) xs.length xs.length)) g b q (j + 1) xs x4 x5 x6 (.slice (some ⟨wr.heap.size, 0, none⟩) xs.length xs.length) v4 v5 v6 := by
  subst hcs
  have hlt := blk_lt h.c9
  have hr := R_fresh wr (wi.heap.size + 1) (by omega) xs (by omega)
  obtain ⟨a1, a2, a3, a4⟩ := h.grown (World.grownBy_alloc wr (.cells (xs.flatMap fun x => [Value.int .i64 x.f0, .string x.f1, .int .i64 x.f2]).toArray 35) v3.ownBlock) (Kd.R_base h.ob.r3)
  obtain ⟨d1, d2, d3, d4, d5, d6, d7, d8, d9⟩ := h.gd
  obtain ⟨s1, s2, s3, s4⟩ := In.set a1 a2 a3 h.gi h.rn.ge a4 3 (.slice (some ⟨wr.heap.size, 0, none⟩) xs.length xs.length) rfl
  refine ⟨s1, s2, s3, h.gi, s4, (h.ob.put3 hr (World.grownBy_alloc wr _ v3.ownBlock) (.inr ⟨wr.heap.size, by simp [Value.ownBlock], Nat.le_refl _⟩) (fun e => by rw [e] at h1; simp at h1)).far (Nat.le_refl _) _, d1, by simp; omega, Nat.le_succ_of_le d3, Nat.le_succ_of_le d4, Nat.le_succ_of_le d5, hx, d7, d8, d9⟩
theorem oG_mono {m m' : Nat} {o : S46} (h : oG m o) (hm : m ≤ m') : oG m' o := by
  obtain ⟨d1, d2, d3, d4, d5, d6, d7, d8, d9⟩ := h
  exact ⟨d1, by omega, by omega, by omega, by omega, d6, d7, d8, d9⟩
theorem In.more (h : In w0 wi wr g b q j x3 x4 x5 x6 v3 v4 v5 v6) {j' : Nat} (hj : j ≤ j') : In w0 wi wr g b q j' x3 x4 x5 x6 v3 v4 v5 v6 := ⟨h.rn, h.bl, h.kp, h.gi, h.c9, h.ob, oG_mono h.gd hj⟩
theorem Hp.round {w : World} {b4 gb n c m : Nat} {l : List S46} {p : Int} (h : Hp w0 w wi g b4 b (.slice (some ⟨gb, 0, none⟩) n c) l) (hm : m < l.length) (hgb : w.heap.size + 2 ≤ gb) (hgb1 : gb < wi.heap.size) (hgb4 : gb ≠ b4)
    (rn : Rn w0 wr g b') (bl : Below w0.heap.size w0 wr) (kp : KeepBut wi wr g none) (ob : Ob wr wi.heap.size ⟨q, ⟨#[]⟩, p, x3, x4, x5, x6⟩ v3 v4 v5 v6) :
    Hp w0 w (wr.setCells gb (m * 7) [.int .i64 q, .string ⟨#[]⟩, .int .i64 p, v3, v4, v5, v6]) g b4 b' (.slice (some ⟨gb, 0, none⟩) n c) (l.set m ⟨q, ⟨#[]⟩, p, x3, x4, x5, x6⟩) := by
  have hp := h.call rn bl kp
  have h1 := hp.gw
  have h2 := hp.h4
  have h3 := hp.w0w
  have h4 := h.lt4
  obtain ⟨hn, hnc, _⟩ := Kd.R_reads' hp.hl
  obtain ⟨cs, hcl, hM, hc, _⟩ := Kd.R_elem hp.hl z46 (m : Int) (by omega) (by omega)
  have e7 : k46n.sz = 7 := rfl
  rw [e7] at hcl hc
  obtain ⟨hr, hg⟩ := Kd.R_seg (j := 0) (seg := [.int .i64 q, .string ⟨#[]⟩, .int .i64 p, v3, v4, v5, v6]) (x' := ⟨q, ⟨#[]⟩, p, x3, x4, x5, x6⟩) (okp := fun k => wi.heap.size + 1 ≤ k) hp.hl (m : Int) (by omega) (by omega) hcl hc (by simp [e7]) (by
      have := ob.whole (base := w.heap.size + 2) (by omega)
      simpa [List.drop_eq_nil_of_le (show cs.length ≤ 7 by omega)] using this) (fun k hk => ⟨by omega, by omega⟩)
  rw [e7, show (m : Int).toNat = m from rfl, Nat.add_zero] at hr hg
  have hne : ∀ k, k ≠ gb → some k ≠ some gb := fun k hk e => hk (by injection e)
  refine ⟨hp.rn.grown hg (hne g (by omega)), pw_below_grown hp.bl _ hp.bl.size hg (fun k hk => by injection hk with hk; omega), KeepBut.trans hp.kp (KeepBut.of_grown hg g) (.inr ⟨gb, rfl, by omega⟩), kgr hp.c2 hg (hne _ (by omega)), kgr hp.c3 hg (hne _ (by omega)), kgr hp.c4 hg (hne _ (Ne.symm hgb4)), h1, h2, hr⟩
end
end Go.Proofs.Ytgddblpgbkgpcaa.PR
namespace Go.Proofs.Ytgddblpgbkgpcaa.PR
set_option linter.unusedVariables false
set_option linter.unusedSimpArgs false
open Go.RowKit Go.Proofs.YtgddblpgbkgpcaaW.PrintWords Go.Proofs.YtgddblpgbkgpcaaW.PrintLast Go.Proofs.YtgddblpgbkgpcaaW.PrintMore
structure Ht (w0 w wi : World) (g b4 : Nat) (b : Int) (v : Value) (l : List S46) : Prop where
  rn : Rn w0 wi g b
  bl : Below w0.heap.size w0 wi
  kp : KeepBut w wi g none
  c2 : wi.heap[w.heap.size]? = some (.cells #[.slice none 0 0] 25 (0, 0))
  c3 : wi.heap[w.heap.size + 1]? = some (.cells #[.int .i64 0, .string ⟨#[]⟩, .int .i64 0] 35 (0, 0))
  c4 : wi.heap[b4]? = some (.cells #[v] 25 (0, 0))
  gw : g < w.heap.size
  h4 : w.heap.size + 2 ≤ b4
  hl : k46.R 46 wi (w.heap.size + 2) (fun k => k ≠ b4) v l
  lo : 19 ≤ l.length
  hi : l.length ≤ 24
  all : ∀ x ∈ l, oB x = true
theorem Hp.tail {w0 w wi : World} {g b4 m : Nat} {b : Int} {v : Value} {l : List S46} (h : Hp w0 w wi g b4 b v l) (h2 : L2 m l) : Ht w0 w wi g b4 b v l :=
  ⟨h.rn, h.bl, h.kp, h.c2, h.c3, h.c4, h.gw, h.h4, n_R h.hl, h2.lo, h2.hi, h2.all⟩
section
variable {w0 w wi w1 : World} {g b4 : Nat} {b b' : Int} {v : Value} {l : List S46}
theorem Ht.mono (h : Ht w0 w wi g b4 b v l) (hb : b ≤ b') : Ht w0 w wi g b4 b' v l := ⟨h.rn.mono hb, h.bl, h.kp, h.c2, h.c3, h.c4, h.gw, h.h4, h.hl, h.lo, h.hi, h.all⟩
theorem Ht.call (h : Ht w0 w wi g b4 b v l) (hR : Rn w0 w1 g b') (hB : Below w0.heap.size w0 w1) (hK : KeepBut wi w1 g none) : Ht w0 w w1 g b4 b' v l := by
  have := h.gw
  have := h.h4
  refine ⟨hR, hB, h.kp.trans hK (.inl rfl), hK.blk h.c2 (by omega) (by simp), hK.blk h.c3 (by omega) (by simp), hK.blk h.c4 (by omega) (by simp), h.gw, h.h4, R_up h.hl (fun k h1 h2 => hK.2 k h2 (by omega) (by simp)), h.lo, h.hi, h.all⟩
theorem Ht.drew (h : Ht w0 w wi g b4 b v l) : Ht w0 w wi.drew g b4 b v l := h.call h.rn.drew (below_drew h.bl) (KeepBut.of_below (below_drew (Below.refl _ _)) g none)
theorem Ht.cell (h : Ht w0 w wi g b4 b v l) : wi.cell? ⟨b4, 0, none⟩ = some v := (kcl h.c4 0).trans rfl
theorem Ht.row {A : Option Addr} {n c : Nat} (h : Ht w0 w wi g b4 b (.slice A n c) l) : ∃ gb, A = some ⟨gb, 0, none⟩ ∧ n = l.length ∧ n ≤ c ∧ w.heap.size + 2 ≤ gb ∧ gb ≠ b4 := by
  obtain ⟨hn, hnc, _⟩ := Kd.R_reads' h.hl
  obtain ⟨gb, cap, e, hb, hlt, hcc⟩ := Kd.R_form h.hl (by have := h.lo; omega)
  injection e with e1 e2 e3
  subst e1
  exact ⟨gb, rfl, hn, hnc, hb, fun e => h.hl.1 gb (by simp [Value.ownBlock]) e⟩
theorem Ht.elem {gb n c : Nat} (h : Ht w0 w wi g b4 b (.slice (some ⟨gb, 0, none⟩) n c) l) (hgb : w.heap.size + 2 ≤ gb) (hgb4 : gb ≠ b4) (i : Nat) (hi : i < n) :
    (∃ u, wi.cell? ⟨gb, i * 7, none⟩ = some u) ∧ (∃ u, wi.cell? ⟨gb, i * 7 + 2, none⟩ = some u) ∧ wi.frozen? ⟨gb, i * 7, none⟩ = false ∧ wi.frozen? ⟨gb, i * 7 + 2, none⟩ = false ∧
      (∀ r : Int, ∃ l', Ht w0 w (wi.setCell ⟨gb, i * 7, none⟩ (.int .i64 r)) g b4 b (.slice (some ⟨gb, 0, none⟩) n c) l') ∧
      (∀ r : Int, ∃ l', Ht w0 w (wi.setCell ⟨gb, i * 7 + 2, none⟩ (.int .i64 r)) g b4 b (.slice (some ⟨gb, 0, none⟩) n c) l') := by
  have h1 := h.gw
  have h2 := h.h4
  have h3 := h.rn.ge
  obtain ⟨hn, hnc, _⟩ := Kd.R_reads' h.hl
  obtain ⟨cs, hcl, hM, hc, hf⟩ := Kd.R_elem h.hl z46 (i : Int) (by omega) (by omega)
  have e7 : k46.sz = 7 := rfl
  have ex : l.getD (i : Int).toNat z46 = l[i]'(by omega) := by simp [List.getD_eq_getElem?_getD, show i < l.length by omega]
  rw [ex] at hM
  generalize hx : l[i]'(by omega) = x at hM
  have hxB : oB x = true := by rw [← hx]; exact h.all _ (List.getElem_mem _)
  have hcc := hc
  have hll := hcl
  rw [e7, show (i : Int).toNat = i from rfl] at hc hf
  obtain ⟨v3, v4, v5, v6, rfl, g3, g4, g5, g6⟩ := k46_openM hM
  have fin : ∀ (j : Nat) (r : Int) (x' : S46), oB x' = true → j + 1 ≤ 7 → k46.M wi (w.heap.size + 2) (fun k => k ≠ b4 ∧ k ≠ gb) x' (([.int .i64 x.f0, .string x.f1, .int .i64 x.f2, v3, v4, v5, v6] : List Value).take j ++ [.int .i64 r] ++ ([.int .i64 x.f0, .string x.f1, .int .i64 x.f2, v3, v4, v5, v6] : List Value).drop (j + 1)) →
      Ht w0 w (wi.setCell ⟨gb, i * 7 + j, none⟩ (.int .i64 r)) g b4 b (.slice (some ⟨gb, 0, none⟩) n c) (l.set i x') := by
    intro j r x' hB' hj hM'
    obtain ⟨hr, hg⟩ := Kd.R_seg (j := j) (seg := [.int .i64 r]) (x' := x') (okp := fun k => k ≠ b4 ∧ k ≠ gb) h.hl (i : Int) (by omega) (by omega) hll hcc (by rw [e7]; exact hj) hM' (fun k hk => hk)
    rw [e7, show (i : Int).toNat = i from rfl] at hr hg
    have hne : ∀ k, k ≠ gb → some k ≠ some gb := fun k hk e => hk (by injection e)
    refine ⟨h.rn.grown hg (hne g (by omega)), pw_below_grown h.bl _ h.bl.size hg (fun k hk => by injection hk with hk; omega), KeepBut.trans h.kp (KeepBut.of_grown hg g) (.inr ⟨gb, rfl, by omega⟩), kgr h.c2 hg (hne _ (by omega)), kgr h.c3 hg (hne _ (by omega)), kgr h.c4 hg (hne _ (Ne.symm hgb4)), h1, h2, hr, by simpa using h.lo, by simpa using h.hi, fun y hy => ?_⟩
    rcases List.mem_or_eq_of_mem_set hy with hy | rfl
    · exact h.all y hy
    · exact hB'
  refine ⟨⟨_, hc 0 _ rfl⟩, ⟨_, hc 2 _ rfl⟩, hf 0, hf 2, fun r => ⟨_, fin 0 r { x with f0 := r } hxB (by omega) ?_⟩, fun r => ⟨_, fin 2 r { x with f2 := r } hxB (by omega) ?_⟩⟩
  · exact k46_mkM wi _ _ ({ x with f0 := r } : S46) g3 g4 g5 g6
  · exact k46_mkM wi _ _ ({ x with f2 := r } : S46) g3 g4 g5 g6
def HeapPost (w0 w : World) (g : Nat) (e : Ending) (w' : World) : Prop := ∃ (v : Value) (l : List S46) (x : S35), e = .returned (.tuple #[.agg #[v], .agg #[.int .i64 x.f0, .string x.f1, .int .i64 x.f2]]) ∧ VOk x ∧ 19 ≤ l.length ∧ l.length ≤ 24 ∧ (∀ o ∈ l, oB o = true) ∧ k46.R 46 w' w.heap.size (fun _ => True) v l ∧ Rn w0 w' g 10000 ∧ Below w0.heap.size w0 w' ∧ KeepBut w w' g none
theorem Ht.fin (h : Ht w0 w wi g b4 b v l) (hb : b ≤ 10000) {x : S35} (hx : VOk x) {W : World} (hW : W = (((wi.setCell ⟨w.heap.size, 0, none⟩ v).setCell ⟨w.heap.size + 1, 0, none⟩ (.int .i64 x.f0)).setCell ⟨w.heap.size + 1, 1, none⟩ (.string x.f1)).setCell ⟨w.heap.size + 1, 2, none⟩ (.int .i64 x.f2)) :
    W.heap[w.heap.size]? = some (.cells #[v] 25 (0, 0)) ∧ W.heap[w.heap.size + 1]? = some (.cells #[.int .i64 x.f0, .string x.f1, .int .i64 x.f2] 35 (0, 0)) ∧ HeapPost w0 w g (.returned (.tuple #[.agg #[v], .agg #[.int .i64 x.f0, .string x.f1, .int .i64 x.f2]])) W := by
  subst hW
  have h1 := h.gw
  have h2 := h.h4
  have h3 := h.rn.ge
  refine ⟨blk_far (blk_far (blk_far (blk_put h.c2 0 v rfl) (by simp) _) (by simp) _) (by simp) _, blk_put (blk_put (blk_put (blk_far h.c3 (by simp) _) 0 _ rfl) 1 _ rfl) 2 _ rfl, v, l, x, rfl, hx, h.lo, h.hi, h.all, ?_, ?_, ?_, ?_⟩
  · refine Kd.R_mono (Kd.R_lower (R_up h.hl (fun k hk _ => ?_)) (by omega)) (fun _ _ => trivial)
    rw [Below.heap_setCell _ _ _ _ (by simp; omega), Below.heap_setCell _ _ _ _ (by simp; omega), Below.heap_setCell _ _ _ _ (by simp; omega), Below.heap_setCell _ _ _ _ (by simp; omega)]
  · exact ((((h.rn.mono hb).far (by simp; omega) _).far (by simp; omega) _).far (by simp; omega) _).far (by simp; omega) _
  · exact (((h.bl.setCell (by simp; omega) _).setCell (by simp; omega) _).setCell (by simp; omega) _).setCell (by simp; omega) _
  · exact keep_far (keep_far (keep_far (keep_far h.kp (by simp) _) (by simp) _) (by simp) _) (by simp) _
end
end Go.Proofs.Ytgddblpgbkgpcaa.PR
