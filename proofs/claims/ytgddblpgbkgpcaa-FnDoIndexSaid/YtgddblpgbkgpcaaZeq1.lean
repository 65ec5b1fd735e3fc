/- Part of the proof of fnDoIndex_holds. -/
import Derived.Test.YtgddblpgbkgpcaaZeb0
import Derived.Test.YtgddblpgbkgpcaaZer0
import Derived.Test.YtgddblpgbkgpcaaZeq0
import Derived.Lib.Hide
namespace Go.Proofs.Ytgddblpgbkgpcaa.PR
set_option linter.unusedVariables false
set_option linter.unusedSimpArgs false
open Go.RowKit Go.Proofs.YtgddblpgbkgpcaaW.PrintWords Go.Proofs.YtgddblpgbkgpcaaW.PrintLast Go.Proofs.YtgddblpgbkgpcaaW.PrintMore
set_option linter.unusedVariables false
set_option linter.unusedSimpArgs false
theorem sfN {α : Type} {d : Kd α} {e base : Nat} {ok : Nat → Prop} {w : World} {v : Value} {xs : List α} (h : d.R e w base ok v xs) : ∃ A n c, v = .slice A n c := by
  obtain ⟨A, c, rfl⟩ := Kd.R_slice h
  exact ⟨A, _, c, rfl⟩
def refN (e : Int) : S35 := ⟨4, ⟨#[]⟩, e⟩
theorem sfN1 {w : World} {base : Nat} {ok : Nat → Prop} {v : Value} {x : S35} (h : k35.R 35 w base ok v [x]) : ∃ A c, v = .slice A 1 c := by
  obtain ⟨A, c, rfl⟩ := Kd.R_slice h
  exact ⟨A, c, rfl⟩
theorem r_after {X Y : World} {b8 N : Nat} {v : Value} {xs : List S35} (h : k35.R 35 Y X.heap.size (fun _ => True) v xs) (hb : b8 < X.heap.size) (hN : N ≤ X.heap.size) : k35.R 35 Y N (fun k => k ≠ b8) v xs :=
  Kd.R_lower (Kd.R_mono (Kd.R_bound h) (fun k hk => by have := hk.2.1; omega)) hN
theorem r_before {X Y : World} {b8 N : Nat} {v : Value} {xs : List S35} (h : k35.R 35 Y X.heap.size (fun _ => True) v xs) (hg : b8 = Y.heap.size) (hN : N ≤ X.heap.size) : k35.R 35 Y N (fun k => k ≠ b8) v xs :=
  Kd.R_lower (Kd.R_mono (Kd.R_bound h) (fun k hk => by have := hk.2.2.1; omega)) hN
structure Nh (w wi : World) (u : Value) (l : List S46) (gn cn m : Nat) (ns : List ByteArray) : Prop where
  bl : Below w.heap.size w wi
  c0 : wi.heap[w.heap.size]? = some (.cells #[.slice none 0 0] 25 (0, 0))
  c1 : wi.heap[w.heap.size + 1]? = some (.cells #[u] 25 (0, 0))
  hr : k46.R 46 wi (w.heap.size + 2) (fun _ => True) u l
  nm : Kd.string.R 9 wi (w.heap.size + 2) (fun _ => True) (.slice (some ⟨gn, 0, none⟩) m cn) ns
  all : ∀ o ∈ l, oB o = true ∧ kB o = true
structure Fr (w wi : World) (N b4 : Nat) (u : Value) (l : List S46) (gn cn m : Nat) (ns : List ByteArray) (cs : Array Value) (v3 : Value) (x3 : List S35) (v4 : Value) (x4 : List S35) : Prop where
  bl : Below w.heap.size w wi
  c0 : wi.heap[w.heap.size]? = some (.cells #[.slice none 0 0] 25 (0, 0))
  c1 : wi.heap[w.heap.size + 1]? = some (.cells #[u] 25 (0, 0))
  hr : k46.R 46 wi (w.heap.size + 2) (fun k => k < N) u l
  nm : Kd.string.R 9 wi (w.heap.size + 2) (fun k => k < N) (.slice (some ⟨gn, 0, none⟩) m cn) ns
  cb : wi.heap[b4]? = some (.cells cs 46 (0, 0))
  b4N : N ≤ b4
  N2 : w.heap.size + 2 ≤ N
  r3 : k35.R 35 wi N (fun k => k ≠ b4) v3 x3
  r4 : k35.R 35 wi N (fun k => k ≠ b4) v4 x4
section
variable {w wi w1 cur w10 : World} {N N4 b4 : Nat} {u v3 v4 : Value} {l : List S46} {gn cn m : Nat} {ns : List ByteArray} {cs cs' : Array Value} {x3 x4 : List S35}
theorem Nh.below (h : Nh w wi u l gn cn m ns) (hb : Below wi.heap.size wi w1) : Nh w w1 u l gn cn m ns := ⟨bst h.bl hb, kbw h.c0 hb, kbw h.c1 hb, Kd.R_below h.hr hb, Kd.R_below h.nm hb, h.all⟩
theorem Nh.alloc (h : Nh w wi u l gn cn m ns) (o : Obj) : Nh w (wi.alloc o) u l gn cn m ns := h.below (bla (Below.refl _ _) o)
theorem Nh.cell1 (h : Nh w wi u l gn cn m ns) : wi.cell? ⟨w.heap.size + 1, 0, none⟩ = some u := (kcl h.c1 0).trans rfl
theorem Nh.grow (h : Nh w wi u l gn cn m ns) (hg : wi.grownBy w1 u.ownBlock) : Below w.heap.size w w1 ∧ w1.heap[w.heap.size]? = some (.cells #[.slice none 0 0] 25 (0, 0)) ∧ w1.heap[w.heap.size + 1]? = some (.cells #[u] 25 (0, 0)) ∧ Kd.string.R 9 w1 (w.heap.size + 2) (fun _ => True) (.slice (some ⟨gn, 0, none⟩) m cn) ns := by
  have hb := Kd.R_base h.hr
  have ne : ∀ k, k < w.heap.size + 2 → some k ≠ u.ownBlock := fun k hk e => by have := hb k e.symm; omega
  exact ⟨pw_below_grown h.bl _ h.bl.size hg (fun k hk => by have := hb k hk; omega), kgr h.c0 hg (ne _ (by omega)), kgr h.c1 hg (ne _ (by omega)), Kd.R_over' h.nm (Kd.R_typed h.hr) (by decide) hg⟩
theorem Nh.put {u1 : Value} {o : S46} (h : Below w.heap.size w w1 ∧ w1.heap[w.heap.size]? = some (.cells #[.slice none 0 0] 25 (0, 0)) ∧ w1.heap[w.heap.size + 1]? = some (.cells #[u] 25 (0, 0)) ∧ Kd.string.R 9 w1 (w.heap.size + 2) (fun _ => True) (.slice (some ⟨gn, 0, none⟩) m cn) ns) (hr : k46.R 46 w1 (w.heap.size + 2) (fun _ => True) u1 (l ++ [o])) (ho : oB o = true ∧ kB o = true) (hall : ∀ o ∈ l, oB o = true ∧ kB o = true) :
    Nh w (w1.setCell ⟨w.heap.size + 1, 0, none⟩ u1) u1 (l ++ [o]) gn cn m ns := by
  refine ⟨h.1.setCell (show w.heap.size ≤ w.heap.size + 1 by omega) _, blk_far h.2.1 (by simp) _, blk_put h.2.2.1 0 _ rfl, ?_, ?_, fun x hx => ?_⟩
  · exact Kd.R_mono (Kd.R_far (Kd.R_bound hr) (fun k hk => by have := hk.2.1; simp; omega) _) (fun _ _ => trivial)
  · exact Kd.R_mono (Kd.R_far (Kd.R_bound h.2.2.2) (fun k hk => by have := hk.2.1; simp; omega) _) (fun _ _ => trivial)
  · rcases List.mem_append.1 hx with hx | hx
    · exact hall x hx
    · rw [List.mem_singleton.1 hx]; exact ho
theorem fr_close (h : Nh w wi u l gn cn m ns) (hq : Below wi.heap.size wi w10) (hh : Below w10.heap.size w10 cur) (cb : cur.heap[b4]? = some (.cells cs 46 (0, 0))) (hb4 : w10.heap.size ≤ b4) (r3 : k35.R 35 cur w10.heap.size (fun k => k ≠ b4) v3 x3) :
    Fr w cur w10.heap.size b4 u l gn cn m ns cs v3 x3 (.slice none 0 0) [] := by
  have h1 := (h.below hq)
  have l1 := blk_lt h1.c1
  exact ⟨bst h1.bl hh, kbw h1.c0 hh, kbw h1.c1 hh, Kd.R_below (Kd.R_mono (Kd.R_bound h1.hr) (fun k hk => hk.2.2.1)) hh, Kd.R_below (Kd.R_mono (Kd.R_bound h1.nm) (fun k hk => hk.2.2.1)) hh, cb, hb4, by omega, r3, Kd.R_nil _ _ _ _ _⟩
theorem Fr.below (h : Fr w wi N b4 u l gn cn m ns cs v3 x3 v4 x4) (hb : Below wi.heap.size wi w1) : Fr w w1 N b4 u l gn cn m ns cs v3 x3 v4 x4 :=
  ⟨bst h.bl hb, kbw h.c0 hb, kbw h.c1 hb, Kd.R_below h.hr hb, Kd.R_below h.nm hb, kbw h.cb hb, h.b4N, h.N2, Kd.R_below h.r3 hb, Kd.R_below h.r4 hb⟩
theorem Fr.drew (h : Fr w wi N b4 u l gn cn m ns cs v3 x3 v4 x4) : Fr w wi.drew N b4 u l gn cn m ns cs v3 x3 v4 x4 := h.below (below_drew (Below.refl _ _))
theorem Fr.set (h : Fr w wi N b4 u l gn cn m ns cs v3 x3 v4 x4) (j : Nat) (x : Value) (e : cs.setIfInBounds j x = cs') : Fr w (wi.setCell ⟨b4, j, none⟩ x) N b4 u l gn cn m ns cs' v3 x3 v4 x4 := by
  have h1 := h.b4N
  have h2 := h.N2
  exact ⟨h.bl.setCell (by simp; omega) _, blk_far h.c0 (by simp; omega) _, blk_far h.c1 (by simp; omega) _, Kd.R_far h.hr (fun k hk => by simp; omega) _, Kd.R_far h.nm (fun k hk => by simp; omega) _, blk_put h.cb j _ e, h1, h2, Kd.R_far h.r3 (fun k hk => hk) _, Kd.R_far h.r4 (fun k hk => hk) _⟩
theorem Fr.row4 (h : Fr w w1 N b4 u l gn cn m ns cs v3 x3 v4 x4) {v5 : Value} {x5 : List S35} (ho : k35.R 35 w1 N (fun k => k ≠ b4) v5 x5) : Fr w w1 N b4 u l gn cn m ns cs v3 x3 v5 x5 :=
  ⟨h.bl, h.c0, h.c1, h.hr, h.nm, h.cb, h.b4N, h.N2, h.r3, ho⟩
theorem Fr.grow3 (h : Fr w wi N b4 u l gn cn m ns cs v3 x3 v4 x4) (hr4 : k35.R 35 wi N4 (fun k => k ≠ b4) v4 x4) (h4 : N ≤ N4) (hs : ∀ k, v3.ownBlock = some k → k < N4) (hg : wi.grownBy w1 v3.ownBlock) {v5 : Value} {x5 : List S35} (ho : k35.R 35 w1 N (fun k => k ≠ b4) v5 x5) :
    w1.heap[b4]? = some (.cells cs 46 (0, 0)) ∧ ∀ (cs' : Array Value), cs.setIfInBounds 3 v5 = cs' → Fr w (w1.setCell ⟨b4, 3, none⟩ v5) N b4 u l gn cn m ns cs' v5 x5 v4 x4 := by
  have h1 := h.b4N
  have h2 := h.N2
  have hub := Kd.R_base h.r3
  have ne : ∀ k, k < N → some k ≠ v3.ownBlock := fun k hk e => by have := hub k e.symm; omega
  have neb : some b4 ≠ v3.ownBlock := fun e => h.r3.1 b4 e.symm rfl
  have r4 : k35.R 35 w1 N4 (fun k => k ≠ b4) v4 x4 := Kd.R_mono (Kd.R_grown (Kd.R_bound hr4) hg (fun k hk e => by have := hs k e.symm; have := hk.2.1; omega)) (fun _ hk => hk.1)
  have hbl : Below w.heap.size w w1 := pw_below_grown h.bl _ h.bl.size hg (fun k hk => by have := hub k hk; omega)
  refine ⟨kgr h.cb hg neb, fun cs' e => ⟨hbl.setCell (by simp; omega) _, blk_far (kgr h.c0 hg (ne _ (by omega))) (by simp; omega) _, blk_far (kgr h.c1 hg (ne _ (by omega))) (by simp; omega) _, Kd.R_far (Kd.R_grown h.hr hg (fun k hk => ne k hk)) (fun k hk => by simp; omega) _, Kd.R_far (Kd.R_grown h.nm hg (fun k hk => ne k hk)) (fun k hk => by simp; omega) _, blk_put (kgr h.cb hg neb) 3 _ e, h1, h2, Kd.R_far ho (fun k hk => hk) _, Kd.R_far (Kd.R_lower r4 h4) (fun k hk => hk) _⟩⟩
theorem Fr.cell3 {a0 a1 a2 a4 a5 a6 : Value} (h : Fr w wi N b4 u l gn cn m ns #[a0, a1, a2, v3, a4, a5, a6] v3 x3 v4 x4) : wi.cell? ⟨b4, 3, none⟩ = some v3 := (kcl h.cb 3).trans rfl
theorem Fr.sep (h : Fr w wi N b4 u l gn cn m ns cs v3 x3 v4 x4) {k : Nat} (hk : N ≤ k) : True ∧ some k ≠ u.ownBlock := ⟨trivial, fun e => by have := h.hr.1 k e.symm; omega⟩
theorem Fr.obj (h : Fr w wi N b4 u l gn cn m ns cs v3 x3 v4 x4) {nm : ByteArray} : k46.M wi (w.heap.size + 2) (fun k => N ≤ k) ⟨5, nm, 0, x3, x4, [], []⟩ [.int .i64 5, .string nm, .int .i64 0, v3, v4, .slice none 0 0, .slice none 0 0] := by
  have h2 := h.N2
  exact k46_mkM wi _ _ (⟨5, nm, 0, x3, x4, [], []⟩ : S46) (Kd.R_lower (Kd.R_mono (Kd.R_bound h.r3) (fun k hk => hk.2.1)) h2) (Kd.R_lower (Kd.R_mono (Kd.R_bound h.r4) (fun k hk => hk.2.1)) h2) (Kd.R_nil _ _ _ _ _) (Kd.R_nil _ _ _ _ _)
theorem Fr.growH (h : Fr w wi N b4 u l gn cn m ns cs v3 x3 v4 x4) (hg : wi.grownBy w1 u.ownBlock) : Below w.heap.size w w1 ∧ w1.heap[w.heap.size]? = some (.cells #[.slice none 0 0] 25 (0, 0)) ∧ w1.heap[w.heap.size + 1]? = some (.cells #[u] 25 (0, 0)) ∧ Kd.string.R 9 w1 (w.heap.size + 2) (fun _ => True) (.slice (some ⟨gn, 0, none⟩) m cn) ns := by
  have hb := Kd.R_base h.hr
  have ne : ∀ k, k < w.heap.size + 2 → some k ≠ u.ownBlock := fun k hk e => by have := hb k e.symm; omega
  exact ⟨pw_below_grown h.bl _ h.bl.size hg (fun k hk => by have := hb k hk; omega), kgr h.c0 hg (ne _ (by omega)), kgr h.c1 hg (ne _ (by omega)), Kd.R_mono (Kd.R_over' h.nm (Kd.R_typed h.hr) (by decide) hg) (fun _ _ => trivial)⟩
end
theorem errs_n (w : World) : Calls Try.prog 109 #[] w fun e w' => ∃ (g c : Nat) (ns : List ByteArray), e = .returned (.slice (some ⟨g, 0, none⟩) 13 c) ∧ Kd.string.R 9 w' w.heap.size (fun _ => True) (.slice (some ⟨g, 0, none⟩) 13 c) ns ∧ ns.length = 13 ∧ (∀ s ∈ ns, s.size ≤ 100) ∧ Below w.heap.size w w' := by
  have h : ∃ l, spec_errorNames.f = some l ∧ l.length = 13 ∧ ∀ s ∈ l, s.size ≤ 100 := ⟨_, rfl, rfl, by decide +kernel⟩
  obtain ⟨l, hf, hl, hs⟩ := h
  refine (spec_errorNames.calls l w hf).mono ?_
  rintro e w' ⟨v, rfl, hr, hb⟩
  obtain ⟨g, c, rfl, _⟩ := Kd.R_form hr (by omega)
  rw [hl] at hr
  exact ⟨g, c, l, by rw [hl], hr, hl, hs, hb⟩
theorem built_n (w : World) : Calls Try.prog 110 #[] w fun e w' => ∃ (g c : Nat) (ns : List ByteArray), e = .returned (.slice (some ⟨g, 0, none⟩) 6 c) ∧ Kd.string.R 9 w' w.heap.size (fun _ => True) (.slice (some ⟨g, 0, none⟩) 6 c) ns ∧ ns.length = 6 ∧ (∀ s ∈ ns, s.size ≤ 100) ∧ Below w.heap.size w w' := by
  have h : ∃ l, spec_builtNames.f = some l ∧ l.length = 6 ∧ ∀ s ∈ l, s.size ≤ 100 := ⟨_, rfl, rfl, by decide +kernel⟩
  obtain ⟨l, hf, hl, hs⟩ := h
  refine (spec_builtNames.calls l w hf).mono ?_
  rintro e w' ⟨v, rfl, hr, hb⟩
  obtain ⟨g, c, rfl, _⟩ := Kd.R_form hr (by omega)
  rw [hl] at hr
  exact ⟨g, c, l, by rw [hl], hr, hl, hs, hb⟩
theorem name_at {W : World} {base g n c : Nat} {ns : List ByteArray} (h : Kd.string.R 9 W base (fun _ => True) (.slice (some ⟨g, 0, none⟩) n c) ns) (hs : ∀ s ∈ ns, s.size ≤ 100) (k : Nat) (hk : k < n) : ∃ nm : ByteArray, W.cell? ⟨g, k, none⟩ = some (.string nm) ∧ nm.size ≤ 100 := by
  have hl := (Kd.R_reads' h).1
  have hc := (Kd.R_celln (⟨#[]⟩ : ByteArray) h (k : Int) (by omega) (by omega)).1
  rw [show (k : Int).toNat = k from rfl] at hc
  refine ⟨_, hc, hs _ ?_⟩
  unfold rdOf
  simp [List.getD_eq_getElem?_getD, show k < ns.length by omega]
theorem new5 {nm : ByteArray} (h : nm.size ≤ 100) (k : Int) : oB ⟨5, nm, 0, [refN k], [], [], []⟩ = true ∧ kB ⟨5, nm, 0, [refN k], [], [], []⟩ = true := by
  refine ⟨?_, rfl⟩
  simp [oB, refN, h]
  decide
theorem new5' {nm : ByteArray} (h : nm.size ≤ 100) (k : Int) : oB ⟨5, nm, 0, [refN k] ++ [refN 0], [refN 0], [], []⟩ = true ∧ kB ⟨5, nm, 0, [refN k] ++ [refN 0], [refN 0], [], []⟩ = true := by
  refine ⟨?_, rfl⟩
  simp [oB, refN, h]
  decide
theorem new10 {nm : ByteArray} (h : nm.size ≤ 100) : oB ⟨10, nm, 0, [], [], [], []⟩ = true ∧ kB ⟨10, nm, 0, [], [], [], []⟩ = true := by
  refine ⟨?_, rfl⟩
  simp [oB, h]
set_option maxRecDepth 100000 in
set_option maxHeartbeats 40000000 in
theorem newHeap_w (w : World) : Calls Try.prog 87 #[] w fun e w' => ∃ (v : Value) (l : List S46), e = .returned (.agg #[v]) ∧ k46.R 46 w' w.heap.size (fun _ => True) v l ∧ l.length = 19 ∧ l.all oB = true ∧ l.all kB = true ∧ Below w.heap.size w w' := by
  have e1 := blk_new (w.alloc (.cells #[.slice none 0 0] 25)) (.cells #[.slice none 0 0] 25)
  rw [show (w.alloc (.cells #[.slice none 0 0] 25)).heap.size = w.heap.size + 1 by simp] at e1
  have H0 := Aside0.mk (show Below w.heap.size w ((w.alloc (.cells #[.slice none 0 0] 25)).alloc (.cells #[.slice none 0 0] 25)) ∧ ((w.alloc (.cells #[.slice none 0 0] 25)).alloc (.cells #[.slice none 0 0] 25)).heap[w.heap.size]? = some (.cells #[.slice none 0 0] 25 (0, 0)) ∧ ((w.alloc (.cells #[.slice none 0 0] 25)).alloc (.cells #[.slice none 0 0] 25)).heap[w.heap.size + 1]? = some (.cells #[.slice none 0 0] 25 (0, 0)) ∧ ((w.alloc (.cells #[.slice none 0 0] 25)).alloc (.cells #[.slice none 0 0] 25)).heap.size = w.heap.size + 2 from ⟨bla (bla (Below.refl _ _) _) _, kla (blk_new _ _) _, e1, by simp⟩)
  clear e1
  go_enter Try.func87, Try.ntmps87
  go_wp2_with fail
  refine (errs_n _).mono ?_
  rintro e w2 ⟨gn, cn, ns, rfl, hr, hl, hs, hb⟩
  rw [H0.out.2.2.2] at hr
  have HN := Aside0.mk (show Nh w w2 (.slice none 0 0) [] gn cn 13 ns from ⟨bst H0.out.1 hb, kbw H0.out.2.1 hb, kbw H0.out.2.2.1 hb, Kd.R_nil _ _ _ _ _, hr, by simp⟩)
  have HS := Aside0.mk hs
  obtain ⟨m, hm⟩ : ∃ m : Nat, m = 13 := ⟨_, rfl⟩
  clear hr hl hs hb H0
  go_wp2_with fail
  go_loopw [3] (fun u3 wr => ∃ (k : Nat) (l : List S46) (A1 : Option Addr) (n1 c1 : Nat), u3 = .int .i64 k ∧ k ≤ 13 ∧ Aside0 (Nh w wr (.slice A1 n1 c1) l gn cn 13 ns) ∧ l.length = k) (fun u3 _ => 13 - (intOf u3).toNat)
  case atStart => exact ⟨0, [], none, 0, 0, rfl, by omega, ⟨HN.out⟩, rfl⟩
  case round =>
    clear HN
    obtain ⟨k, l, A1, n1, c1, rfl, hk13, HQ, hlk⟩ := hrel
    have hl40 : l.length ≤ 40 := by omega
    have HLK := Lib.hid hlk
    clear hlk
    by_cases hk : k < 13
    · have HALL := Aside0.mk HQ.out.all
      obtain ⟨nm, hnm, hnm1⟩ := name_at HQ.out.nm HS.out k hk
      have HNM := Aside0.mk hnm1
      clear hnm1
      go_wp2_with fail
      have hq0 : Below wr.heap.size wr wr.drew := below_drew (Below.refl _ _)
      refine start_ (n := 10) (S := fun w' => w'.cell? ⟨gn, k, none⟩ = some (.string nm)) (ds := [9]) #[false, false, false, false, false, false, false, false, false, false] (by kernel_rfl) rfl rfl (B.cell_keep hq0 hnm) (fun hHeld => ?_)
      generalize wr.drew = w10 at hq0 hHeld ⊢
      have hh : Below w10.heap.size w10 w10 := Below.refl _ _
      replace hnm := B.cell_keep hq0 hnm
      refine pure_ (i := 0) (N := some 15) (v := ?_) (a' := ?_) #[true, false, false, false, false, false, false, false, false, false] rfl rfl (by kernel_rfl) (fun _ _ _ h => h) (Or.inl ⟨by rfl, ?_⟩) ?_ ?_
      rotate_left
      · intro w'
        go_simp
        with_reducible rfl
      rotate_left
      · simp only [Act.put, List.setIfInBounds_toArray, List.set_cons_zero, List.set_cons_succ, i64_w, i32_w]
        rfl
      refine pure_ (i := 1) (N := some 16) (v := ?_) (a' := ?_) #[true, true, false, false, false, false, false, false, false, false] rfl rfl (by kernel_rfl) (fun _ _ _ h => h) (Or.inl ⟨by rfl, ?_⟩) ?_ ?_
      rotate_left
      · intro w'
        go_simp
        with_reducible rfl
      rotate_left
      · simp only [Act.put, List.setIfInBounds_toArray, List.set_cons_zero, List.set_cons_succ, i64_w, i32_w]
        rfl
      refine pure_ (i := 2) (N := some 17) (v := ?_) (a' := ?_) #[true, true, true, false, false, false, false, false, false, false] rfl rfl (by kernel_rfl) (fun _ _ _ h => h) (Or.inl ⟨by rfl, ?_⟩) ?_ ?_
      rotate_left
      · intro w'
        go_simp
        with_reducible rfl
      rotate_left
      · simp only [Act.put, List.setIfInBounds_toArray, List.set_cons_zero, List.set_cons_succ, i64_w, i32_w]
        rfl
      refine pure_ (i := 4) (N := some 19) (v := ?_) (a' := ?_) #[true, true, true, false, true, false, false, false, false, false] rfl rfl (by kernel_rfl) (fun _ _ _ h => h) (Or.inl ⟨by rfl, ?_⟩) ?_ ?_
      rotate_left
      · intro w'
        go_simp
        with_reducible rfl
      rotate_left
      · simp only [Act.put, List.setIfInBounds_toArray, List.set_cons_zero, List.set_cons_succ, i64_w, i32_w]
        rfl
      refine take_ (i := 3) (N := some 18) (v := ?_) (a' := ?_) #[true, true, true, true, true, false, false, false, false, false] rfl rfl (by kernel_rfl) (fun _ _ _ h => h) (Or.inl ⟨by rfl, ?_⟩) hHeld ?_ ?_
      rotate_left
      · intro w' s0
        go_simp
        with_reducible rfl
      rotate_left
      · simp only [Act.put, List.setIfInBounds_toArray, List.set_cons_zero, List.set_cons_succ, i64_w, i32_w]
        rfl
      refine join_ (σ := Option Addr × Nat × Nat) 1 #[true, true, true, true, true, true, true, true, true, false] (fun s_ => [(20, .agg #[.int .i64 4, .string ⟨#[]⟩, .int .i64 (k : Int)]), (21, .slice s_.1 1 s_.2.1), (4, .pointer (some ⟨s_.2.2, 0, none⟩)), (22, .agg #[.int .i64 5, .string nm, .int .i64 0, .slice s_.1 1 s_.2.1, .slice none 0 0, .slice none 0 0, .slice none 0 0])]) (fun s_ w' => w'.cell? ⟨gn, k, none⟩ = some (.string nm) ∧ Fr w w' w10.heap.size s_.2.2 (.slice A1 n1 c1) l gn cn 13 ns #[.int .i64 0, .string (⟨#[]⟩ : ByteArray), .int .i64 0, .slice none 0 0, .slice none 0 0, .slice none 0 0, .slice none 0 0] (.slice s_.1 1 s_.2.1) [refN k] (.slice none 0 0) []) ?_ ?_
      rotate_left
      · intro hCont
        refine two_ (i := 5) (j := 8) (Ni := some 20) (Nj := some 4) #[true, true, true, true, true, true, false, false, false, false] #[true, true, true, true, true, false, false, false, true, false] rfl rfl rfl rfl (by kernel_rfl) (by decide) (by decide) (fun K hK => ?_) (fun K hK => ?_)
        · skip
          refine goes_ Try.func59 (by kernel_rfl) rfl #[.int .i64 (k : Int)] (by rfl) rfl rfl (by simp only [List.map_toArray, List.map_cons, List.map_nil]; rfl) ?_
          with_reducible refine (spec_refTo.calls (k : Int) _ _ _ _ rfl).mono ?_
          rintro e y5 ⟨rfl, hb5⟩
          refine ⟨_, rfl, ?_⟩
          have hh5 := bth hh hh.size hb5
          refine hK.out _ _ (B.cell_keep hh5 hnm) (fun hHeld => ?_)
          clear hK K
          refine norm_ (a' := ?_) ?_ ?_
          rotate_left
          · show Act.put _ (some 20) _ = _
            simp only [Act.put, List.setIfInBounds_toArray, List.set_cons_zero, List.set_cons_succ, i64_w, i32_w]
            rfl
          refine two_ (i := 6) (j := 8) (Ni := some 21) (Nj := some 4) #[true, true, true, true, true, true, true, false, false, false] #[true, true, true, true, true, true, false, false, true, false] rfl rfl rfl rfl (by kernel_rfl) (by decide) (by decide) (fun K hK => ?_) (fun K hK => ?_)
          · skip
            refine Kd.R_lit_step k35 _ 35 ?hg (N := 21) ?hd (xs := ([(⟨4, ⟨#[]⟩, (k : Int)⟩ : S35)] : List S35)) (inner := [.int .i64 4, .string ⟨#[]⟩, .int .i64 (k : Int)]) (ok := fun _ => True) (okp := fun _ => True) ?hr ?hp (fun _ hk => hk) trivial (Below.refl _ _) (Nat.le_refl _) (by simp) ?_; (case hd => rfl); (case hg => rfl); (case hr => first | (go_simp; done) | (go_simp; rfl)); (case hp => exact (Reps.c3 (show Kd.M k35 _ _ _ (⟨4, ⟨#[]⟩, (k : Int)⟩ : S35) [.int .i64 4, .string ⟨#[]⟩, .int .i64 (k : Int)] from (k35_mkM _ _ _ (⟨4, ⟨#[]⟩, (k : Int)⟩ : S35))) (Reps.none _ _)))
            intro v6 y6 ho6 hb6 _ _
            obtain ⟨A6, c6, rfl⟩ := sfN1 ho6
            have hh56 := bth hh5 hh5.size hb6
            refine hK.out _ _ (B.cell_keep hh56 hnm) (fun hHeld => ?_)
            clear hK K
            refine norm_ (a' := ?_) ?_ ?_
            rotate_left
            · show Act.put _ (some 21) _ = _
              simp only [Act.put, List.setIfInBounds_toArray, List.set_cons_zero, List.set_cons_succ, i64_w, i32_w]
              rfl
            refine pure_ (i := 7) (N := some 22) (v := ?_) (a' := ?_) #[true, true, true, true, true, true, true, true, false, false] rfl rfl (by kernel_rfl) (fun _ _ _ h => h) (Or.inl ⟨by rfl, ?_⟩) ?_ ?_
            rotate_left
            · intro w'
              go_simp
              with_reducible rfl
            rotate_left
            · simp only [Act.put, List.setIfInBounds_toArray, List.set_cons_zero, List.set_cons_succ, i64_w, i32_w]
              rfl
            refine one_ (i := 8) (N := some 4) #[true, true, true, true, true, true, true, true, true, false] rfl rfl (by kernel_rfl) (by decide) (fun K hK => ?_)
            refine box_step ?hg (N := 4) ?hd (cs := #[.int .i64 0, .string (⟨#[]⟩ : ByteArray), .int .i64 0, .slice none 0 0, .slice none 0 0, .slice none 0 0, .slice none 0 0]) (t := 46) ?hr ?_; (case hd => rfl); (case hg => rfl); (case hr => first | (go_simp; done) | (go_simp; rfl))
            intro b8 hg8 y8 hbox hb8
            have hh568 := bth hh56 hh56.size hb8
            refine hK.out _ _ (B.cell_keep hh568 hnm) (fun hHeld => ?_)
            clear hK K
            refine norm_ (a' := ?_) ?_ ?_
            rotate_left
            · show Act.put _ (some 4) _ = _
              simp only [Act.put, List.setIfInBounds_toArray, List.set_cons_zero, List.set_cons_succ, i64_w, i32_w]
              rfl
            exact norm_ (by simp only [putAll, Act.put, List.setIfInBounds_toArray, List.set_cons_zero, List.set_cons_succ]) (hCont ⟨A6, c6, b8⟩ _ ⟨B.cell_keep hh568 hnm, fr_close HQ.out hq0 hh568 (hbox) (by show w10.heap.size ≤ b8; have := hh56.size; omega) (Kd.R_below (r_before ho6 hg8 (by have := hh5.size; omega)) hb8)⟩)
          · skip
            refine box_step ?hg (N := 4) ?hd (cs := #[.int .i64 0, .string (⟨#[]⟩ : ByteArray), .int .i64 0, .slice none 0 0, .slice none 0 0, .slice none 0 0, .slice none 0 0]) (t := 46) ?hr ?_; (case hd => rfl); (case hg => rfl); (case hr => first | (go_simp; done) | (go_simp; rfl))
            intro b8 hg8 y8 hbox hb8
            have hh58 := bth hh5 hh5.size hb8
            refine hK.out _ _ (B.cell_keep hh58 hnm) (fun hHeld => ?_)
            clear hK K
            refine norm_ (a' := ?_) ?_ ?_
            rotate_left
            · show Act.put _ (some 4) _ = _
              simp only [Act.put, List.setIfInBounds_toArray, List.set_cons_zero, List.set_cons_succ, i64_w, i32_w]
              rfl
            refine one_ (i := 6) (N := some 21) #[true, true, true, true, true, true, true, false, true, false] rfl rfl (by kernel_rfl) (by decide) (fun K hK => ?_)
            refine Kd.R_lit_step k35 _ 35 ?hg (N := 21) ?hd (xs := ([(⟨4, ⟨#[]⟩, (k : Int)⟩ : S35)] : List S35)) (inner := [.int .i64 4, .string ⟨#[]⟩, .int .i64 (k : Int)]) (ok := fun _ => True) (okp := fun _ => True) ?hr ?hp (fun _ hk => hk) trivial (Below.refl _ _) (Nat.le_refl _) (by simp) ?_; (case hd => rfl); (case hg => rfl); (case hr => first | (go_simp; done) | (go_simp; rfl)); (case hp => exact (Reps.c3 (show Kd.M k35 _ _ _ (⟨4, ⟨#[]⟩, (k : Int)⟩ : S35) [.int .i64 4, .string ⟨#[]⟩, .int .i64 (k : Int)] from (k35_mkM _ _ _ (⟨4, ⟨#[]⟩, (k : Int)⟩ : S35))) (Reps.none _ _)))
            intro v6 y6 ho6 hb6 _ _
            obtain ⟨A6, c6, rfl⟩ := sfN1 ho6
            have hh586 := bth hh58 hh58.size hb6
            refine hK.out _ _ (B.cell_keep hh586 hnm) (fun hHeld => ?_)
            clear hK K
            refine norm_ (a' := ?_) ?_ ?_
            rotate_left
            · show Act.put _ (some 21) _ = _
              simp only [Act.put, List.setIfInBounds_toArray, List.set_cons_zero, List.set_cons_succ, i64_w, i32_w]
              rfl
            refine pure_ (i := 7) (N := some 22) (v := ?_) (a' := ?_) #[true, true, true, true, true, true, true, true, true, false] rfl rfl (by kernel_rfl) (fun _ _ _ h => h) (Or.inl ⟨by rfl, ?_⟩) ?_ ?_
            rotate_left
            · intro w'
              go_simp
              with_reducible rfl
            rotate_left
            · simp only [Act.put, List.setIfInBounds_toArray, List.set_cons_zero, List.set_cons_succ, i64_w, i32_w]
              rfl
            exact norm_ (by simp only [putAll, Act.put, List.setIfInBounds_toArray, List.set_cons_zero, List.set_cons_succ]) (hCont ⟨A6, c6, b8⟩ _ ⟨B.cell_keep hh586 hnm, fr_close HQ.out hq0 hh586 (kbw hbox hb6) (by show w10.heap.size ≤ b8; have := hh5.size; omega) (r_after ho6 (blk_lt hbox) (by have := hh58.size; omega))⟩)
        · skip
          refine box_step ?hg (N := 4) ?hd (cs := #[.int .i64 0, .string (⟨#[]⟩ : ByteArray), .int .i64 0, .slice none 0 0, .slice none 0 0, .slice none 0 0, .slice none 0 0]) (t := 46) ?hr ?_; (case hd => rfl); (case hg => rfl); (case hr => first | (go_simp; done) | (go_simp; rfl))
          intro b8 hg8 y8 hbox hb8
          have hh8 := bth hh hh.size hb8
          refine hK.out _ _ (B.cell_keep hh8 hnm) (fun hHeld => ?_)
          clear hK K
          refine norm_ (a' := ?_) ?_ ?_
          rotate_left
          · show Act.put _ (some 4) _ = _
            simp only [Act.put, List.setIfInBounds_toArray, List.set_cons_zero, List.set_cons_succ, i64_w, i32_w]
            rfl
          refine one_ (i := 5) (N := some 20) #[true, true, true, true, true, true, false, false, true, false] rfl rfl (by kernel_rfl) (by decide) (fun K hK => ?_)
          refine goes_ Try.func59 (by kernel_rfl) rfl #[.int .i64 (k : Int)] (by rfl) rfl rfl (by simp only [List.map_toArray, List.map_cons, List.map_nil]; rfl) ?_
          with_reducible refine (spec_refTo.calls (k : Int) _ _ _ _ rfl).mono ?_
          rintro e y5 ⟨rfl, hb5⟩
          refine ⟨_, rfl, ?_⟩
          have hh85 := bth hh8 hh8.size hb5
          refine hK.out _ _ (B.cell_keep hh85 hnm) (fun hHeld => ?_)
          clear hK K
          refine norm_ (a' := ?_) ?_ ?_
          rotate_left
          · show Act.put _ (some 20) _ = _
            simp only [Act.put, List.setIfInBounds_toArray, List.set_cons_zero, List.set_cons_succ, i64_w, i32_w]
            rfl
          refine one_ (i := 6) (N := some 21) #[true, true, true, true, true, true, true, false, true, false] rfl rfl (by kernel_rfl) (by decide) (fun K hK => ?_)
          refine Kd.R_lit_step k35 _ 35 ?hg (N := 21) ?hd (xs := ([(⟨4, ⟨#[]⟩, (k : Int)⟩ : S35)] : List S35)) (inner := [.int .i64 4, .string ⟨#[]⟩, .int .i64 (k : Int)]) (ok := fun _ => True) (okp := fun _ => True) ?hr ?hp (fun _ hk => hk) trivial (Below.refl _ _) (Nat.le_refl _) (by simp) ?_; (case hd => rfl); (case hg => rfl); (case hr => first | (go_simp; done) | (go_simp; rfl)); (case hp => exact (Reps.c3 (show Kd.M k35 _ _ _ (⟨4, ⟨#[]⟩, (k : Int)⟩ : S35) [.int .i64 4, .string ⟨#[]⟩, .int .i64 (k : Int)] from (k35_mkM _ _ _ (⟨4, ⟨#[]⟩, (k : Int)⟩ : S35))) (Reps.none _ _)))
          intro v6 y6 ho6 hb6 _ _
          obtain ⟨A6, c6, rfl⟩ := sfN1 ho6
          have hh856 := bth hh85 hh85.size hb6
          refine hK.out _ _ (B.cell_keep hh856 hnm) (fun hHeld => ?_)
          clear hK K
          refine norm_ (a' := ?_) ?_ ?_
          rotate_left
          · show Act.put _ (some 21) _ = _
            simp only [Act.put, List.setIfInBounds_toArray, List.set_cons_zero, List.set_cons_succ, i64_w, i32_w]
            rfl
          refine pure_ (i := 7) (N := some 22) (v := ?_) (a' := ?_) #[true, true, true, true, true, true, true, true, true, false] rfl rfl (by kernel_rfl) (fun _ _ _ h => h) (Or.inl ⟨by rfl, ?_⟩) ?_ ?_
          rotate_left
          · intro w'
            go_simp
            with_reducible rfl
          rotate_left
          · simp only [Act.put, List.setIfInBounds_toArray, List.set_cons_zero, List.set_cons_succ, i64_w, i32_w]
            rfl
          exact norm_ (by simp only [putAll, Act.put, List.setIfInBounds_toArray, List.set_cons_zero, List.set_cons_succ]) (hCont ⟨A6, c6, b8⟩ _ ⟨B.cell_keep hh856 hnm, fr_close HQ.out hq0 hh856 (kbw (kbw hbox hb5) hb6) (by show w10.heap.size ≤ b8; omega) (r_after ho6 (by show b8 < y5.heap.size; have := hb5.size; have := blk_lt hbox; omega) (by have := hh85.size; omega))⟩)
      rintro ⟨A6, c6, b4⟩ w11 ⟨hHeld, HF⟩
      have z0 := (kcl HF.cb 0).trans (show _ = some (.int .i64 0) from rfl)
      have z1 := (kcl HF.cb 1).trans (show _ = some (.string (⟨#[]⟩ : ByteArray)) from rfl)
      have z2 := (kcl HF.cb 2).trans (show _ = some (.int .i64 0) from rfl)
      have z3 := (kcl HF.cb 3).trans (show _ = some (.slice none 0 0) from rfl)
      have z4 := (kcl HF.cb 4).trans (show _ = some (.slice none 0 0) from rfl)
      have z5 := (kcl HF.cb 5).trans (show _ = some (.slice none 0 0) from rfl)
      have z6 := (kcl HF.cb 6).trans (show _ = some (.slice none 0 0) from rfl)
      have f0 := kfz HF.cb 0
      have f1 := kfz HF.cb 1
      have f2 := kfz HF.cb 2
      have f3 := kfz HF.cb 3
      have f4 := kfz HF.cb 4
      have f5 := kfz HF.cb 5
      have f6 := kfz HF.cb 6
      refine norm_ (a' := ?_) ?_ ?_
      rotate_left
      · simp only [putAll, Act.put, List.setIfInBounds_toArray, List.set_cons_zero, List.set_cons_succ]
        rfl
      refine last_ (i := 9) (N := none) #[true, true, true, true, true, true, true, true, true, true] rfl rfl (by kernel_rfl) (by decide) (fun K hK => ?_)
      refine skip_ (w1 := ?_) (by rfl) rfl ?_ ?_
      rotate_left
      · go_simp
        rfl
      refine hK.out _ _ ?_
      clear hK K
      refine done_ (by kernel_rfl) ?_
      obtain ⟨W1, hW1⟩ : ∃ W1 : World, W1 = (((((((w11.setCell ⟨b4, 0, none⟩ (.int .i64 5)).setCell ⟨b4, 1, none⟩ (.string nm)).setCell ⟨b4, 2, none⟩ (.int .i64 0)).setCell ⟨b4, 3, none⟩ (.slice A6 1 c6)).setCell ⟨b4, 4, none⟩ (.slice none 0 0)).setCell ⟨b4, 5, none⟩ (.slice none 0 0)).setCell ⟨b4, 6, none⟩ (.slice none 0 0)) := ⟨_, rfl⟩
      rw [← hW1]
      obtain ⟨N, hN⟩ : ∃ N, N = w10.heap.size := ⟨_, rfl⟩
      rw [← hN] at HF
      have HF1 := Aside0.mk (show Fr w W1 N b4 (.slice A1 n1 c1) l gn cn 13 ns #[.int .i64 5, .string nm, .int .i64 0, .slice A6 1 c6, .slice none 0 0, .slice none 0 0, .slice none 0 0] (.slice A6 1 c6) [refN k] (.slice none 0 0) [] from by
        rw [hW1]
        exact ((((((HF.set 0 _ rfl).set 1 _ rfl).set 2 _ rfl).set 3 _ rfl).set 4 _ rfl).set 5 _ rfl).set 6 _ rfl)
      clear z0 z1 z2 z3 z4 z5 z6 f0 f1 f2 f3 f4 f5 f6 HF hHeld hW1 hN hnm hh hq0 HQ
      by_cases hk0 : 0 < k
      · go_wp2_with fail
        refine (spec_refTo.calls 0 _ _ _ _ rfl).mono ?_
        rintro e y ⟨rfl, hb⟩
        have HF2 := Aside0.mk (HF1.out.below hb)
        have d4 := (kcl HF2.out.cb 4).trans (show _ = some (.slice none 0 0) from rfl)
        clear HF1 hb
        go_upto_region 9 with (first
          | ((with_reducible refine gate_dst (N := 26) rfl ?_); refine Kd.R_lit k35 _ 35 ?hg (N := 26) ?hd (xs := ([(⟨4, ⟨#[]⟩, 0⟩ : S35)] : List S35)) (inner := [.int .i64 4, .string ⟨#[]⟩, .int .i64 0]) (ok := fun _ => True) (okp := fun _ => True) ?hr ?hp (fun _ hk => hk) trivial (Below.refl _ _) (Nat.le_refl _) (by simp) ?_; (case hd => rfl); (case hg => rfl); (case hr => first | (go_simp; done) | (go_simp; rfl)); (case hp => exact (Reps.c3 (show Kd.M k35 _ _ _ (⟨4, ⟨#[]⟩, 0⟩ : S35) [.int .i64 4, .string ⟨#[]⟩, .int .i64 0] from (k35_mkM _ _ _ (⟨4, ⟨#[]⟩, 0⟩ : S35))) (Reps.none _ _))); intro v7 y7 ho7 hb7 _ _; obtain ⟨A7, c7, rfl⟩ := sfN1 ho7; have HF3 := Aside0.mk (HF2.out.below hb7); have d4' := B.cell_keep hb7 d4; have df := kfz HF3.out.cb 4; have HR4 := Aside0.mk (r_after ho7 (blk_lt HF2.out.cb) (Nat.le_refl _)); have HN4 := Aside0.mk (show N ≤ y.heap.size by have := HF2.out.b4N; have := blk_lt HF2.out.cb; omega); have hs4 : ∀ k, (Value.slice A6 1 c6).ownBlock = some k → k < y.heap.size := Kd.R_lt HF2.out.r3; clear ho7 hb7 d4))
        obtain ⟨W3, hW3⟩ : ∃ W3 : World, W3 = y7.setCell ⟨b4, 4, none⟩ (.slice A7 1 c7) := ⟨_, rfl⟩
        rw [← hW3]
        have HF5 := Aside0.mk (show Fr w W3 N b4 (.slice A1 n1 c1) l gn cn 13 ns #[.int .i64 5, .string nm, .int .i64 0, .slice A6 1 c6, .slice A7 1 c7, .slice none 0 0, .slice none 0 0] (.slice A6 1 c6) [refN k] (.slice A7 1 c7) [refN 0] from by
          rw [hW3]
          exact (HF3.out.row4 (Kd.R_lower HR4.out HN4.out)).set 4 _ rfl)
        replace HR4 := Aside0.mk (show k35.R 35 W3 y.heap.size (fun k => k ≠ b4) (.slice A7 1 c7) [refN 0] by rw [hW3]; exact Kd.R_far HR4.out (fun k hk => hk) _)
        clear hW3 HF3 HF2 d4' df
        go_wp2_with fail
        have hF8 := HF5.out.drew
        have hR48 := Kd.R_drew HR4.out
        refine start_ (n := 7) (S := fun w' => w'.cell? ⟨b4, 3, none⟩ = some (.slice A6 1 c6)) (ds := [4, 6]) #[false, false, false, false, false, false, false] (by kernel_rfl) rfl rfl (hF8.cell3) (fun hHeld => ?_)
        generalize W3.drew = w10b at hF8 hR48 hHeld ⊢
        refine pure_ (i := 0) (N := some 28) (v := ?_) (a' := ?_) #[true, false, false, false, false, false, false] rfl rfl (by kernel_rfl) (fun _ _ _ h => h) (Or.inl ⟨by rfl, ?_⟩) ?_ ?_
        rotate_left
        · intro w'
          go_simp
          with_reducible rfl
        rotate_left
        · simp only [Act.put, List.setIfInBounds_toArray, List.set_cons_zero, List.set_cons_succ, i64_w, i32_w]
          rfl
        refine take_ (i := 1) (N := some 29) (v := ?_) (a' := ?_) #[true, true, false, false, false, false, false] rfl rfl (by kernel_rfl) (fun _ _ _ h => h) (Or.inl ⟨by rfl, ?_⟩) hHeld ?_ ?_
        rotate_left
        · intro w' s0
          go_simp
          with_reducible rfl
        rotate_left
        · simp only [Act.put, List.setIfInBounds_toArray, List.set_cons_zero, List.set_cons_succ, i64_w, i32_w]
          rfl
        refine one_ (i := 2) (N := some 30) #[true, true, true, false, false, false, false] rfl rfl (by kernel_rfl) (by decide) (fun K hK => ?_)
        refine goes_ Try.func59 (by kernel_rfl) rfl #[.int .i64 0] (by rfl) rfl rfl (by simp only [List.map_toArray, List.map_cons, List.map_nil]; rfl) ?_
        with_reducible refine (spec_refTo.calls 0 _ _ _ _ rfl).mono ?_
        rintro e y9 ⟨rfl, hb9⟩
        refine ⟨_, rfl, ?_⟩
        have hF9 := hF8.below hb9
        have hR49 := Kd.R_below hR48 hb9
        refine hK.out _ _ (hF9.cell3) (fun hHeld => ?_)
        clear hK K
        refine norm_ (a' := ?_) ?_ ?_
        rotate_left
        · show Act.put _ (some 30) _ = _
          simp only [Act.put, List.setIfInBounds_toArray, List.set_cons_zero, List.set_cons_succ, i64_w, i32_w]
          rfl
        refine one_ (i := 3) (N := some 31) #[true, true, true, true, false, false, false] rfl rfl (by kernel_rfl) (by decide) (fun K hK => ?_)
        refine value_ (w1 := ?_) (v := ?_) (by rfl) rfl ?_ ?_
        rotate_left 2
        · go_simp
          constructor
          · rfl
          · rfl
        refine hK.out _ _ ((hF9.below (bla (Below.refl _ _) _)).cell3) (fun hHeld => ?_)
        clear hK K
        refine norm_ (a' := ?_) ?_ ?_
        rotate_left
        · show Act.put _ (some 31) _ = _
          simp only [Act.put, List.setIfInBounds_toArray, List.set_cons_zero, List.set_cons_succ, i64_w, i32_w]
          rfl
        refine last_ (i := 4) (N := some 32) #[true, true, true, true, true, false, false] rfl rfl (by kernel_rfl) (by decide) (fun K hK => ?_)
        refine Kd.R_append_step k35 (w0 := y9) N (by rfl) (.tmp 29) (.tmp 31) 26 35 (.agg #[(.int .i64 0), (.string ⟨#[]⟩), (.int .i64 0)]) 32 rfl Try.underlying26 info35 rfl (by decide) (by omega) (.slice A6 1 c6) [refN k] (refN 0) [.int .i64 4, .string ⟨#[]⟩, .int .i64 0] (fun k => k ≠ b4) (fun _ => False) rfl rfl ?aP (fun _ hk => hk.elim) ?aF ?aO ?aB ?aS ?aL ?_
        case aP => exact k35_mkM _ _ _ (refN 0)
        case aF => exact fun k hk => by have := blk_lt hF9.cb; omega
        case aO => exact hF9.r3
        case aB => exact Below.refl _ _
        case aS => have := hF9.b4N; have := blk_lt hF9.cb; omega
        case aL => simp
        intro v1 w13 ho _ hg hat
        obtain ⟨A8, n8, c8, rfl⟩ := sfN ho
        have hF10 := hF9.grow3 hR49 HN4.out hs4 hg ho
        have q3 := (kcl hF10.1 3).trans (show _ = some (.slice A6 1 c6) from rfl)
        have qf := kfz hF10.1 3
        have HF11 := Aside0.mk (hF10.2 _ rfl)
        refine hK.out _ _ ?_
        clear hK K
        refine norm_ (a' := ?_) ?_ ?_
        rotate_left
        · show Act.put _ (some 32) _ = _
          simp only [Act.put, List.setIfInBounds_toArray, List.set_cons_zero, List.set_cons_succ, i64_w, i32_w]
          rfl
        refine pure_ (i := 5) (N := some 33) (v := ?_) (a' := ?_) #[true, true, true, true, true, true, false] rfl rfl (by kernel_rfl) (fun _ _ _ h => h) (Or.inl ⟨by rfl, ?_⟩) ?_ ?_
        rotate_left
        · intro w'
          go_simp
          with_reducible rfl
        rotate_left
        · simp only [Act.put, List.setIfInBounds_toArray, List.set_cons_zero, List.set_cons_succ, i64_w, i32_w]
          rfl
        refine last_ (i := 6) (N := none) #[true, true, true, true, true, true, true] rfl rfl (by kernel_rfl) (by decide) (fun K hK => ?_)
        refine skip_ (w1 := ?_) (by rfl) rfl ?_ ?_
        rotate_left
        · go_simp
          rfl
        refine hK.out _ _ ?_
        clear hK K
        refine done_ (by kernel_rfl) ?_
        obtain ⟨W4, hW4⟩ : ∃ W4 : World, W4 = w13.setCell ⟨b4, 3, none⟩ (.slice A8 n8 c8) := ⟨_, rfl⟩
        rw [← hW4] at HF11 ⊢
        clear hW4 q3 qf hF10 hF9 hF8 hR48 hR49 hs4 HF5 HR4 HN4 ho hg hat hb9 hHeld
        have z1 := (kcl HF11.out.c1 0).trans (show _ = some (.slice A1 n1 c1) from rfl)
        have k0 := (kcl HF11.out.cb 0).trans (show _ = some (.int .i64 5) from rfl)
        have k1 := (kcl HF11.out.cb 1).trans (show _ = some (.string nm) from rfl)
        have k2 := (kcl HF11.out.cb 2).trans (show _ = some (.int .i64 0) from rfl)
        have k3 := (kcl HF11.out.cb 3).trans (show _ = some (.slice A8 n8 c8) from rfl)
        have k4 := (kcl HF11.out.cb 4).trans (show _ = some (.slice A7 1 c7) from rfl)
        have k5 := (kcl HF11.out.cb 5).trans (show _ = some (.slice none 0 0) from rfl)
        have k6 := (kcl HF11.out.cb 6).trans (show _ = some (.slice none 0 0) from rfl)
        go_wp2_with (first
          | ((with_reducible refine gate_builtin (b := .append) (xs := #[.tmp 35, .tmp 37]) rfl ?_); at_builtin; refine Kd.R_append k46 (w0 := W4) (w.heap.size + 2) rfl (.tmp 35) (.tmp 37) 23 46 (.agg #[(.int .i64 0), (.string ⟨#[]⟩), (.int .i64 0), (.slice none 0 0), (.slice none 0 0), (.slice none 0 0), (.slice none 0 0)]) 128 rfl Try.underlying23 info46 rfl (by decide) (by omega) (.slice A1 n1 c1) l ⟨5, nm, 0, [refN k] ++ [refN 0], [refN 0], [], []⟩ [.int .i64 5, .string nm, .int .i64 0, .slice A8 n8 c8, .slice A7 1 c7, .slice none 0 0, .slice none 0 0] (fun _ => True) (fun k => N ≤ k) rfl (by rfl) HF11.out.obj (fun k hk => HF11.out.sep hk) (fun _ _ => trivial) (Kd.R_mono HF11.out.hr (fun _ _ => trivial)) (Below.refl _ _) (by have := blk_lt HF11.out.c1; omega) (by omega) ?_; intro v1 w13 ho _ hg _; have hp := HF11.out.growH hg; obtain ⟨A2, n2, c2, rfl⟩ := sfN ho; have q1 := (kcl hp.2.2.1 0).trans (show _ = some (.slice A1 n1 c1) from rfl); have qf1 := kfz hp.2.2.1 0; have HPUT := Aside0.mk (Nh.put hp ho (new5' HNM.out k) HALL.out); clear hp ho hg))
        go_roundw
        case rel => exact ⟨k + 1, _, A2, n2, c2, by go_num, by omega, ⟨HPUT.out⟩, by have := HLK.out; simp; omega⟩
        case measure => simp [intOf]; omega
      · have hk00 : k = 0 := by omega
        have z1 := (kcl HF1.out.c1 0).trans (show _ = some (.slice A1 n1 c1) from rfl)
        have k0 := (kcl HF1.out.cb 0).trans (show _ = some (.int .i64 5) from rfl)
        have k1 := (kcl HF1.out.cb 1).trans (show _ = some (.string nm) from rfl)
        have k2 := (kcl HF1.out.cb 2).trans (show _ = some (.int .i64 0) from rfl)
        have k3 := (kcl HF1.out.cb 3).trans (show _ = some (.slice A6 1 c6) from rfl)
        have k4 := (kcl HF1.out.cb 4).trans (show _ = some (.slice none 0 0) from rfl)
        have k5 := (kcl HF1.out.cb 5).trans (show _ = some (.slice none 0 0) from rfl)
        have k6 := (kcl HF1.out.cb 6).trans (show _ = some (.slice none 0 0) from rfl)
        go_wp2_with (first
          | ((with_reducible refine gate_builtin (b := .append) (xs := #[.tmp 35, .tmp 37]) rfl ?_); at_builtin; refine Kd.R_append k46 (w0 := W1) (w.heap.size + 2) rfl (.tmp 35) (.tmp 37) 23 46 (.agg #[(.int .i64 0), (.string ⟨#[]⟩), (.int .i64 0), (.slice none 0 0), (.slice none 0 0), (.slice none 0 0), (.slice none 0 0)]) 128 rfl Try.underlying23 info46 rfl (by decide) (by omega) (.slice A1 n1 c1) l ⟨5, nm, 0, [refN k], [], [], []⟩ [.int .i64 5, .string nm, .int .i64 0, .slice A6 1 c6, .slice none 0 0, .slice none 0 0, .slice none 0 0] (fun _ => True) (fun k => N ≤ k) rfl (by rfl) HF1.out.obj (fun k hk => HF1.out.sep hk) (fun _ _ => trivial) (Kd.R_mono HF1.out.hr (fun _ _ => trivial)) (Below.refl _ _) (by have := blk_lt HF1.out.c1; omega) (by omega) ?_; intro v1 w13 ho _ hg _; have hp := HF1.out.growH hg; obtain ⟨A2, n2, c2, rfl⟩ := sfN ho; have q1 := (kcl hp.2.2.1 0).trans (show _ = some (.slice A1 n1 c1) from rfl); have qf1 := kfz hp.2.2.1 0; have HPUT := Aside0.mk (Nh.put hp ho (new5 HNM.out k) HALL.out); clear hp ho hg))
        go_roundw
        case rel => exact ⟨k + 1, _, A2, n2, c2, by go_num, by omega, ⟨HPUT.out⟩, by have := HLK.out; simp; omega⟩
        case measure => simp [intOf]; omega
    · have HN := Aside0.mk HQ.out
      clear HQ
      go_wp2_with fail
      refine (built_n _).mono ?_
      rintro e w5 ⟨gn2, cn2, ns2, rfl, hr, hl, hs, hb⟩
      have hb2 := HN.out.below hb
      have HN2 := Aside0.mk (show Nh w w5 (.slice A1 n1 c1) l gn2 cn2 6 ns2 from ⟨hb2.bl, hb2.c0, hb2.c1, hb2.hr, Kd.R_lower hr (by have := blk_lt HN.out.c1; omega), hb2.all⟩)
      have HS2 := Aside0.mk hs
      clear hr hl hs hb hb2 HN
      go_wp2_with fail
      go_loopw [6] (fun u6 wr => ∃ (k : Nat) (l : List S46) (A1 : Option Addr) (n1 c1 : Nat), u6 = .int .i64 k ∧ k ≤ 6 ∧ Aside0 (Nh w wr (.slice A1 n1 c1) l gn2 cn2 6 ns2) ∧ l.length = 13 + k) (fun u6 _ => 6 - (intOf u6).toNat)
      case atStart => exact ⟨0, l, A1, n1, c1, rfl, by omega, ⟨HN2.out⟩, by have := HLK.out; omega⟩
      case round =>
        clear HN2
        obtain ⟨k, l, A1, n1, c1, rfl, hk6, HQ, hlk⟩ := hrel
        have hl40 : l.length ≤ 40 := by omega
        have HLK := Lib.hid hlk
        clear hlk
        by_cases hk : k < 6
        · obtain ⟨nm, hnm, hnm1⟩ := name_at HQ.out.nm HS2.out k hk
          have HNM := Aside0.mk hnm1
          clear hnm1
          go_wp2_with fail
          have hq0 : Below wr.heap.size wr wr.drew := below_drew (Below.refl _ _)
          have hD := HQ.out.below hq0
          refine start_ (n := 11) (S := fun w' => w'.cell? ⟨w.heap.size + 1, 0, none⟩ = some (.slice A1 n1 c1) ∧ w'.cell? ⟨gn2, k, none⟩ = some (.string nm)) (ds := [8, 10]) #[false, false, false, false, false, false, false, false, false, false, false] (by kernel_rfl) rfl rfl ⟨hD.cell1, B.cell_keep hq0 hnm⟩ (fun hHeld => ?_)
          generalize wr.drew = w10 at hq0 hD hHeld ⊢
          refine pure_ (i := 0) (N := some 47) (v := ?_) (a' := ?_) #[true, false, false, false, false, false, false, false, false, false, false] rfl rfl (by kernel_rfl) (fun _ _ _ h => h) (Or.inl ⟨by rfl, ?_⟩) ?_ ?_
          rotate_left
          · intro w'
            go_simp
            with_reducible rfl
          rotate_left
          · simp only [Act.put, List.setIfInBounds_toArray, List.set_cons_zero, List.set_cons_succ, i64_w, i32_w]
            rfl
          refine pure_ (i := 2) (N := some 49) (v := ?_) (a' := ?_) #[true, false, true, false, false, false, false, false, false, false, false] rfl rfl (by kernel_rfl) (fun _ _ _ h => h) (Or.inl ⟨by rfl, ?_⟩) ?_ ?_
          rotate_left
          · intro w'
            go_simp
            with_reducible rfl
          rotate_left
          · simp only [Act.put, List.setIfInBounds_toArray, List.set_cons_zero, List.set_cons_succ, i64_w, i32_w]
            rfl
          refine pure_ (i := 3) (N := some 50) (v := ?_) (a' := ?_) #[true, false, true, true, false, false, false, false, false, false, false] rfl rfl (by kernel_rfl) (fun _ _ _ h => h) (Or.inl ⟨by rfl, ?_⟩) ?_ ?_
          rotate_left
          · intro w'
            go_simp
            with_reducible rfl
          rotate_left
          · simp only [Act.put, List.setIfInBounds_toArray, List.set_cons_zero, List.set_cons_succ, i64_w, i32_w]
            rfl
          refine pure_ (i := 4) (N := some 51) (v := ?_) (a' := ?_) #[true, false, true, true, true, false, false, false, false, false, false] rfl rfl (by kernel_rfl) (fun _ _ _ h => h) (Or.inl ⟨by rfl, ?_⟩) ?_ ?_
          rotate_left
          · intro w'
            go_simp
            with_reducible rfl
          rotate_left
          · simp only [Act.put, List.setIfInBounds_toArray, List.set_cons_zero, List.set_cons_succ, i64_w, i32_w]
            rfl
          refine take_ (i := 1) (N := some 48) (v := ?_) (a' := ?_) #[true, true, true, true, true, false, false, false, false, false, false] rfl rfl (by kernel_rfl) (fun _ _ _ h => h) (Or.inl ⟨by rfl, ?_⟩) hHeld ?_ ?_
          rotate_left
          · rintro w' ⟨s0, s1⟩
            go_simp
            with_reducible rfl
          rotate_left
          · simp only [Act.put, List.setIfInBounds_toArray, List.set_cons_zero, List.set_cons_succ, i64_w, i32_w]
            rfl
          refine take_ (i := 5) (N := some 52) (v := ?_) (a' := ?_) #[true, true, true, true, true, true, false, false, false, false, false] rfl rfl (by kernel_rfl) (fun _ _ _ h => h) (Or.inl ⟨by rfl, ?_⟩) hHeld ?_ ?_
          rotate_left
          · rintro w' ⟨s0, s1⟩
            go_simp
            with_reducible rfl
          rotate_left
          · simp only [Act.put, List.setIfInBounds_toArray, List.set_cons_zero, List.set_cons_succ, i64_w, i32_w]
            rfl
          refine pure_ (i := 6) (N := some 53) (v := ?_) (a' := ?_) #[true, true, true, true, true, true, true, false, false, false, false] rfl rfl (by kernel_rfl) (fun _ _ _ h => h) (Or.inl ⟨by rfl, ?_⟩) ?_ ?_
          rotate_left
          · intro w'
            go_simp
            with_reducible rfl
          rotate_left
          · simp only [Act.put, List.setIfInBounds_toArray, List.set_cons_zero, List.set_cons_succ, i64_w, i32_w]
            rfl
          refine one_ (i := 7) (N := some 54) #[true, true, true, true, true, true, true, true, false, false, false] rfl rfl (by kernel_rfl) (by decide) (fun K hK => ?_)
          refine value_ (w1 := ?_) (v := ?_) (by rfl) rfl ?_ ?_
          rotate_left 2
          · go_simp
            constructor
            · rfl
            · rfl
          have hD2 := hD.alloc (.cells #[.int .i64 10, .string nm, .int .i64 0, .slice none 0 0, .slice none 0 0, .slice none 0 0, .slice none 0 0] 46)
          refine hK.out _ _ ⟨hD2.cell1, B.cell_keep (bth hq0 hq0.size (bla (Below.refl _ _) _)) hnm⟩ (fun hHeld => ?_)
          clear hK K
          refine norm_ (a' := ?_) ?_ ?_
          rotate_left
          · show Act.put _ (some 54) _ = _
            simp only [Act.put, List.setIfInBounds_toArray, List.set_cons_zero, List.set_cons_succ, i64_w, i32_w]
            rfl
          refine last_ (i := 8) (N := some 55) #[true, true, true, true, true, true, true, true, true, false, false] rfl rfl (by kernel_rfl) (by decide) (fun K hK => ?_)
          refine Kd.R_append_step k46 (w0 := w10) (w.heap.size + 2) (by rfl) (.tmp 48) (.tmp 54) 23 46 (.agg #[(.int .i64 0), (.string ⟨#[]⟩), (.int .i64 0), (.slice none 0 0), (.slice none 0 0), (.slice none 0 0), (.slice none 0 0)]) 128 rfl Try.underlying23 info46 rfl (by decide) (by omega) (.slice A1 n1 c1) l ⟨10, nm, 0, [], [], [], []⟩ [.int .i64 10, .string nm, .int .i64 0, .slice none 0 0, .slice none 0 0, .slice none 0 0, .slice none 0 0] (fun _ => True) (fun _ => False) rfl rfl ?aP (fun _ hk => hk.elim) (fun _ _ => trivial) ?aO ?aB ?aS ?aL ?_
          case aP => exact k46_mkM w10 _ _ (⟨10, nm, 0, [], [], [], []⟩ : S46) (Kd.R_nil _ _ _ _ _) (Kd.R_nil _ _ _ _ _) (Kd.R_nil _ _ _ _ _) (Kd.R_nil _ _ _ _ _)
          case aO => exact hD.hr
          case aB => exact Below.refl _ _
          case aS => have := blk_lt hD.c1; omega
          case aL => omega
          intro v1 w13 ho _ hg _
          have hp := hD.grow hg
          obtain ⟨A2, n2, c2, rfl⟩ := sfN ho
          have hq2' := (kcl hp.2.2.1 0).trans (show _ = some (.slice A1 n1 c1) from rfl)
          have hf2' := kfz hp.2.2.1 0
          have HPUT := Aside0.mk (Nh.put hp ho (new10 HNM.out) hD.all)
          refine hK.out _ _ ?_
          clear hK K
          refine norm_ (a' := ?_) ?_ ?_
          rotate_left
          · show Act.put _ (some 55) _ = _
            simp only [Act.put, List.setIfInBounds_toArray, List.set_cons_zero, List.set_cons_succ, i64_w, i32_w]
            rfl
          refine pure_ (i := 9) (N := some 56) (v := ?_) (a' := ?_) #[true, true, true, true, true, true, true, true, true, true, false] rfl rfl (by kernel_rfl) (fun _ _ _ h => h) (Or.inl ⟨by rfl, ?_⟩) ?_ ?_
          rotate_left
          · intro w'
            go_simp
            with_reducible rfl
          rotate_left
          · simp only [Act.put, List.setIfInBounds_toArray, List.set_cons_zero, List.set_cons_succ, i64_w, i32_w]
            rfl
          refine last_ (i := 10) (N := none) #[true, true, true, true, true, true, true, true, true, true, true] rfl rfl (by kernel_rfl) (by decide) (fun K hK => ?_)
          refine skip_ (w1 := ?_) (by rfl) rfl ?_ ?_
          rotate_left
          · go_simp
            rfl
          refine hK.out _ _ ?_
          clear hK K
          refine done_ (by kernel_rfl) ?_
          go_wp2_with fail
          go_roundw
          case rel => exact ⟨k + 1, _, A2, n2, c2, by go_num, by omega, ⟨HPUT.out⟩, by have := HLK.out; simp; omega⟩
          case measure => simp [intOf]; omega
        · have q1 := HQ.out.cell1
          have q0 := (kcl HQ.out.c0 0).trans (show _ = some (.slice none 0 0) from rfl)
          have qf := kfz HQ.out.c0 0
          go_wp2_with fail
          refine bodyPost_ret (v := .agg #[.slice A1 n1 c1]) (B.res_c rfl _ _ w.heap.size 25 _ (0, 0) _ rfl (blk_put HQ.out.c0 0 _ rfl) Try.underlying25 rfl rfl) rfl ⟨_, l, rfl, ?_, by have := HLK.out; omega, ?_, ?_, HQ.out.bl.setCell (Nat.le_refl _) _⟩
          · exact Kd.R_mono (Kd.R_lower (Kd.R_far (Kd.R_bound HQ.out.hr) (p := ⟨w.heap.size, 0, none⟩) (fun k hk => by have := hk.2.1; simp; omega) (.slice A1 n1 c1)) (by omega)) (fun _ _ => trivial)
          · exact List.all_eq_true.2 fun o ho => (HQ.out.all o ho).1
          · exact List.all_eq_true.2 fun o ho => (HQ.out.all o ho).2
end Go.Proofs.Ytgddblpgbkgpcaa.PR
namespace Go.Proofs.Ytgddblpgbkgpcaa.PR
set_option linter.unusedVariables false
set_option linter.unusedSimpArgs false
open Go.RowKit Go.Proofs.YtgddblpgbkgpcaaW.PrintWords Go.Proofs.YtgddblpgbkgpcaaW.PrintLast Go.Proofs.YtgddblpgbkgpcaaW.PrintMore
def apart (u v : Value) : Prop := ∀ k, u.ownBlock = some k → v.ownBlock ≠ some k
theorem apart.symm {u v : Value} (h : apart u v) : apart v u := fun k hk he => h k he hk
theorem apart.left {u u1 v : Value} (h : apart u v) {N : Nat} (hv : ∀ k, v.ownBlock = some k → k < N) (hat : u1.ownBlock = u.ownBlock ∨ ∃ b, u1.ownBlock = some b ∧ N ≤ b) : apart u1 v := by
  intro k hk he
  rcases hat with hat | ⟨b, hb, hle⟩
  · exact h k (by rw [← hat]; exact hk) he
  · rw [hk] at hb
    injection hb with hb
    have := hv k he
    omega
theorem apart_nil (v : Value) : apart (.slice none 0 0) v := fun k hk => by simp [Value.ownBlock] at hk
def nl {α : Type} (xs : List α) (v : Value) : Prop := xs = [] → v = .slice none 0 0
theorem nl_app {α : Type} (xs : List α) (x : α) (v : Value) : nl (xs ++ [x]) v := fun h => by simp at h
def nilc (x : S46) (cs : List Value) : Prop := x.f0 = 5 ∨ x.f0 = 10 ∨ (∀ v3 v4 v5 v6 : Value, ∀ a b c : Value, cs = [a, b, c, v3, v4, v5, v6] → nl x.f3 v3 ∧ nl x.f4 v4 ∧ nl x.f5 v5 ∧ nl x.f6 v6)
def k46n : Kd S46 where
  sz := k46.sz
  E := k46.E
  K := k46.K
  M := fun w base ok x cs => k46.M w base ok x cs ∧ nilc x cs
  K_len := k46.K_len
  K_one := k46.K_one
  K_below := k46.K_below
  K_of_M := fun h => k46.K_of_M h.1
  M_mono := fun hok h => ⟨k46.M_mono hok h.1, h.2⟩
  M_bound := fun h => ⟨k46.M_bound h.1, h.2⟩
  M_move := fun hm h => ⟨k46.M_move hm h.1, h.2⟩
  M_lower := fun hb h => ⟨k46.M_lower hb h.1, h.2⟩
theorem R_n {w : World} {base : Nat} {ok : Nat → Prop} {v : Value} {xs : List S46} (h : k46.R 46 w base ok v xs) (hx : ∀ x ∈ xs, x.f0 = 5 ∨ x.f0 = 10) : k46n.R 46 w base ok v xs := by
  obtain ⟨h0, inner, ho, hr⟩ := h
  refine ⟨h0, inner, ho, hr.1, fun j p hj => ⟨hr.2 j p hj, ?_⟩⟩
  rcases hx p (List.mem_of_getElem? hj) with h | h
  · exact .inl h
  · exact .inr (.inl h)
theorem n_R {w : World} {base : Nat} {ok : Nat → Prop} {v : Value} {xs : List S46} (h : k46n.R 46 w base ok v xs) : k46.R 46 w base ok v xs := by
  obtain ⟨h0, inner, ho, hr⟩ := h
  exact ⟨h0, inner, ho, hr.imp_ (fun _ _ hp => hp.1)⟩
structure Ob (w : World) (H : Nat) (o : S46) (v3 v4 v5 v6 : Value) : Prop where
  r3 : k35.R 35 w (H + 1) (fun _ => True) v3 o.f3
  r4 : k35.R 35 w (H + 1) (fun _ => True) v4 o.f4
  r5 : Kd.string.R 9 w (H + 1) (fun _ => True) v5 o.f5
  r6 : k35.R 35 w (H + 1) (fun _ => True) v6 o.f6
  n34 : apart v3 v4
  n36 : apart v3 v6
  n46 : apart v4 v6
  z3 : nl o.f3 v3
  z4 : nl o.f4 v4
  z5 : nl o.f5 v5
  z6 : nl o.f6 v6
section
variable {w w1 : World} {H : Nat} {o : S46} {v3 v4 v5 v6 : Value}
theorem R_up {α : Type} {d : Kd α} {e base : Nat} {ok : Nat → Prop} {v : Value} {xs : List α} (h : d.R e w base ok v xs) (hm : ∀ k, base ≤ k → k < w.heap.size → w1.heap[k]? = w.heap[k]?) : d.R e w1 base ok v xs :=
  Kd.R_mono (Kd.R_move (Kd.R_bound h) (fun k hk => hm k hk.2.1 hk.2.2.1)) (fun _ hk => hk.1)
theorem Ob.step (h : Ob w H o v3 v4 v5 v6) (hm : ∀ k, H + 1 ≤ k → k < w.heap.size → w1.heap[k]? = w.heap[k]?) : Ob w1 H o v3 v4 v5 v6 :=
  ⟨R_up h.r3 hm, R_up h.r4 hm, R_up h.r5 hm, R_up h.r6 hm, h.n34, h.n36, h.n46, h.z3, h.z4, h.z5, h.z6⟩
theorem Ob.keep (h : Ob w H o v3 v4 v5 v6) {g : Nat} (hk : KeepBut w w1 g none) (hg : g ≤ H) : Ob w1 H o v3 v4 v5 v6 := h.step (fun k h1 h2 => hk.2 k h2 (by omega) (by simp))
theorem Ob.far (h : Ob w H o v3 v4 v5 v6) {p : Addr} (hp : p.block ≤ H) (u : Value) : Ob (w.setCell p u) H o v3 v4 v5 v6 := h.step (fun k h1 _ => Below.heap_setCell w p u k (by omega))
theorem Ob.kind (h : Ob w H o v3 v4 v5 v6) (a : Int) : Ob w H { o with f2 := a } v3 v4 v5 v6 := ⟨h.r3, h.r4, h.r5, h.r6, h.n34, h.n36, h.n46, h.z3, h.z4, h.z5, h.z6⟩
theorem R_other {α β : Type} {d : Kd α} {d' : Kd β} {e e' base base' : Nat} {ok ok' : Nat → Prop} {u v : Value} {xs : List α} {ys : List β} (h : d.R e w base ok u xs) (hE : d.E = []) (_hv : d'.R e' w base' ok' v ys) (hn : apart u v) (hg : w.grownBy w1 v.ownBlock) : d.R e w1 base ok u xs :=
  Kd.R_grown2 h hE hg (fun k hk he => hn k he.symm hk)
theorem Ob.put3 (h : Ob w H o v3 v4 v5 v6) {v : Value} {xs : List S35} (hr : k35.R 35 w1 (H + 1) (fun _ => True) v xs) (hg : w.grownBy w1 v3.ownBlock) (hat : v.ownBlock = v3.ownBlock ∨ ∃ b, v.ownBlock = some b ∧ w.heap.size ≤ b) (hz : nl xs v) : Ob w1 H { o with f3 := xs } v v4 v5 v6 :=
  ⟨hr, R_other h.r4 rfl h.r3 h.n34.symm hg, Kd.R_over' h.r5 (Kd.R_typed h.r3) (by decide) hg, R_other h.r6 rfl h.r3 h.n36.symm hg, h.n34.left (Kd.R_lt h.r4) hat, h.n36.left (Kd.R_lt h.r6) hat, h.n46, hz, h.z4, h.z5, h.z6⟩
theorem Ob.put4 (h : Ob w H o v3 v4 v5 v6) {v : Value} {xs : List S35} (hr : k35.R 35 w1 (H + 1) (fun _ => True) v xs) (hg : w.grownBy w1 v4.ownBlock) (hat : v.ownBlock = v4.ownBlock ∨ ∃ b, v.ownBlock = some b ∧ w.heap.size ≤ b) (hz : nl xs v) : Ob w1 H { o with f4 := xs } v3 v v5 v6 :=
  ⟨R_other h.r3 rfl h.r4 h.n34 hg, hr, Kd.R_over' h.r5 (Kd.R_typed h.r4) (by decide) hg, R_other h.r6 rfl h.r4 h.n46.symm hg, (h.n34.symm.left (Kd.R_lt h.r3) hat).symm, h.n36, h.n46.left (Kd.R_lt h.r6) hat, h.z3, hz, h.z5, h.z6⟩
theorem Ob.put6 (h : Ob w H o v3 v4 v5 v6) {v : Value} {xs : List S35} (hr : k35.R 35 w1 (H + 1) (fun _ => True) v xs) (hg : w.grownBy w1 v6.ownBlock) (hat : v.ownBlock = v6.ownBlock ∨ ∃ b, v.ownBlock = some b ∧ w.heap.size ≤ b) (hz : nl xs v) : Ob w1 H { o with f6 := xs } v3 v4 v5 v :=
  ⟨R_other h.r3 rfl h.r6 h.n36 hg, R_other h.r4 rfl h.r6 h.n46 hg, Kd.R_over' h.r5 (Kd.R_typed h.r6) (by decide) hg, hr, h.n34, (h.n36.symm.left (Kd.R_lt h.r3) hat).symm, (h.n46.symm.left (Kd.R_lt h.r4) hat).symm, h.z3, h.z4, h.z5, hz⟩
theorem Ob.put5 (h : Ob w H o v3 v4 v5 v6) {v : Value} {xs : List ByteArray} (hr : Kd.string.R 9 w1 (H + 1) (fun _ => True) v xs) (hg : w.grownBy w1 v5.ownBlock) (hz : nl xs v) : Ob w1 H { o with f5 := xs } v3 v4 v v6 :=
  ⟨Kd.R_over' h.r3 (Kd.R_typed h.r5) (by decide) hg, Kd.R_over' h.r4 (Kd.R_typed h.r5) (by decide) hg, hr, Kd.R_over' h.r6 (Kd.R_typed h.r5) (by decide) hg, h.n34, h.n36, h.n46, h.z3, h.z4, hz, h.z6⟩
theorem Ob.new (w : World) (H : Nat) (k : Int) (nm : ByteArray) (p : Int) : Ob w H ⟨k, nm, p, [], [], [], []⟩ (.slice none 0 0) (.slice none 0 0) (.slice none 0 0) (.slice none 0 0) :=
  ⟨Kd.R_nil _ _ _ _ _, Kd.R_nil _ _ _ _ _, Kd.R_nil _ _ _ _ _, Kd.R_nil _ _ _ _ _, apart_nil _, apart_nil _, apart_nil _, fun _ => rfl, fun _ => rfl, fun _ => rfl, fun _ => rfl⟩
theorem R_fresh (w : World) (base : Nat) (hb : base ≤ w.heap.size) (xs : List S35) (hl : xs.length ≤ 1000) :
    k35.R 35 (w.alloc (.cells (xs.flatMap fun x => [Value.int .i64 x.f0, .string x.f1, .int .i64 x.f2]).toArray 35)) base (fun _ => True) (.slice (some ⟨w.heap.size, 0, none⟩) xs.length xs.length) xs := by
  have hlen : ∀ l : List S35, (l.flatMap fun x => [Value.int .i64 x.f0, .string x.f1, .int .i64 x.f2]).length = l.length * 3 := by
    intro l
    induction l with
    | nil => rfl
    | cons x l ih => simp only [List.flatMap_cons, List.length_append, List.length_cons, List.length_nil, ih]; omega
  refine ⟨fun _ _ => trivial, (xs.flatMap fun x => [Value.int .i64 x.f0, .string x.f1, .int .i64 x.f2]), ?_, ?_⟩
  · have h2 := World.ownsRow_lit (base := base) (e := 35) (size := 3) w (xs.flatMap fun x => [Value.int .i64 x.f0, .string x.f1, .int .i64 x.f2]).toArray xs.length hb (by unfold maxLen; omega) (by simpa using hlen xs)
    show World.ownsRow _ base 35 3 _ _ _
    simpa using h2
  · refine ⟨hlen xs, fun j p hj => ?_⟩
    have key : ∀ (l : List S35) (j : Nat) (p : S35), l[j]? = some p → ((l.flatMap fun x => [Value.int .i64 x.f0, .string x.f1, .int .i64 x.f2]).drop (j * 3)).take 3 = [Value.int .i64 p.f0, .string p.f1, .int .i64 p.f2] := by
      intro l
      induction l with
      | nil => intro j p h; simp at h
      | cons x l ih =>
        intro j p h
        cases j with
        | zero =>
          simp at h
          subst h
          simp
        | succ j =>
          have := ih j p (by simpa using h)
          rw [← this]
          simp [Nat.succ_mul, List.drop_append]
    show k35.M _ _ _ p (((xs.flatMap fun x => [Value.int .i64 x.f0, .string x.f1, .int .i64 x.f2]).drop (j * 3)).take 3)
    rw [key xs j p hj]
    exact k35_mkM _ _ _ p
theorem Ob.whole (h : Ob w H o v3 v4 v5 v6) {base : Nat} (hb : base ≤ H + 1) : k46n.M w base (fun k => H + 1 ≤ k) o [.int .i64 o.f0, .string o.f1, .int .i64 o.f2, v3, v4, v5, v6] := by
  have up : ∀ {α : Type} {d : Kd α} {e : Nat} {v : Value} {xs : List α}, d.R e w (H + 1) (fun _ => True) v xs → d.R e w base (fun k => H + 1 ≤ k) v xs :=
    fun h => Kd.R_lower (Kd.R_mono (Kd.R_bound h) (fun _ hk => hk.2.1)) hb
  refine ⟨k46_mkM w base _ o (up h.r3) (up h.r4) (up h.r5) (up h.r6), .inr (.inr ?_)⟩
  intro u3 u4 u5 u6 a b c e
  simp only [List.cons.injEq] at e
  obtain ⟨rfl, rfl, rfl, rfl, rfl, rfl, rfl, _⟩ := e
  exact ⟨h.z3, h.z4, h.z5, h.z6⟩
end
def vsz (l : List S35) : Prop := ∀ x ∈ l, x.f1.size ≤ 5
def oG (m : Nat) (o : S46) : Prop := o.f1.size ≤ 100 ∧ o.f3.length ≤ m + 2 ∧ o.f4.length ≤ m ∧ o.f5.length ≤ m ∧ o.f6.length ≤ m ∧ vsz o.f3 ∧ vsz o.f4 ∧ vsz o.f6 ∧ ∀ s ∈ o.f5, s ∈ nm4
theorem oG_oB {m : Nat} {o : S46} (h : oG m o) (hm : m ≤ 30) : oB o = true := by
  obtain ⟨h1, h2, h3, h4, h5, h6, h7, h8, h9⟩ := h
  unfold oB
  simp only [Bool.and_eq_true, decide_eq_true_eq, List.all_eq_true, List.any_eq_true]
  exact ⟨⟨⟨⟨⟨⟨⟨⟨h1, by omega⟩, by omega⟩, by omega⟩, by omega⟩, fun x hx => h6 x hx⟩, fun x hx => h7 x hx⟩, fun x hx => h8 x hx⟩, fun s hs => ⟨s, h9 s hs, by simp⟩⟩
theorem vsz_snoc {l : List S35} {x : S35} (h : vsz l) (hx : VOk x) : vsz (l ++ [x]) := by
  intro y hy
  rcases List.mem_append.1 hy with hy | hy
  · exact h y hy
  · rw [List.mem_singleton.1 hy]; exact hx.1
def un (o : S46) : Prop := ∃ k : Int, k ≠ 5 ∧ k ≠ 10 ∧ o = ⟨k, ⟨#[]⟩, 0, [], [], [], []⟩
theorem un_oG {o : S46} (h : un o) : oG 0 o := by
  obtain ⟨k, _, _, rfl⟩ := h
  exact ⟨by simp; decide, by simp, by simp, by simp, by simp, by intro x hx; simp at hx, by intro x hx; simp at hx, by intro x hx; simp at hx, by intro s hs; simp at hs⟩
end Go.Proofs.Ytgddblpgbkgpcaa.PR
namespace Go.Proofs.Ytgddblpgbkgpcaa.PR
set_option linter.unusedVariables false
set_option linter.unusedSimpArgs false
open Go.RowKit Go.Proofs.YtgddblpgbkgpcaaW.PrintWords Go.Proofs.YtgddblpgbkgpcaaW.PrintLast Go.Proofs.YtgddblpgbkgpcaaW.PrintMore
set_option linter.unusedVariables false
set_option linter.unusedSimpArgs false
theorem C_two (w : World) (v k : S35) : Kd.C k35 (w.alloc (.cells #[.int .i64 v.f0, .string v.f1, .int .i64 v.f2, .int .i64 k.f0, .string k.f1, .int .i64 k.f2] 35)) (some ⟨w.heap.size, 0, none⟩) 2 [v, k] :=
  (Kd.R_reads' (R_fresh w 0 (Nat.zero_le _) [v, k] (by simp))).2.2
theorem C_three (w : World) (v k x : S35) : Kd.C k35 (w.alloc (.cells #[.int .i64 v.f0, .string v.f1, .int .i64 v.f2, .int .i64 k.f0, .string k.f1, .int .i64 k.f2, .int .i64 x.f0, .string x.f1, .int .i64 x.f2] 35)) (some ⟨w.heap.size, 0, none⟩) 3 [v, k, x] :=
  (Kd.R_reads' (R_fresh w 0 (Nat.zero_le _) [v, k, x] (by simp))).2.2
def Di (l : List S46) (v k : S35) (y : S35) (cc : Int) : Prop := (okB l [v, k] = false ∧ y = zV ∧ cc = 10) ∨ (okB l [v, k] = true ∧ Got l v k y cc)
theorem okV_two (n : Nat) (v k : S35) : okV n [v, k] = (B.valOk n (tV v) && B.valOk n (tV k)) := by simp [okV]
theorem val_int {n : Nat} {k : S35} (h : B.valOk n (tV k) = true) : k.f0 = 2 → B.intB k.f1 = true := by
  intro h2
  have e0 : (tV k).k = 2 := h2
  unfold B.valOk at h
  rw [if_neg (by omega), if_neg (by omega), if_pos e0] at h
  simp only [Bool.and_eq_true] at h
  exact h.1
set_option maxRecDepth 100000 in
set_option maxHeartbeats 4000000 in
theorem doIndexI_w (A : Option Addr) (n c : Nat) (l : List S46) (v k : S35) (y : S35) (cc : Int) (w : World) (hC : Kd.C k46 w A n l) (hc : n ≤ c) (hn : n ≤ 1000) (hob : ∀ o ∈ l, oB o = true) (hv5 : v.f1.size ≤ 5) (hk5 : k.f1.size ≤ 5) (h : Di l v k y cc) :
    Calls Try.prog 34 #[.agg #[.slice A n c], .agg #[.int .i64 v.f0, .string v.f1, .int .i64 v.f2], .agg #[.int .i64 k.f0, .string k.f1, .int .i64 k.f2]] w (GPost w y cc) := by
  obtain ⟨W, hW⟩ : ∃ W : World, W = (((w.alloc (.cells #[.slice A n c] 25)).alloc (.cells #[.int .i64 v.f0, .string v.f1, .int .i64 v.f2] 35)).alloc (.cells #[.int .i64 k.f0, .string k.f1, .int .i64 k.f2] 35)).alloc (.cells #[.int .i64 0, .string ⟨#[]⟩, .int .i64 0] 35) := ⟨_, rfl⟩
  have BX := Aside0.mk (bx_new w n c A v k W hW)
  have HC := Aside0.mk (Kd.C_below hC BX.out.bl)
  have hl := hC.1
  have HOB := Aside0.mk hob
  have HOL := Aside0.mk (fun o (ho : o ∈ l) => (show oL o from by obtain ⟨-, h3, h4, h5, h6, -⟩ := oB_facts (hob o ho); exact ⟨by omega, by omega, by omega, by omega⟩))
  have HLL := Aside0.mk (show l.length ≤ 1000 by omega)
  have HL := Aside0.mk hl
  have HVS := Aside0.mk (show ∀ x ∈ [v, k], x.f1.size ≤ 100 by
    intro x hx
    simp only [List.mem_cons, List.not_mem_nil, or_false] at hx
    rcases hx with rfl | rfl <;> omega)
  have HW := Lib.hid hW
  obtain ⟨p0, v0, v1, v2, k0, k1, k2, zb, z0, z1, z2, f0, f1, f2, -⟩ := BX.out
  have HCC := Aside0.mk hc
  clear hW zb hC hc hob
  have h30 := heapOk_k (w := W) c HC.out HOB.out HLL.out
  unfold Di at h
  rw [okB_eq, hl] at h
  cases hH : okH l
  · rw [hH] at h h30
    have HH := Aside0.mk h30
    obtain ⟨rfl, rfl⟩ : y = zV ∧ cc = 10 := by rcases h with h | h; exact h.2; simp at h
    clear hH h30 h
    go_enter Try.func34, Try.ntmps34
    go_upto_region 1 with (fail)
    rw [← HW.out]
    go_wp2_with (first | (go_at_call 30; refine HH.out.mono ?_; rintro e w1 ⟨rfl, hB⟩; replace BX := Aside0.mk (BX.out.below hB); clear p0 v0 v1 v2 k0 k1 k2 z0 z1 z2 f0 f1 f2; obtain ⟨p0, v0, v1, v2, k0, k1, k2, zb, z0, z1, z2, f0, f1, f2, -⟩ := BX.out; clear zb; replace HC := Aside0.mk (Kd.C_below HC.out hB); clear hB))
    refine bodyPost_ret (fin35 rfl _ w1 _ _ _ _ BX.out.zb _ _ _ rfl) rfl ⟨rfl, set35 BX.out.bl (by omega) _ _ _⟩

  · rw [hH, Bool.true_and] at h
    rw [hH] at h30
    have HH := Aside0.mk h30
    clear hH h30
    have HVK := Aside0.mk (fun (X : World) => valuesOk_k (A := A) (n := n) c hn 2 (C_two X v k) HVS.out (by simp))
    cases hV : okV n [v, k]
    · rw [hV] at h HVK
      obtain ⟨rfl, rfl⟩ : y = zV ∧ cc = 10 := by rcases h with h | h; exact h.2; simp at h
      clear hV h
      go_enter Try.func34, Try.ntmps34
      go_upto_region 1 with (fail)
      rw [← HW.out]
      go_wp2_with (first | (go_at_call 30; refine HH.out.mono ?_; rintro e w1 ⟨rfl, hB⟩; replace BX := Aside0.mk (BX.out.below hB); clear p0 v0 v1 v2 k0 k1 k2 z0 z1 z2 f0 f1 f2; obtain ⟨p0, v0, v1, v2, k0, k1, k2, zb, z0, z1, z2, f0, f1, f2, -⟩ := BX.out; clear zb; replace HC := Aside0.mk (Kd.C_below HC.out hB); clear hB) | (go_at_call 53; refine (HVK.out _).mono ?_; rintro e w2 ⟨rfl, hB2⟩; have hB := bst (bla (Below.refl w1.heap.size w1) (.cells #[.int .i64 v.f0, .string v.f1, .int .i64 v.f2, .int .i64 k.f0, .string k.f1, .int .i64 k.f2] 35)) hB2; replace BX := Aside0.mk (BX.out.below hB); clear p0 v0 v1 v2 k0 k1 k2 z0 z1 z2 f0 f1 f2; obtain ⟨p0, v0, v1, v2, k0, k1, k2, zb, z0, z1, z2, f0, f1, f2, -⟩ := BX.out; clear zb; replace HC := Aside0.mk (Kd.C_below HC.out hB); clear hB hB2))
      refine bodyPost_ret (fin35 rfl _ w2 _ _ _ _ BX.out.zb _ _ _ rfl) rfl ⟨rfl, set35 BX.out.bl (by omega) _ _ _⟩

    · rw [hV] at h HVK
      have hGot : Got l v k y cc := by rcases h with h | h; simp at h; exact h.2
      have hki : k.f0 = 2 → B.intB k.f1 = true ∧ k.f1.size ≤ 5 := by
        rw [okV_two, Bool.and_eq_true] at hV
        exact fun h2 => ⟨val_int hV.2 h2, hk5⟩
      have HIN := Aside0.mk (fun (X : World) (hX : Kd.C k46 X A n l) => iindex_w A n c l v k y cc X hX HCC.out hn (by omega) HOL.out hki hGot)
      clear hV h hGot hki
      go_enter Try.func34, Try.ntmps34
      go_upto_region 1 with (fail)
      rw [← HW.out]
      go_wp2_with (first | (go_at_call 30; refine HH.out.mono ?_; rintro e w1 ⟨rfl, hB⟩; replace BX := Aside0.mk (BX.out.below hB); clear p0 v0 v1 v2 k0 k1 k2 z0 z1 z2 f0 f1 f2; obtain ⟨p0, v0, v1, v2, k0, k1, k2, zb, z0, z1, z2, f0, f1, f2, -⟩ := BX.out; clear zb; replace HC := Aside0.mk (Kd.C_below HC.out hB); clear hB) | (go_at_call 53; refine (HVK.out _).mono ?_; rintro e w2 ⟨rfl, hB2⟩; have hB := bst (bla (Below.refl w1.heap.size w1) (.cells #[.int .i64 v.f0, .string v.f1, .int .i64 v.f2, .int .i64 k.f0, .string k.f1, .int .i64 k.f2] 35)) hB2; replace BX := Aside0.mk (BX.out.below hB); clear p0 v0 v1 v2 k0 k1 k2 z0 z1 z2 f0 f1 f2; obtain ⟨p0, v0, v1, v2, k0, k1, k2, zb, z0, z1, z2, f0, f1, f2, -⟩ := BX.out; clear zb; replace HC := Aside0.mk (Kd.C_below HC.out hB); clear hB hB2) | (go_at_call 73; refine (HIN.out _ HC.out).mono ?_; rintro e w3 ⟨rfl, hB⟩; replace BX := Aside0.mk (BX.out.below hB); clear p0 v0 v1 v2 k0 k1 k2 z0 z1 z2 f0 f1 f2; obtain ⟨p0, v0, v1, v2, k0, k1, k2, zb, z0, z1, z2, f0, f1, f2, -⟩ := BX.out; clear zb; replace HC := Aside0.mk (Kd.C_below HC.out hB); clear hB))
      refine bodyPost_ret (fin35 rfl _ w3 _ _ _ _ BX.out.zb _ _ _ rfl) rfl ⟨rfl, set35 BX.out.bl (by omega) _ _ _⟩
set_option maxRecDepth 100000 in
set_option maxHeartbeats 4000000 in
theorem doIndexS_w (A : Option Addr) (n c : Nat) (l : List S46) (v k : S35) (y : S35) (cc : Int) (w : World) (hC : Kd.C k46 w A n l) (hc : n ≤ c) (hn : n ≤ 1000) (hob : ∀ o ∈ l, oB o = true) (hv5 : v.f1.size ≤ 5) (hk5 : k.f1.size ≤ 5) (h : Di l v k y cc) :
    Calls Try.prog 35 #[.agg #[.slice A n c], .agg #[.int .i64 v.f0, .string v.f1, .int .i64 v.f2], .agg #[.int .i64 k.f0, .string k.f1, .int .i64 k.f2]] w (GPost w y cc) := by
  obtain ⟨W, hW⟩ : ∃ W : World, W = (((w.alloc (.cells #[.slice A n c] 25)).alloc (.cells #[.int .i64 v.f0, .string v.f1, .int .i64 v.f2] 35)).alloc (.cells #[.int .i64 k.f0, .string k.f1, .int .i64 k.f2] 35)).alloc (.cells #[.int .i64 0, .string ⟨#[]⟩, .int .i64 0] 35) := ⟨_, rfl⟩
  have BX := Aside0.mk (bx_new w n c A v k W hW)
  have HC := Aside0.mk (Kd.C_below hC BX.out.bl)
  have hl := hC.1
  have HOB := Aside0.mk hob
  have HOL := Aside0.mk (fun o (ho : o ∈ l) => (show oL o from by obtain ⟨-, h3, h4, h5, h6, -⟩ := oB_facts (hob o ho); exact ⟨by omega, by omega, by omega, by omega⟩))
  have HLL := Aside0.mk (show l.length ≤ 1000 by omega)
  have HL := Aside0.mk hl
  have HVS := Aside0.mk (show ∀ x ∈ [v, k], x.f1.size ≤ 100 by
    intro x hx
    simp only [List.mem_cons, List.not_mem_nil, or_false] at hx
    rcases hx with rfl | rfl <;> omega)
  have HW := Lib.hid hW
  obtain ⟨p0, v0, v1, v2, k0, k1, k2, zb, z0, z1, z2, f0, f1, f2, -⟩ := BX.out
  have HCC := Aside0.mk hc
  clear hW zb hC hc hob
  have h30 := validHeap_k (w := W) c HC.out HOB.out HLL.out
  unfold Di at h
  rw [okB_eq, hl, okV_two] at h
  have HV1 := Aside0.mk (fun (X : World) => (show Calls Try.prog 63 #[.agg #[.int .i64 v.f0, .string v.f1, .int .i64 v.f2], .int .i64 n] X fun e w' => e = .returned (.bool (B.valOk n (tV v))) ∧ Below X.heap.size X w' from B.validValue_ok n (by omega) (tV v) (by show v.f1.size ≤ _; omega) X))
  have HV2 := Aside0.mk (fun (X : World) => (show Calls Try.prog 63 #[.agg #[.int .i64 k.f0, .string k.f1, .int .i64 k.f2], .int .i64 n] X fun e w' => e = .returned (.bool (B.valOk n (tV k))) ∧ Below X.heap.size X w' from B.validValue_ok n (by omega) (tV k) (by show k.f1.size ≤ _; omega) X))
  cases hH : okH l
  · rw [hH] at h h30
    have HH := Aside0.mk h30
    obtain ⟨rfl, rfl⟩ : y = zV ∧ cc = 10 := by rcases h with h | h; exact h.2; simp at h
    clear hH h30 h
    go_enter Try.func35, Try.ntmps35
    go_upto_region 1 with (fail)
    rw [← HW.out]
    go_wp2_with (first | (go_at_call 55; refine HH.out.mono ?_; rintro e w1 ⟨rfl, hB⟩; replace BX := Aside0.mk (BX.out.below hB); clear p0 v0 v1 v2 k0 k1 k2 z0 z1 z2 f0 f1 f2; obtain ⟨p0, v0, v1, v2, k0, k1, k2, zb, z0, z1, z2, f0, f1, f2, -⟩ := BX.out; clear zb; replace HC := Aside0.mk (Kd.C_below HC.out hB); clear hB))
    refine bodyPost_ret (fin35 rfl _ w1 _ _ _ _ BX.out.zb _ _ _ rfl) rfl ⟨rfl, set35 BX.out.bl (by omega) _ _ _⟩

  · rw [hH, Bool.true_and] at h
    rw [hH] at h30
    have HH := Aside0.mk h30
    clear hH h30
    cases hV : B.valOk n (tV v)
    · rw [hV] at h HV1
      obtain ⟨rfl, rfl⟩ : y = zV ∧ cc = 10 := by rcases h with h | h; exact h.2; simp at h
      clear hV h
      go_enter Try.func35, Try.ntmps35
      go_upto_region 1 with (fail)
      rw [← HW.out]
      go_wp2_with (first | (go_at_call 55; refine HH.out.mono ?_; rintro e w1 ⟨rfl, hB⟩; replace BX := Aside0.mk (BX.out.below hB); clear p0 v0 v1 v2 k0 k1 k2 z0 z1 z2 f0 f1 f2; obtain ⟨p0, v0, v1, v2, k0, k1, k2, zb, z0, z1, z2, f0, f1, f2, -⟩ := BX.out; clear zb; replace HC := Aside0.mk (Kd.C_below HC.out hB); clear hB) | (go_at_call 63; with_reducible refine (HV1.out _).mono ?_; rintro e w2 ⟨rfl, hB⟩; replace BX := Aside0.mk (BX.out.below hB); clear p0 v0 v1 v2 k0 k1 k2 z0 z1 z2 f0 f1 f2; obtain ⟨p0, v0, v1, v2, k0, k1, k2, zb, z0, z1, z2, f0, f1, f2, -⟩ := BX.out; clear zb; replace HC := Aside0.mk (Kd.C_below HC.out hB); clear hB))
      refine bodyPost_ret (fin35 rfl _ w2 _ _ _ _ BX.out.zb _ _ _ rfl) rfl ⟨rfl, set35 BX.out.bl (by omega) _ _ _⟩

    · rw [hV] at h HV1
      cases hK : B.valOk n (tV k)
      · rw [hK] at h HV2
        obtain ⟨rfl, rfl⟩ : y = zV ∧ cc = 10 := by rcases h with h | h; exact h.2; simp at h
        clear hV hK h
        go_enter Try.func35, Try.ntmps35
        go_upto_region 1 with (fail)
        rw [← HW.out]
        go_wp2_with (first | (go_at_call 55; refine HH.out.mono ?_; rintro e w1 ⟨rfl, hB⟩; replace BX := Aside0.mk (BX.out.below hB); clear p0 v0 v1 v2 k0 k1 k2 z0 z1 z2 f0 f1 f2; obtain ⟨p0, v0, v1, v2, k0, k1, k2, zb, z0, z1, z2, f0, f1, f2, -⟩ := BX.out; clear zb; replace HC := Aside0.mk (Kd.C_below HC.out hB); clear hB) | (go_at_call 63; with_reducible refine (HV1.out _).mono ?_; rintro e w2 ⟨rfl, hB⟩; replace BX := Aside0.mk (BX.out.below hB); clear p0 v0 v1 v2 k0 k1 k2 z0 z1 z2 f0 f1 f2; obtain ⟨p0, v0, v1, v2, k0, k1, k2, zb, z0, z1, z2, f0, f1, f2, -⟩ := BX.out; clear zb; replace HC := Aside0.mk (Kd.C_below HC.out hB); clear hB) | (go_at_call 63; with_reducible refine (HV2.out _).mono ?_; rintro e w3 ⟨rfl, hB⟩; replace BX := Aside0.mk (BX.out.below hB); clear p0 v0 v1 v2 k0 k1 k2 z0 z1 z2 f0 f1 f2; obtain ⟨p0, v0, v1, v2, k0, k1, k2, zb, z0, z1, z2, f0, f1, f2, -⟩ := BX.out; clear zb; replace HC := Aside0.mk (Kd.C_below HC.out hB); clear hB))
        refine bodyPost_ret (fin35 rfl _ w3 _ _ _ _ BX.out.zb _ _ _ rfl) rfl ⟨rfl, set35 BX.out.bl (by omega) _ _ _⟩

      · rw [hK] at h HV2
        have hGot : Got l v k y cc := by rcases h with h | h; simp at h; exact h.2
        have hki : k.f0 = 2 → B.intB k.f1 = true ∧ k.f1.size ≤ 5 := fun h2 => ⟨val_int hK h2, hk5⟩
        have HIN := Aside0.mk (fun (X : World) (hX : Kd.C k46 X A n l) (g : Nat) (hg : Rr X g A n c) => sindex_w g A n c l v k y cc X hg hX hn (by omega) HOL.out hki hGot)
        clear hV hK h hGot hki
        go_enter Try.func35, Try.ntmps35
        go_upto_region 1 with (fail)
        rw [← HW.out]
        go_upto_region 4 with (first | (go_at_call 55; refine HH.out.mono ?_; rintro e w1 ⟨rfl, hB⟩; replace BX := Aside0.mk (BX.out.below hB); clear p0 v0 v1 v2 k0 k1 k2 z0 z1 z2 f0 f1 f2; obtain ⟨p0, v0, v1, v2, k0, k1, k2, zb, z0, z1, z2, f0, f1, f2, -⟩ := BX.out; clear zb; replace HC := Aside0.mk (Kd.C_below HC.out hB); clear hB) | (go_at_call 63; with_reducible refine (HV1.out _).mono ?_; rintro e w2 ⟨rfl, hB⟩; replace BX := Aside0.mk (BX.out.below hB); clear p0 v0 v1 v2 k0 k1 k2 z0 z1 z2 f0 f1 f2; obtain ⟨p0, v0, v1, v2, k0, k1, k2, zb, z0, z1, z2, f0, f1, f2, -⟩ := BX.out; clear zb; replace HC := Aside0.mk (Kd.C_below HC.out hB); clear hB) | (go_at_call 63; with_reducible refine (HV2.out _).mono ?_; rintro e w3 ⟨rfl, hB⟩; replace BX := Aside0.mk (BX.out.below hB); clear p0 v0 v1 v2 k0 k1 k2 z0 z1 z2 f0 f1 f2; obtain ⟨p0, v0, v1, v2, k0, k1, k2, zb, z0, z1, z2, f0, f1, f2, -⟩ := BX.out; clear zb; replace HC := Aside0.mk (Kd.C_below HC.out hB); clear hB))
        obtain ⟨W4, hW4⟩ : ∃ W4 : World, W4 = w3.alloc (.cells #[.slice A n c, .slice none 0 0, .bool false, .int .i64 0, .int .i64 0] 85) := ⟨_, rfl⟩
        have hB : Below w3.heap.size w3 W4 := by rw [hW4]; exact bla (Below.refl _ _) _
        have hrr : Rr W4 w3.heap.size A n c := by rw [hW4]; exact blk_new _ _
        rw [← hW4]
        clear hW4
        replace BX := Aside0.mk (BX.out.below hB)
        clear p0 v0 v1 v2 k0 k1 k2 z0 z1 z2 f0 f1 f2
        obtain ⟨p0, v0, v1, v2, k0, k1, k2, zb, z0, z1, z2, f0, f1, f2, -⟩ := BX.out
        clear zb
        replace HC := Aside0.mk (Kd.C_below HC.out hB)
        clear hB
        obtain ⟨g, hg⟩ : ∃ g, g = w3.heap.size := ⟨_, rfl⟩
        rw [← hg] at hrr ⊢
        have HRR := Aside0.mk hrr
        clear hg hrr
        go_wp2_with (first | (go_at_call 74; refine (HIN.out _ HC.out _ HRR.out).mono ?_; rintro e w5 ⟨rfl, hB⟩; replace BX := Aside0.mk (BX.out.below hB); clear p0 v0 v1 v2 k0 k1 k2 z0 z1 z2 f0 f1 f2; obtain ⟨p0, v0, v1, v2, k0, k1, k2, zb, z0, z1, z2, f0, f1, f2, -⟩ := BX.out; clear zb; replace HC := Aside0.mk (Kd.C_below HC.out hB); clear hB))
        refine bodyPost_ret (fin35 rfl _ w5 _ _ _ _ BX.out.zb _ _ _ rfl) rfl ⟨rfl, set35 BX.out.bl (by omega) _ _ _⟩
end Go.Proofs.Ytgddblpgbkgpcaa.PR
namespace Go.Proofs.Ytgddblpgbkgpcaa.PR
set_option linter.unusedVariables false
set_option linter.unusedSimpArgs false
open Go.RowKit Go.Proofs.YtgddblpgbkgpcaaW.PrintWords Go.Proofs.YtgddblpgbkgpcaaW.PrintLast Go.Proofs.YtgddblpgbkgpcaaW.PrintMore
set_option linter.unusedVariables false
set_option linter.unusedSimpArgs false
theorem sib_same {c : Array Value} {k : Nat} {u : Value} (h : c[k]? = some u) : c.setIfInBounds k u = c := by
  apply Array.ext_getElem?
  intro i
  rw [Array.getElem?_setIfInBounds]
  split
  next e => subst e; rw [h]; obtain ⟨h3, h4⟩ := Array.getElem?_eq_some_iff.1 h; simp [h3]
  · rfl
theorem setCell_same {w : World} {a : Addr} {u : Value} (h : w.cell? a = some u) : w.setCell a u = w := by
  have hh : (w.setCell a u).heap = w.heap := by
    apply Array.ext_getElem?
    intro i
    by_cases hi : i = a.block
    · subst hi
      unfold World.cell? at h
      split at h
      next c t fr hb =>
        split at h
        · cases h
        next hs =>
          simp only [World.setCell, Array.getElem?_modify, hb, if_true, Option.map_some, hs, if_false, Bool.false_eq_true]
          rw [sib_same h]
      next => cases h
    · exact Below.heap_setCell w a u i hi
  show { w with heap := (w.setCell a u).heap } = w
  rw [hh]
theorem add0 (g k : Nat) : (⟨g, 0, none⟩ : Addr).add k = ⟨g, k, none⟩ := by
  rcases Nat.eq_zero_or_pos k with rfl | h
  · rfl
  · simp [Addr.add]; omega
structure Vf (X : World) (ad : Addr) (j : Nat) : Prop where
  b0 : X.frozen? (ad.add (j * 3)) = false
  b1 : X.frozen? ⟨(ad.add (j * 3)).block, (ad.add (j * 3)).off + 1, none⟩ = false
  b2 : X.frozen? ⟨(ad.add (j * 3)).block, (ad.add (j * 3)).off + 2, none⟩ = false
theorem Vf.below {X Y : World} {ad : Addr} {j : Nat} {y : S35} (hv : Vc X ad j y) (h : Vf X ad j) (hb : Below X.heap.size X Y) : Vf Y ad j := by
  have hl := World.block_lt_of_cell? X _ hv.a0
  exact ⟨(hb.frozen (p := ad.add (j * 3)) hl).trans h.b0, (hb.frozen (p := ⟨(ad.add (j * 3)).block, (ad.add (j * 3)).off + 1, none⟩) hl).trans h.b1, (hb.frozen (p := ⟨(ad.add (j * 3)).block, (ad.add (j * 3)).off + 2, none⟩) hl).trans h.b2⟩
def Fz (w : World) (A : Option Addr) (l : List S46) : Prop := ∀ (ad : Addr) (r : Nat) (o : S46) (ad3 : Addr) (n3 c3 j : Nat), A = some ad → l[r]? = some o → w.cell? ⟨(ad.add (r * 7)).block, (ad.add (r * 7)).off + 3, none⟩ = some (.slice (some ad3) n3 c3) → j < o.f3.length → Vf w ad3 j
theorem fz_of_R {w : World} {base : Nat} {ok : Nat → Prop} {A : Option Addr} {n c : Nat} {l : List S46} (h : k46.R 46 w base ok (.slice A n c) l) : Fz w A l := by
  intro ad r o ad3 n3 c3 j hA ho hc hj
  have hr := (List.getElem?_eq_some_iff.1 ho).1
  obtain ⟨hn, -, -⟩ := Kd.R_reads' h
  obtain ⟨gb, cap, e, -, -, -⟩ := Kd.R_form h (by omega)
  injection e with e1 e2 e3
  subst e1
  obtain rfl := Option.some.inj hA
  obtain ⟨cs, hcl, hM, hcell, -⟩ := Kd.R_elem h z46 (r : Int) (by omega) (by omega)
  have ex : l.getD (r : Int).toNat z46 = o := by simp [List.getD_eq_getElem?_getD, ho]
  rw [ex] at hM
  obtain ⟨v3, v4, v5, v6, rfl, g3, g4, g5, g6⟩ := k46_openM hM
  have h3 := hcell 3 v3 rfl
  have e7 : k46.sz = 7 := rfl
  have ea : (⟨gb, (r : Int).toNat * k46.sz + 3, none⟩ : Addr) = ⟨((⟨gb, 0, none⟩ : Addr).add (r * 7)).block, ((⟨gb, 0, none⟩ : Addr).add (r * 7)).off + 3, none⟩ := by rw [add0, e7]; rfl
  rw [ea, hc] at h3
  obtain rfl := Option.some.inj h3
  obtain ⟨hn3, -, -⟩ := Kd.R_reads' g3
  obtain ⟨g, cap3, e, -, -, -⟩ := Kd.R_form g3 (by omega)
  injection e with e1 e2 e3
  obtain rfl := Option.some.inj e1
  obtain ⟨cs3, -, -, -, hfz⟩ := Kd.R_elem g3 zV (j : Int) (by omega) (by omega)
  have e3 : k35.sz = 3 := rfl
  refine ⟨?_, ?_, ?_⟩
  · have := hfz 0
    rw [e3] at this
    rw [add0]; exact this
  · have := hfz 1
    rw [e3] at this
    rw [add0]; exact this
  · have := hfz 2
    rw [e3] at this
    rw [add0]; exact this
structure Bw (w X : World) (b : Nat) (n c : Nat) (A : Option Addr) (v k x : S35) : Prop where
  p0 : X.cell? ⟨b, 0, none⟩ = some (.slice A n c)
  v0 : X.cell? ⟨b + 1, 0, none⟩ = some (.int .i64 v.f0)
  v1 : X.cell? ⟨b + 1, 1, none⟩ = some (.string v.f1)
  v2 : X.cell? ⟨b + 1, 2, none⟩ = some (.int .i64 v.f2)
  k0 : X.cell? ⟨b + 1 + 1, 0, none⟩ = some (.int .i64 k.f0)
  k1 : X.cell? ⟨b + 1 + 1, 1, none⟩ = some (.string k.f1)
  k2 : X.cell? ⟨b + 1 + 1, 2, none⟩ = some (.int .i64 k.f2)
  x0 : X.cell? ⟨b + 1 + 1 + 1, 0, none⟩ = some (.int .i64 x.f0)
  x1 : X.cell? ⟨b + 1 + 1 + 1, 1, none⟩ = some (.string x.f1)
  x2 : X.cell? ⟨b + 1 + 1 + 1, 2, none⟩ = some (.int .i64 x.f2)
  bl : Below w.heap.size w X
theorem Bw.below {w X Y : World} {b n c : Nat} {A : Option Addr} {v k x : S35} (h : Bw w X b n c A v k x) (hb : Below X.heap.size X Y) : Bw w Y b n c A v k x :=
  ⟨B.cell_keep hb h.p0, B.cell_keep hb h.v0, B.cell_keep hb h.v1, B.cell_keep hb h.v2, B.cell_keep hb h.k0, B.cell_keep hb h.k1, B.cell_keep hb h.k2, B.cell_keep hb h.x0, B.cell_keep hb h.x1, B.cell_keep hb h.x2, bst h.bl hb⟩
theorem bw_new (w : World) (n c : Nat) (A : Option Addr) (v k x : S35) (W : World) (hW : W = (((w.alloc (.cells #[.slice A n c] 25)).alloc (.cells #[.int .i64 v.f0, .string v.f1, .int .i64 v.f2] 35)).alloc (.cells #[.int .i64 k.f0, .string k.f1, .int .i64 k.f2] 35)).alloc (.cells #[.int .i64 x.f0, .string x.f1, .int .i64 x.f2] 35)) : Bw w W w.heap.size n c A v k x := by
  have e1 := blk_new (w.alloc (.cells #[.slice A n c] 25)) (.cells #[.int .i64 v.f0, .string v.f1, .int .i64 v.f2] 35)
  have e2 := blk_new ((w.alloc (.cells #[.slice A n c] 25)).alloc (.cells #[.int .i64 v.f0, .string v.f1, .int .i64 v.f2] 35)) (.cells #[.int .i64 k.f0, .string k.f1, .int .i64 k.f2] 35)
  have e3 := blk_new (((w.alloc (.cells #[.slice A n c] 25)).alloc (.cells #[.int .i64 v.f0, .string v.f1, .int .i64 v.f2] 35)).alloc (.cells #[.int .i64 k.f0, .string k.f1, .int .i64 k.f2] 35)) (.cells #[.int .i64 x.f0, .string x.f1, .int .i64 x.f2] 35)
  rw [World.size_alloc] at e1 e2 e3
  rw [World.size_alloc] at e2 e3
  rw [World.size_alloc] at e3
  have h0 : W.heap[w.heap.size]? = some (.cells #[.slice A n c] 25 (0, 0)) := by rw [hW]; exact kla (kla (kla (blk_new _ _) _) _) _
  have h1 : W.heap[w.heap.size + 1]? = some (.cells #[.int .i64 v.f0, .string v.f1, .int .i64 v.f2] 35 (0, 0)) := by rw [hW]; exact kla (kla e1 _) _
  have h2 : W.heap[w.heap.size + 1 + 1]? = some (.cells #[.int .i64 k.f0, .string k.f1, .int .i64 k.f2] 35 (0, 0)) := by rw [hW]; exact kla e2 _
  have h3 : W.heap[w.heap.size + 1 + 1 + 1]? = some (.cells #[.int .i64 x.f0, .string x.f1, .int .i64 x.f2] 35 (0, 0)) := by rw [hW]; exact e3
  exact ⟨kcl h0 0, kcl h1 0, kcl h1 1, kcl h1 2, kcl h2 0, kcl h2 1, kcl h2 2, kcl h3 0, kcl h3 1, kcl h3 2, by rw [hW]; exact bla (bla (bla (bla (Below.refl _ _) _) _) _) _⟩
def SIPost (w : World) (e : Ending) (w' : World) : Prop := e = .returned (.int .i64 (-1)) ∧ Below w.heap.size w w'
set_option maxRecDepth 100000 in
set_option maxHeartbeats 4000000 in
theorem setSame_w (A : Option Addr) (n c : Nat) (l : List S46) (v k x : S35) (w : World) (hC : Kd.C k46 w A n l) (hc : n ≤ c) (hn : n ≤ 1000) (hol : ∀ o ∈ l, oL o) (hki : k.f0 = 2 → B.intB k.f1 = true ∧ k.f1.size ≤ 5) (hfz : Fz w A l) (hv : v.f0 = 4) (h : Got l v k x (-1)) :
    Calls Try.prog 75 #[.agg #[.slice A n c], .agg #[.int .i64 v.f0, .string v.f1, .int .i64 v.f2], .agg #[.int .i64 k.f0, .string k.f1, .int .i64 k.f2], .agg #[.int .i64 x.f0, .string x.f1, .int .i64 x.f2]] w (SIPost w) := by
  obtain ⟨W, hW⟩ : ∃ W : World, W = (((w.alloc (.cells #[.slice A n c] 25)).alloc (.cells #[.int .i64 v.f0, .string v.f1, .int .i64 v.f2] 35)).alloc (.cells #[.int .i64 k.f0, .string k.f1, .int .i64 k.f2] 35)).alloc (.cells #[.int .i64 x.f0, .string x.f1, .int .i64 x.f2] 35) := ⟨_, rfl⟩
  have BX := Aside0.mk (bw_new w n c A v k x W hW)
  have HC := Aside0.mk (Kd.C_below hC BX.out.bl)
  have HEL := Aside0.mk (fun (m i c' : Int) (X : World) (hm : 0 ≤ m ∧ m ≤ 1000000) (hp : Plc k.f0 k.f1 m i c') => element_w k.f0 k.f1 k.f2 m X hki hm i c' hp)
  have HOL := Aside0.mk hol
  have HFZ := Aside0.mk (show Fz W A l from by
    intro ad r o ad3 n3 c3 j hA ho hcc hj
    obtain ⟨ad', A3', c3', A4, c4, A5, c5, A6, c6, hA', hrn, hoc⟩ := oc_ex hC ho
    obtain rfl : ad = ad' := Option.some.inj (hA.symm.trans hA')
    have hcw : w.cell? ⟨(ad.add (r * 7)).block, (ad.add (r * 7)).off + 3, none⟩ = some (.slice (some ad3) n3 c3) := by
      rw [← hcc, hoc.g3]; exact (B.cell_keep BX.out.bl hoc.g3).symm
    have hy3 : o.f3[j]? = some o.f3[j] := List.getElem?_eq_getElem hj
    obtain ⟨ad3', hA3, -, hvc⟩ := vc_ex hoc.r3 hy3
    have e3 := hoc.g3.symm.trans hcw
    injection e3 with e3
    injection e3 with e4 e5 e6
    obtain rfl : ad3' = ad3 := Option.some.inj (hA3.symm.trans e4)
    exact Vf.below hvc (hfz ad r o _ n3 c3 j hA ho hcw hj) BX.out.bl)
  have HW := Lib.hid hW
  obtain ⟨p0, v0, v1, v2, k0, k1, k2, x0, x1, x2, -⟩ := BX.out
  have HL := Aside0.mk hC.1
  have HCC := Aside0.mk hc
  clear hW hC hc hol hki hfz
  cases h with
  | te i c1 h1 h2 h3 => exact absurd rfl h3
  | ti j h1 h2 h3 => omega
  | le r o i c1 h1 h2 h3 h4 h5 h6 => exact absurd rfl h6
  | li r o j _ h1 h2 h3 h4 h5 hy =>
    have hv3 : (v.f0 == 3) = false := by simp [h1]
    obtain ⟨ad, A3, c3, A4, c4, A5, c5, A6, c6, rfl, hrn, hoc⟩ := oc_ex HC.out h3
    have HO3 := Aside0.mk (HOL.out o (List.mem_of_getElem? h3)).1
    have HO4 := Aside0.mk (HOL.out o (List.mem_of_getElem? h3)).2.1
    have HK := Aside0.mk (show KkP l v o.f0 from .inr ⟨r, o, h1, h2, h3, rfl⟩)
    obtain ⟨ad3, rfl, hjn, hvc⟩ := vc_ex hoc.r3 hy
    have VX := Aside0.mk hvc
    have FX := Aside0.mk (HFZ.out ad r o ad3 _ c3 j rfl h3 hoc.g3 hjn)
    have OX := Aside0.mk hoc
    obtain rfl : r = v.f2.toNat := by omega
    have h2a : 0 ≤ v.f2 := by omega
    have h2b : v.f2 < (n : Int) := by omega
    obtain ⟨g0, g1, g2, g3, g4, g5, g6, -, -⟩ := OX.out
    obtain ⟨a0, a1, a2⟩ := VX.out
    obtain ⟨b0, b1, b2⟩ := FX.out
    clear hoc h2 hrn hvc hy
    clear hv
    have ho1 : (o.f0 == 1) = true := by simp [h4]
    have HP := Aside0.mk h5
    have ho3 := HO3.out
    clear h1 h3 h4 h5
    go_enter Try.func75, Try.ntmps75
    go_upto_region 1 with (fail)
    rw [← HW.out]
    go_upto_region 3 with (first | (go_at_call 117; refine (kindOf_w _ _ _ _ _ _ _ HC.out HCC.out HK.out).mono ?_; rintro e w1 ⟨rfl, hB⟩; replace BX := Aside0.mk (BX.out.below hB); clear p0 v0 v1 v2 k0 k1 k2 x0 x1 x2; obtain ⟨p0, v0, v1, v2, k0, k1, k2, x0, x1, x2, -⟩ := BX.out; replace HC := Aside0.mk (Kd.C_below HC.out hB); replace OX := Aside0.mk (OX.out.below hB); clear g0 g1 g2 g3 g4 g5 g6; obtain ⟨g0, g1, g2, g3, g4, g5, g6, -, -⟩ := OX.out; replace FX := Aside0.mk (Vf.below VX.out FX.out hB); replace VX := Aside0.mk (VX.out.below hB); clear a0 a1 a2 b0 b1 b2; obtain ⟨a0, a1, a2⟩ := VX.out; obtain ⟨b0, b1, b2⟩ := FX.out; clear hB))
    go_wp2_with fail
    have hq0 : Below w1.heap.size w1 w1.drew := below_drew (Below.refl _ _)
    refine start_ (n := 15) (S := fun w' => w'.cell? ⟨w.heap.size + 1 + 1, 0, none⟩ = some (.int .i64 k.f0) ∧ w'.cell? ⟨w.heap.size + 1 + 1, 1, none⟩ = some (.string k.f1) ∧ w'.cell? ⟨w.heap.size + 1 + 1, 2, none⟩ = some (.int .i64 k.f2) ∧ w'.cell? ⟨w.heap.size, 0, none⟩ = some (.slice (some ad) n c) ∧ w'.cell? ⟨w.heap.size + 1, 2, none⟩ = some (.int .i64 v.f2) ∧ w'.cell? ⟨(ad.add (v.f2.toNat * 7)).block, (ad.add (v.f2.toNat * 7)).off + 3, none⟩ = some (.slice (some ad3) o.f3.length c3)) (ds := []) #[false, false, false, false, false, false, false, false, false, false, false, false, false, false, false] (by kernel_rfl) rfl rfl ⟨B.cell_keep hq0 k0, B.cell_keep hq0 k1, B.cell_keep hq0 k2, B.cell_keep hq0 p0, B.cell_keep hq0 v2, B.cell_keep hq0 g3⟩ (fun hHeld => ?_)
    generalize w1.drew = w10 at hq0 hHeld ⊢
    refine pure_ (i := 1) (N := some 20) (v := ?_) (a' := ?_) #[false, true, false, false, false, false, false, false, false, false, false, false, false, false, false] rfl rfl (by kernel_rfl) (fun _ _ _ h => h) (Or.inl ⟨by rfl, ?_⟩) ?_ ?_
    rotate_left
    · intro w'
      go_simp
      with_reducible rfl
    rotate_left
    · simp only [Act.put, List.setIfInBounds_toArray, List.set_cons_zero, List.set_cons_succ, i64_w, i32_w]
      rfl
    refine pure_ (i := 3) (N := some 22) (v := ?_) (a' := ?_) #[false, true, false, true, false, false, false, false, false, false, false, false, false, false, false] rfl rfl (by kernel_rfl) (fun _ _ _ h => h) (Or.inl ⟨by rfl, ?_⟩) ?_ ?_
    rotate_left
    · intro w'
      go_simp
      with_reducible rfl
    rotate_left
    · simp only [Act.put, List.setIfInBounds_toArray, List.set_cons_zero, List.set_cons_succ, i64_w, i32_w]
      rfl
    refine take_ (i := 0) (N := some 19) (v := ?_) (a' := ?_) #[true, true, false, true, false, false, false, false, false, false, false, false, false, false, false] rfl rfl (by kernel_rfl) (fun _ _ _ h => h) (Or.inl ⟨by rfl, ?_⟩) hHeld ?_ ?_
    rotate_left
    · rintro w' ⟨s0, s1, s2, s3, s4, s5⟩
      go_simp
      with_reducible rfl
    rotate_left
    · simp only [Act.put, List.setIfInBounds_toArray, List.set_cons_zero, List.set_cons_succ, i64_w, i32_w]
      rfl
    refine take_ (i := 2) (N := some 21) (v := ?_) (a' := ?_) #[true, true, true, true, false, false, false, false, false, false, false, false, false, false, false] rfl rfl (by kernel_rfl) (fun _ _ _ h => h) (Or.inl ⟨by rfl, ?_⟩) hHeld ?_ ?_
    rotate_left
    · rintro w' ⟨s0, s1, s2, s3, s4, s5⟩
      go_simp
      with_reducible rfl
    rotate_left
    · simp only [Act.put, List.setIfInBounds_toArray, List.set_cons_zero, List.set_cons_succ, i64_w, i32_w]
      rfl
    refine take_ (i := 4) (N := some 23) (v := ?_) (a' := ?_) #[true, true, true, true, true, false, false, false, false, false, false, false, false, false, false] rfl rfl (by kernel_rfl) (fun _ _ _ h => h) (Or.inl ⟨by rfl, ?_⟩) hHeld ?_ ?_
    rotate_left
    · rintro w' ⟨s0, s1, s2, s3, s4, s5⟩
      go_simp
      with_reducible rfl
    rotate_left
    · simp only [Act.put, List.setIfInBounds_toArray, List.set_cons_zero, List.set_cons_succ, i64_w, i32_w]
      rfl
    refine pure_ (i := 5) (N := some 24) (v := ?_) (a' := ?_) #[true, true, true, true, true, true, false, false, false, false, false, false, false, false, false] rfl rfl (by kernel_rfl) (fun _ _ _ h => h) (Or.inl ⟨by rfl, ?_⟩) ?_ ?_
    rotate_left
    · intro w'
      go_simp
      with_reducible rfl
    rotate_left
    · simp only [Act.put, List.setIfInBounds_toArray, List.set_cons_zero, List.set_cons_succ, i64_w, i32_w]
      rfl
    refine pure_ (i := 6) (N := some 25) (v := ?_) (a' := ?_) #[true, true, true, true, true, true, true, false, false, false, false, false, false, false, false] rfl rfl (by kernel_rfl) (fun _ _ _ h => h) (Or.inl ⟨by rfl, ?_⟩) ?_ ?_
    rotate_left
    · intro w'
      go_simp
      with_reducible rfl
    rotate_left
    · simp only [Act.put, List.setIfInBounds_toArray, List.set_cons_zero, List.set_cons_succ, i64_w, i32_w]
      rfl
    refine take_ (i := 7) (N := some 26) (v := ?_) (a' := ?_) #[true, true, true, true, true, true, true, true, false, false, false, false, false, false, false] rfl rfl (by kernel_rfl) (fun _ _ _ h => h) (Or.inl ⟨by rfl, ?_⟩) hHeld ?_ ?_
    rotate_left
    · rintro w' ⟨s0, s1, s2, s3, s4, s5⟩
      go_simp
      with_reducible rfl
    rotate_left
    · simp only [Act.put, List.setIfInBounds_toArray, List.set_cons_zero, List.set_cons_succ, i64_w, i32_w]
      rfl
    refine pure_ (i := 8) (N := some 27) (v := ?_) (a' := ?_) #[true, true, true, true, true, true, true, true, true, false, false, false, false, false, false] rfl rfl (by kernel_rfl) (fun _ _ _ h => h) (Or.inl ⟨by rfl, ?_⟩) ?_ ?_
    rotate_left
    · intro w'
      go_simp
      with_reducible rfl
    rotate_left
    · simp only [Act.put, List.setIfInBounds_toArray, List.set_cons_zero, List.set_cons_succ, i64_w, i32_w]
      rfl
    refine one_ (i := 9) (N := some 28) #[true, true, true, true, true, true, true, true, true, true, false, false, false, false, false] rfl rfl (by kernel_rfl) (by decide) (fun K hK => ?_)
    refine goes_ Try.func115 (by kernel_rfl) rfl #[.agg #[.int .i64 k.f0, .string k.f1, .int .i64 k.f2], .int .i64 (o.f3.length : Int)] (by rfl) rfl rfl (by simp only [List.map_toArray, List.map_cons, List.map_nil]; rfl) ?_
    with_reducible refine (HEL.out _ _ _ _ (by omega) HP.out).mono ?_
    rintro e y ⟨rfl, hb⟩
    refine ⟨_, rfl, ?_⟩
    have hq1 := bth hq0 hq0.size hb
    refine hK.out _ _ ⟨B.cell_keep hq1 k0, B.cell_keep hq1 k1, B.cell_keep hq1 k2, B.cell_keep hq1 p0, B.cell_keep hq1 v2, B.cell_keep hq1 g3⟩ (fun hHeld => ?_)
    clear hK K
    refine norm_ (a' := ?_) ?_ ?_
    rotate_left
    · show Act.put _ (some 28) _ = _
      simp only [Act.put, List.setIfInBounds_toArray, List.set_cons_zero, List.set_cons_succ, i64_w, i32_w]
      rfl
    refine pure_ (i := 10) (N := some 18) (v := ?_) (a' := ?_) #[true, true, true, true, true, true, true, true, true, true, true, false, false, false, false] rfl rfl (by kernel_rfl) (fun _ _ _ h => h) (Or.inl ⟨by rfl, ?_⟩) ?_ ?_
    rotate_left
    · intro w'
      go_simp
      with_reducible rfl
    rotate_left
    · simp only [Act.put, List.setIfInBounds_toArray, List.set_cons_zero, List.set_cons_succ, i64_w, i32_w]
      rfl
    refine pure_ (i := 11) (N := some 29) (v := ?_) (a' := ?_) #[true, true, true, true, true, true, true, true, true, true, true, true, false, false, false] rfl rfl (by kernel_rfl) (fun _ _ _ h => h) (Or.inl ⟨by rfl, ?_⟩) ?_ ?_
    rotate_left
    · intro w'
      go_simp
      with_reducible rfl
    rotate_left
    · simp only [Act.put, List.setIfInBounds_toArray, List.set_cons_zero, List.set_cons_succ, i64_w, i32_w]
      rfl
    refine pure_ (i := 12) (N := some 30) (v := ?_) (a' := ?_) #[true, true, true, true, true, true, true, true, true, true, true, true, true, false, false] rfl rfl (by kernel_rfl) (fun _ _ _ h => h) (Or.inl ⟨by rfl, ?_⟩) ?_ ?_
    rotate_left
    · intro w'
      go_simp
      with_reducible rfl
    rotate_left
    · simp only [Act.put, List.setIfInBounds_toArray, List.set_cons_zero, List.set_cons_succ, i64_w, i32_w]
      rfl
    refine pure_ (i := 13) (N := some 9) (v := ?_) (a' := ?_) #[true, true, true, true, true, true, true, true, true, true, true, true, true, true, false] rfl rfl (by kernel_rfl) (fun _ _ _ h => h) (Or.inl ⟨by rfl, ?_⟩) ?_ ?_
    rotate_left
    · intro w'
      go_simp
      with_reducible rfl
    rotate_left
    · simp only [Act.put, List.setIfInBounds_toArray, List.set_cons_zero, List.set_cons_succ, i64_w, i32_w]
      rfl
    refine pure_ (i := 14) (N := some 10) (v := ?_) (a' := ?_) #[true, true, true, true, true, true, true, true, true, true, true, true, true, true, true] rfl rfl (by kernel_rfl) (fun _ _ _ h => h) (Or.inl ⟨by rfl, ?_⟩) ?_ ?_
    rotate_left
    · intro w'
      go_simp
      with_reducible rfl
    rotate_left
    · simp only [Act.put, List.setIfInBounds_toArray, List.set_cons_zero, List.set_cons_succ, i64_w, i32_w]
      rfl
    refine done_ (by kernel_rfl) ?_
    have hB : Below w1.heap.size w1 y := hq1
    clear hq1 hq0 hHeld
    replace BX := Aside0.mk (BX.out.below hB)
    clear p0 v0 v1 v2 k0 k1 k2 x0 x1 x2
    obtain ⟨p0, v0, v1, v2, k0, k1, k2, x0, x1, x2, -⟩ := BX.out
    replace HC := Aside0.mk (Kd.C_below HC.out hB)
    replace OX := Aside0.mk (OX.out.below hB)
    clear g0 g1 g2 g3 g4 g5 g6
    obtain ⟨g0, g1, g2, g3, g4, g5, g6, -, -⟩ := OX.out
    replace FX := Aside0.mk (Vf.below VX.out FX.out hB)
    replace VX := Aside0.mk (VX.out.below hB)
    clear a0 a1 a2 b0 b1 b2
    obtain ⟨a0, a1, a2⟩ := VX.out
    obtain ⟨b0, b1, b2⟩ := FX.out
    clear hB
    go_upto_region 5 with (fail)
    have hs0 := setCell_same a0
    have hs1 := setCell_same a1
    have hs2 := setCell_same a2
    go_region
    go_wp2_with fail
    go_ret
    exact ⟨rfl, below_drew BX.out.bl⟩
  | df r o j _ h1 h2 h3 h4 h5 h6 hy =>
    have hv3 : (v.f0 == 3) = false := by simp [h1]
    obtain ⟨ad, A3, c3, A4, c4, A5, c5, A6, c6, rfl, hrn, hoc⟩ := oc_ex HC.out h3
    have HO3 := Aside0.mk (HOL.out o (List.mem_of_getElem? h3)).1
    have HO4 := Aside0.mk (HOL.out o (List.mem_of_getElem? h3)).2.1
    have HK := Aside0.mk (show KkP l v o.f0 from .inr ⟨r, o, h1, h2, h3, rfl⟩)
    obtain ⟨ad3, rfl, hjn, hvc⟩ := vc_ex hoc.r3 hy
    have VX := Aside0.mk hvc
    have FX := Aside0.mk (HFZ.out ad r o ad3 _ c3 j rfl h3 hoc.g3 hjn)
    have OX := Aside0.mk hoc
    obtain rfl : r = v.f2.toNat := by omega
    have h2a : 0 ≤ v.f2 := by omega
    have h2b : v.f2 < (n : Int) := by omega
    obtain ⟨g0, g1, g2, g3, g4, g5, g6, -, -⟩ := OX.out
    obtain ⟨a0, a1, a2⟩ := VX.out
    obtain ⟨b0, b1, b2⟩ := FX.out
    clear hoc h2 hrn hvc hy
    clear hv
    have ho1 : (o.f0 == 1) = false := by simp [h4]
    have ho2 : (o.f0 == 2) = true := by simp [h4]
    have hk4 : (k.f0 == 4) = false := by simpa using h5
    have HIX := Aside0.mk h6
    have hj0 : decide ((0 : Int) ≤ (j : Int)) = true := decide_eq_true (by omega)
    clear h1 h3 h4 h5 h6
    go_enter Try.func75, Try.ntmps75
    go_upto_region 1 with (fail)
    rw [← HW.out]
    go_upto_region 11 with (first | (go_at_call 117; refine (kindOf_w _ _ _ _ _ _ _ HC.out HCC.out HK.out).mono ?_; rintro e w1 ⟨rfl, hB⟩; replace BX := Aside0.mk (BX.out.below hB); clear p0 v0 v1 v2 k0 k1 k2 x0 x1 x2; obtain ⟨p0, v0, v1, v2, k0, k1, k2, x0, x1, x2, -⟩ := BX.out; replace HC := Aside0.mk (Kd.C_below HC.out hB); replace OX := Aside0.mk (OX.out.below hB); clear g0 g1 g2 g3 g4 g5 g6; obtain ⟨g0, g1, g2, g3, g4, g5, g6, -, -⟩ := OX.out; replace FX := Aside0.mk (Vf.below VX.out FX.out hB); replace VX := Aside0.mk (VX.out.below hB); clear a0 a1 a2 b0 b1 b2; obtain ⟨a0, a1, a2⟩ := VX.out; obtain ⟨b0, b1, b2⟩ := FX.out; clear hB))
    go_wp2_with fail
    have hq0 : Below w1.heap.size w1 w1.drew := below_drew (Below.refl _ _)
    refine start_ (n := 7) (S := fun w' => w'.cell? ⟨w.heap.size + 1 + 1, 0, none⟩ = some (.int .i64 k.f0) ∧ w'.cell? ⟨w.heap.size + 1 + 1, 1, none⟩ = some (.string k.f1) ∧ w'.cell? ⟨w.heap.size + 1 + 1, 2, none⟩ = some (.int .i64 k.f2) ∧ w'.cell? ⟨(ad.add (v.f2.toNat * 7)).block, (ad.add (v.f2.toNat * 7)).off + 4, none⟩ = some (.slice A4 o.f4.length c4)) (ds := []) #[false, false, false, false, false, false, false] (by kernel_rfl) rfl rfl ⟨B.cell_keep hq0 k0, B.cell_keep hq0 k1, B.cell_keep hq0 k2, B.cell_keep hq0 g4⟩ (fun hHeld => ?_)
    generalize w1.drew = w10 at hq0 hHeld ⊢
    refine pure_ (i := 0) (N := some 54) (v := ?_) (a' := ?_) #[true, false, false, false, false, false, false] rfl rfl (by kernel_rfl) (fun _ _ _ h => h) (Or.inl ⟨by rfl, ?_⟩) ?_ ?_
    rotate_left
    · intro w'
      go_simp
      with_reducible rfl
    rotate_left
    · simp only [Act.put, List.setIfInBounds_toArray, List.set_cons_zero, List.set_cons_succ, i64_w, i32_w]
      rfl
    refine pure_ (i := 1) (N := some 55) (v := ?_) (a' := ?_) #[true, true, false, false, false, false, false] rfl rfl (by kernel_rfl) (fun _ _ _ h => h) (Or.inl ⟨by rfl, ?_⟩) ?_ ?_
    rotate_left
    · intro w'
      go_simp
      with_reducible rfl
    rotate_left
    · simp only [Act.put, List.setIfInBounds_toArray, List.set_cons_zero, List.set_cons_succ, i64_w, i32_w]
      rfl
    refine pure_ (i := 2) (N := some 56) (v := ?_) (a' := ?_) #[true, true, true, false, false, false, false] rfl rfl (by kernel_rfl) (fun _ _ _ h => h) (Or.inl ⟨by rfl, ?_⟩) ?_ ?_
    rotate_left
    · intro w'
      go_simp
      with_reducible rfl
    rotate_left
    · simp only [Act.put, List.setIfInBounds_toArray, List.set_cons_zero, List.set_cons_succ, i64_w, i32_w]
      rfl
    refine take_ (i := 3) (N := some 57) (v := ?_) (a' := ?_) #[true, true, true, true, false, false, false] rfl rfl (by kernel_rfl) (fun _ _ _ h => h) (Or.inl ⟨by rfl, ?_⟩) hHeld ?_ ?_
    rotate_left
    · rintro w' ⟨s0, s1, s2, s3⟩
      go_simp
      with_reducible rfl
    rotate_left
    · simp only [Act.put, List.setIfInBounds_toArray, List.set_cons_zero, List.set_cons_succ, i64_w, i32_w]
      rfl
    refine take_ (i := 4) (N := some 58) (v := ?_) (a' := ?_) #[true, true, true, true, true, false, false] rfl rfl (by kernel_rfl) (fun _ _ _ h => h) (Or.inl ⟨by rfl, ?_⟩) hHeld ?_ ?_
    rotate_left
    · rintro w' ⟨s0, s1, s2, s3⟩
      go_simp
      with_reducible rfl
    rotate_left
    · simp only [Act.put, List.setIfInBounds_toArray, List.set_cons_zero, List.set_cons_succ, i64_w, i32_w]
      rfl
    refine one_ (i := 5) (N := some 59) #[true, true, true, true, true, true, false] rfl rfl (by kernel_rfl) (by decide) (fun K hK => ?_)
    refine goes_ Try.func118 (by kernel_rfl) rfl #[.slice A4 o.f4.length c4, .agg #[.int .i64 k.f0, .string k.f1, .int .i64 k.f2]] (by rfl) rfl rfl (by simp only [List.map_toArray, List.map_cons, List.map_nil]; rfl) ?_
    with_reducible refine (index_w _ _ _ _ _ _ _ (Kd.C_below OX.out.r4 hq0) (by have := HO4.out; omega) HIX.out).mono ?_
    rintro e y ⟨rfl, hb⟩
    refine ⟨_, rfl, ?_⟩
    have hq1 := bth hq0 hq0.size hb
    refine hK.out _ _ ⟨B.cell_keep hq1 k0, B.cell_keep hq1 k1, B.cell_keep hq1 k2, B.cell_keep hq1 g4⟩ (fun hHeld => ?_)
    clear hK K
    refine norm_ (a' := ?_) ?_ ?_
    rotate_left
    · show Act.put _ (some 59) _ = _
      simp only [Act.put, List.setIfInBounds_toArray, List.set_cons_zero, List.set_cons_succ, i64_w, i32_w]
      rfl
    refine pure_ (i := 6) (N := some 12) (v := ?_) (a' := ?_) #[true, true, true, true, true, true, true] rfl rfl (by kernel_rfl) (fun _ _ _ h => h) (Or.inl ⟨by rfl, ?_⟩) ?_ ?_
    rotate_left
    · intro w'
      go_simp
      with_reducible rfl
    rotate_left
    · simp only [Act.put, List.setIfInBounds_toArray, List.set_cons_zero, List.set_cons_succ, i64_w, i32_w]
      rfl
    refine done_ (by kernel_rfl) ?_
    have hB : Below w1.heap.size w1 y := hq1
    clear hq1 hq0 hHeld
    replace BX := Aside0.mk (BX.out.below hB)
    clear p0 v0 v1 v2 k0 k1 k2 x0 x1 x2
    obtain ⟨p0, v0, v1, v2, k0, k1, k2, x0, x1, x2, -⟩ := BX.out
    replace HC := Aside0.mk (Kd.C_below HC.out hB)
    replace OX := Aside0.mk (OX.out.below hB)
    clear g0 g1 g2 g3 g4 g5 g6
    obtain ⟨g0, g1, g2, g3, g4, g5, g6, -, -⟩ := OX.out
    replace FX := Aside0.mk (Vf.below VX.out FX.out hB)
    replace VX := Aside0.mk (VX.out.below hB)
    clear a0 a1 a2 b0 b1 b2
    obtain ⟨a0, a1, a2⟩ := VX.out
    obtain ⟨b0, b1, b2⟩ := FX.out
    clear hB
    go_upto_region 13 with (fail)
    have hs0 := setCell_same a0
    have hs1 := setCell_same a1
    have hs2 := setCell_same a2
    go_region
    go_wp2_with fail
    go_ret
    exact ⟨rfl, below_drew BX.out.bl⟩
end Go.Proofs.Ytgddblpgbkgpcaa.PR
namespace Go.Proofs.Ytgddblpgbkgpcaa.PR
set_option linter.unusedVariables false
set_option linter.unusedSimpArgs false
open Go.RowKit Go.Proofs.YtgddblpgbkgpcaaW.PrintWords Go.Proofs.YtgddblpgbkgpcaaW.PrintLast Go.Proofs.YtgddblpgbkgpcaaW.PrintMore
structure Hp (w0 w wi : World) (g b4 : Nat) (b : Int) (v : Value) (l : List S46) : Prop where
  rn : Rn w0 wi g b
  bl : Below w0.heap.size w0 wi
  kp : KeepBut w wi g none
  c2 : wi.heap[w.heap.size]? = some (.cells #[.slice none 0 0] 25 (0, 0))
  c3 : wi.heap[w.heap.size + 1]? = some (.cells #[.int .i64 0, .string ⟨#[]⟩, .int .i64 0] 35 (0, 0))
  c4 : wi.heap[b4]? = some (.cells #[v] 25 (0, 0))
  gw : g < w.heap.size
  h4 : w.heap.size + 2 ≤ b4
  hl : k46n.R 46 wi (w.heap.size + 2) (fun k => k ≠ b4) v l
section
variable {w0 w wi w1 : World} {g b4 : Nat} {b b' : Int} {v : Value} {l : List S46}
theorem Hp.mono (h : Hp w0 w wi g b4 b v l) (hb : b ≤ b') : Hp w0 w wi g b4 b' v l := ⟨h.rn.mono hb, h.bl, h.kp, h.c2, h.c3, h.c4, h.gw, h.h4, h.hl⟩
theorem Hp.call (h : Hp w0 w wi g b4 b v l) (hR : Rn w0 w1 g b') (hB : Below w0.heap.size w0 w1) (hK : KeepBut wi w1 g none) : Hp w0 w w1 g b4 b' v l := by
  have := h.gw
  have := h.h4
  refine ⟨hR, hB, h.kp.trans hK (.inl rfl), hK.blk h.c2 (by omega) (by simp), hK.blk h.c3 (by omega) (by simp), hK.blk h.c4 (by omega) (by simp), h.gw, h.h4, R_up h.hl (fun k h1 h2 => hK.2 k h2 (by omega) (by simp))⟩
theorem Hp.below (h : Hp w0 w wi g b4 b v l) (hb : Below wi.heap.size wi w1) : Hp w0 w w1 g b4 b v l :=
  h.call (h.rn.below hb) (bth h.bl h.bl.size hb) (KeepBut.of_below hb g none)
theorem Hp.drew (h : Hp w0 w wi g b4 b v l) : Hp w0 w wi.drew g b4 b v l := h.below (below_drew (Below.refl _ _))
theorem Hp.alloc (h : Hp w0 w wi g b4 b v l) (o : Obj) : Hp w0 w (wi.alloc o) g b4 b v l := h.below (bla (Below.refl _ _) o)
theorem Hp.cell (h : Hp w0 w wi g b4 b v l) : wi.cell? ⟨b4, 0, none⟩ = some v := (kcl h.c4 0).trans rfl
theorem Hp.lt4 (h : Hp w0 w wi g b4 b v l) : b4 < wi.heap.size := blk_lt h.c4
theorem Hp.w0w (h : Hp w0 w wi g b4 b v l) : w0.heap.size ≤ g := h.rn.ge
theorem Hp.put (h : Hp w0 w wi g b4 b v l) {v1 : Value} {l1 : List S46} (hl1 : k46n.R 46 w1 (w.heap.size + 2) (fun k => k ≠ b4) v1 l1) (hg : wi.grownBy w1 v.ownBlock) : Hp w0 w (w1.setCell ⟨b4, 0, none⟩ v1) g b4 b v1 l1 := by
  have h1 := h.gw
  have h2 := h.h4
  have h3 := h.w0w
  have hbase := Kd.R_base h.hl
  have hne4 : some b4 ≠ v.ownBlock := fun e => h.hl.1 b4 e.symm rfl
  have ne : ∀ k, k < w.heap.size + 2 → some k ≠ v.ownBlock := fun k hk e => by have := hbase k e.symm; omega
  have hB1 : Below w0.heap.size w0 w1 := pw_below_grown h.bl _ h.bl.size hg (fun k hk => by have := hbase k hk; omega)
  refine ⟨(h.rn.grown hg (ne g (by omega))).far (by simp; omega) _, hB1.setCell (by simp; omega) _, ?_, blk_far (kgr h.c2 hg (ne _ (by omega))) (by simp; omega) _, blk_far (kgr h.c3 hg (ne _ (by omega))) (by simp; omega) _, blk_put (kgr h.c4 hg hne4) 0 v1 rfl, h1, h2, Kd.R_far (p := ⟨b4, 0, none⟩) hl1 (fun k hk => hk) v1⟩
  refine keep_far (KeepBut.trans h.kp (KeepBut.of_grown hg g) ?_) (by simp; omega) _
  cases he : v.ownBlock with
  | none => exact .inl rfl
  | some k => exact .inr ⟨k, rfl, by have := hbase k he; omega⟩
end
theorem one_n (g m : Nat) (A1 : Option Addr) (c1 : Nat) (l : List Int) (hm : m = l.length) (b : Int) (w0 w : World) (hR : Rn w0 w g b) (hB : Below w0.heap.size w0 w) (hb : b ≤ 1000000) (hr : Kd.C (Kd.int .i64) w A1 l.length l) (hc1 : l.length ≤ c1) (hf : ∀ ad, A1 = some ad → 0 < l.length → ad.block ≠ g) (hl : 0 < l.length) (hl' : l.length ≤ 1000) :
    Calls Try.prog 88 #[.pointer (some ⟨g, 0, none⟩), .slice A1 m c1] w fun e w' => ∃ r : Int, e = .returned (.int .i64 r) ∧ r ∈ l ∧ Rn w0 w' g (b + 1) ∧ Below w0.heap.size w0 w' ∧ KeepBut w w' g none := by
  subst hm; exact one_w g A1 c1 l b w0 w hR hB hb hr hc1 hf hl hl'
theorem of_n (g m : Nat) (A1 : Option Addr) (c1 : Nat) (l : List ByteArray) (hm : m = l.length) (b : Int) (w0 w : World) (hR : Rn w0 w g b) (hB : Below w0.heap.size w0 w) (hb : b ≤ 1000000) (hr : Kd.C Kd.string w A1 l.length l) (hc1 : l.length ≤ c1) (hf : ∀ ad, A1 = some ad → 0 < l.length → ad.block ≠ g) (hl : 0 < l.length) (hl' : l.length ≤ 1000) :
    Calls Try.prog 90 #[.pointer (some ⟨g, 0, none⟩), .slice A1 m c1] w fun e w' => ∃ r : ByteArray, e = .returned (.string r) ∧ r ∈ l ∧ Rn w0 w' g (b + 1) ∧ Below w0.heap.size w0 w' ∧ KeepBut w w' g none := by
  subst hm; exact of_w g A1 c1 l b w0 w hR hB hb hr hc1 hf hl hl'
end Go.Proofs.Ytgddblpgbkgpcaa.PR
namespace Go.Proofs.Ytgddblpgbkgpcaa.PR
set_option linter.unusedVariables false
set_option linter.unusedSimpArgs false
open Go.RowKit Go.Proofs.YtgddblpgbkgpcaaW.PrintWords Go.Proofs.YtgddblpgbkgpcaaW.PrintLast Go.Proofs.YtgddblpgbkgpcaaW.PrintMore
structure L2 (m : Nat) (l : List S46) : Prop where
  lo : 19 ≤ l.length
  hi : l.length ≤ 24
  m19 : 19 ≤ m
  ml : m ≤ l.length
  all : ∀ x ∈ l, oB x = true
  rest : ∀ j (h : j < l.length), m ≤ j → un l[j]
theorem L2.next {m : Nat} {l : List S46} (h : L2 m l) (hm : m < l.length) {o : S46} (ho : oB o = true) : L2 (m + 1) (l.set m o) := by
  refine ⟨by simpa using h.lo, by simpa using h.hi, by have := h.m19; omega, by simp; omega, fun x hx => ?_, fun j hj h1 => ?_⟩
  · rcases List.mem_or_eq_of_mem_set hx with hx | rfl
    · exact h.all x hx
    · exact ho
  · rw [List.getElem_set_ne (by omega)]
    exact h.rest j (by simpa using hj) (by omega)
theorem Hp.elem {w0 w wi : World} {g b4 : Nat} {b : Int} {A : Option Addr} {n c : Nat} {l : List S46} (h : Hp w0 w wi g b4 b (.slice A n c) l) (m : Nat) (hm : m < l.length) (hu : un l[m]) :
    ∃ gb q, A = some ⟨gb, 0, none⟩ ∧ n = l.length ∧ n ≤ c ∧ l[m] = ⟨q, ⟨#[]⟩, 0, [], [], [], []⟩ ∧ q ≠ 5 ∧ q ≠ 10 ∧ w.heap.size + 2 ≤ gb ∧ gb < wi.heap.size ∧ gb ≠ b4 ∧
      wi.cell? ⟨gb, m * 7, none⟩ = some (.int .i64 q) ∧ wi.cell? ⟨gb, m * 7 + 1, none⟩ = some (.string ⟨#[]⟩) ∧ wi.cell? ⟨gb, m * 7 + 2, none⟩ = some (.int .i64 0) ∧
      wi.cell? ⟨gb, m * 7 + 3, none⟩ = some (.slice none 0 0) ∧ wi.cell? ⟨gb, m * 7 + 4, none⟩ = some (.slice none 0 0) ∧ wi.cell? ⟨gb, m * 7 + 5, none⟩ = some (.slice none 0 0) ∧ wi.cell? ⟨gb, m * 7 + 6, none⟩ = some (.slice none 0 0) ∧ ∃ cells, wi.heap[gb]? = some (.cells cells 46 (0, 0)) := by
  obtain ⟨hn, hnc, _⟩ := Kd.R_reads' h.hl
  obtain ⟨gb, cap, e, hb, hlt, hcc⟩ := Kd.R_form h.hl (by omega)
  injection e with e1 e2 e3
  subst e1; subst e3
  have hl := h.hl
  obtain ⟨cs, hcl, hM, hc, _⟩ := Kd.R_elem hl z46 (m : Int) (by omega) (by omega)
  have hne : gb ≠ b4 := fun e => hl.1 gb (by simp [Value.ownBlock]) e
  have e7 : k46n.sz = 7 := rfl
  have ex : l.getD (m : Int).toNat z46 = l[m] := by simp [List.getD_eq_getElem?_getD, hm]
  rw [ex] at hM
  obtain ⟨q, q5, q10, hq⟩ := hu
  rw [hq] at hM
  obtain ⟨v3, v4, v5, v6, rfl, _, _, _, _⟩ := k46_openM hM.1
  have hz := (hM.2.resolve_left (by simpa using q5)).resolve_left (by simpa using q10)
  obtain ⟨z3, z4, z5, z6⟩ := hz v3 v4 v5 v6 _ _ _ rfl
  obtain rfl := z3 rfl
  obtain rfl := z4 rfl
  obtain rfl := z5 rfl
  obtain rfl := z6 rfl
  rw [e7] at hc
  exact ⟨gb, q, rfl, hn, hnc, hq, q5, q10, hb, hlt, hne, hc 0 _ rfl, hc 1 _ rfl, hc 2 _ rfl, hc 3 _ rfl, hc 4 _ rfl, hc 5 _ rfl, hc 6 _ rfl, hcc⟩
structure In (w0 wi wr : World) (g : Nat) (b : Int) (q : Int) (j : Nat) (x3 x4 : List S35) (x5 : List ByteArray) (x6 : List S35) (v3 v4 v5 v6 : Value) : Prop where
  rn : Rn w0 wr g b
  bl : Below w0.heap.size w0 wr
  kp : KeepBut wi wr g none
  gi : g < wi.heap.size
  c9 : wr.heap[wi.heap.size]? = some (.cells #[.int .i64 q, .string ⟨#[]⟩, .int .i64 0, v3, v4, v5, v6] 46 (0, 0))
  ob : Ob wr wi.heap.size ⟨q, ⟨#[]⟩, 0, x3, x4, x5, x6⟩ v3 v4 v5 v6
  gd : oG j ⟨q, ⟨#[]⟩, 0, x3, x4, x5, x6⟩
section
variable {w0 wi wr w1 : World} {g : Nat} {b b' : Int} {q : Int} {j : Nat} {x3 x4 x6 : List S35} {x5 : List ByteArray} {v3 v4 v5 v6 : Value}
theorem In.mono (h : In w0 wi wr g b q j x3 x4 x5 x6 v3 v4 v5 v6) (hb : b ≤ b') : In w0 wi wr g b' q j x3 x4 x5 x6 v3 v4 v5 v6 := ⟨h.rn.mono hb, h.bl, h.kp, h.gi, h.c9, h.ob, h.gd⟩
theorem In.call (h : In w0 wi wr g b q j x3 x4 x5 x6 v3 v4 v5 v6) (hR : Rn w0 w1 g b') (hB : Below w0.heap.size w0 w1) (hK : KeepBut wr w1 g none) : In w0 wi w1 g b' q j x3 x4 x5 x6 v3 v4 v5 v6 :=
  ⟨hR, hB, h.kp.trans hK (.inl rfl), h.gi, hK.blk h.c9 (by have := h.gi; omega) (by simp), h.ob.keep hK (by have := h.gi; omega), h.gd⟩
theorem In.below (h : In w0 wi wr g b q j x3 x4 x5 x6 v3 v4 v5 v6) (hb : Below wr.heap.size wr w1) : In w0 wi w1 g b q j x3 x4 x5 x6 v3 v4 v5 v6 :=
  h.call (h.rn.below hb) (bth h.bl h.bl.size hb) (KeepBut.of_below hb g none)
theorem In.alloc (h : In w0 wi wr g b q j x3 x4 x5 x6 v3 v4 v5 v6) (o : Obj) : In w0 wi (wr.alloc o) g b q j x3 x4 x5 x6 v3 v4 v5 v6 := h.below (bla (Below.refl _ _) o)
theorem In.cell (h : In w0 wi wr g b q j x3 x4 x5 x6 v3 v4 v5 v6) (i : Nat) : wr.cell? ⟨wi.heap.size, i, none⟩ = #[Value.int .i64 q, .string ⟨#[]⟩, .int .i64 0, v3, v4, v5, v6][i]? := kcl h.c9 i
theorem In.free (h : In w0 wi wr g b q j x3 x4 x5 x6 v3 v4 v5 v6) (i : Nat) : wr.frozen? ⟨wi.heap.size, i, none⟩ = false := kfz h.c9 i
theorem In.old (h : In w0 wi wr g b q j x3 x4 x5 x6 v3 v4 v5 v6) {a : Addr} {v : Value} (hc : wi.cell? a = some v) (hne : a.block ≠ g) : wr.cell? a = some v := keep_cell h.kp hc hne
theorem In.grown (h : In w0 wi wr g b q j x3 x4 x5 x6 v3 v4 v5 v6) {row : Option Nat} (hg : wr.grownBy w1 row) (hr : ∀ k, row = some k → wi.heap.size + 1 ≤ k) :
    Rn w0 w1 g b ∧ Below w0.heap.size w0 w1 ∧ KeepBut wi w1 g none ∧ w1.heap[wi.heap.size]? = some (.cells #[.int .i64 q, .string ⟨#[]⟩, .int .i64 0, v3, v4, v5, v6] 46 (0, 0)) := by
  have hgi := h.gi
  have h0 := h.rn.ge
  have ne : ∀ k, k ≤ wi.heap.size → some k ≠ row := fun k hk e => by have := hr k e.symm; omega
  refine ⟨h.rn.grown hg (ne g (by omega)), pw_below_grown h.bl _ h.bl.size hg (fun k hk => by have := hr k hk; omega), ?_, kgr h.c9 hg (ne _ (by omega))⟩
  refine KeepBut.trans h.kp (KeepBut.of_grown hg g) ?_
  cases he : row with
  | none => exact .inl rfl
  | some k => exact .inr ⟨k, rfl, by have := hr k he; omega⟩
theorem In.set (hR : Rn w0 w1 g b) (hB : Below w0.heap.size w0 w1) (hK : KeepBut wi w1 g none) (hgi : g < wi.heap.size) (h0 : w0.heap.size ≤ g) (hc : w1.heap[wi.heap.size]? = some (.cells #[.int .i64 q, .string ⟨#[]⟩, .int .i64 0, v3, v4, v5, v6] 46 (0, 0))) (i : Nat) (u : Value) {cs : Array Value} (hcs : (#[Value.int .i64 q, .string ⟨#[]⟩, .int .i64 0, v3, v4, v5, v6]).setIfInBounds i u = cs) :
    Rn w0 (w1.setCell ⟨wi.heap.size, i, none⟩ u) g b ∧ Below w0.heap.size w0 (w1.setCell ⟨wi.heap.size, i, none⟩ u) ∧ KeepBut wi (w1.setCell ⟨wi.heap.size, i, none⟩ u) g none ∧ (w1.setCell ⟨wi.heap.size, i, none⟩ u).heap[wi.heap.size]? = some (.cells cs 46 (0, 0)) :=
  ⟨hR.far (by simp; omega) u, hB.setCell (by simp; omega) u, keep_far hK (by simp) u, blk_put hc i u hcs⟩
theorem In.app3 (h : In w0 wi wr g b q j x3 x4 x5 x6 v3 v4 v5 v6) {v : Value} {x : S35} (hx : VOk x) (hr : k35.R 35 w1 (wi.heap.size + 1) (fun _ => True) v (x3 ++ [x])) (hg : wr.grownBy w1 v3.ownBlock) (hat : v.ownBlock = v3.ownBlock ∨ ∃ b, v.ownBlock = some b ∧ wr.heap.size ≤ b) :
    In w0 wi (w1.setCell ⟨wi.heap.size, 3, none⟩ v) g b q (j + 1) (x3 ++ [x]) x4 x5 x6 v v4 v5 v6 := by
  obtain ⟨a1, a2, a3, a4⟩ := h.grown hg (Kd.R_base h.ob.r3)
  obtain ⟨d1, d2, d3, d4, d5, d6, d7, d8, d9⟩ := h.gd
  obtain ⟨s1, s2, s3, s4⟩ := In.set a1 a2 a3 h.gi h.rn.ge a4 3 v rfl
  refine ⟨s1, s2, s3, h.gi, s4, (h.ob.put3 hr hg hat (nl_app _ _ _)).far (Nat.le_refl _) v, d1, by simp at d2 ⊢; omega, Nat.le_succ_of_le d3, Nat.le_succ_of_le d4, Nat.le_succ_of_le d5, vsz_snoc d6 hx, d7, d8, d9⟩
theorem In.app4 (h : In w0 wi wr g b q j x3 x4 x5 x6 v3 v4 v5 v6) {v : Value} {x : S35} (hx : VOk x) (hr : k35.R 35 w1 (wi.heap.size + 1) (fun _ => True) v (x4 ++ [x])) (hg : wr.grownBy w1 v4.ownBlock) (hat : v.ownBlock = v4.ownBlock ∨ ∃ b, v.ownBlock = some b ∧ wr.heap.size ≤ b) :
    In w0 wi (w1.setCell ⟨wi.heap.size, 4, none⟩ v) g b q (j + 1) x3 (x4 ++ [x]) x5 x6 v3 v v5 v6 := by
  obtain ⟨a1, a2, a3, a4⟩ := h.grown hg (Kd.R_base h.ob.r4)
  obtain ⟨d1, d2, d3, d4, d5, d6, d7, d8, d9⟩ := h.gd
  obtain ⟨s1, s2, s3, s4⟩ := In.set a1 a2 a3 h.gi h.rn.ge a4 4 v rfl
  refine ⟨s1, s2, s3, h.gi, s4, (h.ob.put4 hr hg hat (nl_app _ _ _)).far (Nat.le_refl _) v, d1, Nat.le_succ_of_le d2, by simp at d3 ⊢; omega, Nat.le_succ_of_le d4, Nat.le_succ_of_le d5, d6, vsz_snoc d7 hx, d8, d9⟩
theorem In.app6 (h : In w0 wi wr g b q j x3 x4 x5 x6 v3 v4 v5 v6) {v : Value} {x : S35} (hx : VOk x) (hr : k35.R 35 w1 (wi.heap.size + 1) (fun _ => True) v (x6 ++ [x])) (hg : wr.grownBy w1 v6.ownBlock) (hat : v.ownBlock = v6.ownBlock ∨ ∃ b, v.ownBlock = some b ∧ wr.heap.size ≤ b) :
    In w0 wi (w1.setCell ⟨wi.heap.size, 6, none⟩ v) g b q (j + 1) x3 x4 x5 (x6 ++ [x]) v3 v4 v5 v := by
  obtain ⟨a1, a2, a3, a4⟩ := h.grown hg (Kd.R_base h.ob.r6)
  obtain ⟨d1, d2, d3, d4, d5, d6, d7, d8, d9⟩ := h.gd
  obtain ⟨s1, s2, s3, s4⟩ := In.set a1 a2 a3 h.gi h.rn.ge a4 6 v rfl
  refine ⟨s1, s2, s3, h.gi, s4, (h.ob.put6 hr hg hat (nl_app _ _ _)).far (Nat.le_refl _) v, d1, Nat.le_succ_of_le d2, Nat.le_succ_of_le d3, Nat.le_succ_of_le d4, by simp at d5 ⊢; omega, d6, d7, vsz_snoc d8 hx, d9⟩
theorem In.app5 (h : In w0 wi wr g b q j x3 x4 x5 x6 v3 v4 v5 v6) {v : Value} {s : ByteArray} (hs : s ∈ nm4) (hr : Kd.string.R 9 w1 (wi.heap.size + 1) (fun _ => True) v (x5 ++ [s])) (hg : wr.grownBy w1 v5.ownBlock) :
    In w0 wi (w1.setCell ⟨wi.heap.size, 5, none⟩ v) g b q (j + 1) x3 x4 (x5 ++ [s]) x6 v3 v4 v v6 := by
  obtain ⟨a1, a2, a3, a4⟩ := h.grown hg (Kd.R_base h.ob.r5)
  obtain ⟨d1, d2, d3, d4, d5, d6, d7, d8, d9⟩ := h.gd
  obtain ⟨s1, s2, s3, s4⟩ := In.set a1 a2 a3 h.gi h.rn.ge a4 5 v rfl
  refine ⟨s1, s2, s3, h.gi, s4, (h.ob.put5 hr hg (nl_app _ _ _)).far (Nat.le_refl _) v, d1, Nat.le_succ_of_le d2, Nat.le_succ_of_le d3, by simp at d4 ⊢; omega, Nat.le_succ_of_le d5, d6, d7, d8, fun y hy => ?_⟩
  rcases List.mem_append.1 hy with hy | hy
  · exact d9 y hy
  · rw [List.mem_singleton.1 hy]; exact hs
theorem In.lit3 (h : In w0 wi wr g b q j x3 x4 x5 x6 v3 v4 v5 v6) (xs : List S35) (hl : xs.length ≤ 2) (h1 : 0 < xs.length) (hx : vsz xs) {cs : Array Value} (hcs : cs = (xs.flatMap fun x => [Value.int .i64 x.f0, .string x.f1, .int .i64 x.f2]).toArray) :
    In w0 wi ((wr.alloc (.cells cs 35)).setCell ⟨wi.heap.size, 3, none⟩ (.slice (some ⟨wr.heap.size, 0, none⟩) xs.length xs.length)) g b q (j + 1) xs x4 x5 x6 (.slice (some ⟨wr.heap.size, 0, none⟩) xs.length xs.length) v4 v5 v6 := by
  subst hcs
  have hlt := blk_lt h.c9
  have hr := R_fresh wr (wi.heap.size + 1) (by omega) xs (by omega)
  obtain ⟨a1, a2, a3, a4⟩ := h.grown (World.grownBy_alloc wr (.cells (xs.flatMap fun x => [Value.int .i64 x.f0, .string x.f1, .int .i64 x.f2]).toArray 35) v3.ownBlock) (Kd.R_base h.ob.r3)
  obtain ⟨d1, d2, d3, d4, d5, d6, d7, d8, d9⟩ := h.gd
  obtain ⟨s1, s2, s3, s4⟩ := In.set a1 a2 a3 h.gi h.rn.ge a4 3 (.slice (some ⟨wr.heap.size, 0, none⟩) xs.length xs.length) rfl
  refine ⟨s1, s2, s3, h.gi, s4, (h.ob.put3 hr (World.grownBy_alloc wr _ v3.ownBlock) (.inr ⟨wr.heap.size, by simp [Value.ownBlock], Nat.le_refl _⟩) (fun e => by rw [e] at h1; simp at h1)).far (Nat.le_refl _) _, d1, by simp; omega, Nat.le_succ_of_le d3, Nat.le_succ_of_le d4, Nat.le_succ_of_le d5, hx, d7, d8, d9⟩
theorem oG_mono {m m' : Nat} {o : S46} (h : oG m o) (hm : m ≤ m') : oG m' o := by
  obtain ⟨d1, d2, d3, d4, d5, d6, d7, d8, d9⟩ := h
  exact ⟨d1, by omega, by omega, by omega, by omega, d6, d7, d8, d9⟩
theorem In.more (h : In w0 wi wr g b q j x3 x4 x5 x6 v3 v4 v5 v6) {j' : Nat} (hj : j ≤ j') : In w0 wi wr g b q j' x3 x4 x5 x6 v3 v4 v5 v6 := ⟨h.rn, h.bl, h.kp, h.gi, h.c9, h.ob, oG_mono h.gd hj⟩
theorem Hp.round {w : World} {b4 gb n c m : Nat} {l : List S46} {p : Int} (h : Hp w0 w wi g b4 b (.slice (some ⟨gb, 0, none⟩) n c) l) (hm : m < l.length) (hgb : w.heap.size + 2 ≤ gb) (hgb1 : gb < wi.heap.size) (hgb4 : gb ≠ b4)
    (rn : Rn w0 wr g b') (bl : Below w0.heap.size w0 wr) (kp : KeepBut wi wr g none) (ob : Ob wr wi.heap.size ⟨q, ⟨#[]⟩, p, x3, x4, x5, x6⟩ v3 v4 v5 v6) :
    Hp w0 w (wr.setCells gb (m * 7) [.int .i64 q, .string ⟨#[]⟩, .int .i64 p, v3, v4, v5, v6]) g b4 b' (.slice (some ⟨gb, 0, none⟩) n c) (l.set m ⟨q, ⟨#[]⟩, p, x3, x4, x5, x6⟩) := by
  have hp := h.call rn bl kp
  have h1 := hp.gw
  have h2 := hp.h4
  have h3 := hp.w0w
  have h4 := h.lt4
  obtain ⟨hn, hnc, _⟩ := Kd.R_reads' hp.hl
  obtain ⟨cs, hcl, hM, hc, _⟩ := Kd.R_elem hp.hl z46 (m : Int) (by omega) (by omega)
  have e7 : k46n.sz = 7 := rfl
  rw [e7] at hcl hc
  obtain ⟨hr, hg⟩ := Kd.R_seg (j := 0) (seg := [.int .i64 q, .string ⟨#[]⟩, .int .i64 p, v3, v4, v5, v6]) (x' := ⟨q, ⟨#[]⟩, p, x3, x4, x5, x6⟩) (okp := fun k => wi.heap.size + 1 ≤ k) hp.hl (m : Int) (by omega) (by omega) hcl hc (by simp [e7]) (by
      have := ob.whole (base := w.heap.size + 2) (by omega)
      simpa [List.drop_eq_nil_of_le (show cs.length ≤ 7 by omega)] using this) (fun k hk => ⟨by omega, by omega⟩)
  rw [e7, show (m : Int).toNat = m from rfl, Nat.add_zero] at hr hg
  have hne : ∀ k, k ≠ gb → some k ≠ some gb := fun k hk e => hk (by injection e)
  refine ⟨hp.rn.grown hg (hne g (by omega)), pw_below_grown hp.bl _ hp.bl.size hg (fun k hk => by injection hk with hk; omega), KeepBut.trans hp.kp (KeepBut.of_grown hg g) (.inr ⟨gb, rfl, by omega⟩), kgr hp.c2 hg (hne _ (by omega)), kgr hp.c3 hg (hne _ (by omega)), kgr hp.c4 hg (hne _ (Ne.symm hgb4)), h1, h2, hr⟩
end
end Go.Proofs.Ytgddblpgbkgpcaa.PR
namespace Go.Proofs.Ytgddblpgbkgpcaa.PR
set_option linter.unusedVariables false
set_option linter.unusedSimpArgs false
open Go.RowKit Go.Proofs.YtgddblpgbkgpcaaW.PrintWords Go.Proofs.YtgddblpgbkgpcaaW.PrintLast Go.Proofs.YtgddblpgbkgpcaaW.PrintMore
structure Ht (w0 w wi : World) (g b4 : Nat) (b : Int) (v : Value) (l : List S46) : Prop where
  rn : Rn w0 wi g b
  bl : Below w0.heap.size w0 wi
  kp : KeepBut w wi g none
  c2 : wi.heap[w.heap.size]? = some (.cells #[.slice none 0 0] 25 (0, 0))
  c3 : wi.heap[w.heap.size + 1]? = some (.cells #[.int .i64 0, .string ⟨#[]⟩, .int .i64 0] 35 (0, 0))
  c4 : wi.heap[b4]? = some (.cells #[v] 25 (0, 0))
  gw : g < w.heap.size
  h4 : w.heap.size + 2 ≤ b4
  hl : k46.R 46 wi (w.heap.size + 2) (fun k => k ≠ b4) v l
  lo : 19 ≤ l.length
  hi : l.length ≤ 24
  all : ∀ x ∈ l, oB x = true
theorem Hp.tail {w0 w wi : World} {g b4 m : Nat} {b : Int} {v : Value} {l : List S46} (h : Hp w0 w wi g b4 b v l) (h2 : L2 m l) : Ht w0 w wi g b4 b v l :=
  ⟨h.rn, h.bl, h.kp, h.c2, h.c3, h.c4, h.gw, h.h4, n_R h.hl, h2.lo, h2.hi, h2.all⟩
section
variable {w0 w wi w1 : World} {g b4 : Nat} {b b' : Int} {v : Value} {l : List S46}
theorem Ht.mono (h : Ht w0 w wi g b4 b v l) (hb : b ≤ b') : Ht w0 w wi g b4 b' v l := ⟨h.rn.mono hb, h.bl, h.kp, h.c2, h.c3, h.c4, h.gw, h.h4, h.hl, h.lo, h.hi, h.all⟩
theorem Ht.call (h : Ht w0 w wi g b4 b v l) (hR : Rn w0 w1 g b') (hB : Below w0.heap.size w0 w1) (hK : KeepBut wi w1 g none) : Ht w0 w w1 g b4 b' v l := by
  have := h.gw
  have := h.h4
  refine ⟨hR, hB, h.kp.trans hK (.inl rfl), hK.blk h.c2 (by omega) (by simp), hK.blk h.c3 (by omega) (by simp), hK.blk h.c4 (by omega) (by simp), h.gw, h.h4, R_up h.hl (fun k h1 h2 => hK.2 k h2 (by omega) (by simp)), h.lo, h.hi, h.all⟩
theorem Ht.drew (h : Ht w0 w wi g b4 b v l) : Ht w0 w wi.drew g b4 b v l := h.call h.rn.drew (below_drew h.bl) (KeepBut.of_below (below_drew (Below.refl _ _)) g none)
theorem Ht.cell (h : Ht w0 w wi g b4 b v l) : wi.cell? ⟨b4, 0, none⟩ = some v := (kcl h.c4 0).trans rfl
theorem Ht.row {A : Option Addr} {n c : Nat} (h : Ht w0 w wi g b4 b (.slice A n c) l) : ∃ gb, A = some ⟨gb, 0, none⟩ ∧ n = l.length ∧ n ≤ c ∧ w.heap.size + 2 ≤ gb ∧ gb ≠ b4 := by
  obtain ⟨hn, hnc, _⟩ := Kd.R_reads' h.hl
  obtain ⟨gb, cap, e, hb, hlt, hcc⟩ := Kd.R_form h.hl (by have := h.lo; omega)
  injection e with e1 e2 e3
  subst e1
  exact ⟨gb, rfl, hn, hnc, hb, fun e => h.hl.1 gb (by simp [Value.ownBlock]) e⟩
theorem Ht.elem {gb n c : Nat} (h : Ht w0 w wi g b4 b (.slice (some ⟨gb, 0, none⟩) n c) l) (hgb : w.heap.size + 2 ≤ gb) (hgb4 : gb ≠ b4) (i : Nat) (hi : i < n) :
    (∃ u, wi.cell? ⟨gb, i * 7, none⟩ = some u) ∧ (∃ u, wi.cell? ⟨gb, i * 7 + 2, none⟩ = some u) ∧ wi.frozen? ⟨gb, i * 7, none⟩ = false ∧ wi.frozen? ⟨gb, i * 7 + 2, none⟩ = false ∧
      (∀ r : Int, ∃ l', Ht w0 w (wi.setCell ⟨gb, i * 7, none⟩ (.int .i64 r)) g b4 b (.slice (some ⟨gb, 0, none⟩) n c) l') ∧
      (∀ r : Int, ∃ l', Ht w0 w (wi.setCell ⟨gb, i * 7 + 2, none⟩ (.int .i64 r)) g b4 b (.slice (some ⟨gb, 0, none⟩) n c) l') := by
  have h1 := h.gw
  have h2 := h.h4
  have h3 := h.rn.ge
  obtain ⟨hn, hnc, _⟩ := Kd.R_reads' h.hl
  obtain ⟨cs, hcl, hM, hc, hf⟩ := Kd.R_elem h.hl z46 (i : Int) (by omega) (by omega)
  have e7 : k46.sz = 7 := rfl
  have ex : l.getD (i : Int).toNat z46 = l[i]'(by omega) := by simp [List.getD_eq_getElem?_getD, show i < l.length by omega]
  rw [ex] at hM
  generalize hx : l[i]'(by omega) = x at hM
  have hxB : oB x = true := by rw [← hx]; exact h.all _ (List.getElem_mem _)
  have hcc := hc
  have hll := hcl
  rw [e7, show (i : Int).toNat = i from rfl] at hc hf
  obtain ⟨v3, v4, v5, v6, rfl, g3, g4, g5, g6⟩ := k46_openM hM
  have fin : ∀ (j : Nat) (r : Int) (x' : S46), oB x' = true → j + 1 ≤ 7 → k46.M wi (w.heap.size + 2) (fun k => k ≠ b4 ∧ k ≠ gb) x' (([.int .i64 x.f0, .string x.f1, .int .i64 x.f2, v3, v4, v5, v6] : List Value).take j ++ [.int .i64 r] ++ ([.int .i64 x.f0, .string x.f1, .int .i64 x.f2, v3, v4, v5, v6] : List Value).drop (j + 1)) →
      Ht w0 w (wi.setCell ⟨gb, i * 7 + j, none⟩ (.int .i64 r)) g b4 b (.slice (some ⟨gb, 0, none⟩) n c) (l.set i x') := by
    intro j r x' hB' hj hM'
    obtain ⟨hr, hg⟩ := Kd.R_seg (j := j) (seg := [.int .i64 r]) (x' := x') (okp := fun k => k ≠ b4 ∧ k ≠ gb) h.hl (i : Int) (by omega) (by omega) hll hcc (by rw [e7]; exact hj) hM' (fun k hk => hk)
    rw [e7, show (i : Int).toNat = i from rfl] at hr hg
    have hne : ∀ k, k ≠ gb → some k ≠ some gb := fun k hk e => hk (by injection e)
    refine ⟨h.rn.grown hg (hne g (by omega)), pw_below_grown h.bl _ h.bl.size hg (fun k hk => by injection hk with hk; omega), KeepBut.trans h.kp (KeepBut.of_grown hg g) (.inr ⟨gb, rfl, by omega⟩), kgr h.c2 hg (hne _ (by omega)), kgr h.c3 hg (hne _ (by omega)), kgr h.c4 hg (hne _ (Ne.symm hgb4)), h1, h2, hr, by simpa using h.lo, by simpa using h.hi, fun y hy => ?_⟩
    rcases List.mem_or_eq_of_mem_set hy with hy | rfl
    · exact h.all y hy
    · exact hB'
  refine ⟨⟨_, hc 0 _ rfl⟩, ⟨_, hc 2 _ rfl⟩, hf 0, hf 2, fun r => ⟨_, fin 0 r { x with f0 := r } hxB (by omega) ?_⟩, fun r => ⟨_, fin 2 r { x with f2 := r } hxB (by omega) ?_⟩⟩
  · exact k46_mkM wi _ _ ({ x with f0 := r } : S46) g3 g4 g5 g6
  · exact k46_mkM wi _ _ ({ x with f2 := r } : S46) g3 g4 g5 g6
def HeapPost (w0 w : World) (g : Nat) (e : Ending) (w' : World) : Prop := ∃ (v : Value) (l : List S46) (x : S35), e = .returned (.tuple #[.agg #[v], .agg #[.int .i64 x.f0, .string x.f1, .int .i64 x.f2]]) ∧ VOk x ∧ 19 ≤ l.length ∧ l.length ≤ 24 ∧ (∀ o ∈ l, oB o = true) ∧ k46.R 46 w' w.heap.size (fun _ => True) v l ∧ Rn w0 w' g 10000 ∧ Below w0.heap.size w0 w' ∧ KeepBut w w' g none
theorem Ht.fin (h : Ht w0 w wi g b4 b v l) (hb : b ≤ 10000) {x : S35} (hx : VOk x) {W : World} (hW : W = (((wi.setCell ⟨w.heap.size, 0, none⟩ v).setCell ⟨w.heap.size + 1, 0, none⟩ (.int .i64 x.f0)).setCell ⟨w.heap.size + 1, 1, none⟩ (.string x.f1)).setCell ⟨w.heap.size + 1, 2, none⟩ (.int .i64 x.f2)) :
    W.heap[w.heap.size]? = some (.cells #[v] 25 (0, 0)) ∧ W.heap[w.heap.size + 1]? = some (.cells #[.int .i64 x.f0, .string x.f1, .int .i64 x.f2] 35 (0, 0)) ∧ HeapPost w0 w g (.returned (.tuple #[.agg #[v], .agg #[.int .i64 x.f0, .string x.f1, .int .i64 x.f2]])) W := by
  subst hW
  have h1 := h.gw
  have h2 := h.h4
  have h3 := h.rn.ge
  refine ⟨blk_far (blk_far (blk_far (blk_put h.c2 0 v rfl) (by simp) _) (by simp) _) (by simp) _, blk_put (blk_put (blk_put (blk_far h.c3 (by simp) _) 0 _ rfl) 1 _ rfl) 2 _ rfl, v, l, x, rfl, hx, h.lo, h.hi, h.all, ?_, ?_, ?_, ?_⟩
  · refine Kd.R_mono (Kd.R_lower (R_up h.hl (fun k hk _ => ?_)) (by omega)) (fun _ _ => trivial)
    rw [Below.heap_setCell _ _ _ _ (by simp; omega), Below.heap_setCell _ _ _ _ (by simp; omega), Below.heap_setCell _ _ _ _ (by simp; omega), Below.heap_setCell _ _ _ _ (by simp; omega)]
  · exact ((((h.rn.mono hb).far (by simp; omega) _).far (by simp; omega) _).far (by simp; omega) _).far (by simp; omega) _
  · exact (((h.bl.setCell (by simp; omega) _).setCell (by simp; omega) _).setCell (by simp; omega) _).setCell (by simp; omega) _
  · exact keep_far (keep_far (keep_far (keep_far h.kp (by simp) _) (by simp) _) (by simp) _) (by simp) _
end
end Go.Proofs.Ytgddblpgbkgpcaa.PR
namespace Go.Proofs.Ytgddblpgbkgpcaa.PR
set_option linter.unusedVariables false
set_option linter.unusedSimpArgs false
open Go.RowKit Go.Proofs.YtgddblpgbkgpcaaW.PrintWords Go.Proofs.YtgddblpgbkgpcaaW.PrintLast Go.Proofs.YtgddblpgbkgpcaaW.PrintMore
set_option linter.unusedVariables false
set_option linter.unusedSimpArgs false
theorem new_M (w : World) (base : Nat) (ok : Nat → Prop) (q : Int) : k46n.M w base ok ⟨q, ⟨#[]⟩, 0, [], [], [], []⟩ [.int .i64 q, .string ⟨#[]⟩, .int .i64 0, .slice none 0 0, .slice none 0 0, .slice none 0 0, .slice none 0 0] := by
  refine ⟨k46_mkM w base ok _ (Kd.R_nil _ _ _ _ _) (Kd.R_nil _ _ _ _ _) (Kd.R_nil _ _ _ _ _) (Kd.R_nil _ _ _ _ _), .inr (.inr ?_)⟩
  intro u3 u4 u5 u6 a b c e
  simp only [List.cons.injEq] at e
  obtain ⟨rfl, rfl, rfl, rfl, rfl, rfl, rfl, _⟩ := e
  exact ⟨fun _ => rfl, fun _ => rfl, fun _ => rfl, fun _ => rfl⟩
theorem size_set (w : World) (p : Addr) (v : Value) : (w.setCell p v).heap.size = w.heap.size := by simp
theorem size_alloc (w : World) (o : Obj) : (w.alloc o).heap.size = w.heap.size + 1 := by simp
theorem R_C {α : Type} {d : Kd α} {e base : Nat} {ok : Nat → Prop} {w : World} {A : Option Addr} {n c : Nat} {xs : List α} (h : d.R e w base ok (.slice A n c) xs) : d.C w A n xs := by
  obtain ⟨h1, _, h3⟩ := Kd.R_reads' h
  rw [h1]; exact h3
theorem keyAt_w (A : Option Addr) (n c : Nat) (l : List S35) (y : S35) (w : World) (hC : Kd.C k35 w A n l) (hs : ∀ x ∈ l, x.f1.size ≤ 5) :
    Calls Try.prog 89 #[.slice A n c, .agg #[.int .i64 y.f0, .string y.f1, .int .i64 y.f2]] w fun e w' => ∃ r : Int, e = .returned (.int .i64 r) ∧ Below w.heap.size w w' := by
  have hn : n = (l.map fun x : S35 => (⟨x.f0, x.f1, x.f2⟩ : B.V)).length := by rw [List.length_map]; exact hC.1.symm
  have h2 := hC.2.1
  have hRV : B.RV w A (l.map fun x : S35 => (⟨x.f0, x.f1, x.f2⟩ : B.V)) := by
    refine ⟨by omega, fun h => ?_⟩
    obtain ⟨ad, e, _⟩ := at_T35 hC 0 (by omega) (by omega)
    refine ⟨ad, e, fun i hi => ?_⟩
    obtain ⟨ad', e', h0, h1, h2⟩ := at_T35 hC (i : Int) (by omega) (by omega)
    rw [e] at e'
    injection e' with e'
    subst e'
    have hil : i < l.length := by simpa using hi
    have hx : rd_T35 l (i : Int) = l[i] := by unfold rd_T35; simp [List.getD_eq_getElem?_getD, hil]
    rw [hx] at h0 h1 h2
    simp only [List.getElem_map]
    exact ⟨h0, h1, h2, by have := hs _ (List.getElem_mem hil); omega⟩
  rw [hn]
  refine (B.keyAt_ok A c _ ⟨y.f0, y.f1, y.f2⟩ w hRV).mono ?_
  rintro e w' ⟨rfl, hb⟩
  exact ⟨_, rfl, hb⟩
theorem isOne_w (A : Option Addr) (n c : Nat) (l : List ByteArray) (s : ByteArray) (w : World) (hC : Kd.C Kd.string w A n l) :
    Calls Try.prog 91 #[.slice A n c, .string s] w fun e w' => ∃ b : Bool, e = .returned (.bool b) ∧ w = w' := by
  have hR := Kd.reads_of_C (d := (ByteArray.empty : ByteArray)) hC
  obtain ⟨rfl, h1, h2⟩ := hR
  refine (B.isOne_ok A c l s w ⟨h1, fun h => ?_⟩).mono ?_
  · obtain ⟨ad, e, hc⟩ := h2 h
    refine ⟨ad, e, fun i hi => ?_⟩
    rw [hc i hi, List.getD_eq_getElem?_getD, List.getElem?_eq_getElem hi]
    rfl
  · rintro e w' ⟨rfl, rfl⟩
    exact ⟨_, rfl, rfl⟩
def L1 (k : Nat) (l : List S46) : Prop := l.length = 19 + k ∧ (∀ x ∈ l, oB x = true) ∧ ∀ j (h : j < l.length), 19 ≤ j → un l[j]
theorem L1.snoc {k : Nat} {l : List S46} (h : L1 k l) {q : Int} (hq : q ∈ [1, 1, 2, 6, 4, 7, 8]) : L1 (k + 1) (l ++ [⟨q, ⟨#[]⟩, 0, [], [], [], []⟩]) := by
  have hu : un ⟨q, ⟨#[]⟩, 0, [], [], [], []⟩ := ⟨q, by rintro rfl; simp at hq, by rintro rfl; simp at hq, rfl⟩
  refine ⟨by rw [List.length_append, h.1]; simp; omega, fun x hx => ?_, fun j hj h19 => ?_⟩
  · rcases List.mem_append.1 hx with hx | hx
    · exact h.2.1 x hx
    · rw [List.mem_singleton.1 hx]; exact oG_oB (un_oG hu) (by omega)
  · rw [List.getElem_append]
    split
    · exact h.2.2 j _ h19
    · simpa using hu
theorem in_start {w0 w wi : World} {g b4 : Nat} {b : Int} {v : Value} {l : List S46} (h : Hp w0 w wi g b4 b v l) (q : Int) :
    In w0 wi (wi.alloc (.cells #[.int .i64 q, .string ⟨#[]⟩, .int .i64 0, .slice none 0 0, .slice none 0 0, .slice none 0 0, .slice none 0 0] 46)) g b q 0 [] [] [] [] (.slice none 0 0) (.slice none 0 0) (.slice none 0 0) (.slice none 0 0) :=
  ⟨h.rn.alloc _, bla (h.bl) _, KeepBut.of_below (bla (Below.refl _ _) _) g none, h.rn.lt, blk_new _ _, Ob.new _ _ q _ 0, by simp; decide, by simp, by simp, by simp, by simp, by intro x hx; simp at hx, by intro x hx; simp at hx, by intro x hx; simp at hx, by intro x hx; simp at hx⟩
theorem l2_start {k m : Nat} {l : List S46} (h : L1 k l) (hk : k ≤ 5) (hm : (m : Int) = 19) : L2 m l :=
  ⟨by have := h.1; omega, by have := h.1; omega, by omega, by have := h.1; omega, h.2.1, fun j hj h1 => h.2.2 j hj (by omega)⟩
theorem hp_start {w0 w w1 : World} {g : Nat} {b : Int} {A : Option Addr} {c : Nat} {l : List S46} (hR : Rn w0 w g b) (hB : Below w0.heap.size w0 w)
    (hl : k46.R 46 w1 ((w.alloc (.cells #[.slice none 0 0] 25)).alloc (.cells #[.int .i64 0, .string ⟨#[]⟩, .int .i64 0] 35)).heap.size (fun _ => True) (.slice A l.length c) l) (hlB : l.all oB = true) (hlK : l.all kB = true) (h19 : l.length = 19)
    (hB1 : Below ((w.alloc (.cells #[.slice none 0 0] 25)).alloc (.cells #[.int .i64 0, .string ⟨#[]⟩, .int .i64 0] 35)).heap.size ((w.alloc (.cells #[.slice none 0 0] 25)).alloc (.cells #[.int .i64 0, .string ⟨#[]⟩, .int .i64 0] 35)) w1) :
    Hp w0 w (w1.alloc (.cells #[.slice A l.length c] 25)) g w1.heap.size b (.slice A l.length c) l ∧ L1 0 l := by
  have h0 : ((w.alloc (.cells #[.slice none 0 0] 25)).alloc (.cells #[.int .i64 0, .string ⟨#[]⟩, .int .i64 0] 35)).heap.size = w.heap.size + 2 := by simp
  have hs := hB1.size
  rw [h0] at hs
  have hbw : Below w.heap.size w w1 := bst (bla (bla (Below.refl _ _) _) _) hB1
  have e1 : w1.heap[w.heap.size]? = some (.cells #[.slice none 0 0] 25 (0, 0)) := kbw (kla (blk_new w _) _) hB1
  have e2 : w1.heap[w.heap.size + 1]? = some (.cells #[.int .i64 0, .string ⟨#[]⟩, .int .i64 0] 35 (0, 0)) := by
    have h2 := blk_new (w.alloc (.cells #[.slice none 0 0] 25)) (.cells #[.int .i64 0, .string ⟨#[]⟩, .int .i64 0] 35)
    rw [show (w.alloc (.cells #[.slice none 0 0] 25)).heap.size = w.heap.size + 1 by simp] at h2
    exact kbw h2 hB1
  rw [h0] at hl
  refine ⟨⟨(hR.below hbw).alloc _, bla (bth hB hB.size hbw) _, KeepBut.of_below (bla hbw _) g none, kla e1 _, kla e2 _, blk_new _ _, hR.lt, by omega, R_n (Kd.R_mono (Kd.R_below (Kd.R_elderB hl w1.heap.size (Nat.le_refl _)) (bla (Below.refl _ _) _)) (fun _ hk => hk.2)) (fun x hx => by have := List.all_eq_true.1 hlK x hx; simpa [kB] using this)⟩, by simpa using h19, fun x hx => List.all_eq_true.1 hlB x hx, fun j hj h => by omega⟩
set_option maxRecDepth 100000 in
set_option maxHeartbeats 40000000 in
theorem heap_w (g : Nat) (b : Int) (w0 w : World) (hR : Rn w0 w g b) (hB : Below w0.heap.size w0 w) (hb : b ≤ 10) :
    Calls Try.prog 50 #[.pointer (some ⟨g, 0, none⟩)] w (HeapPost w0 w g) := by
  have hg := hR.lt
  have HR := Aside0.mk hR
  have HB := Aside0.mk hB
  clear hR hB
  go_enter Try.func50, Try.ntmps50
  go_wp2_with (first
    | (go_at_call 87; refine (newHeap_w _).mono ?_; rintro e w1 ⟨v, l, rfl, hl, hl19, hlB, hlK, hB1⟩; obtain ⟨A, c, rfl⟩ := Kd.R_slice hl; have HL := Aside0.mk hl; have HL19 := Lib.hid hl19; have HLB := Lib.hid hlB; have HLK := Lib.hid hlK; have HB1 := Aside0.mk hB1; clear hl hl19 hlB hlK hB1)
    | (go_at_call 51; have HP := Aside0.mk (hp_start HR.out HB.out HL.out HLB.out HLK.out HL19.out HB1.out); refine (pick_w g 6 b w0 _ HP.out.1.rn HP.out.1.bl (by omega) (by omega)).mono ?_; rintro e w2 ⟨r, rfl, hr0, hr6, hR2, hB2, hK2⟩; have HQ := Aside0.mk (show Hp w0 w w2 g w1.heap.size (b + 1) (.slice A l.length c) l ∧ L1 0 l from ⟨HP.out.1.call hR2 hB2 hK2, HP.out.2⟩); clear HP hR2 hB2 hK2))
  obtain ⟨b4, hb4⟩ : ∃ b4, b4 = w1.heap.size := ⟨_, rfl⟩
  rw [← hb4] at HQ ⊢
  clear hb4 HB1 HL
  have h19 : (l.length : Int) = 19 := by have := HL19.out; omega
  have H19 := Lib.hid h19
  clear h19 HLB HLK HL19
  replace hr6 := hr6 (by decide)
  go_loopw [7] (fun i wr => ∃ (k : Nat) (l' : List S46) (A' : Option Addr) (n' c' : Nat), i = .int .i64 k ∧ (k : Int) ≤ r ∧ Aside0 (Hp w0 w wr g b4 (b + 1 + k) (.slice A' n' c') l' ∧ L1 k l' ∧ n' = l'.length)) (fun i _ => (r - intOf i).toNat)
  case atStart => exact ⟨0, l, A, l.length, c, rfl, hr0, ⟨HQ.out.1.mono (by simp), HQ.out.2, rfl⟩⟩
  case round =>
    clear HQ
    obtain ⟨k, l, A, n, c, rfl, hkr, HQ⟩ := hrel
    by_cases hk : (k : Int) < r
    · go_wp2
      have hpd := HQ.out.1.drew
      have hL1 := Aside0.mk HQ.out.2.1
      clear HQ
      have hll : l.length ≤ 100 := by have := hL1.out.1; omega
      refine start_ (n := 10) (S := fun w' => w'.cell? ⟨b4, 0, none⟩ = some (.slice A n c)) (ds := [9]) #[false, false, false, false, false, false, false, false, false, false] (by kernel_rfl) rfl rfl (hpd.cell) (fun hHeld => ?_)
      generalize wr.drew = w10 at hpd hHeld ⊢
      refine pure_ (i := 0) (N := some 26) (v := ?_) (a' := ?_) #[true, false, false, false, false, false, false, false, false, false] rfl rfl (by kernel_rfl) (fun _ _ _ h => h) (Or.inl ⟨by rfl, ?_⟩) ?_ ?_
      rotate_left
      · intro w'
        go_simp
        with_reducible rfl
      rotate_left
      · simp only [Act.put, List.setIfInBounds_toArray, List.set_cons_zero, List.set_cons_succ, i64_w, i32_w]
        rfl
      refine pure_ (i := 2) (N := some 28) (v := ?_) (a' := ?_) #[true, false, true, false, false, false, false, false, false, false] rfl rfl (by kernel_rfl) (fun _ _ _ h => h) (Or.inl ⟨by rfl, ?_⟩) ?_ ?_
      rotate_left
      · intro w'
        go_simp
        with_reducible rfl
      rotate_left
      · simp only [Act.put, List.setIfInBounds_toArray, List.set_cons_zero, List.set_cons_succ, i64_w, i32_w]
        rfl
      refine take_ (i := 1) (N := some 27) (v := ?_) (a' := ?_) #[true, true, true, false, false, false, false, false, false, false] rfl rfl (by kernel_rfl) (fun _ _ _ h => h) (Or.inl ⟨by rfl, ?_⟩) hHeld ?_ ?_
      rotate_left
      · intro w' s0
        go_simp
        with_reducible rfl
      rotate_left
      · simp only [Act.put, List.setIfInBounds_toArray, List.set_cons_zero, List.set_cons_succ, i64_w, i32_w]
        rfl
      refine one_ (i := 3) (N := some 29) #[true, true, true, true, false, false, false, false, false, false] rfl rfl (by kernel_rfl) (by decide) (fun K hK => ?_)
      refine value_ (w1 := ?_) (v := ?_) (by rfl) rfl ?_ ?_
      rotate_left 2
      · go_simp
        constructor
        · rfl
        · rfl
      have hp3 := hpd.alloc (.cells #[.int .i64 1, .int .i64 1, .int .i64 2, .int .i64 6, .int .i64 4, .int .i64 7, .int .i64 8] 3)
      have hC3 : Kd.C (Kd.int .i64) (w10.alloc (.cells #[.int .i64 1, .int .i64 1, .int .i64 2, .int .i64 6, .int .i64 4, .int .i64 7, .int .i64 8] 3)) (some ⟨w10.heap.size, 0, none⟩) [1, 1, 2, 6, 4, 7, 8].length [1, 1, 2, 6, 4, 7, 8] := C_ints w10 [1, 1, 2, 6, 4, 7, 8] (by decide) 3
      refine hK.out _ _ (hp3.cell) (fun hHeld => ?_)
      clear hK K
      refine norm_ (a' := ?_) ?_ ?_
      rotate_left
      · show Act.put _ (some 29) _ = _
        simp only [Act.put, List.setIfInBounds_toArray, List.set_cons_zero, List.set_cons_succ, i64_w, i32_w]
        rfl
      refine one_ (i := 4) (N := some 30) #[true, true, true, true, true, false, false, false, false, false] rfl rfl (by kernel_rfl) (by decide) (fun K hK => ?_)
      refine goes_ Try.func88 (by kernel_rfl) rfl #[.pointer (some ⟨g, 0, none⟩), .slice (some ⟨w10.heap.size, 0, none⟩) 7 7] (by rfl) rfl rfl (by simp only [List.map_toArray, List.map_cons, List.map_nil]; rfl) ?_
      with_reducible refine (one_n g 7 _ 7 [1, 1, 2, 6, 4, 7, 8] rfl _ w0 _ hp3.rn hp3.bl (by omega) hC3 (by decide) (by intro ad e _; injection e with e; subst e; have := hpd.rn.lt; simp; omega) (by decide) (by decide)).mono ?_
      rintro e w11 ⟨q, rfl, hq, hR11, hB11, hK11⟩
      refine ⟨_, rfl, ?_⟩
      have hp4 := hp3.call hR11 hB11 hK11
      refine hK.out _ _ (hp4.cell) (fun hHeld => ?_)
      clear hK K
      refine norm_ (a' := ?_) ?_ ?_
      rotate_left
      · show Act.put _ (some 30) _ = _
        simp only [Act.put, List.setIfInBounds_toArray, List.set_cons_zero, List.set_cons_succ, i64_w, i32_w]
        rfl
      refine pure_ (i := 5) (N := some 31) (v := ?_) (a' := ?_) #[true, true, true, true, true, true, false, false, false, false] rfl rfl (by kernel_rfl) (fun _ _ _ h => h) (Or.inl ⟨by rfl, ?_⟩) ?_ ?_
      rotate_left
      · intro w'
        go_simp
        with_reducible rfl
      rotate_left
      · simp only [Act.put, List.setIfInBounds_toArray, List.set_cons_zero, List.set_cons_succ, i64_w, i32_w]
        rfl
      refine one_ (i := 6) (N := some 32) #[true, true, true, true, true, true, true, false, false, false] rfl rfl (by kernel_rfl) (by decide) (fun K hK => ?_)
      refine value_ (w1 := ?_) (v := ?_) (by rfl) rfl ?_ ?_
      rotate_left 2
      · go_simp
        constructor
        · rfl
        · rfl
      have hp6 := hp4.alloc (.cells #[.int .i64 q, .string ⟨#[]⟩, .int .i64 0, .slice none 0 0, .slice none 0 0, .slice none 0 0, .slice none 0 0] 46)
      refine hK.out _ _ (hp6.cell) (fun hHeld => ?_)
      clear hK K
      refine norm_ (a' := ?_) ?_ ?_
      rotate_left
      · show Act.put _ (some 32) _ = _
        simp only [Act.put, List.setIfInBounds_toArray, List.set_cons_zero, List.set_cons_succ, i64_w, i32_w]
        rfl
      refine one_ (i := 7) (N := some 33) #[true, true, true, true, true, true, true, true, false, false] rfl rfl (by kernel_rfl) (by decide) (fun K hK => ?_)
      refine Kd.R_append_step k46n (w0 := w11) (w.heap.size + 2) (by rfl) (.tmp 27) (.tmp 32) 23 46 (.agg #[(.int .i64 0), (.string ⟨#[]⟩), (.int .i64 0), (.slice none 0 0), (.slice none 0 0), (.slice none 0 0), (.slice none 0 0)]) 128 rfl Try.underlying23 info46 rfl (by decide) (by omega) (.slice A n c) l (⟨q, ⟨#[]⟩, 0, [], [], [], []⟩ : S46) [.int .i64 q, .string ⟨#[]⟩, .int .i64 0, .slice none 0 0, .slice none 0 0, .slice none 0 0, .slice none 0 0] (fun k => k ≠ b4) (fun _ => False) rfl rfl ?aP (fun _ hk => hk.elim) ?aF ?aO ?aB ?aS ?aL ?_
      case aP => exact new_M _ _ _ q
      case aF => exact fun k hk => by have := hp4.lt4; omega
      case aO => exact hp4.hl
      case aB => exact Below.refl _ _
      case aS => have := hp4.lt4; have := hp4.h4; omega
      case aL => omega
      intro v1 w12 ho hb12 hg12 hat12
      obtain ⟨A1, c1, rfl⟩ := Kd.R_slice ho
      obtain ⟨n1, hn1⟩ : ∃ n1, n1 = (l ++ [(⟨q, ⟨#[]⟩, 0, [], [], [], []⟩ : S46)]).length := ⟨_, rfl⟩
      rw [← hn1] at ho ⊢
      have HN1 := Lib.hid hn1
      clear hn1
      have hp7 := hp4.put ho hg12
      have hc4 : w12.cell? ⟨b4, 0, none⟩ = some (.slice A n c) := (kcl (kgr hp4.c4 hg12 (fun e => hp4.hl.1 b4 e.symm rfl)) 0).trans rfl
      have hf4 : w12.frozen? ⟨b4, 0, none⟩ = false := kfz (kgr hp4.c4 hg12 (fun e => hp4.hl.1 b4 e.symm rfl)) 0
      refine hK.out _ _ (hc4) (fun hHeld => ?_)
      clear hK K
      refine norm_ (a' := ?_) ?_ ?_
      rotate_left
      · show Act.put _ (some 33) _ = _
        simp only [Act.put, List.setIfInBounds_toArray, List.set_cons_zero, List.set_cons_succ, i64_w, i32_w]
        rfl
      refine pure_ (i := 8) (N := some 34) (v := ?_) (a' := ?_) #[true, true, true, true, true, true, true, true, true, false] rfl rfl (by kernel_rfl) (fun _ _ _ h => h) (Or.inl ⟨by rfl, ?_⟩) ?_ ?_
      rotate_left
      · intro w'
        go_simp
        with_reducible rfl
      rotate_left
      · simp only [Act.put, List.setIfInBounds_toArray, List.set_cons_zero, List.set_cons_succ, i64_w, i32_w]
        rfl
      refine last_ (i := 9) (N := none) #[true, true, true, true, true, true, true, true, true, true] rfl rfl (by kernel_rfl) (by decide) (fun K hK => ?_)
      refine skip_ (w1 := ?_) (by rfl) rfl ?_ ?_
      rotate_left
      · go_simp
        rfl
      refine hK.out _ _ ?_
      clear hK K
      refine done_ (by kernel_rfl) ?_
      go_wp2
      go_roundw
      case rel =>
        exact ⟨k + 1, l ++ [⟨q, ⟨#[]⟩, 0, [], [], [], []⟩], A1, n1, c1, by go_num, by omega, ⟨hp7.mono (by omega), hL1.out.snoc hq, HN1.out⟩⟩
      case measure => simp [intOf]; omega
    · have H2 := Aside0.mk (l2_start HQ.out.2.1 (by omega) H19.out)
      have HP2 := Aside0.mk HQ.out.1
      have HN2 := Lib.hid HQ.out.2.2
      clear HQ
      go_wp2
      go_loopw [8] (fun i wr => ∃ (m : Nat) (l' : List S46) (A' : Option Addr) (n' c' : Nat), i = .int .i64 m ∧ Aside0 (Hp w0 w wr g b4 (100 * m) (.slice A' n' c') l' ∧ L2 m l' ∧ n' = l'.length)) (fun i _ => (24 - intOf i).toNat)
      case atStart => exact ⟨_, l, A, n, c, rfl, ⟨HP2.out.mono (by have := H19.out; omega), H2.out, HN2.out⟩⟩
      case round =>
        clear HP2 H2 HN2
        obtain ⟨m, l, A, n, c, rfl, HQ⟩ := hrel
        by_cases hm : m < l.length
        · have hu := HQ.out.2.1.rest m hm (Nat.le_refl _)
          obtain ⟨gb, q, rfl, hn, hnc, hlm, q5, q10, hgb, hgb1, hgb4, e0, e1, e2, e3, e4, e5, e6, gcs, hgc⟩ := HQ.out.1.elem m hm hu
          have HU := Lib.hid hlm
          clear hu hlm
          have hmn : (m : Int) < (n : Int) := by omega
          have hm0 : (0 : Int) ≤ (m : Int) := Int.natCast_nonneg _
          have HN := Lib.hid hn
          clear hn
          have hc4 := HQ.out.1.cell
          have hm24 : m ≤ 24 := by have := HQ.out.2.1.hi; omega
          have hn24 : n ≤ 24 := by have := HQ.out.2.1.hi; have := HN.out; omega
          obtain ⟨wo, rfl⟩ : ∃ wo : World, wo = wr := ⟨_, rfl⟩
          have hgo := HQ.out.1.rn.lt
          have hb4g : b4 ≠ g := by have := HQ.out.1.h4; omega
          by_cases hq4 : q = 4
          · subst hq4
            go_wp2_with fail
            have HI := Aside0.mk (in_start HQ.out.1 4)
            refine (pick_w g 4 (100 * m) w0 _ HI.out.rn HI.out.bl (by omega) (by omega)).mono ?_
            rintro e w3 ⟨kk, rfl, hk0, hk4, hR3, hB3, hK3⟩
            replace hk4 := hk4 (by decide)
            have HJ := Aside0.mk (HI.out.call hR3 hB3 hK3)
            clear HI hR3 hB3 hK3
            go_wp2_with fail
            go_loopw [11] (fun i w' => ∃ (j : Nat) (x3 x4 : List S35) (x5 : List ByteArray) (x6 : List S35) (A3 A4 A5 A6 : Option Addr) (n3 c3 n4 c4 n5 c5 n6 c6 : Nat), i = .int .i64 j ∧ (j : Int) ≤ kk ∧ Aside0 (In w0 wo w' g (100 * m + 1 + 30 * j) 4 (2 * j) x3 x4 x5 x6 (.slice A3 n3 c3) (.slice A4 n4 c4) (.slice A5 n5 c5) (.slice A6 n6 c6))) (fun i _ => (kk - intOf i).toNat)
            case atStart => exact ⟨0, [], [], [], [], none, none, none, none, 0, 0, 0, 0, 0, 0, 0, 0, rfl, hk0, ⟨HJ.out.mono (by simp)⟩⟩
            case round =>
              clear HJ
              obtain ⟨j, x3, x4, x5, x6, A3, A4, A5, A6, n3, c3, n4, c4, n5, c5, n6, c6, rfl, hjk, HJ⟩ := hrel
              by_cases hj : (j : Int) < kk
              · have hc4' := HJ.out.old hc4 (by simp; omega)
                go_wp2_with fail
                refine (value_w g n (100 * m + 1 + 30 * j) w0 _ HJ.out.rn HJ.out.bl (by omega) (by omega) (by omega)).mono ?_
                rintro e w5 ⟨x, rfl, hx, hR5, hB5, hK5⟩
                have HK := Aside0.mk (HJ.out.call hR5 hB5 hK5)
                clear HJ hc4' hR5 hB5 hK5
                have hd0 := (HK.out.cell 0).trans (show _ = some (.int .i64 4) from rfl)
                have hd3 := (HK.out.cell 3).trans (show _ = some (.slice A3 n3 c3) from rfl)
                have hf3 := HK.out.free 3
                have HK2 := Aside0.mk (HK.out.alloc (.cells #[.int .i64 x.f0, .string x.f1, .int .i64 x.f2] 35))
                have hlt := blk_lt HK.out.c9
                have HL3 := HK2.out.lit3 [x] (by simp) (by simp) (by intro y hy; simp at hy; rw [hy]; exact hx.1) (cs := #[.int .i64 x.f0, .string x.f1, .int .i64 x.f2]) (by simp)
                rw [size_alloc, World.setCell_alloc_past _ _ _ _ (by rw [size_alloc]; omega), World.setCell_alloc_past _ _ _ _ hlt] at HL3
                replace HL3 := Aside0.mk HL3
                go_wp2_with fail
                go_roundw
                case rel => exact ⟨j + 1, [x], x4, x5, x6, some ⟨w5.heap.size + 1, 0, none⟩, A4, A5, A6, 1, 1, n4, c4, n5, c5, n6, c6, by go_num, by omega, ⟨(HL3.out.more (by omega)).mono (by omega)⟩⟩
                case measure => simp [intOf]; omega
              · have hc4' := HJ.out.old hc4 (by simp; omega)
                have hd0 := (HJ.out.cell 0).trans (show _ = some (.int .i64 4) from rfl)
                have hd1 := (HJ.out.cell 1).trans (show _ = some (.string ⟨#[]⟩) from rfl)
                have hd2 := (HJ.out.cell 2).trans (show _ = some (.int .i64 0) from rfl)
                have hd3 := (HJ.out.cell 3).trans (show _ = some (.slice A3 n3 c3) from rfl)
                have hd4 := (HJ.out.cell 4).trans (show _ = some (.slice A4 n4 c4) from rfl)
                have hd5 := (HJ.out.cell 5).trans (show _ = some (.slice A5 n5 c5) from rfl)
                have hd6 := (HJ.out.cell 6).trans (show _ = some (.slice A6 n6 c6) from rfl)
                have hgc1 := HJ.out.kp.blk hgc (by omega) (by simp)
                have g0 := HJ.out.old e0 (by simp; omega)
                have f0 := kfz hgc1 (m * 7)
                have g1 := HJ.out.old e1 (by simp; omega)
                have f1 := kfz hgc1 (m * 7 + 1)
                have g2 := HJ.out.old e2 (by simp; omega)
                have f2 := kfz hgc1 (m * 7 + 2)
                have g3 := HJ.out.old e3 (by simp; omega)
                have f3 := kfz hgc1 (m * 7 + 3)
                have g4 := HJ.out.old e4 (by simp; omega)
                have f4 := kfz hgc1 (m * 7 + 4)
                have g5 := HJ.out.old e5 (by simp; omega)
                have f5 := kfz hgc1 (m * 7 + 5)
                have g6 := HJ.out.old e6 (by simp; omega)
                have f6 := kfz hgc1 (m * 7 + 6)
                have HGC := Lib.hid hgc1
                clear hgc1
                have hw := blk_lt HJ.out.c9
                go_wp2_with fail
                go_roundw
                case rel => exact ⟨m + 1, l.set m ⟨4, ⟨#[]⟩, 0, x3, x4, x5, x6⟩, some ⟨gb, 0, none⟩, n, c, by go_num, ⟨((HQ.out.1.round hm hgb hgb1 hgb4 HJ.out.rn HJ.out.bl HJ.out.kp HJ.out.ob).mono (by omega)), HQ.out.2.1.next hm (oG_oB HJ.out.gd (by omega)), by simpa using HN.out⟩⟩
                case measure => simp [intOf]; omega
          by_cases hq7 : q = 7
          · subst hq7
            go_wp2_with fail
            have HI := Aside0.mk (in_start HQ.out.1 7)
            refine (pick_w g 4 (100 * m) w0 _ HI.out.rn HI.out.bl (by omega) (by omega)).mono ?_
            rintro e w3 ⟨kk, rfl, hk0, hk4, hR3, hB3, hK3⟩
            replace hk4 := hk4 (by decide)
            have HJ := Aside0.mk (HI.out.call hR3 hB3 hK3)
            clear HI hR3 hB3 hK3
            go_wp2_with fail
            go_loopw [11] (fun i w' => ∃ (j : Nat) (x3 x4 : List S35) (x5 : List ByteArray) (x6 : List S35) (A3 A4 A5 A6 : Option Addr) (n3 c3 n4 c4 n5 c5 n6 c6 : Nat), i = .int .i64 j ∧ (j : Int) ≤ kk ∧ Aside0 (In w0 wo w' g (100 * m + 1 + 30 * j) 7 (2 * j) x3 x4 x5 x6 (.slice A3 n3 c3) (.slice A4 n4 c4) (.slice A5 n5 c5) (.slice A6 n6 c6))) (fun i _ => (kk - intOf i).toNat)
            case atStart => exact ⟨0, [], [], [], [], none, none, none, none, 0, 0, 0, 0, 0, 0, 0, 0, rfl, hk0, ⟨HJ.out.mono (by simp)⟩⟩
            case round =>
              clear HJ
              obtain ⟨j, x3, x4, x5, x6, A3, A4, A5, A6, n3, c3, n4, c4, n5, c5, n6, c6, rfl, hjk, HJ⟩ := hrel
              by_cases hj : (j : Int) < kk
              · have hc4' := HJ.out.old hc4 (by simp; omega)
                go_wp2_with fail
                refine (value_w g n (100 * m + 1 + 30 * j) w0 _ HJ.out.rn HJ.out.bl (by omega) (by omega) (by omega)).mono ?_
                rintro e w5 ⟨x, rfl, hx, hR5, hB5, hK5⟩
                have HK := Aside0.mk (HJ.out.call hR5 hB5 hK5)
                clear HJ hc4' hR5 hB5 hK5
                have hd0 := (HK.out.cell 0).trans (show _ = some (.int .i64 7) from rfl)
                have hd3 := (HK.out.cell 3).trans (show _ = some (.slice A3 n3 c3) from rfl)
                have hf3 := HK.out.free 3
                have HK2 := Aside0.mk (HK.out.alloc (.cells #[.int .i64 x.f0, .string x.f1, .int .i64 x.f2] 35))
                have hlt := blk_lt HK.out.c9
                have HL3 := HK2.out.lit3 [x, x] (by simp) (by simp) (by intro y hy; simp at hy; rw [hy]; exact hx.1) (cs := #[.int .i64 x.f0, .string x.f1, .int .i64 x.f2, .int .i64 x.f0, .string x.f1, .int .i64 x.f2]) (by simp)
                rw [size_alloc, World.setCell_alloc_past _ _ _ _ (by rw [size_alloc]; omega), World.setCell_alloc_past _ _ _ _ hlt] at HL3
                replace HL3 := Aside0.mk HL3
                go_wp2_with fail
                go_roundw
                case rel => exact ⟨j + 1, [x, x], x4, x5, x6, some ⟨w5.heap.size + 1, 0, none⟩, A4, A5, A6, 2, 2, n4, c4, n5, c5, n6, c6, by go_num, by omega, ⟨(HL3.out.more (by omega)).mono (by omega)⟩⟩
                case measure => simp [intOf]; omega
              · have hc4' := HJ.out.old hc4 (by simp; omega)
                have hd0 := (HJ.out.cell 0).trans (show _ = some (.int .i64 7) from rfl)
                have hd1 := (HJ.out.cell 1).trans (show _ = some (.string ⟨#[]⟩) from rfl)
                have hd2 := (HJ.out.cell 2).trans (show _ = some (.int .i64 0) from rfl)
                have hd3 := (HJ.out.cell 3).trans (show _ = some (.slice A3 n3 c3) from rfl)
                have hd4 := (HJ.out.cell 4).trans (show _ = some (.slice A4 n4 c4) from rfl)
                have hd5 := (HJ.out.cell 5).trans (show _ = some (.slice A5 n5 c5) from rfl)
                have hd6 := (HJ.out.cell 6).trans (show _ = some (.slice A6 n6 c6) from rfl)
                have hgc1 := HJ.out.kp.blk hgc (by omega) (by simp)
                have g0 := HJ.out.old e0 (by simp; omega)
                have f0 := kfz hgc1 (m * 7)
                have g1 := HJ.out.old e1 (by simp; omega)
                have f1 := kfz hgc1 (m * 7 + 1)
                have g2 := HJ.out.old e2 (by simp; omega)
                have f2 := kfz hgc1 (m * 7 + 2)
                have g3 := HJ.out.old e3 (by simp; omega)
                have f3 := kfz hgc1 (m * 7 + 3)
                have g4 := HJ.out.old e4 (by simp; omega)
                have f4 := kfz hgc1 (m * 7 + 4)
                have g5 := HJ.out.old e5 (by simp; omega)
                have f5 := kfz hgc1 (m * 7 + 5)
                have g6 := HJ.out.old e6 (by simp; omega)
                have f6 := kfz hgc1 (m * 7 + 6)
                have HGC := Lib.hid hgc1
                clear hgc1
                have hw := blk_lt HJ.out.c9
                go_wp2_with fail
                go_roundw
                case rel => exact ⟨m + 1, l.set m ⟨7, ⟨#[]⟩, 0, x3, x4, x5, x6⟩, some ⟨gb, 0, none⟩, n, c, by go_num, ⟨((HQ.out.1.round hm hgb hgb1 hgb4 HJ.out.rn HJ.out.bl HJ.out.kp HJ.out.ob).mono (by omega)), HQ.out.2.1.next hm (oG_oB HJ.out.gd (by omega)), by simpa using HN.out⟩⟩
                case measure => simp [intOf]; omega
          by_cases hq6 : q = 6
          · subst hq6
            go_wp2_with fail
            have HI := Aside0.mk (in_start HQ.out.1 6)
            refine (pick_w g 4 (100 * m) w0 _ HI.out.rn HI.out.bl (by omega) (by omega)).mono ?_
            rintro e w3 ⟨kk, rfl, hk0, hk4, hR3, hB3, hK3⟩
            replace hk4 := hk4 (by decide)
            have HJ := Aside0.mk (HI.out.call hR3 hB3 hK3)
            clear HI hR3 hB3 hK3
            go_wp2_with fail
            go_loopw [11] (fun i w' => ∃ (j : Nat) (x3 x4 : List S35) (x5 : List ByteArray) (x6 : List S35) (A3 A4 A5 A6 : Option Addr) (n3 c3 n4 c4 n5 c5 n6 c6 : Nat), i = .int .i64 j ∧ (j : Int) ≤ kk ∧ Aside0 (In w0 wo w' g (100 * m + 1 + 30 * j) 6 (2 * j) x3 x4 x5 x6 (.slice A3 n3 c3) (.slice A4 n4 c4) (.slice A5 n5 c5) (.slice A6 n6 c6))) (fun i _ => (kk - intOf i).toNat)
            case atStart => exact ⟨0, [], [], [], [], none, none, none, none, 0, 0, 0, 0, 0, 0, 0, 0, rfl, hk0, ⟨HJ.out.mono (by simp)⟩⟩
            case round =>
              clear HJ
              obtain ⟨j, x3, x4, x5, x6, A3, A4, A5, A6, n3, c3, n4, c4, n5, c5, n6, c6, rfl, hjk, HJ⟩ := hrel
              by_cases hj : (j : Int) < kk
              · have hc4' := HJ.out.old hc4 (by simp; omega)
                go_wp2_with fail
                refine (value_w g n (100 * m + 1 + 30 * j) w0 _ HJ.out.rn HJ.out.bl (by omega) (by omega) (by omega)).mono ?_
                rintro e w5 ⟨x, rfl, hx, hR5, hB5, hK5⟩
                have HK := Aside0.mk (HJ.out.call hR5 hB5 hK5)
                clear HJ hc4' hR5 hB5 hK5
                have hd0 := (HK.out.cell 0).trans (show _ = some (.int .i64 6) from rfl)
                have HK2 := Aside0.mk (HK.out.alloc (.cells #[.int .i64 x.f0, .string x.f1, .int .i64 x.f2] 35))
                have hlt := blk_lt HK.out.c9
                have HR5 := Aside0.mk (Kd.R_lt HK.out.ob.r5)
                clear HK
                have hsz : (w5.alloc (.cells #[.int .i64 x.f0, .string x.f1, .int .i64 x.f2] 35)).heap.size = w5.heap.size + 1 := size_alloc _ _
                have HK3 := Aside0.mk (HK2.out.alloc (.cells #[.string ⟨#[97]⟩, .string ⟨#[98]⟩, .string ⟨#[99]⟩, .string ⟨#[116, 101, 120, 116]⟩] 9))
                have hC4 : Kd.C Kd.string ((w5.alloc (.cells #[.int .i64 x.f0, .string x.f1, .int .i64 x.f2] 35)).alloc (.cells #[.string ⟨#[97]⟩, .string ⟨#[98]⟩, .string ⟨#[99]⟩, .string ⟨#[116, 101, 120, 116]⟩] 9)) (some ⟨w5.heap.size + 1, 0, none⟩) nm4.length nm4 := by
                  have := C_strs (w5.alloc (.cells #[.int .i64 x.f0, .string x.f1, .int .i64 x.f2] 35)) nm4 (by decide) 9
                  rw [hsz] at this
                  exact this
                have HC4 := Aside0.mk hC4
                clear hC4 hsz HK2
                go_wp2_with fail
                refine (of_n g 4 _ 4 nm4 rfl (100 * m + 11 + 30 * j) w0 _ (HK3.out.rn.mono (by omega)) HK3.out.bl (by omega) HC4.out (by decide) (by intro ad e _; injection e with e; subst e; have := HK3.out.gi; simp; omega) (by decide) (by decide)).mono ?_
                rintro e w6 ⟨s, rfl, hs, hR6, hB6, hK6⟩
                have HK := Aside0.mk (HK3.out.call hR6 hB6 hK6)
                have hbx := hK6.blk (kla (blk_new w5 (.cells #[.int .i64 x.f0, .string x.f1, .int .i64 x.f2] 35)) (.cells #[.string ⟨#[97]⟩, .string ⟨#[98]⟩, .string ⟨#[99]⟩, .string ⟨#[116, 101, 120, 116]⟩] 9)) (by have := HK3.out.gi; omega) (by simp)
                have HBX := Aside0.mk hbx
                clear HK3 HC4 hR6 hB6 hK6 hd0 hbx
                have hb0 := (kcl HBX.out 0).trans (show _ = some (.int .i64 x.f0) from rfl)
                have hb1 := (kcl HBX.out 1).trans (show _ = some (.string x.f1) from rfl)
                have hb2 := (kcl HBX.out 2).trans (show _ = some (.int .i64 x.f2) from rfl)
                have hd5 := (HK.out.cell 5).trans (show _ = some (.slice A5 n5 c5) from rfl)
                have hd6 := (HK.out.cell 6).trans (show _ = some (.slice A6 n6 c6) from rfl)
                go_wp2_with fail
                have HC5 := Aside0.mk (show Kd.C Kd.string w6 A5 n5 x5 from R_C HK.out.ob.r5)
                refine (isOne_w A5 n5 c5 x5 s _ HC5.out).mono ?_
                rintro e w7 ⟨b1, rfl, rfl⟩
                clear HC5
                cases b1 with
                | true =>
                  go_wp2
                  go_roundw
                  case rel => exact ⟨j + 1, x3, x4, x5, x6, A3, A4, A5, A6, n3, c3, n4, c4, n5, c5, n6, c6, by go_num, by omega, ⟨(HK.out.more (by omega)).mono (by omega)⟩⟩
                  case measure => simp [intOf]; omega
                | false =>
                  have hltw := blk_lt HK.out.c9
                  go_wp2_with (first | ((with_reducible refine gate_builtin (b := .append) (xs := #[.tmp 100, .tmp 102]) rfl ?_); at_builtin; refine Kd.R_append Kd.string (w0 := _) (wo.heap.size + 1) rfl (.tmp 100) (.tmp 102) 44 9 (.string ⟨#[]⟩) 16 rfl Try.underlying44 info9 rfl (by decide) (by omega) (.slice A5 n5 c5) x5 s [.string s] (fun _ => True) (fun _ => False) rfl (by first | rfl | (rw [size_alloc]; rfl) | (rw [size_set]; rfl)) ?aPs (fun _ hk => hk.elim) (fun _ _ => trivial) ?aOs (Below.refl _ _) ?aSs ?aLs ?_; (case aPs => exact rfl); (case aOs => exact HK.out.ob.r5); (case aSs => have := blk_lt HK.out.c9; omega); (case aLs => have hgd := HK.out.gd; unfold oG at hgd; simp only at hgd; omega); intro v1 w6s ho _ hg hat; obtain ⟨A1s, c1s, rfl⟩ := Kd.R_slice ho; obtain ⟨n1s, hn1⟩ : ∃ n1, n1 = (x5 ++ [s]).length := ⟨_, rfl⟩; rw [← hn1] at ho hat ⊢; have HNs := Aside0.mk (HK.out.app5 hs ho hg); have hss : w6s.heap[wo.heap.size]? = _ := (HK.out.grown hg (Kd.R_base HK.out.ob.r5)).2.2.2; have hscs := (kcl hss 5).trans (show _ = some (.slice A5 n5 c5) from rfl); have hsfs := kfz hss 5; have HBX2 := Aside0.mk (blk_far (p := ⟨wo.heap.size, 5, none⟩) (kgr HBX.out hg (fun e => by have := HR5.out _ e.symm; omega)) (by simp; omega) (.slice A1s n1s c1s)); have hb0s := (kcl HBX2.out 0).trans (show _ = some (.int .i64 x.f0) from rfl); have hb1s := (kcl HBX2.out 1).trans (show _ = some (.string x.f1) from rfl); have hb2s := (kcl HBX2.out 2).trans (show _ = some (.int .i64 x.f2) from rfl); have hd6s := (HNs.out.cell 6).trans (show _ = some (.slice A6 n6 c6) from rfl); clear hn1 ho hg hat hss) | ((with_reducible refine gate_builtin (b := .append) (xs := #[.tmp 106, .tmp 108]) rfl ?_); at_builtin; refine Kd.R_append k35 (w0 := _) (wo.heap.size + 1) rfl (.tmp 106) (.tmp 108) 26 35 (.agg #[(.int .i64 0), (.string ⟨#[]⟩), (.int .i64 0)]) 32 rfl Try.underlying26 info35 rfl (by decide) (by omega) (.slice A6 n6 c6) x6 x [.int .i64 x.f0, .string x.f1, .int .i64 x.f2] (fun _ => True) (fun _ => False) rfl (by first | rfl | (rw [size_alloc]; rfl) | (rw [size_set]; rfl)) ?aPt (fun _ hk => hk.elim) (fun _ _ => trivial) ?aOt (Below.refl _ _) ?aSt ?aLt ?_; (case aPt => exact k35_mkM _ _ _ x); (case aOt => exact HNs.out.ob.r6); (case aSt => have := blk_lt HNs.out.c9; omega); (case aLt => have hgd := HNs.out.gd; unfold oG at hgd; simp only at hgd; omega); intro v1 w6t ho _ hg hat; obtain ⟨A1t, c1t, rfl⟩ := Kd.R_slice ho; obtain ⟨n1t, hn1⟩ : ∃ n1, n1 = (x6 ++ [x]).length := ⟨_, rfl⟩; rw [← hn1] at ho hat ⊢; have HNt := Aside0.mk (HNs.out.app6 hx ho hg hat); have hst : w6t.heap[wo.heap.size]? = _ := (HNs.out.grown hg (Kd.R_base HNs.out.ob.r6)).2.2.2; have hsct := (kcl hst 6).trans (show _ = some (.slice A6 n6 c6) from rfl); have hsft := kfz hst 6; clear hn1 ho hg hat hst))
                  go_wp2
                  go_roundw
                  case rel => exact ⟨j + 1, x3, x4, x5 ++ [s], x6 ++ [x], A3, A4, A1s, A1t, n3, c3, n4, c4, n1s, c1s, n1t, c1t, by go_num, by omega, ⟨(HNt.out.more (by omega)).mono (by omega)⟩⟩
                  case measure => simp [intOf]; omega
              · have hc4' := HJ.out.old hc4 (by simp; omega)
                have hd0 := (HJ.out.cell 0).trans (show _ = some (.int .i64 6) from rfl)
                have hd1 := (HJ.out.cell 1).trans (show _ = some (.string ⟨#[]⟩) from rfl)
                have hd2 := (HJ.out.cell 2).trans (show _ = some (.int .i64 0) from rfl)
                have hd3 := (HJ.out.cell 3).trans (show _ = some (.slice A3 n3 c3) from rfl)
                have hd4 := (HJ.out.cell 4).trans (show _ = some (.slice A4 n4 c4) from rfl)
                have hd5 := (HJ.out.cell 5).trans (show _ = some (.slice A5 n5 c5) from rfl)
                have hd6 := (HJ.out.cell 6).trans (show _ = some (.slice A6 n6 c6) from rfl)
                have hf2 := HJ.out.free 2
                have hgc1 := HJ.out.kp.blk hgc (by omega) (by simp)
                have g0 := HJ.out.old e0 (by simp; omega)
                have f0 := kfz hgc1 (m * 7)
                have g1 := HJ.out.old e1 (by simp; omega)
                have f1 := kfz hgc1 (m * 7 + 1)
                have g2 := HJ.out.old e2 (by simp; omega)
                have f2 := kfz hgc1 (m * 7 + 2)
                have g3 := HJ.out.old e3 (by simp; omega)
                have f3 := kfz hgc1 (m * 7 + 3)
                have g4 := HJ.out.old e4 (by simp; omega)
                have f4 := kfz hgc1 (m * 7 + 4)
                have g5 := HJ.out.old e5 (by simp; omega)
                have f5 := kfz hgc1 (m * 7 + 5)
                have g6 := HJ.out.old e6 (by simp; omega)
                have f6 := kfz hgc1 (m * 7 + 6)
                have HGC := Lib.hid hgc1
                clear hgc1
                have hw := blk_lt HJ.out.c9
                go_wp2_with fail
                refine (pick_w g 13 (100 * m + 1 + 30 * j) w0 _ HJ.out.rn HJ.out.bl (by omega) (by omega)).mono ?_
                rintro e w7 ⟨pp, rfl, hp0, hp13, hR7, hB7, hK7⟩
                have HK := Aside0.mk (HJ.out.call hR7 hB7 hK7)
                clear HJ hR7 hB7 hK7 hd0 hd1 hd2 hd3 hd4 hd5 hd6 hf2 g0 g1 g2 g3 g4 g5 g6 f0 f1 f2 f3 f4 f5 f6 HGC hc4'
                have HS := Aside0.mk (In.set HK.out.rn HK.out.bl HK.out.kp HK.out.gi HK.out.rn.ge HK.out.c9 2 (.int .i64 pp) rfl)
                have HO := Aside0.mk ((HK.out.ob.kind pp).far (p := ⟨wo.heap.size, 2, none⟩) (Nat.le_refl _) (.int .i64 pp))
                have hs2 := (HK.out.cell 2).trans (show _ = some (.int .i64 0) from rfl)
                have hf2 := HK.out.free 2
                have hd0 := (kcl HS.out.2.2.2 0).trans (show _ = some (.int .i64 6) from rfl)
                have hd1 := (kcl HS.out.2.2.2 1).trans (show _ = some (.string ⟨#[]⟩) from rfl)
                have hd2 := (kcl HS.out.2.2.2 2).trans (show _ = some (.int .i64 pp) from rfl)
                have hd3 := (kcl HS.out.2.2.2 3).trans (show _ = some (.slice A3 n3 c3) from rfl)
                have hd4 := (kcl HS.out.2.2.2 4).trans (show _ = some (.slice A4 n4 c4) from rfl)
                have hd5 := (kcl HS.out.2.2.2 5).trans (show _ = some (.slice A5 n5 c5) from rfl)
                have hd6 := (kcl HS.out.2.2.2 6).trans (show _ = some (.slice A6 n6 c6) from rfl)
                have hc4' := keep_cell HS.out.2.2.1 hc4 (by simp; omega)
                have g0 := keep_cell HS.out.2.2.1 e0 (by simp; omega)
                have f0 := kfz (HS.out.2.2.1.blk hgc (by omega) (by simp)) (m * 7)
                have g1 := keep_cell HS.out.2.2.1 e1 (by simp; omega)
                have f1 := kfz (HS.out.2.2.1.blk hgc (by omega) (by simp)) (m * 7 + 1)
                have g2 := keep_cell HS.out.2.2.1 e2 (by simp; omega)
                have f2 := kfz (HS.out.2.2.1.blk hgc (by omega) (by simp)) (m * 7 + 2)
                have g3 := keep_cell HS.out.2.2.1 e3 (by simp; omega)
                have f3 := kfz (HS.out.2.2.1.blk hgc (by omega) (by simp)) (m * 7 + 3)
                have g4 := keep_cell HS.out.2.2.1 e4 (by simp; omega)
                have f4 := kfz (HS.out.2.2.1.blk hgc (by omega) (by simp)) (m * 7 + 4)
                have g5 := keep_cell HS.out.2.2.1 e5 (by simp; omega)
                have f5 := kfz (HS.out.2.2.1.blk hgc (by omega) (by simp)) (m * 7 + 5)
                have g6 := keep_cell HS.out.2.2.1 e6 (by simp; omega)
                have f6 := kfz (HS.out.2.2.1.blk hgc (by omega) (by simp)) (m * 7 + 6)
                have hw := blk_lt HS.out.2.2.2
                go_wp2_with fail
                go_roundw
                case rel => exact ⟨m + 1, l.set m ⟨6, ⟨#[]⟩, pp, x3, x4, x5, x6⟩, some ⟨gb, 0, none⟩, n, c, by go_num, ⟨((HQ.out.1.round hm hgb hgb1 hgb4 HS.out.1 HS.out.2.1 HS.out.2.2.1 HO.out).mono (by omega)), HQ.out.2.1.next hm (oG_oB HK.out.gd (by omega)), by simpa using HN.out⟩⟩
                case measure => simp [intOf]; omega
          by_cases hq2 : q = 2
          · subst hq2
            go_wp2_with fail
            have HI := Aside0.mk (in_start HQ.out.1 2)
            refine (pick_w g 4 (100 * m) w0 _ HI.out.rn HI.out.bl (by omega) (by omega)).mono ?_
            rintro e w3 ⟨kk, rfl, hk0, hk4, hR3, hB3, hK3⟩
            replace hk4 := hk4 (by decide)
            have HJ := Aside0.mk (HI.out.call hR3 hB3 hK3)
            clear HI hR3 hB3 hK3
            go_wp2_with fail
            go_loopw [11] (fun i w' => ∃ (j : Nat) (x3 x4 : List S35) (x5 : List ByteArray) (x6 : List S35) (A3 A4 A5 A6 : Option Addr) (n3 c3 n4 c4 n5 c5 n6 c6 : Nat), i = .int .i64 j ∧ (j : Int) ≤ kk ∧ Aside0 (In w0 wo w' g (100 * m + 1 + 30 * j) 2 (2 * j) x3 x4 x5 x6 (.slice A3 n3 c3) (.slice A4 n4 c4) (.slice A5 n5 c5) (.slice A6 n6 c6))) (fun i _ => (kk - intOf i).toNat)
            case atStart => exact ⟨0, [], [], [], [], none, none, none, none, 0, 0, 0, 0, 0, 0, 0, 0, rfl, hk0, ⟨HJ.out.mono (by simp)⟩⟩
            case round =>
              clear HJ
              obtain ⟨j, x3, x4, x5, x6, A3, A4, A5, A6, n3, c3, n4, c4, n5, c5, n6, c6, rfl, hjk, HJ⟩ := hrel
              by_cases hj : (j : Int) < kk
              · have hc4' := HJ.out.old hc4 (by simp; omega)
                go_wp2_with fail
                refine (value_w g n (100 * m + 1 + 30 * j) w0 _ HJ.out.rn HJ.out.bl (by omega) (by omega) (by omega)).mono ?_
                rintro e w5 ⟨x, rfl, hx, hR5, hB5, hK5⟩
                have HK := Aside0.mk (HJ.out.call hR5 hB5 hK5)
                clear HJ hc4' hR5 hB5 hK5
                have hd0 := (HK.out.cell 0).trans (show _ = some (.int .i64 2) from rfl)
                have HK2 := Aside0.mk (HK.out.alloc (.cells #[.int .i64 x.f0, .string x.f1, .int .i64 x.f2] 35))
                have hlt := blk_lt HK.out.c9
                have HR4 := Aside0.mk (Kd.R_lt HK.out.ob.r4)
                clear HK
                have hbx := blk_new w5 (.cells #[.int .i64 x.f0, .string x.f1, .int .i64 x.f2] 35)
                have HBX := Aside0.mk hbx
                clear hbx
                go_wp2_with fail
                refine (value_w g 0 (100 * m + 11 + 30 * j) w0 _ (HK2.out.rn.mono (by omega)) HK2.out.bl (by omega) (by omega) (by omega)).mono ?_
                rintro e w6 ⟨y, rfl, hy, hR6, hB6, hK6⟩
                have HKb := Aside0.mk (HK2.out.call hR6 hB6 hK6)
                have hbx6 := hK6.blk HBX.out (by have := HK2.out.gi; omega) (by simp)
                clear HBX
                have HBX := Aside0.mk hbx6
                clear hbx6 HK2 hR6 hB6 hK6 hd0
                have hlt6 := blk_lt HKb.out.c9
                have hbl6 := blk_lt HBX.out
                have hd4 := (HKb.out.cell 4).trans (show _ = some (.slice A4 n4 c4) from rfl)
                have HKc := Aside0.mk (HKb.out.alloc (.cells #[.int .i64 y.f0, .string y.f1, .int .i64 y.f2] 35))
                have HC4 := Aside0.mk (show Kd.C k35 (w6.alloc (.cells #[.int .i64 y.f0, .string y.f1, .int .i64 y.f2] 35)) A4 n4 x4 from R_C HKc.out.ob.r4)
                go_wp2_with fail
                refine (keyAt_w A4 n4 c4 x4 y _ HC4.out HKc.out.gd.2.2.2.2.2.2.1).mono ?_
                rintro e w7 ⟨r7, rfl, hb7⟩
                have HKd := Aside0.mk (HKc.out.below hb7)
                have hbx7 := kbw (kla HBX.out _) hb7
                have hby7 := kbw (blk_new w6 (.cells #[.int .i64 y.f0, .string y.f1, .int .i64 y.f2] 35)) hb7
                clear HBX HKb HKc HC4 hd4
                have HBX := Aside0.mk hbx7
                have hy0 := (kcl hby7 0).trans (show _ = some (.int .i64 y.f0) from rfl)
                have hy1 := (kcl hby7 1).trans (show _ = some (.string y.f1) from rfl)
                have hy2 := (kcl hby7 2).trans (show _ = some (.int .i64 y.f2) from rfl)
                clear hbx7 hby7 hb7
                have hd4 := (HKd.out.cell 4).trans (show _ = some (.slice A4 n4 c4) from rfl)
                have hlt7 := blk_lt HKd.out.c9
                by_cases hr7 : r7 < 0
                · go_wp2_with (first | ((with_reducible refine gate_builtin (b := .append) (xs := #[.tmp 78, .tmp 80]) rfl ?_); at_builtin; refine Kd.R_append k35 (w0 := _) (wo.heap.size + 1) rfl (.tmp 78) (.tmp 80) 26 35 (.agg #[(.int .i64 0), (.string ⟨#[]⟩), (.int .i64 0)]) 32 rfl Try.underlying26 info35 rfl (by decide) (by omega) (.slice A4 n4 c4) x4 y [.int .i64 y.f0, .string y.f1, .int .i64 y.f2] (fun _ => True) (fun _ => False) rfl (by first | rfl | (rw [size_alloc]; rfl) | (rw [size_set]; rfl)) ?aPk (fun _ hk => hk.elim) (fun _ _ => trivial) ?aOk (Below.refl _ _) ?aSk ?aLk ?_; (case aPk => exact k35_mkM _ _ _ y); (case aOk => exact HKd.out.ob.r4); (case aSk => have := blk_lt HKd.out.c9; omega); (case aLk => have hgd := HKd.out.gd; unfold oG at hgd; simp only at hgd; omega); intro v1 w6k ho _ hg hat; obtain ⟨A1k, c1k, rfl⟩ := Kd.R_slice ho; obtain ⟨n1k, hn1⟩ : ∃ n1, n1 = (x4 ++ [y]).length := ⟨_, rfl⟩; rw [← hn1] at ho hat ⊢; have HNk := Aside0.mk (HKd.out.app4 hy ho hg hat); have hsk : w6k.heap[wo.heap.size]? = _ := (HKd.out.grown hg (Kd.R_base HKd.out.ob.r4)).2.2.2; have hsck := (kcl hsk 4).trans (show _ = some (.slice A4 n4 c4) from rfl); have hsfk := kfz hsk 4; have HBX2 := Aside0.mk (blk_far (p := ⟨wo.heap.size, 4, none⟩) (kgr HBX.out hg (fun e => by have := HR4.out _ e.symm; omega)) (by simp; omega) (.slice A1k n1k c1k)); have hb0s := (kcl HBX2.out 0).trans (show _ = some (.int .i64 x.f0) from rfl); have hb1s := (kcl HBX2.out 1).trans (show _ = some (.string x.f1) from rfl); have hb2s := (kcl HBX2.out 2).trans (show _ = some (.int .i64 x.f2) from rfl); have hd3s := (HNk.out.cell 3).trans (show _ = some (.slice A3 n3 c3) from rfl); clear hn1 ho hg hat hsk) | ((with_reducible refine gate_builtin (b := .append) (xs := #[.tmp 84, .tmp 86]) rfl ?_); at_builtin; refine Kd.R_append k35 (w0 := _) (wo.heap.size + 1) rfl (.tmp 84) (.tmp 86) 26 35 (.agg #[(.int .i64 0), (.string ⟨#[]⟩), (.int .i64 0)]) 32 rfl Try.underlying26 info35 rfl (by decide) (by omega) (.slice A3 n3 c3) x3 x [.int .i64 x.f0, .string x.f1, .int .i64 x.f2] (fun _ => True) (fun _ => False) rfl (by first | rfl | (rw [size_alloc]; rfl) | (rw [size_set]; rfl)) ?aPl (fun _ hk => hk.elim) (fun _ _ => trivial) ?aOl (Below.refl _ _) ?aSl ?aLl ?_; (case aPl => exact k35_mkM _ _ _ x); (case aOl => exact HNk.out.ob.r3); (case aSl => have := blk_lt HNk.out.c9; omega); (case aLl => have hgd := HNk.out.gd; unfold oG at hgd; simp only at hgd; omega); intro v1 w6l ho _ hg hat; obtain ⟨A1l, c1l, rfl⟩ := Kd.R_slice ho; obtain ⟨n1l, hn1⟩ : ∃ n1, n1 = (x3 ++ [x]).length := ⟨_, rfl⟩; rw [← hn1] at ho hat ⊢; have HNl := Aside0.mk (HNk.out.app3 hx ho hg hat); have hsl : w6l.heap[wo.heap.size]? = _ := (HNk.out.grown hg (Kd.R_base HNk.out.ob.r3)).2.2.2; have hscl := (kcl hsl 3).trans (show _ = some (.slice A3 n3 c3) from rfl); have hsfl := kfz hsl 3; clear hn1 ho hg hat hsl))
                  go_wp2
                  go_roundw
                  case rel => exact ⟨j + 1, x3 ++ [x], x4 ++ [y], x5, x6, A1l, A1k, A5, A6, n1l, c1l, n1k, c1k, n5, c5, n6, c6, by go_num, by omega, ⟨(HNl.out.more (by omega)).mono (by omega)⟩⟩
                  case measure => simp [intOf]; omega
                · go_wp2
                  go_roundw
                  case rel => exact ⟨j + 1, x3, x4, x5, x6, A3, A4, A5, A6, n3, c3, n4, c4, n5, c5, n6, c6, by go_num, by omega, ⟨(HKd.out.more (by omega)).mono (by omega)⟩⟩
                  case measure => simp [intOf]; omega
              · have hc4' := HJ.out.old hc4 (by simp; omega)
                have hd0 := (HJ.out.cell 0).trans (show _ = some (.int .i64 2) from rfl)
                have hd1 := (HJ.out.cell 1).trans (show _ = some (.string ⟨#[]⟩) from rfl)
                have hd2 := (HJ.out.cell 2).trans (show _ = some (.int .i64 0) from rfl)
                have hd3 := (HJ.out.cell 3).trans (show _ = some (.slice A3 n3 c3) from rfl)
                have hd4 := (HJ.out.cell 4).trans (show _ = some (.slice A4 n4 c4) from rfl)
                have hd5 := (HJ.out.cell 5).trans (show _ = some (.slice A5 n5 c5) from rfl)
                have hd6 := (HJ.out.cell 6).trans (show _ = some (.slice A6 n6 c6) from rfl)
                have hgc1 := HJ.out.kp.blk hgc (by omega) (by simp)
                have g0 := HJ.out.old e0 (by simp; omega)
                have f0 := kfz hgc1 (m * 7)
                have g1 := HJ.out.old e1 (by simp; omega)
                have f1 := kfz hgc1 (m * 7 + 1)
                have g2 := HJ.out.old e2 (by simp; omega)
                have f2 := kfz hgc1 (m * 7 + 2)
                have g3 := HJ.out.old e3 (by simp; omega)
                have f3 := kfz hgc1 (m * 7 + 3)
                have g4 := HJ.out.old e4 (by simp; omega)
                have f4 := kfz hgc1 (m * 7 + 4)
                have g5 := HJ.out.old e5 (by simp; omega)
                have f5 := kfz hgc1 (m * 7 + 5)
                have g6 := HJ.out.old e6 (by simp; omega)
                have f6 := kfz hgc1 (m * 7 + 6)
                have HGC := Lib.hid hgc1
                clear hgc1
                have hw := blk_lt HJ.out.c9
                go_wp2_with fail
                go_roundw
                case rel => exact ⟨m + 1, l.set m ⟨2, ⟨#[]⟩, 0, x3, x4, x5, x6⟩, some ⟨gb, 0, none⟩, n, c, by go_num, ⟨((HQ.out.1.round hm hgb hgb1 hgb4 HJ.out.rn HJ.out.bl HJ.out.kp HJ.out.ob).mono (by omega)), HQ.out.2.1.next hm (oG_oB HJ.out.gd (by omega)), by simpa using HN.out⟩⟩
                case measure => simp [intOf]; omega
          have gq2 : (q == 2) = false := by simpa using hq2
          have gq6 : (q == 6) = false := by simpa using hq6
          have gq4 : (q == 4) = false := by simpa using hq4
          have gq7 : (q == 7) = false := by simpa using hq7
          clear hq2 hq4 hq6 hq7
          go_wp2_with fail
          have HI := Aside0.mk (in_start HQ.out.1 q)
          refine (pick_w g 4 (100 * m) w0 _ HI.out.rn HI.out.bl (by omega) (by omega)).mono ?_
          rintro e w3 ⟨kk, rfl, hk0, hk4, hR3, hB3, hK3⟩
          replace hk4 := hk4 (by decide)
          have HJ := Aside0.mk (HI.out.call hR3 hB3 hK3)
          clear HI hR3 hB3 hK3
          go_wp2_with fail
          go_loopw [11] (fun i w' => ∃ (j : Nat) (x3 x4 : List S35) (x5 : List ByteArray) (x6 : List S35) (A3 A4 A5 A6 : Option Addr) (n3 c3 n4 c4 n5 c5 n6 c6 : Nat), i = .int .i64 j ∧ (j : Int) ≤ kk ∧ Aside0 (In w0 wo w' g (100 * m + 1 + 30 * j) q (2 * j) x3 x4 x5 x6 (.slice A3 n3 c3) (.slice A4 n4 c4) (.slice A5 n5 c5) (.slice A6 n6 c6))) (fun i _ => (kk - intOf i).toNat)
          case atStart => exact ⟨0, [], [], [], [], none, none, none, none, 0, 0, 0, 0, 0, 0, 0, 0, rfl, hk0, ⟨HJ.out.mono (by simp)⟩⟩
          case round =>
            clear HJ
            obtain ⟨j, x3, x4, x5, x6, A3, A4, A5, A6, n3, c3, n4, c4, n5, c5, n6, c6, rfl, hjk, HJ⟩ := hrel
            by_cases hj : (j : Int) < kk
            · have hc4' := HJ.out.old hc4 (by simp; omega)
              go_wp2_with fail
              refine (value_w g n (100 * m + 1 + 30 * j) w0 _ HJ.out.rn HJ.out.bl (by omega) (by omega) (by omega)).mono ?_
              rintro e w5 ⟨x, rfl, hx, hR5, hB5, hK5⟩
              have HK := Aside0.mk (HJ.out.call hR5 hB5 hK5)
              clear HJ hc4' hR5 hB5 hK5
              have hd0 := (HK.out.cell 0).trans (show _ = some (.int .i64 q) from rfl)
              have hd3 := (HK.out.cell 3).trans (show _ = some (.slice A3 n3 c3) from rfl)
              have HK2 := Aside0.mk (HK.out.alloc (.cells #[.int .i64 x.f0, .string x.f1, .int .i64 x.f2] 35))
              have hlt := blk_lt HK.out.c9
              go_wp2_with (first | ((with_reducible refine gate_builtin (b := .append) (xs := #[.tmp 63, .tmp 65]) rfl ?_); at_builtin; refine Kd.R_append k35 (w0 := _) (wo.heap.size + 1) rfl (.tmp 63) (.tmp 65) 26 35 (.agg #[(.int .i64 0), (.string ⟨#[]⟩), (.int .i64 0)]) 32 rfl Try.underlying26 info35 rfl (by decide) (by omega) (.slice A3 n3 c3) x3 x [.int .i64 x.f0, .string x.f1, .int .i64 x.f2] (fun _ => True) (fun _ => False) rfl (by first | rfl | (rw [size_alloc]; rfl) | (rw [size_set]; rfl)) ?aPo (fun _ hk => hk.elim) (fun _ _ => trivial) ?aOo (Below.refl _ _) ?aSo ?aLo ?_; (case aPo => exact k35_mkM _ _ _ x); (case aOo => exact HK2.out.ob.r3); (case aSo => have := blk_lt HK2.out.c9; omega); (case aLo => have hgd := HK2.out.gd; unfold oG at hgd; simp only at hgd; omega); intro v1 w6o ho _ hg hat; obtain ⟨A1o, c1o, rfl⟩ := Kd.R_slice ho; obtain ⟨n1o, hn1⟩ : ∃ n1, n1 = (x3 ++ [x]).length := ⟨_, rfl⟩; rw [← hn1] at ho hat ⊢; have HNo := Aside0.mk (HK2.out.app3 hx ho hg hat); have hso : w6o.heap[wo.heap.size]? = _ := (HK2.out.grown hg (Kd.R_base HK2.out.ob.r3)).2.2.2; have hsco := (kcl hso 3).trans (show _ = some (.slice A3 n3 c3) from rfl); have hsfo := kfz hso 3; clear hn1 ho hg hat hso))
              go_wp2
              go_roundw
              case rel => exact ⟨j + 1, x3 ++ [x], x4, x5, x6, A1o, A4, A5, A6, n1o, c1o, n4, c4, n5, c5, n6, c6, by go_num, by omega, ⟨(HNo.out.more (by omega)).mono (by omega)⟩⟩
              case measure => simp [intOf]; omega
            · have hc4' := HJ.out.old hc4 (by simp; omega)
              have hd0 := (HJ.out.cell 0).trans (show _ = some (.int .i64 q) from rfl)
              have hd1 := (HJ.out.cell 1).trans (show _ = some (.string ⟨#[]⟩) from rfl)
              have hd2 := (HJ.out.cell 2).trans (show _ = some (.int .i64 0) from rfl)
              have hd3 := (HJ.out.cell 3).trans (show _ = some (.slice A3 n3 c3) from rfl)
              have hd4 := (HJ.out.cell 4).trans (show _ = some (.slice A4 n4 c4) from rfl)
              have hd5 := (HJ.out.cell 5).trans (show _ = some (.slice A5 n5 c5) from rfl)
              have hd6 := (HJ.out.cell 6).trans (show _ = some (.slice A6 n6 c6) from rfl)
              have hgc1 := HJ.out.kp.blk hgc (by omega) (by simp)
              have g0 := HJ.out.old e0 (by simp; omega)
              have f0 := kfz hgc1 (m * 7)
              have g1 := HJ.out.old e1 (by simp; omega)
              have f1 := kfz hgc1 (m * 7 + 1)
              have g2 := HJ.out.old e2 (by simp; omega)
              have f2 := kfz hgc1 (m * 7 + 2)
              have g3 := HJ.out.old e3 (by simp; omega)
              have f3 := kfz hgc1 (m * 7 + 3)
              have g4 := HJ.out.old e4 (by simp; omega)
              have f4 := kfz hgc1 (m * 7 + 4)
              have g5 := HJ.out.old e5 (by simp; omega)
              have f5 := kfz hgc1 (m * 7 + 5)
              have g6 := HJ.out.old e6 (by simp; omega)
              have f6 := kfz hgc1 (m * 7 + 6)
              have HGC := Lib.hid hgc1
              clear hgc1
              have hw := blk_lt HJ.out.c9
              go_wp2_with fail
              go_roundw
              case rel => exact ⟨m + 1, l.set m ⟨q, ⟨#[]⟩, 0, x3, x4, x5, x6⟩, some ⟨gb, 0, none⟩, n, c, by go_num, ⟨((HQ.out.1.round hm hgb hgb1 hgb4 HJ.out.rn HJ.out.bl HJ.out.kp HJ.out.ob).mono (by omega)), HQ.out.2.1.next hm (oG_oB HJ.out.gd (by omega)), by simpa using HN.out⟩⟩
              case measure => simp [intOf]; omega
        · have HT := Aside0.mk ((HQ.out.1.tail HQ.out.2.1).mono (show 100 * (m : Int) ≤ 3000 by have := HQ.out.2.1.ml; have := HQ.out.2.1.hi; omega))
          have hmn : ¬ (m : Int) < (n : Int) := by have := HQ.out.2.2; omega
          obtain ⟨gb, rfl, hn', hnc, hgb, hgb4⟩ := HT.out.row
          have hn24 : n ≤ 24 := by have := HT.out.hi; omega
          have hn19 : 19 ≤ n := by have := HT.out.lo; omega
          clear hn' HQ hm
          have hc4 := HT.out.cell
          go_wp2_with fail
          refine (pick_w g 14 3000 w0 _ HT.out.rn HT.out.bl (by omega) (by omega)).mono ?_
          rintro e w3 ⟨p, rfl, _, _, hR3, hB3, hK3⟩
          have HT1 := Aside0.mk (HT.out.call hR3 hB3 hK3)
          clear hR3 hB3 hK3 hc4 HT
          by_cases hp : p = 0
          · subst hp
            go_wp2_with fail
            have hpda := (HT1.out.mono (show _ ≤ (3001 : Int) by omega)).drew
            refine start_ (n := 12) (S := fun w' => w'.cell? ⟨b4, 0, none⟩ = some (.slice (some ⟨gb, 0, none⟩) n c)) (ds := [11]) #[false, false, false, false, false, false, false, false, false, false, false, false] (by kernel_rfl) rfl rfl (hpda.cell) (fun hHeld => ?_)
            generalize w3.drew = w10a at hpda hHeld ⊢
            refine pure_ (i := 0) (N := some 136) (v := ?_) (a' := ?_) #[true, false, false, false, false, false, false, false, false, false, false, false] rfl rfl (by kernel_rfl) (fun _ _ _ h => h) (Or.inl ⟨by rfl, ?_⟩) ?_ ?_
            rotate_left
            · intro w'
              go_simp
              with_reducible rfl
            rotate_left
            · simp only [Act.put, List.setIfInBounds_toArray, List.set_cons_zero, List.set_cons_succ, i64_w, i32_w]
              rfl
            refine pure_ (i := 2) (N := some 138) (v := ?_) (a' := ?_) #[true, false, true, false, false, false, false, false, false, false, false, false] rfl rfl (by kernel_rfl) (fun _ _ _ h => h) (Or.inl ⟨by rfl, ?_⟩) ?_ ?_
            rotate_left
            · intro w'
              go_simp
              with_reducible rfl
            rotate_left
            · simp only [Act.put, List.setIfInBounds_toArray, List.set_cons_zero, List.set_cons_succ, i64_w, i32_w]
              rfl
            refine pure_ (i := 3) (N := some 139) (v := ?_) (a' := ?_) #[true, false, true, true, false, false, false, false, false, false, false, false] rfl rfl (by kernel_rfl) (fun _ _ _ h => h) (Or.inl ⟨by rfl, ?_⟩) ?_ ?_
            rotate_left
            · intro w'
              go_simp
              with_reducible rfl
            rotate_left
            · simp only [Act.put, List.setIfInBounds_toArray, List.set_cons_zero, List.set_cons_succ, i64_w, i32_w]
              rfl
            refine pure_ (i := 7) (N := some 143) (v := ?_) (a' := ?_) #[true, false, true, true, false, false, false, true, false, false, false, false] rfl rfl (by kernel_rfl) (fun _ _ _ h => h) (Or.inl ⟨by rfl, ?_⟩) ?_ ?_
            rotate_left
            · intro w'
              go_simp
              with_reducible rfl
            rotate_left
            · simp only [Act.put, List.setIfInBounds_toArray, List.set_cons_zero, List.set_cons_succ, i64_w, i32_w]
              rfl
            refine take_ (i := 1) (N := some 137) (v := ?_) (a' := ?_) #[true, true, true, true, false, false, false, true, false, false, false, false] rfl rfl (by kernel_rfl) (fun _ _ _ h => h) (Or.inl ⟨by rfl, ?_⟩) hHeld ?_ ?_
            rotate_left
            · intro w' s0
              go_simp
              with_reducible rfl
            rotate_left
            · simp only [Act.put, List.setIfInBounds_toArray, List.set_cons_zero, List.set_cons_succ, i64_w, i32_w]
              rfl
            refine take_ (i := 4) (N := some 140) (v := ?_) (a' := ?_) #[true, true, true, true, true, false, false, true, false, false, false, false] rfl rfl (by kernel_rfl) (fun _ _ _ h => h) (Or.inl ⟨by rfl, ?_⟩) hHeld ?_ ?_
            rotate_left
            · intro w' s0
              go_simp
              with_reducible rfl
            rotate_left
            · simp only [Act.put, List.setIfInBounds_toArray, List.set_cons_zero, List.set_cons_succ, i64_w, i32_w]
              rfl
            refine pure_ (i := 5) (N := some 141) (v := ?_) (a' := ?_) #[true, true, true, true, true, true, false, true, false, false, false, false] rfl rfl (by kernel_rfl) (fun _ _ _ h => h) (Or.inl ⟨by rfl, ?_⟩) ?_ ?_
            rotate_left
            · intro w'
              go_simp
              with_reducible rfl
            rotate_left
            · simp only [Act.put, List.setIfInBounds_toArray, List.set_cons_zero, List.set_cons_succ, i64_w, i32_w]
              rfl
            refine one_ (i := 6) (N := some 142) #[true, true, true, true, true, true, true, true, false, false, false, false] rfl rfl (by kernel_rfl) (by decide) (fun K hK => ?_)
            refine goes_ Try.func51 (by kernel_rfl) rfl #[.pointer (some ⟨g, 0, none⟩), .int .i64 (n : Int)] (by rfl) rfl rfl (by simp only [List.map_toArray, List.map_cons, List.map_nil]; rfl) ?_
            with_reducible refine (pick_w g n 3001 w0 _ hpda.rn hpda.bl (by omega) (by omega)).mono ?_
            rintro e w11a ⟨i0, rfl, hi0, hi1, hR11, hB11, hK11⟩
            refine ⟨_, rfl, ?_⟩
            have hp6a := hpda.call hR11 hB11 hK11
            clear hR11 hB11 hK11
            obtain ⟨ia, rfl⟩ := Int.eq_ofNat_of_zero_le hi0
            have hina : (ia : Int) < (n : Int) := hi1 (by omega)
            have hi0a : (0 : Int) ≤ (ia : Int) := Int.natCast_nonneg _
            clear hi0 hi1
            refine hK.out _ _ (hp6a.cell) (fun hHeld => ?_)
            clear hK K
            refine norm_ (a' := ?_) ?_ ?_
            rotate_left
            · show Act.put _ (some 142) _ = _
              simp only [Act.put, List.setIfInBounds_toArray, List.set_cons_zero, List.set_cons_succ, i64_w, i32_w]
              rfl
            refine one_ (i := 8) (N := some 144) #[true, true, true, true, true, true, true, true, true, false, false, false] rfl rfl (by kernel_rfl) (by decide) (fun K hK => ?_)
            refine goes_ Try.func92 (by kernel_rfl) rfl #[.pointer (some ⟨g, 0, none⟩)] (by rfl) rfl rfl (by simp only [List.map_toArray, List.map_cons, List.map_nil]; rfl) ?_
            with_reducible refine (odd_w g 3002 w0 _ hp6a.rn hp6a.bl (by omega)).mono ?_
            rintro e w12a ⟨ra, rfl, _, _, hR12, hB12, hK12⟩
            refine ⟨_, rfl, ?_⟩
            have hp8a := hp6a.call hR12 hB12 hK12
            clear hR12 hB12 hK12
            obtain ⟨_, ⟨u2a, hu2a⟩, _, hfza, _, hset⟩ := hp8a.elem hgb hgb4 ia (by omega)
            obtain ⟨l2a, hl2⟩ := hset ra
            have HTa := Aside0.mk hl2
            clear hset hl2
            refine hK.out _ _ (hp8a.cell) (fun hHeld => ?_)
            clear hK K
            refine norm_ (a' := ?_) ?_ ?_
            rotate_left
            · show Act.put _ (some 144) _ = _
              simp only [Act.put, List.setIfInBounds_toArray, List.set_cons_zero, List.set_cons_succ, i64_w, i32_w]
              rfl
            refine pure_ (i := 9) (N := some 145) (v := ?_) (a' := ?_) #[true, true, true, true, true, true, true, true, true, true, false, false] rfl rfl (by kernel_rfl) (fun _ _ _ h => h) (Or.inl ⟨by rfl, ?_⟩) ?_ ?_
            rotate_left
            · intro w'
              go_simp
              with_reducible rfl
            rotate_left
            · simp only [Act.put, List.setIfInBounds_toArray, List.set_cons_zero, List.set_cons_succ, i64_w, i32_w]
              rfl
            refine pure_ (i := 10) (N := some 146) (v := ?_) (a' := ?_) #[true, true, true, true, true, true, true, true, true, true, true, false] rfl rfl (by kernel_rfl) (fun _ _ _ h => h) (Or.inl ⟨by rfl, ?_⟩) ?_ ?_
            rotate_left
            · intro w'
              go_simp
              with_reducible rfl
            rotate_left
            · simp only [Act.put, List.setIfInBounds_toArray, List.set_cons_zero, List.set_cons_succ, i64_w, i32_w]
              rfl
            refine last_ (i := 11) (N := none) #[true, true, true, true, true, true, true, true, true, true, true, true] rfl rfl (by kernel_rfl) (by decide) (fun K hK => ?_)
            refine skip_ (w1 := ?_) (by rfl) rfl ?_ ?_
            rotate_left
            · go_simp
              rfl
            refine hK.out _ _ ?_
            clear hK K
            refine done_ (by kernel_rfl) ?_
            go_wp2_with fail
            refine (pick_w g 14 3010 w0 _ (HTa.out.rn.mono (by omega)) HTa.out.bl (by omega) (by omega)).mono ?_
            rintro e w4b ⟨p4b, rfl, _, _, hR4, hB4, hK4⟩
            have HTcb := Aside0.mk (HTa.out.call hR4 hB4 hK4)
            clear hR4 hB4 hK4
            by_cases hp4b : p4b = 0
            · subst hp4b
              go_wp2_with fail
              have hpdbk := (HTcb.out.mono (show _ ≤ (3011 : Int) by omega)).drew
              refine start_ (n := 14) (S := fun w' => w'.cell? ⟨b4, 0, none⟩ = some (.slice (some ⟨gb, 0, none⟩) n c)) (ds := [13]) #[false, false, false, false, false, false, false, false, false, false, false, false, false, false] (by kernel_rfl) rfl rfl (hpdbk.cell) (fun hHeld => ?_)
              generalize w4b.drew = w10bk at hpdbk hHeld ⊢
              refine pure_ (i := 0) (N := some 150) (v := ?_) (a' := ?_) #[true, false, false, false, false, false, false, false, false, false, false, false, false, false] rfl rfl (by kernel_rfl) (fun _ _ _ h => h) (Or.inl ⟨by rfl, ?_⟩) ?_ ?_
              rotate_left
              · intro w'
                go_simp
                with_reducible rfl
              rotate_left
              · simp only [Act.put, List.setIfInBounds_toArray, List.set_cons_zero, List.set_cons_succ, i64_w, i32_w]
                rfl
              refine pure_ (i := 2) (N := some 152) (v := ?_) (a' := ?_) #[true, false, true, false, false, false, false, false, false, false, false, false, false, false] rfl rfl (by kernel_rfl) (fun _ _ _ h => h) (Or.inl ⟨by rfl, ?_⟩) ?_ ?_
              rotate_left
              · intro w'
                go_simp
                with_reducible rfl
              rotate_left
              · simp only [Act.put, List.setIfInBounds_toArray, List.set_cons_zero, List.set_cons_succ, i64_w, i32_w]
                rfl
              refine pure_ (i := 3) (N := some 153) (v := ?_) (a' := ?_) #[true, false, true, true, false, false, false, false, false, false, false, false, false, false] rfl rfl (by kernel_rfl) (fun _ _ _ h => h) (Or.inl ⟨by rfl, ?_⟩) ?_ ?_
              rotate_left
              · intro w'
                go_simp
                with_reducible rfl
              rotate_left
              · simp only [Act.put, List.setIfInBounds_toArray, List.set_cons_zero, List.set_cons_succ, i64_w, i32_w]
                rfl
              refine pure_ (i := 7) (N := some 157) (v := ?_) (a' := ?_) #[true, false, true, true, false, false, false, true, false, false, false, false, false, false] rfl rfl (by kernel_rfl) (fun _ _ _ h => h) (Or.inl ⟨by rfl, ?_⟩) ?_ ?_
              rotate_left
              · intro w'
                go_simp
                with_reducible rfl
              rotate_left
              · simp only [Act.put, List.setIfInBounds_toArray, List.set_cons_zero, List.set_cons_succ, i64_w, i32_w]
                rfl
              refine pure_ (i := 8) (N := some 158) (v := ?_) (a' := ?_) #[true, false, true, true, false, false, false, true, true, false, false, false, false, false] rfl rfl (by kernel_rfl) (fun _ _ _ h => h) (Or.inl ⟨by rfl, ?_⟩) ?_ ?_
              rotate_left
              · intro w'
                go_simp
                with_reducible rfl
              rotate_left
              · simp only [Act.put, List.setIfInBounds_toArray, List.set_cons_zero, List.set_cons_succ, i64_w, i32_w]
                rfl
              refine take_ (i := 1) (N := some 151) (v := ?_) (a' := ?_) #[true, true, true, true, false, false, false, true, true, false, false, false, false, false] rfl rfl (by kernel_rfl) (fun _ _ _ h => h) (Or.inl ⟨by rfl, ?_⟩) hHeld ?_ ?_
              rotate_left
              · intro w' s0
                go_simp
                with_reducible rfl
              rotate_left
              · simp only [Act.put, List.setIfInBounds_toArray, List.set_cons_zero, List.set_cons_succ, i64_w, i32_w]
                rfl
              refine take_ (i := 4) (N := some 154) (v := ?_) (a' := ?_) #[true, true, true, true, true, false, false, true, true, false, false, false, false, false] rfl rfl (by kernel_rfl) (fun _ _ _ h => h) (Or.inl ⟨by rfl, ?_⟩) hHeld ?_ ?_
              rotate_left
              · intro w' s0
                go_simp
                with_reducible rfl
              rotate_left
              · simp only [Act.put, List.setIfInBounds_toArray, List.set_cons_zero, List.set_cons_succ, i64_w, i32_w]
                rfl
              refine pure_ (i := 5) (N := some 155) (v := ?_) (a' := ?_) #[true, true, true, true, true, true, false, true, true, false, false, false, false, false] rfl rfl (by kernel_rfl) (fun _ _ _ h => h) (Or.inl ⟨by rfl, ?_⟩) ?_ ?_
              rotate_left
              · intro w'
                go_simp
                with_reducible rfl
              rotate_left
              · simp only [Act.put, List.setIfInBounds_toArray, List.set_cons_zero, List.set_cons_succ, i64_w, i32_w]
                rfl
              refine one_ (i := 6) (N := some 156) #[true, true, true, true, true, true, true, true, true, false, false, false, false, false] rfl rfl (by kernel_rfl) (by decide) (fun K hK => ?_)
              refine goes_ Try.func51 (by kernel_rfl) rfl #[.pointer (some ⟨g, 0, none⟩), .int .i64 (n : Int)] (by rfl) rfl rfl (by simp only [List.map_toArray, List.map_cons, List.map_nil]; rfl) ?_
              with_reducible refine (pick_w g n 3011 w0 _ hpdbk.rn hpdbk.bl (by omega) (by omega)).mono ?_
              rintro e w11bk ⟨i0, rfl, hi0, hi1, hR11, hB11, hK11⟩
              refine ⟨_, rfl, ?_⟩
              have hp6bk := hpdbk.call hR11 hB11 hK11
              clear hR11 hB11 hK11
              obtain ⟨ibk, rfl⟩ := Int.eq_ofNat_of_zero_le hi0
              have hinbk : (ibk : Int) < (n : Int) := hi1 (by omega)
              have hi0bk : (0 : Int) ≤ (ibk : Int) := Int.natCast_nonneg _
              clear hi0 hi1
              refine hK.out _ _ (hp6bk.cell) (fun hHeld => ?_)
              clear hK K
              refine norm_ (a' := ?_) ?_ ?_
              rotate_left
              · show Act.put _ (some 156) _ = _
                simp only [Act.put, List.setIfInBounds_toArray, List.set_cons_zero, List.set_cons_succ, i64_w, i32_w]
                rfl
              refine one_ (i := 9) (N := some 159) #[true, true, true, true, true, true, true, true, true, true, false, false, false, false] rfl rfl (by kernel_rfl) (by decide) (fun K hK => ?_)
              refine goes_ Try.func51 (by kernel_rfl) rfl #[.pointer (some ⟨g, 0, none⟩), .int .i64 12] (by rfl) rfl rfl (by simp only [List.map_toArray, List.map_cons, List.map_nil]; rfl) ?_
              with_reducible refine (pick_w g 12 3012 w0 _ hp6bk.rn hp6bk.bl (by omega) (by omega)).mono ?_
              rintro e w13bk ⟨qbk, rfl, hq0, hq1, hR13, hB13, hK13⟩
              refine ⟨_, rfl, ?_⟩
              have hp9bk := hp6bk.call hR13 hB13 hK13
              clear hR13 hB13 hK13
              replace hq1 := hq1 (by decide)
              refine hK.out _ _ (hp9bk.cell) (fun hHeld => ?_)
              clear hK K
              refine norm_ (a' := ?_) ?_ ?_
              rotate_left
              · show Act.put _ (some 159) _ = _
                simp only [Act.put, List.setIfInBounds_toArray, List.set_cons_zero, List.set_cons_succ, i64_w, i32_w]
                rfl
              refine one_ (i := 10) (N := some 160) #[true, true, true, true, true, true, true, true, true, true, true, false, false, false] rfl rfl (by kernel_rfl) (by decide) (fun K hK => ?_)
              refine goes_ Try.func93 (by kernel_rfl) rfl #[.pointer (some ⟨g, 0, none⟩), .int .i64 qbk] (by rfl) rfl rfl (by simp only [List.map_toArray, List.map_cons, List.map_nil]; rfl) ?_
              with_reducible refine (often_w g qbk 3013 w0 _ hp9bk.rn hp9bk.bl (by omega) (by omega)).mono ?_
              rintro e w12bk ⟨rbk, rfl, _, _, hR12, hB12, hK12⟩
              refine ⟨_, rfl, ?_⟩
              have hp8bk := hp9bk.call hR12 hB12 hK12
              clear hR12 hB12 hK12 hq0 hq1
              obtain ⟨⟨u2bk, hu2bk⟩, _, hfzbk, _, hset, _⟩ := hp8bk.elem hgb hgb4 ibk (by omega)
              obtain ⟨l2bk, hl2⟩ := hset rbk
              have HTbk := Aside0.mk hl2
              clear hset hl2
              refine hK.out _ _ (hp8bk.cell) (fun hHeld => ?_)
              clear hK K
              refine norm_ (a' := ?_) ?_ ?_
              rotate_left
              · show Act.put _ (some 160) _ = _
                simp only [Act.put, List.setIfInBounds_toArray, List.set_cons_zero, List.set_cons_succ, i64_w, i32_w]
                rfl
              refine pure_ (i := 11) (N := some 161) (v := ?_) (a' := ?_) #[true, true, true, true, true, true, true, true, true, true, true, true, false, false] rfl rfl (by kernel_rfl) (fun _ _ _ h => h) (Or.inl ⟨by rfl, ?_⟩) ?_ ?_
              rotate_left
              · intro w'
                go_simp
                with_reducible rfl
              rotate_left
              · simp only [Act.put, List.setIfInBounds_toArray, List.set_cons_zero, List.set_cons_succ, i64_w, i32_w]
                rfl
              refine pure_ (i := 12) (N := some 162) (v := ?_) (a' := ?_) #[true, true, true, true, true, true, true, true, true, true, true, true, true, false] rfl rfl (by kernel_rfl) (fun _ _ _ h => h) (Or.inl ⟨by rfl, ?_⟩) ?_ ?_
              rotate_left
              · intro w'
                go_simp
                with_reducible rfl
              rotate_left
              · simp only [Act.put, List.setIfInBounds_toArray, List.set_cons_zero, List.set_cons_succ, i64_w, i32_w]
                rfl
              refine last_ (i := 13) (N := none) #[true, true, true, true, true, true, true, true, true, true, true, true, true, true] rfl rfl (by kernel_rfl) (by decide) (fun K hK => ?_)
              refine skip_ (w1 := ?_) (by rfl) rfl ?_ ?_
              rotate_left
              · go_simp
                rfl
              refine hK.out _ _ ?_
              clear hK K
              refine done_ (by kernel_rfl) ?_
              go_wp2_with fail
              have hpdbkz := (HTbk.out.mono (show _ ≤ (3015 : Int) by omega)).drew
              refine start_ (n := 8) (S := fun w' => w'.cell? ⟨b4, 0, none⟩ = some (.slice (some ⟨gb, 0, none⟩) n c)) (ds := [7]) #[false, false, false, false, false, false, false, false] (by kernel_rfl) rfl rfl (hpdbkz.cell) (fun hHeld => ?_)
              generalize (w12bk.setCell ⟨gb, ibk * 7, none⟩ (.int .i64 rbk)).drew = w10bkz at hpdbkz hHeld ⊢
              refine pure_ (i := 1) (N := some 164) (v := ?_) (a' := ?_) #[false, true, false, false, false, false, false, false] rfl rfl (by kernel_rfl) (fun _ _ _ h => h) (Or.inl ⟨by rfl, ?_⟩) ?_ ?_
              rotate_left
              · intro w'
                go_simp
                with_reducible rfl
              rotate_left
              · simp only [Act.put, List.setIfInBounds_toArray, List.set_cons_zero, List.set_cons_succ, i64_w, i32_w]
                rfl
              refine pure_ (i := 2) (N := some 165) (v := ?_) (a' := ?_) #[false, true, true, false, false, false, false, false] rfl rfl (by kernel_rfl) (fun _ _ _ h => h) (Or.inl ⟨by rfl, ?_⟩) ?_ ?_
              rotate_left
              · intro w'
                go_simp
                with_reducible rfl
              rotate_left
              · simp only [Act.put, List.setIfInBounds_toArray, List.set_cons_zero, List.set_cons_succ, i64_w, i32_w]
                rfl
              refine take_ (i := 0) (N := some 163) (v := ?_) (a' := ?_) #[true, true, true, false, false, false, false, false] rfl rfl (by kernel_rfl) (fun _ _ _ h => h) (Or.inl ⟨by rfl, ?_⟩) hHeld ?_ ?_
              rotate_left
              · intro w' s0
                go_simp
                with_reducible rfl
              rotate_left
              · simp only [Act.put, List.setIfInBounds_toArray, List.set_cons_zero, List.set_cons_succ, i64_w, i32_w]
                rfl
              refine take_ (i := 3) (N := some 166) (v := ?_) (a' := ?_) #[true, true, true, true, false, false, false, false] rfl rfl (by kernel_rfl) (fun _ _ _ h => h) (Or.inl ⟨by rfl, ?_⟩) hHeld ?_ ?_
              rotate_left
              · intro w' s0
                go_simp
                with_reducible rfl
              rotate_left
              · simp only [Act.put, List.setIfInBounds_toArray, List.set_cons_zero, List.set_cons_succ, i64_w, i32_w]
                rfl
              refine pure_ (i := 4) (N := some 167) (v := ?_) (a' := ?_) #[true, true, true, true, true, false, false, false] rfl rfl (by kernel_rfl) (fun _ _ _ h => h) (Or.inl ⟨by rfl, ?_⟩) ?_ ?_
              rotate_left
              · intro w'
                go_simp
                with_reducible rfl
              rotate_left
              · simp only [Act.put, List.setIfInBounds_toArray, List.set_cons_zero, List.set_cons_succ, i64_w, i32_w]
                rfl
              refine one_ (i := 5) (N := some 168) #[true, true, true, true, true, true, false, false] rfl rfl (by kernel_rfl) (by decide) (fun K hK => ?_)
              refine goes_ Try.func52 (by kernel_rfl) rfl #[.pointer (some ⟨g, 0, none⟩), .int .i64 (n : Int)] (by rfl) rfl rfl (by simp only [List.map_toArray, List.map_cons, List.map_nil]; rfl) ?_
              with_reducible refine (value_w g n 3015 w0 _ hpdbkz.rn hpdbkz.bl (by omega) (by omega) (by omega)).mono ?_
              rintro e w11bkz ⟨xbkz, rfl, hxbkz, hR11, hB11, hK11⟩
              refine ⟨_, rfl, ?_⟩
              have hp6bkz := hpdbkz.call hR11 hB11 hK11
              clear hR11 hB11 hK11
              have hz0bkz := (kcl hp6bkz.c2 0).trans (show _ = some (.slice none 0 0) from rfl)
              have hzfbkz := kfz hp6bkz.c2 0
              have hybkz := blk_far (p := ⟨w.heap.size, 0, none⟩) hp6bkz.c3 (by simp) (.slice (some ⟨gb, 0, none⟩) n c)
              have hy0bkz := (kcl hybkz 0).trans (show _ = some (.int .i64 0) from rfl)
              have hy1bkz := (kcl hybkz 1).trans (show _ = some (.string ⟨#[]⟩) from rfl)
              have hy2bkz := (kcl hybkz 2).trans (show _ = some (.int .i64 0) from rfl)
              have hf0bkz := kfz hybkz 0
              have hf1bkz := kfz hybkz 1
              have hf2bkz := kfz hybkz 2
              have HPbkz := Aside0.mk hp6bkz
              have HYbkz := Aside0.mk hybkz
              clear hybkz
              refine hK.out _ _ (hp6bkz.cell) (fun hHeld => ?_)
              clear hK K
              refine norm_ (a' := ?_) ?_ ?_
              rotate_left
              · show Act.put _ (some 168) _ = _
                simp only [Act.put, List.setIfInBounds_toArray, List.set_cons_zero, List.set_cons_succ, i64_w, i32_w]
                rfl
              refine one_ (i := 6) (N := none) #[true, true, true, true, true, true, true, false] rfl rfl (by kernel_rfl) (by decide) (fun K hK => ?_)
              refine skip_ (w1 := ?_) (by rfl) rfl ?_ ?_
              rotate_left
              · go_simp
                rfl
              refine hK.out _ _ ((kcl (blk_far (p := ⟨w.heap.size, 0, none⟩) HPbkz.out.c4 (by have := HPbkz.out.h4; simp; omega) (.slice (some ⟨gb, 0, none⟩) n c)) 0).trans rfl) (fun hHeld => ?_)
              clear hK K
              refine last_ (i := 7) (N := none) #[true, true, true, true, true, true, true, true] rfl rfl (by kernel_rfl) (by decide) (fun K hK => ?_)
              refine skip_ (w1 := ?_) (by rfl) rfl ?_ ?_
              rotate_left
              · go_simp
                rfl
              refine hK.out _ _ ?_
              clear hK K
              refine done_ (by kernel_rfl) ?_
              go_wp2_with fail
              obtain ⟨o2, o3, hpost⟩ := HPbkz.out.fin (by omega) hxbkz rfl
              refine bodyPost_ret (v := .tuple #[.agg #[(.slice (some ⟨gb, 0, none⟩) n c)], .agg #[.int .i64 xbkz.f0, .string xbkz.f1, .int .i64 xbkz.f2]]) (B.res_cc rfl _ _ w.heap.size (w.heap.size + 1) 25 35 _ _ (0, 0) (0, 0) _ _ rfl o2 Try.underlying25 rfl rfl rfl o3 Try.underlying35 rfl rfl) rfl hpost
            · have hpb4b : (p4b == 0) = false := by simpa using hp4b
              go_wp2_with fail
              have hpdbz := (HTcb.out.mono (show _ ≤ (3011 : Int) by omega)).drew
              refine start_ (n := 8) (S := fun w' => w'.cell? ⟨b4, 0, none⟩ = some (.slice (some ⟨gb, 0, none⟩) n c)) (ds := [7]) #[false, false, false, false, false, false, false, false] (by kernel_rfl) rfl rfl (hpdbz.cell) (fun hHeld => ?_)
              generalize w4b.drew = w10bz at hpdbz hHeld ⊢
              refine pure_ (i := 1) (N := some 164) (v := ?_) (a' := ?_) #[false, true, false, false, false, false, false, false] rfl rfl (by kernel_rfl) (fun _ _ _ h => h) (Or.inl ⟨by rfl, ?_⟩) ?_ ?_
              rotate_left
              · intro w'
                go_simp
                with_reducible rfl
              rotate_left
              · simp only [Act.put, List.setIfInBounds_toArray, List.set_cons_zero, List.set_cons_succ, i64_w, i32_w]
                rfl
              refine pure_ (i := 2) (N := some 165) (v := ?_) (a' := ?_) #[false, true, true, false, false, false, false, false] rfl rfl (by kernel_rfl) (fun _ _ _ h => h) (Or.inl ⟨by rfl, ?_⟩) ?_ ?_
              rotate_left
              · intro w'
                go_simp
                with_reducible rfl
              rotate_left
              · simp only [Act.put, List.setIfInBounds_toArray, List.set_cons_zero, List.set_cons_succ, i64_w, i32_w]
                rfl
              refine take_ (i := 0) (N := some 163) (v := ?_) (a' := ?_) #[true, true, true, false, false, false, false, false] rfl rfl (by kernel_rfl) (fun _ _ _ h => h) (Or.inl ⟨by rfl, ?_⟩) hHeld ?_ ?_
              rotate_left
              · intro w' s0
                go_simp
                with_reducible rfl
              rotate_left
              · simp only [Act.put, List.setIfInBounds_toArray, List.set_cons_zero, List.set_cons_succ, i64_w, i32_w]
                rfl
              refine take_ (i := 3) (N := some 166) (v := ?_) (a' := ?_) #[true, true, true, true, false, false, false, false] rfl rfl (by kernel_rfl) (fun _ _ _ h => h) (Or.inl ⟨by rfl, ?_⟩) hHeld ?_ ?_
              rotate_left
              · intro w' s0
                go_simp
                with_reducible rfl
              rotate_left
              · simp only [Act.put, List.setIfInBounds_toArray, List.set_cons_zero, List.set_cons_succ, i64_w, i32_w]
                rfl
              refine pure_ (i := 4) (N := some 167) (v := ?_) (a' := ?_) #[true, true, true, true, true, false, false, false] rfl rfl (by kernel_rfl) (fun _ _ _ h => h) (Or.inl ⟨by rfl, ?_⟩) ?_ ?_
              rotate_left
              · intro w'
                go_simp
                with_reducible rfl
              rotate_left
              · simp only [Act.put, List.setIfInBounds_toArray, List.set_cons_zero, List.set_cons_succ, i64_w, i32_w]
                rfl
              refine one_ (i := 5) (N := some 168) #[true, true, true, true, true, true, false, false] rfl rfl (by kernel_rfl) (by decide) (fun K hK => ?_)
              refine goes_ Try.func52 (by kernel_rfl) rfl #[.pointer (some ⟨g, 0, none⟩), .int .i64 (n : Int)] (by rfl) rfl rfl (by simp only [List.map_toArray, List.map_cons, List.map_nil]; rfl) ?_
              with_reducible refine (value_w g n 3011 w0 _ hpdbz.rn hpdbz.bl (by omega) (by omega) (by omega)).mono ?_
              rintro e w11bz ⟨xbz, rfl, hxbz, hR11, hB11, hK11⟩
              refine ⟨_, rfl, ?_⟩
              have hp6bz := hpdbz.call hR11 hB11 hK11
              clear hR11 hB11 hK11
              have hz0bz := (kcl hp6bz.c2 0).trans (show _ = some (.slice none 0 0) from rfl)
              have hzfbz := kfz hp6bz.c2 0
              have hybz := blk_far (p := ⟨w.heap.size, 0, none⟩) hp6bz.c3 (by simp) (.slice (some ⟨gb, 0, none⟩) n c)
              have hy0bz := (kcl hybz 0).trans (show _ = some (.int .i64 0) from rfl)
              have hy1bz := (kcl hybz 1).trans (show _ = some (.string ⟨#[]⟩) from rfl)
              have hy2bz := (kcl hybz 2).trans (show _ = some (.int .i64 0) from rfl)
              have hf0bz := kfz hybz 0
              have hf1bz := kfz hybz 1
              have hf2bz := kfz hybz 2
              have HPbz := Aside0.mk hp6bz
              have HYbz := Aside0.mk hybz
              clear hybz
              refine hK.out _ _ (hp6bz.cell) (fun hHeld => ?_)
              clear hK K
              refine norm_ (a' := ?_) ?_ ?_
              rotate_left
              · show Act.put _ (some 168) _ = _
                simp only [Act.put, List.setIfInBounds_toArray, List.set_cons_zero, List.set_cons_succ, i64_w, i32_w]
                rfl
              refine one_ (i := 6) (N := none) #[true, true, true, true, true, true, true, false] rfl rfl (by kernel_rfl) (by decide) (fun K hK => ?_)
              refine skip_ (w1 := ?_) (by rfl) rfl ?_ ?_
              rotate_left
              · go_simp
                rfl
              refine hK.out _ _ ((kcl (blk_far (p := ⟨w.heap.size, 0, none⟩) HPbz.out.c4 (by have := HPbz.out.h4; simp; omega) (.slice (some ⟨gb, 0, none⟩) n c)) 0).trans rfl) (fun hHeld => ?_)
              clear hK K
              refine last_ (i := 7) (N := none) #[true, true, true, true, true, true, true, true] rfl rfl (by kernel_rfl) (by decide) (fun K hK => ?_)
              refine skip_ (w1 := ?_) (by rfl) rfl ?_ ?_
              rotate_left
              · go_simp
                rfl
              refine hK.out _ _ ?_
              clear hK K
              refine done_ (by kernel_rfl) ?_
              go_wp2_with fail
              obtain ⟨o2, o3, hpost⟩ := HPbz.out.fin (by omega) hxbz rfl
              refine bodyPost_ret (v := .tuple #[.agg #[(.slice (some ⟨gb, 0, none⟩) n c)], .agg #[.int .i64 xbz.f0, .string xbz.f1, .int .i64 xbz.f2]]) (B.res_cc rfl _ _ w.heap.size (w.heap.size + 1) 25 35 _ _ (0, 0) (0, 0) _ _ rfl o2 Try.underlying25 rfl rfl rfl o3 Try.underlying35 rfl rfl) rfl hpost
          · have hpb : (p == 0) = false := by simpa using hp
            go_wp2_with fail
            refine (pick_w g 14 3001 w0 _ (HT1.out.rn.mono (by omega)) HT1.out.bl (by omega) (by omega)).mono ?_
            rintro e w4c ⟨p4c, rfl, _, _, hR4, hB4, hK4⟩
            have HTcc := Aside0.mk (HT1.out.call hR4 hB4 hK4)
            clear hR4 hB4 hK4
            by_cases hp4c : p4c = 0
            · subst hp4c
              go_wp2_with fail
              have hpdck := (HTcc.out.mono (show _ ≤ (3002 : Int) by omega)).drew
              refine start_ (n := 14) (S := fun w' => w'.cell? ⟨b4, 0, none⟩ = some (.slice (some ⟨gb, 0, none⟩) n c)) (ds := [13]) #[false, false, false, false, false, false, false, false, false, false, false, false, false, false] (by kernel_rfl) rfl rfl (hpdck.cell) (fun hHeld => ?_)
              generalize w4c.drew = w10ck at hpdck hHeld ⊢
              refine pure_ (i := 0) (N := some 150) (v := ?_) (a' := ?_) #[true, false, false, false, false, false, false, false, false, false, false, false, false, false] rfl rfl (by kernel_rfl) (fun _ _ _ h => h) (Or.inl ⟨by rfl, ?_⟩) ?_ ?_
              rotate_left
              · intro w'
                go_simp
                with_reducible rfl
              rotate_left
              · simp only [Act.put, List.setIfInBounds_toArray, List.set_cons_zero, List.set_cons_succ, i64_w, i32_w]
                rfl
              refine pure_ (i := 2) (N := some 152) (v := ?_) (a' := ?_) #[true, false, true, false, false, false, false, false, false, false, false, false, false, false] rfl rfl (by kernel_rfl) (fun _ _ _ h => h) (Or.inl ⟨by rfl, ?_⟩) ?_ ?_
              rotate_left
              · intro w'
                go_simp
                with_reducible rfl
              rotate_left
              · simp only [Act.put, List.setIfInBounds_toArray, List.set_cons_zero, List.set_cons_succ, i64_w, i32_w]
                rfl
              refine pure_ (i := 3) (N := some 153) (v := ?_) (a' := ?_) #[true, false, true, true, false, false, false, false, false, false, false, false, false, false] rfl rfl (by kernel_rfl) (fun _ _ _ h => h) (Or.inl ⟨by rfl, ?_⟩) ?_ ?_
              rotate_left
              · intro w'
                go_simp
                with_reducible rfl
              rotate_left
              · simp only [Act.put, List.setIfInBounds_toArray, List.set_cons_zero, List.set_cons_succ, i64_w, i32_w]
                rfl
              refine pure_ (i := 7) (N := some 157) (v := ?_) (a' := ?_) #[true, false, true, true, false, false, false, true, false, false, false, false, false, false] rfl rfl (by kernel_rfl) (fun _ _ _ h => h) (Or.inl ⟨by rfl, ?_⟩) ?_ ?_
              rotate_left
              · intro w'
                go_simp
                with_reducible rfl
              rotate_left
              · simp only [Act.put, List.setIfInBounds_toArray, List.set_cons_zero, List.set_cons_succ, i64_w, i32_w]
                rfl
              refine pure_ (i := 8) (N := some 158) (v := ?_) (a' := ?_) #[true, false, true, true, false, false, false, true, true, false, false, false, false, false] rfl rfl (by kernel_rfl) (fun _ _ _ h => h) (Or.inl ⟨by rfl, ?_⟩) ?_ ?_
              rotate_left
              · intro w'
                go_simp
                with_reducible rfl
              rotate_left
              · simp only [Act.put, List.setIfInBounds_toArray, List.set_cons_zero, List.set_cons_succ, i64_w, i32_w]
                rfl
              refine take_ (i := 1) (N := some 151) (v := ?_) (a' := ?_) #[true, true, true, true, false, false, false, true, true, false, false, false, false, false] rfl rfl (by kernel_rfl) (fun _ _ _ h => h) (Or.inl ⟨by rfl, ?_⟩) hHeld ?_ ?_
              rotate_left
              · intro w' s0
                go_simp
                with_reducible rfl
              rotate_left
              · simp only [Act.put, List.setIfInBounds_toArray, List.set_cons_zero, List.set_cons_succ, i64_w, i32_w]
                rfl
              refine take_ (i := 4) (N := some 154) (v := ?_) (a' := ?_) #[true, true, true, true, true, false, false, true, true, false, false, false, false, false] rfl rfl (by kernel_rfl) (fun _ _ _ h => h) (Or.inl ⟨by rfl, ?_⟩) hHeld ?_ ?_
              rotate_left
              · intro w' s0
                go_simp
                with_reducible rfl
              rotate_left
              · simp only [Act.put, List.setIfInBounds_toArray, List.set_cons_zero, List.set_cons_succ, i64_w, i32_w]
                rfl
              refine pure_ (i := 5) (N := some 155) (v := ?_) (a' := ?_) #[true, true, true, true, true, true, false, true, true, false, false, false, false, false] rfl rfl (by kernel_rfl) (fun _ _ _ h => h) (Or.inl ⟨by rfl, ?_⟩) ?_ ?_
              rotate_left
              · intro w'
                go_simp
                with_reducible rfl
              rotate_left
              · simp only [Act.put, List.setIfInBounds_toArray, List.set_cons_zero, List.set_cons_succ, i64_w, i32_w]
                rfl
              refine one_ (i := 6) (N := some 156) #[true, true, true, true, true, true, true, true, true, false, false, false, false, false] rfl rfl (by kernel_rfl) (by decide) (fun K hK => ?_)
              refine goes_ Try.func51 (by kernel_rfl) rfl #[.pointer (some ⟨g, 0, none⟩), .int .i64 (n : Int)] (by rfl) rfl rfl (by simp only [List.map_toArray, List.map_cons, List.map_nil]; rfl) ?_
              with_reducible refine (pick_w g n 3002 w0 _ hpdck.rn hpdck.bl (by omega) (by omega)).mono ?_
              rintro e w11ck ⟨i0, rfl, hi0, hi1, hR11, hB11, hK11⟩
              refine ⟨_, rfl, ?_⟩
              have hp6ck := hpdck.call hR11 hB11 hK11
              clear hR11 hB11 hK11
              obtain ⟨ick, rfl⟩ := Int.eq_ofNat_of_zero_le hi0
              have hinck : (ick : Int) < (n : Int) := hi1 (by omega)
              have hi0ck : (0 : Int) ≤ (ick : Int) := Int.natCast_nonneg _
              clear hi0 hi1
              refine hK.out _ _ (hp6ck.cell) (fun hHeld => ?_)
              clear hK K
              refine norm_ (a' := ?_) ?_ ?_
              rotate_left
              · show Act.put _ (some 156) _ = _
                simp only [Act.put, List.setIfInBounds_toArray, List.set_cons_zero, List.set_cons_succ, i64_w, i32_w]
                rfl
              refine one_ (i := 9) (N := some 159) #[true, true, true, true, true, true, true, true, true, true, false, false, false, false] rfl rfl (by kernel_rfl) (by decide) (fun K hK => ?_)
              refine goes_ Try.func51 (by kernel_rfl) rfl #[.pointer (some ⟨g, 0, none⟩), .int .i64 12] (by rfl) rfl rfl (by simp only [List.map_toArray, List.map_cons, List.map_nil]; rfl) ?_
              with_reducible refine (pick_w g 12 3003 w0 _ hp6ck.rn hp6ck.bl (by omega) (by omega)).mono ?_
              rintro e w13ck ⟨qck, rfl, hq0, hq1, hR13, hB13, hK13⟩
              refine ⟨_, rfl, ?_⟩
              have hp9ck := hp6ck.call hR13 hB13 hK13
              clear hR13 hB13 hK13
              replace hq1 := hq1 (by decide)
              refine hK.out _ _ (hp9ck.cell) (fun hHeld => ?_)
              clear hK K
              refine norm_ (a' := ?_) ?_ ?_
              rotate_left
              · show Act.put _ (some 159) _ = _
                simp only [Act.put, List.setIfInBounds_toArray, List.set_cons_zero, List.set_cons_succ, i64_w, i32_w]
                rfl
              refine one_ (i := 10) (N := some 160) #[true, true, true, true, true, true, true, true, true, true, true, false, false, false] rfl rfl (by kernel_rfl) (by decide) (fun K hK => ?_)
              refine goes_ Try.func93 (by kernel_rfl) rfl #[.pointer (some ⟨g, 0, none⟩), .int .i64 qck] (by rfl) rfl rfl (by simp only [List.map_toArray, List.map_cons, List.map_nil]; rfl) ?_
              with_reducible refine (often_w g qck 3004 w0 _ hp9ck.rn hp9ck.bl (by omega) (by omega)).mono ?_
              rintro e w12ck ⟨rck, rfl, _, _, hR12, hB12, hK12⟩
              refine ⟨_, rfl, ?_⟩
              have hp8ck := hp9ck.call hR12 hB12 hK12
              clear hR12 hB12 hK12 hq0 hq1
              obtain ⟨⟨u2ck, hu2ck⟩, _, hfzck, _, hset, _⟩ := hp8ck.elem hgb hgb4 ick (by omega)
              obtain ⟨l2ck, hl2⟩ := hset rck
              have HTck := Aside0.mk hl2
              clear hset hl2
              refine hK.out _ _ (hp8ck.cell) (fun hHeld => ?_)
              clear hK K
              refine norm_ (a' := ?_) ?_ ?_
              rotate_left
              · show Act.put _ (some 160) _ = _
                simp only [Act.put, List.setIfInBounds_toArray, List.set_cons_zero, List.set_cons_succ, i64_w, i32_w]
                rfl
              refine pure_ (i := 11) (N := some 161) (v := ?_) (a' := ?_) #[true, true, true, true, true, true, true, true, true, true, true, true, false, false] rfl rfl (by kernel_rfl) (fun _ _ _ h => h) (Or.inl ⟨by rfl, ?_⟩) ?_ ?_
              rotate_left
              · intro w'
                go_simp
                with_reducible rfl
              rotate_left
              · simp only [Act.put, List.setIfInBounds_toArray, List.set_cons_zero, List.set_cons_succ, i64_w, i32_w]
                rfl
              refine pure_ (i := 12) (N := some 162) (v := ?_) (a' := ?_) #[true, true, true, true, true, true, true, true, true, true, true, true, true, false] rfl rfl (by kernel_rfl) (fun _ _ _ h => h) (Or.inl ⟨by rfl, ?_⟩) ?_ ?_
              rotate_left
              · intro w'
                go_simp
                with_reducible rfl
              rotate_left
              · simp only [Act.put, List.setIfInBounds_toArray, List.set_cons_zero, List.set_cons_succ, i64_w, i32_w]
                rfl
              refine last_ (i := 13) (N := none) #[true, true, true, true, true, true, true, true, true, true, true, true, true, true] rfl rfl (by kernel_rfl) (by decide) (fun K hK => ?_)
              refine skip_ (w1 := ?_) (by rfl) rfl ?_ ?_
              rotate_left
              · go_simp
                rfl
              refine hK.out _ _ ?_
              clear hK K
              refine done_ (by kernel_rfl) ?_
              go_wp2_with fail
              have hpdckz := (HTck.out.mono (show _ ≤ (3006 : Int) by omega)).drew
              refine start_ (n := 8) (S := fun w' => w'.cell? ⟨b4, 0, none⟩ = some (.slice (some ⟨gb, 0, none⟩) n c)) (ds := [7]) #[false, false, false, false, false, false, false, false] (by kernel_rfl) rfl rfl (hpdckz.cell) (fun hHeld => ?_)
              generalize (w12ck.setCell ⟨gb, ick * 7, none⟩ (.int .i64 rck)).drew = w10ckz at hpdckz hHeld ⊢
              refine pure_ (i := 1) (N := some 164) (v := ?_) (a' := ?_) #[false, true, false, false, false, false, false, false] rfl rfl (by kernel_rfl) (fun _ _ _ h => h) (Or.inl ⟨by rfl, ?_⟩) ?_ ?_
              rotate_left
              · intro w'
                go_simp
                with_reducible rfl
              rotate_left
              · simp only [Act.put, List.setIfInBounds_toArray, List.set_cons_zero, List.set_cons_succ, i64_w, i32_w]
                rfl
              refine pure_ (i := 2) (N := some 165) (v := ?_) (a' := ?_) #[false, true, true, false, false, false, false, false] rfl rfl (by kernel_rfl) (fun _ _ _ h => h) (Or.inl ⟨by rfl, ?_⟩) ?_ ?_
              rotate_left
              · intro w'
                go_simp
                with_reducible rfl
              rotate_left
              · simp only [Act.put, List.setIfInBounds_toArray, List.set_cons_zero, List.set_cons_succ, i64_w, i32_w]
                rfl
              refine take_ (i := 0) (N := some 163) (v := ?_) (a' := ?_) #[true, true, true, false, false, false, false, false] rfl rfl (by kernel_rfl) (fun _ _ _ h => h) (Or.inl ⟨by rfl, ?_⟩) hHeld ?_ ?_
              rotate_left
              · intro w' s0
                go_simp
                with_reducible rfl
              rotate_left
              · simp only [Act.put, List.setIfInBounds_toArray, List.set_cons_zero, List.set_cons_succ, i64_w, i32_w]
                rfl
              refine take_ (i := 3) (N := some 166) (v := ?_) (a' := ?_) #[true, true, true, true, false, false, false, false] rfl rfl (by kernel_rfl) (fun _ _ _ h => h) (Or.inl ⟨by rfl, ?_⟩) hHeld ?_ ?_
              rotate_left
              · intro w' s0
                go_simp
                with_reducible rfl
              rotate_left
              · simp only [Act.put, List.setIfInBounds_toArray, List.set_cons_zero, List.set_cons_succ, i64_w, i32_w]
                rfl
              refine pure_ (i := 4) (N := some 167) (v := ?_) (a' := ?_) #[true, true, true, true, true, false, false, false] rfl rfl (by kernel_rfl) (fun _ _ _ h => h) (Or.inl ⟨by rfl, ?_⟩) ?_ ?_
              rotate_left
              · intro w'
                go_simp
                with_reducible rfl
              rotate_left
              · simp only [Act.put, List.setIfInBounds_toArray, List.set_cons_zero, List.set_cons_succ, i64_w, i32_w]
                rfl
              refine one_ (i := 5) (N := some 168) #[true, true, true, true, true, true, false, false] rfl rfl (by kernel_rfl) (by decide) (fun K hK => ?_)
              refine goes_ Try.func52 (by kernel_rfl) rfl #[.pointer (some ⟨g, 0, none⟩), .int .i64 (n : Int)] (by rfl) rfl rfl (by simp only [List.map_toArray, List.map_cons, List.map_nil]; rfl) ?_
              with_reducible refine (value_w g n 3006 w0 _ hpdckz.rn hpdckz.bl (by omega) (by omega) (by omega)).mono ?_
              rintro e w11ckz ⟨xckz, rfl, hxckz, hR11, hB11, hK11⟩
              refine ⟨_, rfl, ?_⟩
              have hp6ckz := hpdckz.call hR11 hB11 hK11
              clear hR11 hB11 hK11
              have hz0ckz := (kcl hp6ckz.c2 0).trans (show _ = some (.slice none 0 0) from rfl)
              have hzfckz := kfz hp6ckz.c2 0
              have hyckz := blk_far (p := ⟨w.heap.size, 0, none⟩) hp6ckz.c3 (by simp) (.slice (some ⟨gb, 0, none⟩) n c)
              have hy0ckz := (kcl hyckz 0).trans (show _ = some (.int .i64 0) from rfl)
              have hy1ckz := (kcl hyckz 1).trans (show _ = some (.string ⟨#[]⟩) from rfl)
              have hy2ckz := (kcl hyckz 2).trans (show _ = some (.int .i64 0) from rfl)
              have hf0ckz := kfz hyckz 0
              have hf1ckz := kfz hyckz 1
              have hf2ckz := kfz hyckz 2
              have HPckz := Aside0.mk hp6ckz
              have HYckz := Aside0.mk hyckz
              clear hyckz
              refine hK.out _ _ (hp6ckz.cell) (fun hHeld => ?_)
              clear hK K
              refine norm_ (a' := ?_) ?_ ?_
              rotate_left
              · show Act.put _ (some 168) _ = _
                simp only [Act.put, List.setIfInBounds_toArray, List.set_cons_zero, List.set_cons_succ, i64_w, i32_w]
                rfl
              refine one_ (i := 6) (N := none) #[true, true, true, true, true, true, true, false] rfl rfl (by kernel_rfl) (by decide) (fun K hK => ?_)
              refine skip_ (w1 := ?_) (by rfl) rfl ?_ ?_
              rotate_left
              · go_simp
                rfl
              refine hK.out _ _ ((kcl (blk_far (p := ⟨w.heap.size, 0, none⟩) HPckz.out.c4 (by have := HPckz.out.h4; simp; omega) (.slice (some ⟨gb, 0, none⟩) n c)) 0).trans rfl) (fun hHeld => ?_)
              clear hK K
              refine last_ (i := 7) (N := none) #[true, true, true, true, true, true, true, true] rfl rfl (by kernel_rfl) (by decide) (fun K hK => ?_)
              refine skip_ (w1 := ?_) (by rfl) rfl ?_ ?_
              rotate_left
              · go_simp
                rfl
              refine hK.out _ _ ?_
              clear hK K
              refine done_ (by kernel_rfl) ?_
              go_wp2_with fail
              obtain ⟨o2, o3, hpost⟩ := HPckz.out.fin (by omega) hxckz rfl
              refine bodyPost_ret (v := .tuple #[.agg #[(.slice (some ⟨gb, 0, none⟩) n c)], .agg #[.int .i64 xckz.f0, .string xckz.f1, .int .i64 xckz.f2]]) (B.res_cc rfl _ _ w.heap.size (w.heap.size + 1) 25 35 _ _ (0, 0) (0, 0) _ _ rfl o2 Try.underlying25 rfl rfl rfl o3 Try.underlying35 rfl rfl) rfl hpost
            · have hpb4c : (p4c == 0) = false := by simpa using hp4c
              go_wp2_with fail
              have hpdcz := (HTcc.out.mono (show _ ≤ (3002 : Int) by omega)).drew
              refine start_ (n := 8) (S := fun w' => w'.cell? ⟨b4, 0, none⟩ = some (.slice (some ⟨gb, 0, none⟩) n c)) (ds := [7]) #[false, false, false, false, false, false, false, false] (by kernel_rfl) rfl rfl (hpdcz.cell) (fun hHeld => ?_)
              generalize w4c.drew = w10cz at hpdcz hHeld ⊢
              refine pure_ (i := 1) (N := some 164) (v := ?_) (a' := ?_) #[false, true, false, false, false, false, false, false] rfl rfl (by kernel_rfl) (fun _ _ _ h => h) (Or.inl ⟨by rfl, ?_⟩) ?_ ?_
              rotate_left
              · intro w'
                go_simp
                with_reducible rfl
              rotate_left
              · simp only [Act.put, List.setIfInBounds_toArray, List.set_cons_zero, List.set_cons_succ, i64_w, i32_w]
                rfl
              refine pure_ (i := 2) (N := some 165) (v := ?_) (a' := ?_) #[false, true, true, false, false, false, false, false] rfl rfl (by kernel_rfl) (fun _ _ _ h => h) (Or.inl ⟨by rfl, ?_⟩) ?_ ?_
              rotate_left
              · intro w'
                go_simp
                with_reducible rfl
              rotate_left
              · simp only [Act.put, List.setIfInBounds_toArray, List.set_cons_zero, List.set_cons_succ, i64_w, i32_w]
                rfl
              refine take_ (i := 0) (N := some 163) (v := ?_) (a' := ?_) #[true, true, true, false, false, false, false, false] rfl rfl (by kernel_rfl) (fun _ _ _ h => h) (Or.inl ⟨by rfl, ?_⟩) hHeld ?_ ?_
              rotate_left
              · intro w' s0
                go_simp
                with_reducible rfl
              rotate_left
              · simp only [Act.put, List.setIfInBounds_toArray, List.set_cons_zero, List.set_cons_succ, i64_w, i32_w]
                rfl
              refine take_ (i := 3) (N := some 166) (v := ?_) (a' := ?_) #[true, true, true, true, false, false, false, false] rfl rfl (by kernel_rfl) (fun _ _ _ h => h) (Or.inl ⟨by rfl, ?_⟩) hHeld ?_ ?_
              rotate_left
              · intro w' s0
                go_simp
                with_reducible rfl
              rotate_left
              · simp only [Act.put, List.setIfInBounds_toArray, List.set_cons_zero, List.set_cons_succ, i64_w, i32_w]
                rfl
              refine pure_ (i := 4) (N := some 167) (v := ?_) (a' := ?_) #[true, true, true, true, true, false, false, false] rfl rfl (by kernel_rfl) (fun _ _ _ h => h) (Or.inl ⟨by rfl, ?_⟩) ?_ ?_
              rotate_left
              · intro w'
                go_simp
                with_reducible rfl
              rotate_left
              · simp only [Act.put, List.setIfInBounds_toArray, List.set_cons_zero, List.set_cons_succ, i64_w, i32_w]
                rfl
              refine one_ (i := 5) (N := some 168) #[true, true, true, true, true, true, false, false] rfl rfl (by kernel_rfl) (by decide) (fun K hK => ?_)
              refine goes_ Try.func52 (by kernel_rfl) rfl #[.pointer (some ⟨g, 0, none⟩), .int .i64 (n : Int)] (by rfl) rfl rfl (by simp only [List.map_toArray, List.map_cons, List.map_nil]; rfl) ?_
              with_reducible refine (value_w g n 3002 w0 _ hpdcz.rn hpdcz.bl (by omega) (by omega) (by omega)).mono ?_
              rintro e w11cz ⟨xcz, rfl, hxcz, hR11, hB11, hK11⟩
              refine ⟨_, rfl, ?_⟩
              have hp6cz := hpdcz.call hR11 hB11 hK11
              clear hR11 hB11 hK11
              have hz0cz := (kcl hp6cz.c2 0).trans (show _ = some (.slice none 0 0) from rfl)
              have hzfcz := kfz hp6cz.c2 0
              have hycz := blk_far (p := ⟨w.heap.size, 0, none⟩) hp6cz.c3 (by simp) (.slice (some ⟨gb, 0, none⟩) n c)
              have hy0cz := (kcl hycz 0).trans (show _ = some (.int .i64 0) from rfl)
              have hy1cz := (kcl hycz 1).trans (show _ = some (.string ⟨#[]⟩) from rfl)
              have hy2cz := (kcl hycz 2).trans (show _ = some (.int .i64 0) from rfl)
              have hf0cz := kfz hycz 0
              have hf1cz := kfz hycz 1
              have hf2cz := kfz hycz 2
              have HPcz := Aside0.mk hp6cz
              have HYcz := Aside0.mk hycz
              clear hycz
              refine hK.out _ _ (hp6cz.cell) (fun hHeld => ?_)
              clear hK K
              refine norm_ (a' := ?_) ?_ ?_
              rotate_left
              · show Act.put _ (some 168) _ = _
                simp only [Act.put, List.setIfInBounds_toArray, List.set_cons_zero, List.set_cons_succ, i64_w, i32_w]
                rfl
              refine one_ (i := 6) (N := none) #[true, true, true, true, true, true, true, false] rfl rfl (by kernel_rfl) (by decide) (fun K hK => ?_)
              refine skip_ (w1 := ?_) (by rfl) rfl ?_ ?_
              rotate_left
              · go_simp
                rfl
              refine hK.out _ _ ((kcl (blk_far (p := ⟨w.heap.size, 0, none⟩) HPcz.out.c4 (by have := HPcz.out.h4; simp; omega) (.slice (some ⟨gb, 0, none⟩) n c)) 0).trans rfl) (fun hHeld => ?_)
              clear hK K
              refine last_ (i := 7) (N := none) #[true, true, true, true, true, true, true, true] rfl rfl (by kernel_rfl) (by decide) (fun K hK => ?_)
              refine skip_ (w1 := ?_) (by rfl) rfl ?_ ?_
              rotate_left
              · go_simp
                rfl
              refine hK.out _ _ ?_
              clear hK K
              refine done_ (by kernel_rfl) ?_
              go_wp2_with fail
              obtain ⟨o2, o3, hpost⟩ := HPcz.out.fin (by omega) hxcz rfl
              refine bodyPost_ret (v := .tuple #[.agg #[(.slice (some ⟨gb, 0, none⟩) n c)], .agg #[.int .i64 xcz.f0, .string xcz.f1, .int .i64 xcz.f2]]) (B.res_cc rfl _ _ w.heap.size (w.heap.size + 1) 25 35 _ _ (0, 0) (0, 0) _ _ rfl o2 Try.underlying25 rfl rfl rfl o3 Try.underlying35 rfl rfl) rfl hpost
end Go.Proofs.Ytgddblpgbkgpcaa.PR
namespace Go.Proofs.Ytgddblpgbkgpcaa.PR
set_option linter.unusedVariables false
set_option linter.unusedSimpArgs false
open Go.RowKit Go.Proofs.YtgddblpgbkgpcaaW.PrintWords Go.Proofs.YtgddblpgbkgpcaaW.PrintLast Go.Proofs.YtgddblpgbkgpcaaW.PrintMore
set_option linter.unusedVariables false
set_option linter.unusedSimpArgs false
section
variable {w wi w1 : World} {g b5 : Nat} {b b' : Int} {v u : Value} {l : List S46} {roots : List S35}
end
theorem slice_form {w : World} {base : Nat} {ok : Nat → Prop} {v : Value} {l : List S46} (h : k46.R 46 w base ok v l) : ∃ A n c, v = .slice A n c ∧ n = l.length := by
  obtain ⟨A, c, rfl⟩ := Kd.R_slice h
  exact ⟨A, _, c, rfl, rfl⟩
end Go.Proofs.Ytgddblpgbkgpcaa.PR
namespace Go.Proofs.Ytgddblpgbkgpcaa.PR
set_option linter.unusedVariables false
set_option linter.unusedSimpArgs false
open Go.RowKit Go.Proofs.YtgddblpgbkgpcaaW.PrintWords Go.Proofs.YtgddblpgbkgpcaaW.PrintLast Go.Proofs.YtgddblpgbkgpcaaW.PrintMore
set_option linter.unusedVariables false
set_option linter.unusedSimpArgs false
theorem okH_obj {l : List S46} (h : okH l = true) {o : S46} (ho : o ∈ l) : (∀ x ∈ o.f3, B.valOk l.length (tV x) = true) ∧ (o.f0 = 2 → o.f3.length = o.f4.length) := by
  unfold okH at h
  simp only [Bool.and_eq_true, List.all_eq_true] at h
  have h2 := h.2 _ (List.mem_map_of_mem ho)
  unfold B.objB at h2
  simp only [Bool.and_eq_true] at h2
  obtain ⟨⟨⟨hh, -⟩, -⟩, ht⟩ := h2
  unfold B.headB at hh
  simp only [Bool.and_eq_true] at hh
  obtain ⟨⟨⟨⟨⟨⟨⟨⟨-, h1⟩, -⟩, -⟩, -⟩, -⟩, -⟩, -⟩, -⟩ := hh
  refine ⟨fun x hx => ?_, fun h2 => ?_⟩
  · rw [List.all_eq_true] at h1
    exact h1 _ (List.mem_map_of_mem hx)
  · have e : (tO o).k = 2 := h2
    unfold B.tailB at ht
    rw [if_neg (by omega), if_neg (by omega), if_neg (by omega), if_pos e] at ht
    simp only [Bool.and_eq_true, decide_eq_true_eq] at ht
    have := ht.1.2
    simp only [tO, List.length_map] at this
    exact this.symm
theorem got_val {l : List S46} {v k y : S35} (h : okH l = true) (hv : v.f0 = 4) (hg : Got l v k y (-1)) : B.valOk l.length (tV y) = true := by
  cases hg with
  | te i c h1 h2 h3 => exact absurd rfl h3
  | ti j h1 h2 h3 => omega
  | le r o i c h1 h2 h3 h4 h5 h6 => exact absurd rfl h6
  | li r o j _ h1 h2 h3 h4 h5 h6 => exact (okH_obj h (List.mem_of_getElem? h3)).1 _ (List.mem_of_getElem? h6)
  | df r o j _ h1 h2 h3 h4 h5 h6 h7 => exact (okH_obj h (List.mem_of_getElem? h3)).1 _ (List.mem_of_getElem? h7)
theorem di_ex (l : List S46) (v k : S35) : ∃ y cc, Di l v k y cc := by
  cases hok : okB l [v, k]
  · exact ⟨zV, 10, .inl ⟨hok, rfl, rfl⟩⟩
  · have h1 := hok
    rw [okB_eq, okV_two, Bool.and_eq_true, Bool.and_eq_true] at h1
    obtain ⟨hH, hv, hk⟩ := h1
    obtain ⟨y, cc, h⟩ := got_ex l v k (val_in hv) (fun o ho => (okH_obj hH ho).2)
    exact ⟨y, cc, .inr ⟨hok, h⟩⟩
def DSPost (w : World) (l : List S46) (e : Ending) (w' : World) : Prop := ∃ (A : Option Addr) (n c : Nat), e = .returned (.tuple #[.agg #[.slice A n c], .int .i64 (-1)]) ∧ Kd.C k46 w' A n l ∧ n ≤ c ∧ Below w.heap.size w w'
set_option maxRecDepth 100000 in
set_option maxHeartbeats 4000000 in
theorem doSetSame_w (A : Option Addr) (n c : Nat) (l : List S46) (v k x : S35) (w : World) (hC : Kd.C k46 w A n l) (hc : n ≤ c) (hn : n ≤ 1000) (hob : ∀ o ∈ l, oB o = true) (hv5 : v.f1.size ≤ 5) (hk5 : k.f1.size ≤ 5) (hx5 : x.f1.size ≤ 5) (hok : okB l [v, k] = true) (hv : v.f0 = 4) (h : Got l v k x (-1)) :
    Calls Try.prog 36 #[.agg #[.slice A n c], .agg #[.int .i64 v.f0, .string v.f1, .int .i64 v.f2], .agg #[.int .i64 k.f0, .string k.f1, .int .i64 k.f2], .agg #[.int .i64 x.f0, .string x.f1, .int .i64 x.f2]] w (DSPost w l) := by
  obtain ⟨W, hW⟩ : ∃ W : World, W = ((((w.alloc (.cells #[.slice A n c] 25)).alloc (.cells #[.int .i64 v.f0, .string v.f1, .int .i64 v.f2] 35)).alloc (.cells #[.int .i64 k.f0, .string k.f1, .int .i64 k.f2] 35)).alloc (.cells #[.int .i64 x.f0, .string x.f1, .int .i64 x.f2] 35)).alloc (.cells #[.slice none 0 0] 25) := ⟨_, rfl⟩
  have hb0 : Below ((((w.alloc (.cells #[.slice A n c] 25)).alloc (.cells #[.int .i64 v.f0, .string v.f1, .int .i64 v.f2] 35)).alloc (.cells #[.int .i64 k.f0, .string k.f1, .int .i64 k.f2] 35)).alloc (.cells #[.int .i64 x.f0, .string x.f1, .int .i64 x.f2] 35)).heap.size ((((w.alloc (.cells #[.slice A n c] 25)).alloc (.cells #[.int .i64 v.f0, .string v.f1, .int .i64 v.f2] 35)).alloc (.cells #[.int .i64 k.f0, .string k.f1, .int .i64 k.f2] 35)).alloc (.cells #[.int .i64 x.f0, .string x.f1, .int .i64 x.f2] 35)) W := by rw [hW]; exact bla (Below.refl _ _) _
  have hz := blk_new ((((w.alloc (.cells #[.slice A n c] 25)).alloc (.cells #[.int .i64 v.f0, .string v.f1, .int .i64 v.f2] 35)).alloc (.cells #[.int .i64 k.f0, .string k.f1, .int .i64 k.f2] 35)).alloc (.cells #[.int .i64 x.f0, .string x.f1, .int .i64 x.f2] 35)) (.cells #[.slice none 0 0] 25)
  rw [← hW, World.size_alloc, World.size_alloc, World.size_alloc, World.size_alloc] at hz
  have BX := Aside0.mk ((bw_new w n c A v k x _ rfl).below hb0)
  have BZ := Aside0.mk hz
  have HC := Aside0.mk (Kd.C_below hC BX.out.bl)
  have hl := hC.1
  have HOB := Aside0.mk hob
  have hol : ∀ o ∈ l, oL o := fun o ho => (show oL o from by obtain ⟨-, h3, h4, h5, h6, -⟩ := oB_facts (hob o ho); exact ⟨by omega, by omega, by omega, by omega⟩)
  have HOL := Aside0.mk hol
  have hok2 := hok
  rw [okB_eq, okV_two, Bool.and_eq_true, Bool.and_eq_true] at hok2
  obtain ⟨hH, hvv, hkv⟩ := hok2
  have hxv := got_val hH hv h
  have hki : k.f0 = 2 → B.intB k.f1 = true ∧ k.f1.size ≤ 5 := fun h2 => ⟨val_int hkv h2, hk5⟩
  have hO3 : okV n [v, k, x] = true := by rw [← hl]; simp [okV, hvv, hkv, hxv]
  have HVK := Aside0.mk (fun (X : World) => (show Calls Try.prog 53 #[.agg #[.slice A n c], .slice (some ⟨X.heap.size, 0, none⟩) 3 3] _ fun e w' => e = .returned (.bool true) ∧ _ from hO3 ▸ valuesOk_k (A := A) (n := n) c hn 3 (C_three X v k x) (show ∀ y ∈ [v, k, x], y.f1.size ≤ 100 by
    intro y hy
    simp only [List.mem_cons, List.not_mem_nil, or_false] at hy
    rcases hy with rfl | rfl | rfl <;> omega) (by simp)))
  have h30 := heapOk_k (w := W) c HC.out hob (by omega)
  rw [hH] at h30
  have HH := Aside0.mk h30
  have HSS := Aside0.mk (fun {A1 : Option Addr} {n1 c1 base : Nat} {ok : Nat → Prop} (X : World) (hR : k46.R 46 X base ok (.slice A1 n1 c1) l) => (show Calls Try.prog 75 #[.agg #[.slice A1 n1 c1], .agg #[.int .i64 v.f0, .string v.f1, .int .i64 v.f2], .agg #[.int .i64 k.f0, .string k.f1, .int .i64 k.f2], .agg #[.int .i64 x.f0, .string x.f1, .int .i64 x.f2]] X (SIPost X) from by
    obtain ⟨e1, e2, e3⟩ := Kd.R_reads' hR
    rw [← e1] at e3
    exact setSame_w A1 n1 c1 l v k x X e3 e2 (by omega) hol hki (fz_of_R hR) hv h))
  have HCL := Aside0.mk (fun (X : World) (hX : Kd.C k46 X A n l) => hclone66_w A n c l X hX hn hol)
  have HW := Lib.hid hW
  obtain ⟨p0, v0, v1, v2, k0, k1, k2, x0, x1, x2, -⟩ := BX.out
  have zc := (kcl hz 0).trans (show _ = some (.slice none 0 0) from rfl)
  have zf := kfz hz 0
  have HBL := Lib.hid hl
  clear hW hb0 hz hC hc hob hol hok hH hvv hkv hxv hki hO3 h30 hv h hl
  go_enter Try.func36, Try.ntmps36
  go_upto_region 1 with (fail)
  rw [← HW.out]
  go_upto_region 4 with (first | (go_at_call 30; refine HH.out.mono ?_; rintro e w1 ⟨rfl, hB⟩; replace BX := Aside0.mk (BX.out.below hB); replace BZ := Aside0.mk (kbw BZ.out hB); clear p0 v0 v1 v2 k0 k1 k2 x0 x1 x2 zc zf; obtain ⟨p0, v0, v1, v2, k0, k1, k2, x0, x1, x2, -⟩ := BX.out; have zc := (kcl BZ.out 0).trans (show _ = some (.slice none 0 0) from rfl); have zf := kfz BZ.out 0; replace HC := Aside0.mk (Kd.C_below HC.out hB); clear hB) | (go_at_call 53; refine (HVK.out _).mono ?_; rintro e w2 ⟨rfl, hB2⟩; have hB := bst (bla (Below.refl w1.heap.size w1) (.cells #[.int .i64 v.f0, .string v.f1, .int .i64 v.f2, .int .i64 k.f0, .string k.f1, .int .i64 k.f2, .int .i64 x.f0, .string x.f1, .int .i64 x.f2] 35)) hB2; replace BX := Aside0.mk (BX.out.below hB); replace BZ := Aside0.mk (kbw BZ.out hB); clear p0 v0 v1 v2 k0 k1 k2 x0 x1 x2 zc zf; obtain ⟨p0, v0, v1, v2, k0, k1, k2, x0, x1, x2, -⟩ := BX.out; have zc := (kcl BZ.out 0).trans (show _ = some (.slice none 0 0) from rfl); have zf := kfz BZ.out 0; replace HC := Aside0.mk (Kd.C_below HC.out hB); clear hB hB2) | (go_at_call 66; refine (HCL.out _ HC.out).mono ?_; rintro e w3 ⟨v3, rfl, hR3, hB⟩; obtain ⟨A1, n1, c1, rfl, hn1⟩ : ∃ A n c, v3 = .slice A n c ∧ n = l.length := slice_form hR3; have HRR := Aside0.mk hR3; have HL2 := Lib.hid (show w.heap.size + 1 + 1 + 1 + 1 < w2.heap.size from blk_lt BZ.out); have HN1 := Lib.hid hn1; clear hn1; replace BX := Aside0.mk (BX.out.below hB); replace BZ := Aside0.mk (kbw BZ.out hB); clear p0 v0 v1 v2 k0 k1 k2 x0 x1 x2 zc zf; obtain ⟨p0, v0, v1, v2, k0, k1, k2, x0, x1, x2, -⟩ := BX.out; have zc := (kcl BZ.out 0).trans (show _ = some (.slice none 0 0) from rfl); have zf := kfz BZ.out 0; replace HC := Aside0.mk (Kd.C_below HC.out hB); clear hB hR3))
  obtain ⟨W4, hW4⟩ : ∃ W4 : World, W4 = w3.alloc (.cells #[.slice A1 n1 c1] 25) := ⟨_, rfl⟩
  have hB : Below w3.heap.size w3 W4 := by rw [hW4]; exact bla (Below.refl _ _) _
  have hd10 : W4.heap[w3.heap.size]? = some (.cells #[.slice A1 n1 c1] 25 (0, 0)) := by rw [hW4]; exact blk_new _ _
  rw [← hW4]
  clear hW4
  replace BX := Aside0.mk (BX.out.below hB)
  replace BZ := Aside0.mk (kbw BZ.out hB)
  clear p0 v0 v1 v2 k0 k1 k2 x0 x1 x2 zc zf
  obtain ⟨p0, v0, v1, v2, k0, k1, k2, x0, x1, x2, -⟩ := BX.out
  have zc := (kcl BZ.out 0).trans (show _ = some (.slice none 0 0) from rfl)
  have zf := kfz BZ.out 0
  replace HC := Aside0.mk (Kd.C_below HC.out hB)
  replace HRR := Aside0.mk (Kd.R_below HRR.out hB)
  clear hB
  obtain ⟨b10, hb10⟩ : ∃ b10, b10 = w3.heap.size := ⟨_, rfl⟩
  rw [← hb10] at hd10 ⊢
  have d10 := (kcl hd10 0).trans (show _ = some (.slice A1 n1 c1) from rfl)
  clear hb10 hd10
  go_wp2_with fail
  have hq0 : Below W4.heap.size W4 W4.drew := below_drew (Below.refl _ _)
  refine start_ (n := 8) (S := fun w' => w'.cell? ⟨b10, 0, none⟩ = some (.slice A1 n1 c1) ∧ w'.cell? ⟨w.heap.size + 1, 0, none⟩ = some (.int .i64 v.f0) ∧ w'.cell? ⟨w.heap.size + 1, 1, none⟩ = some (.string v.f1) ∧ w'.cell? ⟨w.heap.size + 1, 2, none⟩ = some (.int .i64 v.f2) ∧ w'.cell? ⟨w.heap.size + 1 + 1, 0, none⟩ = some (.int .i64 k.f0) ∧ w'.cell? ⟨w.heap.size + 1 + 1, 1, none⟩ = some (.string k.f1) ∧ w'.cell? ⟨w.heap.size + 1 + 1, 2, none⟩ = some (.int .i64 k.f2) ∧ w'.cell? ⟨w.heap.size + 1 + 1 + 1, 0, none⟩ = some (.int .i64 x.f0) ∧ w'.cell? ⟨w.heap.size + 1 + 1 + 1, 1, none⟩ = some (.string x.f1) ∧ w'.cell? ⟨w.heap.size + 1 + 1 + 1, 2, none⟩ = some (.int .i64 x.f2)) (ds := [6]) #[false, false, false, false, false, false, false, false] (by kernel_rfl) rfl rfl ⟨B.cell_keep hq0 d10, B.cell_keep hq0 v0, B.cell_keep hq0 v1, B.cell_keep hq0 v2, B.cell_keep hq0 k0, B.cell_keep hq0 k1, B.cell_keep hq0 k2, B.cell_keep hq0 x0, B.cell_keep hq0 x1, B.cell_keep hq0 x2⟩ (fun hHeld => ?_)
  generalize W4.drew = w10 at hq0 hHeld ⊢
  refine take_ (i := 0) (N := some 26) (v := ?_) (a' := ?_) #[true, false, false, false, false, false, false, false] rfl rfl (by kernel_rfl) (fun _ _ _ h => h) (Or.inl ⟨by rfl, ?_⟩) hHeld ?_ ?_
  rotate_left
  · rintro w' ⟨s0, s1, s2, s3, s4, s5, s6, s7, s8, s9⟩
    go_simp
    with_reducible rfl
  rotate_left
  · simp only [Act.put, List.setIfInBounds_toArray, List.set_cons_zero, List.set_cons_succ, i64_w, i32_w]
    rfl
  refine take_ (i := 1) (N := some 27) (v := ?_) (a' := ?_) #[true, true, false, false, false, false, false, false] rfl rfl (by kernel_rfl) (fun _ _ _ h => h) (Or.inl ⟨by rfl, ?_⟩) hHeld ?_ ?_
  rotate_left
  · rintro w' ⟨s0, s1, s2, s3, s4, s5, s6, s7, s8, s9⟩
    go_simp
    with_reducible rfl
  rotate_left
  · simp only [Act.put, List.setIfInBounds_toArray, List.set_cons_zero, List.set_cons_succ, i64_w, i32_w]
    rfl
  refine take_ (i := 2) (N := some 28) (v := ?_) (a' := ?_) #[true, true, true, false, false, false, false, false] rfl rfl (by kernel_rfl) (fun _ _ _ h => h) (Or.inl ⟨by rfl, ?_⟩) hHeld ?_ ?_
  rotate_left
  · rintro w' ⟨s0, s1, s2, s3, s4, s5, s6, s7, s8, s9⟩
    go_simp
    with_reducible rfl
  rotate_left
  · simp only [Act.put, List.setIfInBounds_toArray, List.set_cons_zero, List.set_cons_succ, i64_w, i32_w]
    rfl
  refine take_ (i := 3) (N := some 29) (v := ?_) (a' := ?_) #[true, true, true, true, false, false, false, false] rfl rfl (by kernel_rfl) (fun _ _ _ h => h) (Or.inl ⟨by rfl, ?_⟩) hHeld ?_ ?_
  rotate_left
  · rintro w' ⟨s0, s1, s2, s3, s4, s5, s6, s7, s8, s9⟩
    go_simp
    with_reducible rfl
  rotate_left
  · simp only [Act.put, List.setIfInBounds_toArray, List.set_cons_zero, List.set_cons_succ, i64_w, i32_w]
    rfl
  refine take_ (i := 4) (N := some 30) (v := ?_) (a' := ?_) #[true, true, true, true, true, false, false, false] rfl rfl (by kernel_rfl) (fun _ _ _ h => h) (Or.inl ⟨by rfl, ?_⟩) hHeld ?_ ?_
  rotate_left
  · rintro w' ⟨s0, s1, s2, s3, s4, s5, s6, s7, s8, s9⟩
    go_simp
    with_reducible rfl
  rotate_left
  · simp only [Act.put, List.setIfInBounds_toArray, List.set_cons_zero, List.set_cons_succ, i64_w, i32_w]
    rfl
  refine one_ (i := 5) (N := some 31) #[true, true, true, true, true, true, false, false] rfl rfl (by kernel_rfl) (by decide) (fun K hK => ?_)
  refine goes_ Try.func75 (by kernel_rfl) rfl #[.agg #[.slice A1 n1 c1], .agg #[.int .i64 v.f0, .string v.f1, .int .i64 v.f2], .agg #[.int .i64 k.f0, .string k.f1, .int .i64 k.f2], .agg #[.int .i64 x.f0, .string x.f1, .int .i64 x.f2]] (by rfl) rfl rfl (by simp only [List.map_toArray, List.map_cons, List.map_nil]; rfl) ?_
  with_reducible refine (HSS.out _ (Kd.R_below HRR.out hq0)).mono ?_
  rintro e y ⟨rfl, hb⟩
  refine ⟨_, rfl, ?_⟩
  have hq1 := bth hq0 hq0.size hb
  have zb1 := kbw BZ.out hq1
  have zc1 := (kcl zb1 0).trans (show _ = some (.slice none 0 0) from rfl)
  have zf1 := kfz zb1 0
  refine hK.out _ _ ⟨B.cell_keep hq1 d10, B.cell_keep hq1 v0, B.cell_keep hq1 v1, B.cell_keep hq1 v2, B.cell_keep hq1 k0, B.cell_keep hq1 k1, B.cell_keep hq1 k2, B.cell_keep hq1 x0, B.cell_keep hq1 x1, B.cell_keep hq1 x2⟩ (fun hHeld => ?_)
  clear hK K
  refine norm_ (a' := ?_) ?_ ?_
  rotate_left
  · show Act.put _ (some 31) _ = _
    simp only [Act.put, List.setIfInBounds_toArray, List.set_cons_zero, List.set_cons_succ, i64_w, i32_w]
    rfl
  refine last_ (i := 6) (N := none) #[true, true, true, true, true, true, true, false] rfl rfl (by kernel_rfl) (by decide) (fun K hK => ?_)
  refine skip_ (w1 := ?_) (by rfl) rfl ?_ ?_
  rotate_left
  · go_simp
    rfl
  refine hK.out _ _ ?_
  clear hK K
  refine pure_ (i := 7) (N := some 9) (v := ?_) (a' := ?_) #[true, true, true, true, true, true, true, true] rfl rfl (by kernel_rfl) (fun _ _ _ h => h) (Or.inl ⟨by rfl, ?_⟩) ?_ ?_
  rotate_left
  · intro w'
    go_simp
    with_reducible rfl
  rotate_left
  · simp only [Act.put, List.setIfInBounds_toArray, List.set_cons_zero, List.set_cons_succ, i64_w, i32_w]
    rfl
  refine done_ (by kernel_rfl) ?_
  go_wp2_with fail
  have o1 : (y.setCell ⟨w.heap.size + 1 + 1 + 1 + 1, 0, none⟩ (.slice A1 n1 c1)).heap[w.heap.size + 1 + 1 + 1 + 1]? = some (.cells #[.slice A1 n1 c1] 25 (0, 0)) := blk_put zb1 0 _ rfl
  have hRf := Kd.R_far (Kd.R_bound (Kd.R_below HRR.out hq1)) (p := ⟨w.heap.size + 1 + 1 + 1 + 1, 0, none⟩) (fun k hk => by have := hk.2.1; have := HL2.out; show k ≠ w.heap.size + 1 + 1 + 1 + 1; omega) (.slice A1 n1 c1)
  obtain ⟨e1, e2, e3⟩ := Kd.R_reads' hRf
  rw [← e1] at e3
  exact bodyPost_ret (B.res_ct rfl _ _ (w.heap.size + 1 + 1 + 1 + 1) 25 _ (0, 0) _ rfl o1 Try.underlying25 rfl (by kernel_rfl)) rfl ⟨A1, n1, c1, rfl, e3, e2, (bst BX.out.bl hq1).setCell (show w.heap.size ≤ w.heap.size + 1 + 1 + 1 + 1 by omega) _⟩
end Go.Proofs.Ytgddblpgbkgpcaa.PR
namespace Go.Proofs.Ytgddblpgbkgpcaa.PR
set_option linter.unusedVariables false
set_option linter.unusedSimpArgs false
open Go.RowKit Go.Proofs.YtgddblpgbkgpcaaW.PrintWords Go.Proofs.YtgddblpgbkgpcaaW.PrintLast Go.Proofs.YtgddblpgbkgpcaaW.PrintMore
set_option linter.unusedVariables false
set_option linter.unusedSimpArgs false
structure De (W wi : World) (g b6 : Nat) (b : Int) (v : Value) (l : List S46) (x : S35) : Prop where
  rn : Rn W wi g b
  bl : Below W.heap.size W wi
  c6 : wi.heap[b6]? = some (.cells #[v] 25 (0, 0))
  c7 : wi.heap[b6 + 1]? = some (.cells #[.int .i64 x.f0, .string x.f1, .int .i64 x.f2] 35 (0, 0))
  gW : W.heap.size ≤ g
  gB : g < b6
  hl : k46.R 46 wi W.heap.size (fun k => k ≠ g ∧ k < b6) v l
theorem De.call {W wi w1 : World} {g b6 : Nat} {b b' : Int} {v : Value} {l : List S46} {x : S35} (h : De W wi g b6 b v l x) (hR : Rn W w1 g b') (hB : Below W.heap.size W w1) (hK : KeepBut wi w1 g none) : De W w1 g b6 b' v l x := by
  have h2 := h.gB
  exact ⟨hR, hB, hK.blk h.c6 (by omega) (by simp), hK.blk h.c7 (by omega) (by simp), h.gW, h2, Kd.R_keep h.hl hK (fun k hk => hk.1)⟩
theorem De.drew {W wi : World} {g b6 : Nat} {b : Int} {v : Value} {l : List S46} {x : S35} (h : De W wi g b6 b v l x) : De W wi.drew g b6 b v l x := h.call h.rn.drew (below_drew h.bl) (KeepBut.of_below (below_drew (Below.refl _ _)) g none)
theorem De.start {W w2 w3 : World} {g : Nat} {b b' : Int} {v : Value} {l : List S46} {x : S35} (hR0 : Rn W w2 g b) (hB0 : Below W.heap.size W w2) (hl : k46.R 46 w3 w2.heap.size (fun _ => True) v l) (hR : Rn W w3 g b') (hB : Below W.heap.size W w3) (hK : KeepBut w2 w3 g none) :
    De W ((w3.alloc (.cells #[v] 25)).alloc (.cells #[.int .i64 x.f0, .string x.f1, .int .i64 x.f2] 35)) g w3.heap.size b' v l x := by
  have hgl := hR0.lt
  have hs := hK.1
  have hs0 := hB0.size
  have e7 := blk_new (w3.alloc (.cells #[v] 25)) (.cells #[.int .i64 x.f0, .string x.f1, .int .i64 x.f2] 35)
  rw [World.size_alloc] at e7
  have hl2 : k46.R 46 w3 W.heap.size (fun k => k ≠ g ∧ k < w3.heap.size) v l := Kd.R_lower (Kd.R_mono (Kd.R_bound hl) (fun k hk => by have := hk.2.1; have := hk.2.2.1; refine ⟨?_, ?_⟩ <;> omega)) (by omega)
  exact ⟨(hR.alloc _).alloc _, bla (bla hB _) _, kla (blk_new _ _) _, e7, hR0.ge, by omega, Kd.R_alloc (Kd.R_alloc hl2 _) _⟩
theorem R_low {wi : World} {N : Nat} {ok : Nat → Prop} {v : Value} {l : List S46} (h : k46.R 46 wi N ok v l) {p : Addr} (hp : p.block < N) (u : Value) : k46.R 46 (wi.setCell p u) N (fun k => ok k ∧ N ≤ k) v l :=
  Kd.R_far (Kd.R_mono (Kd.R_bound h) (fun k hk => ⟨hk.1, hk.2.1⟩)) (fun k hk => by have := hk.2; omega) u
theorem R_low3 {wi : World} {N b : Nat} {ok : Nat → Prop} {v : Value} {l : List S46} (h : k46.R 46 wi N ok v l) (hp : b < N) (x y z : Value) : k46.R 46 (((wi.setCell ⟨b, 0, none⟩ x).setCell ⟨b, 1, none⟩ y).setCell ⟨b, 2, none⟩ z) N (fun _ => True) v l :=
  Kd.R_mono (R_low (R_low (R_low h hp x) hp y) hp z) (fun _ _ => trivial)
theorem far3 {wi : World} {a b : Nat} {o : Obj} (h : wi.heap[a]? = some o) (hn : a ≠ b) (x y z : Value) : (((wi.setCell ⟨b, 0, none⟩ x).setCell ⟨b, 1, none⟩ y).setCell ⟨b, 2, none⟩ z).heap[a]? = some o := B.blk_far (B.blk_far (B.blk_far h (p := ⟨b, 0, none⟩) hn x) (p := ⟨b, 1, none⟩) hn y) (p := ⟨b, 2, none⟩) hn z
theorem put35 {X : World} {b : Nat} {z0 z1 z2 : Value} (hz : X.heap[b]? = some (.cells #[z0, z1, z2] 35 (0, 0))) (x0 x1 x2 : Value) : (((X.setCell ⟨b, 0, none⟩ x0).setCell ⟨b, 1, none⟩ x1).setCell ⟨b, 2, none⟩ x2).heap[b]? = some (.cells #[x0, x1, x2] 35 (0, 0)) := by
  have q0 : (X.setCell ⟨b, 0, none⟩ x0).heap[b]? = some (.cells #[x0, z1, z2] 35 (0, 0)) := blk_put hz 0 _ rfl
  have q1 : ((X.setCell ⟨b, 0, none⟩ x0).setCell ⟨b, 1, none⟩ x1).heap[b]? = some (.cells #[x0, x1, z2] 35 (0, 0)) := blk_put q0 1 _ rfl
  exact blk_put q1 2 _ rfl
theorem set35b {w X : World} {b : Nat} (h : Below w.heap.size w X) (hb : w.heap.size ≤ b) (x y z : Value) : Below w.heap.size w (((X.setCell ⟨b, 0, none⟩ x).setCell ⟨b, 1, none⟩ y).setCell ⟨b, 2, none⟩ z) := ((h.setCell hb _).setCell hb _).setCell hb _
theorem res_c3 {P : Program} {fn : Func} {p0 p1 p2 : Tmp} {ty0 ty1 ty2 : TypeId} (h : fn.results = #[.cell p0 ty0, .cell p1 ty1, .cell p2 ty2]) (tmps : Array Value) (w : World)
    {g0 : Nat} {t0 : TypeId} {cs0 : Array Value} {fr0 : Nat × Nat} {d0 : TypeDesc} (hp0 : tmps.getD p0 undef = .pointer (some ⟨g0, 0, none⟩)) (hg0 : w.heap[g0]? = some (.cells cs0 t0 fr0)) (hu0 : P.underlying ty0 = some d0) (hd0 : (match d0 with | .struct _ | .array _ _ => true | _ => false) = true) (hi0 : (P.info? ty0).map (·.size) = some cs0.size)
    {g1 : Nat} {t1 : TypeId} {cs1 : Array Value} {fr1 : Nat × Nat} {d1 : TypeDesc} (hp1 : tmps.getD p1 undef = .pointer (some ⟨g1, 0, none⟩)) (hg1 : w.heap[g1]? = some (.cells cs1 t1 fr1)) (hu1 : P.underlying ty1 = some d1) (hd1 : (match d1 with | .struct _ | .array _ _ => true | _ => false) = true) (hi1 : (P.info? ty1).map (·.size) = some cs1.size)
    {g2 : Nat} {t2 : TypeId} {cs2 : Array Value} {fr2 : Nat × Nat} {d2 : TypeDesc} (hp2 : tmps.getD p2 undef = .pointer (some ⟨g2, 0, none⟩)) (hg2 : w.heap[g2]? = some (.cells cs2 t2 fr2)) (hu2 : P.underlying ty2 = some d2) (hd2 : (match d2 with | .struct _ | .array _ _ => true | _ => false) = true) (hi2 : (P.info? ty2).map (·.size) = some cs2.size) :
    (results fn tmps).run P w = .ok (.tuple #[.agg cs0, .agg cs1, .agg cs2]) w := by
  have h0 : tmps[p0]?.getD undef = .pointer (some ⟨g0, 0, none⟩) := by simpa using hp0
  have h1 : tmps[p1]?.getD undef = .pointer (some ⟨g1, 0, none⟩) := by simpa using hp1
  have h2 : tmps[p2]?.getD undef = .pointer (some ⟨g2, 0, none⟩) := by simpa using hp2
  simp [results, h, h0, h1, h2, asAddr, run_loadVar_row w g0 t0 ty0 cs0 fr0 d0 hg0 hu0 hd0 hi0, run_loadVar_row w g1 t1 ty1 cs1 fr1 d1 hg1 hu1 hd1 hi1, run_loadVar_row w g2 t2 ty2 cs2 fr2 d2 hg2 hu2 hd2 hi2]
def DPi33 (w : World) (e : Ending) (w' : World) : Prop :=
  ∃ (A : Option Addr) (n c : Nat) (l : List S46) (x y : S35), e = .returned (.tuple #[.agg #[.slice A n c], .agg #[.int .i64 x.f0, .string x.f1, .int .i64 x.f2], .agg #[.int .i64 y.f0, .string y.f1, .int .i64 y.f2]]) ∧ Kd.C k46 w' A n l ∧ n ≤ c ∧ n ≤ 24 ∧ (∀ o ∈ l, oB o = true) ∧ VOk x ∧ VOk y ∧ Below w.heap.size w w'
set_option maxRecDepth 100000 in
set_option maxHeartbeats 4000000 in
theorem draw33_w (a : Option Addr) (c0 : Nat) (l0 : List Int) (w : World) (hr0 : Kd.C (Kd.int .u8) w a l0.length l0) (hc0 : l0.length ≤ c0) (hw0 : ∀ x ∈ l0, 0 ≤ x ∧ x ≤ 255) :
    Calls Try.prog 33 #[.slice a l0.length c0] w (DPi33 w) := by
  obtain ⟨W, hW⟩ : ∃ W : World, W = ((w.alloc (.cells #[.slice none 0 0] 25)).alloc (.cells #[.int .i64 0, .string ⟨#[]⟩, .int .i64 0] 35)).alloc (.cells #[.int .i64 0, .string ⟨#[]⟩, .int .i64 0] 35) := ⟨_, rfl⟩
  have hwb : Below w.heap.size w W := by rw [hW]; exact bla (bla (bla (Below.refl _ _) _) _) _
  have z0 : W.heap[w.heap.size]? = some (.cells #[.slice none 0 0] 25 (0, 0)) := by rw [hW]; exact kla (kla ((blk_new _ _)) _) _
  have e1 := blk_new (w.alloc (.cells #[.slice none 0 0] 25)) (.cells #[.int .i64 0, .string ⟨#[]⟩, .int .i64 0] 35)
  rw [World.size_alloc] at e1
  have z1 : W.heap[w.heap.size + 1]? = some (.cells #[.int .i64 0, .string ⟨#[]⟩, .int .i64 0] 35 (0, 0)) := by rw [hW]; exact kla (e1) _
  have e2 := blk_new ((w.alloc (.cells #[.slice none 0 0] 25)).alloc (.cells #[.int .i64 0, .string ⟨#[]⟩, .int .i64 0] 35)) (.cells #[.int .i64 0, .string ⟨#[]⟩, .int .i64 0] 35)
  rw [World.size_alloc, World.size_alloc] at e2
  have z2 : W.heap[w.heap.size + 1 + 1]? = some (.cells #[.int .i64 0, .string ⟨#[]⟩, .int .i64 0] 35 (0, 0)) := by rw [hW]; exact e2
  have hsz : w.heap.size + 1 + 1 < W.heap.size := blk_lt z2
  have HZ0 := Aside0.mk z0
  have HZ1 := Aside0.mk z1
  have HZ2 := Aside0.mk z2
  have HSZ := Lib.hid hsz
  have HWB := Aside0.mk hwb
  have HR0 := Aside0.mk (Kd.C_below hr0 hwb)
  have HC0 := Aside0.mk hc0
  have hcs : CsOk (l0.take ((mn (l0.length : Int) 4000) : Int).toNat) := ⟨by rw [List.length_take]; unfold mn; split <;> omega, fun x hx => hw0 x (List.mem_of_mem_take hx)⟩
  have HF := Lib.hid (show spec_newRnd.f l0 = some (l0.take ((mn (l0.length : Int) 4000) : Int).toNat, 0) by unfold spec_newRnd.f; rw [if_pos (by unfold mn; split <;> omega), if_pos (by unfold mn; split <;> omega)])
  have HCS := Aside0.mk hcs
  have HW := Lib.hid hW
  clear hr0 hc0 hcs hw0 hW hwb hsz z0 z1 z2 e1 e2
  go_enter Try.func33, Try.ntmps33
  go_upto_region 1 with (fail)
  rw [← HW.out]
  go_upto_region 3 with (first
    | (go_at_call 49; refine (spec_newRnd.calls a c0 l0 _ _ W _ (Below.refl _ _) HR0.out HC0.out HF.out).mono ?_; rintro e w2 ⟨g, rfl, hI, hB, -⟩; have HX := Aside0.mk (show Rn W w2 g 0 ∧ Below W.heap.size W w2 from ⟨⟨_, 0, hI, HCS.out, Int.le_refl _, Int.le_refl _⟩, hB⟩); clear hI hB)
    | (go_at_call 50; refine (heap_w g 0 W _ HX.out.1 HX.out.2 (by omega)).mono ?_; rintro e w3 ⟨v, l, x, rfl, hx, lo, hi, hall, hl, hR, hB, hK⟩; obtain ⟨A, n, c, rfl, hn⟩ : ∃ A n c, v = .slice A n c ∧ n = l.length := slice_form hl; have hn24 : n ≤ 24 := hn ▸ hi; have HN := Lib.hid hn; have HVX := Aside0.mk hx; have HALL := Aside0.mk hall; have HD := Aside0.mk (De.start (x := x) HX.out.1 HX.out.2 hl hR hB hK); clear hx lo hi hall hl hR hB hK hn))
  obtain ⟨W3, hW3⟩ : ∃ W3 : World, W3 = (w3.alloc (.cells #[.slice A n c] 25)).alloc (.cells #[.int .i64 x.f0, .string x.f1, .int .i64 x.f2] 35) := ⟨_, rfl⟩
  rw [← hW3] at HD ⊢
  obtain ⟨b6, hb6⟩ : ∃ b6, b6 = w3.heap.size := ⟨_, rfl⟩
  rw [← hb6] at HD ⊢
  clear hW3 hb6 HX
  go_wp2_with fail
  have hpd := HD.out.drew
  refine start_ (n := 10) (S := fun w' => w'.cell? ⟨b6, 0, none⟩ = some (.slice A n c) ∧ w'.cell? ⟨b6 + 1, 0, none⟩ = some (.int .i64 x.f0) ∧ w'.cell? ⟨b6 + 1, 1, none⟩ = some (.string x.f1) ∧ w'.cell? ⟨b6 + 1, 2, none⟩ = some (.int .i64 x.f2)) (ds := [8, 9]) #[false, false, false, false, false, false, false, false, false, false] (by kernel_rfl) rfl rfl ⟨kcl hpd.c6 0, kcl hpd.c7 0, kcl hpd.c7 1, kcl hpd.c7 2⟩ (fun hHeld => ?_)
  generalize W3.drew = w10 at hpd hHeld ⊢
  refine pure_ (i := 2) (N := some 17) (v := ?_) (a' := ?_) #[false, false, true, false, false, false, false, false, false, false] rfl rfl (by kernel_rfl) (fun _ _ _ h => h) (Or.inl ⟨by rfl, ?_⟩) ?_ ?_
  rotate_left
  · intro w'
    go_simp
    with_reducible rfl
  rotate_left
  · simp only [Act.put, List.setIfInBounds_toArray, List.set_cons_zero, List.set_cons_succ, i64_w, i32_w]
    rfl
  refine pure_ (i := 3) (N := some 18) (v := ?_) (a' := ?_) #[false, false, true, true, false, false, false, false, false, false] rfl rfl (by kernel_rfl) (fun _ _ _ h => h) (Or.inl ⟨by rfl, ?_⟩) ?_ ?_
  rotate_left
  · intro w'
    go_simp
    with_reducible rfl
  rotate_left
  · simp only [Act.put, List.setIfInBounds_toArray, List.set_cons_zero, List.set_cons_succ, i64_w, i32_w]
    rfl
  refine take_ (i := 0) (N := some 15) (v := ?_) (a' := ?_) #[true, false, true, true, false, false, false, false, false, false] rfl rfl (by kernel_rfl) (fun _ _ _ h => h) (Or.inl ⟨by rfl, ?_⟩) hHeld ?_ ?_
  rotate_left
  · rintro w' ⟨s0, s1, s2, s3⟩
    go_simp
    with_reducible rfl
  rotate_left
  · simp only [Act.put, List.setIfInBounds_toArray, List.set_cons_zero, List.set_cons_succ, i64_w, i32_w]
    rfl
  refine take_ (i := 1) (N := some 16) (v := ?_) (a' := ?_) #[true, true, true, true, false, false, false, false, false, false] rfl rfl (by kernel_rfl) (fun _ _ _ h => h) (Or.inl ⟨by rfl, ?_⟩) hHeld ?_ ?_
  rotate_left
  · rintro w' ⟨s0, s1, s2, s3⟩
    go_simp
    with_reducible rfl
  rotate_left
  · simp only [Act.put, List.setIfInBounds_toArray, List.set_cons_zero, List.set_cons_succ, i64_w, i32_w]
    rfl
  refine take_ (i := 4) (N := some 19) (v := ?_) (a' := ?_) #[true, true, true, true, true, false, false, false, false, false] rfl rfl (by kernel_rfl) (fun _ _ _ h => h) (Or.inl ⟨by rfl, ?_⟩) hHeld ?_ ?_
  rotate_left
  · rintro w' ⟨s0, s1, s2, s3⟩
    go_simp
    with_reducible rfl
  rotate_left
  · simp only [Act.put, List.setIfInBounds_toArray, List.set_cons_zero, List.set_cons_succ, i64_w, i32_w]
    rfl
  refine pure_ (i := 5) (N := some 20) (v := ?_) (a' := ?_) #[true, true, true, true, true, true, false, false, false, false] rfl rfl (by kernel_rfl) (fun _ _ _ h => h) (Or.inl ⟨by rfl, ?_⟩) ?_ ?_
  rotate_left
  · intro w'
    go_simp
    with_reducible rfl
  rotate_left
  · simp only [Act.put, List.setIfInBounds_toArray, List.set_cons_zero, List.set_cons_succ, i64_w, i32_w]
    rfl
  refine one_ (i := 6) (N := some 21) #[true, true, true, true, true, true, true, false, false, false] rfl rfl (by kernel_rfl) (by decide) (fun K hK => ?_)
  refine goes_ Try.func52 (by kernel_rfl) rfl #[.pointer (some ⟨g, 0, none⟩), .int .i64 (n : Int)] (by rfl) rfl rfl (by simp only [List.map_toArray, List.map_cons, List.map_nil]; rfl) ?_
  with_reducible refine (value_w g n 10000 W _ hpd.rn hpd.bl (by omega) (by omega) (by omega)).mono ?_
  rintro e w11 ⟨y, rfl, hy, hR, hB, hK⟩
  refine ⟨_, rfl, ?_⟩
  have hp1 := hpd.call hR hB hK
  clear hR hB hK
  have zz0 := kbw HZ0.out hp1.bl
  have zc00 := (kcl zz0 0).trans (show _ = some (.slice none 0 0) from rfl)
  have zf00 := kfz zz0 0
  have zz1 := kbw HZ1.out hp1.bl
  have zc10 := (kcl zz1 0).trans (show _ = some (.int .i64 0) from rfl)
  have zf10 := kfz zz1 0
  have zc11 := (kcl zz1 1).trans (show _ = some (.string ⟨#[]⟩) from rfl)
  have zf11 := kfz zz1 1
  have zc12 := (kcl zz1 2).trans (show _ = some (.int .i64 0) from rfl)
  have zf12 := kfz zz1 2
  have zz2 := kbw HZ2.out hp1.bl
  have zc20 := (kcl zz2 0).trans (show _ = some (.int .i64 0) from rfl)
  have zf20 := kfz zz2 0
  have zc21 := (kcl zz2 1).trans (show _ = some (.string ⟨#[]⟩) from rfl)
  have zf21 := kfz zz2 1
  have zc22 := (kcl zz2 2).trans (show _ = some (.int .i64 0) from rfl)
  have zf22 := kfz zz2 2
  refine hK.out _ _ ⟨kcl hp1.c6 0, kcl hp1.c7 0, kcl hp1.c7 1, kcl hp1.c7 2⟩ (fun hHeld => ?_)
  clear hK K
  refine norm_ (a' := ?_) ?_ ?_
  rotate_left
  · show Act.put _ (some 21) _ = _
    simp only [Act.put, List.setIfInBounds_toArray, List.set_cons_zero, List.set_cons_succ, i64_w, i32_w]
    rfl
  refine one_ (i := 7) (N := none) #[true, true, true, true, true, true, true, true, false, false] rfl rfl (by kernel_rfl) (by decide) (fun K hK => ?_)
  refine skip_ (w1 := ?_) (by rfl) rfl ?_ ?_
  rotate_left
  · go_simp
    rfl
  refine hK.out _ _ ⟨kcl (blk_far hp1.c6 (p := ⟨w.heap.size, 0, none⟩) (by have := hp1.gB; have := hp1.gW; have := HSZ.out; show _ ≠ w.heap.size; omega) _) 0, kcl (blk_far hp1.c7 (p := ⟨w.heap.size, 0, none⟩) (by have := hp1.gB; have := hp1.gW; have := HSZ.out; show _ ≠ w.heap.size; omega) _) 0, kcl (blk_far hp1.c7 (p := ⟨w.heap.size, 0, none⟩) (by have := hp1.gB; have := hp1.gW; have := HSZ.out; show _ ≠ w.heap.size; omega) _) 1, kcl (blk_far hp1.c7 (p := ⟨w.heap.size, 0, none⟩) (by have := hp1.gB; have := hp1.gW; have := HSZ.out; show _ ≠ w.heap.size; omega) _) 2⟩ (fun hHeld => ?_)
  clear hK K
  refine last_ (i := 8) (N := none) #[true, true, true, true, true, true, true, true, true, false] rfl rfl (by kernel_rfl) (by decide) (fun K hK => ?_)
  refine skip_ (w1 := ?_) (by rfl) rfl ?_ ?_
  rotate_left
  · go_simp
    rfl
  refine hK.out _ _ ?_
  clear hK K
  refine last_ (i := 9) (N := none) #[true, true, true, true, true, true, true, true, true, true] rfl rfl (by kernel_rfl) (by decide) (fun K hK => ?_)
  refine skip_ (w1 := ?_) (by rfl) rfl ?_ ?_
  rotate_left
  · go_simp
    rfl
  refine hK.out _ _ ?_
  clear hK K
  refine done_ (by kernel_rfl) ?_
  go_wp2_with fail
  have q0 : (w11.setCell ⟨w.heap.size, 0, none⟩ (.slice A n c)).heap[w.heap.size]? = some (.cells #[.slice A n c] 25 (0, 0)) := blk_put zz0 0 _ rfl
  have y1 : (w11.setCell ⟨w.heap.size, 0, none⟩ (.slice A n c)).heap[w.heap.size + 1]? = some (.cells #[.int .i64 0, .string ⟨#[]⟩, .int .i64 0] 35 (0, 0)) := blk_far zz1 (p := ⟨w.heap.size, 0, none⟩) (by show _ ≠ w.heap.size; omega) _
  have y2 : (w11.setCell ⟨w.heap.size, 0, none⟩ (.slice A n c)).heap[w.heap.size + 1 + 1]? = some (.cells #[.int .i64 0, .string ⟨#[]⟩, .int .i64 0] 35 (0, 0)) := blk_far zz2 (p := ⟨w.heap.size, 0, none⟩) (by show _ ≠ w.heap.size; omega) _
  have r0 := R_low hp1.hl (p := ⟨w.heap.size, 0, none⟩) (by have := HSZ.out; show w.heap.size < _; omega) (.slice A n c)
  have q0_1 := far3 q0 (b := w.heap.size + 1) (by omega) (.int .i64 x.f0) (.string x.f1) (.int .i64 x.f2)
  have p1_1 := put35 y1 (.int .i64 x.f0) (.string x.f1) (.int .i64 x.f2)
  have y2_1 := far3 y2 (b := w.heap.size + 1) (by omega) (.int .i64 x.f0) (.string x.f1) (.int .i64 x.f2)
  have r1 := R_low3 r0 (b := w.heap.size + 1) (by have := HSZ.out; omega) (.int .i64 x.f0) (.string x.f1) (.int .i64 x.f2)
  have q0_2 := far3 q0_1 (b := w.heap.size + 1 + 1) (by omega) (.int .i64 y.f0) (.string y.f1) (.int .i64 y.f2)
  have p1_2 := far3 p1_1 (b := w.heap.size + 1 + 1) (by omega) (.int .i64 y.f0) (.string y.f1) (.int .i64 y.f2)
  have p2_2 := put35 y2_1 (.int .i64 y.f0) (.string y.f1) (.int .i64 y.f2)
  have r2 := R_low3 r1 (b := w.heap.size + 1 + 1) (by have := HSZ.out; omega) (.int .i64 y.f0) (.string y.f1) (.int .i64 y.f2)
  obtain ⟨e1, e2, e3⟩ := Kd.R_reads' r2
  rw [← e1] at e3
  exact bodyPost_ret (res_c3 rfl _ _ rfl q0_2 Try.underlying25 rfl (by kernel_rfl) rfl p1_2 Try.underlying35 rfl (by kernel_rfl) rfl p2_2 Try.underlying35 rfl (by kernel_rfl)) rfl ⟨A, n, c, l, x, y, rfl, e3, e2, hn24, HALL.out, HVX.out, hy, set35b (set35b ((bst HWB.out hp1.bl).setCell (Nat.le_refl _) _) (by omega) _ _ _) (by omega) _ _ _⟩
end Go.Proofs.Ytgddblpgbkgpcaa.PR
