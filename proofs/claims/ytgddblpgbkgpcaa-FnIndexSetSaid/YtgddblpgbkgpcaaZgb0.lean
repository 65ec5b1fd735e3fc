/- Part of the proof of fnIndexSet_holds. -/
import Derived.ArgAppend
import Derived.Below
import Derived.BigQuiet
import Derived.Deep.AppendLies
import Derived.Deep.CutBlock
import Derived.Deep.DeepCutAuto
import Derived.Deep.Draws
import Derived.Deep.LoopGhost
import Derived.Deep.OwnRows
import Derived.Deep.QuietTactic
import Derived.Deep.RegionHeld3
import Derived.KernelRfl
import Derived.Laws.BitsLemmas
import Derived.Laws.BytesArg
import Derived.Laws.IdiomCopy
import Derived.Laws.MakeOwn
import Derived.Laws.OwnMore
import Derived.Laws.Rows
import Derived.Laws.Slices
import Derived.Lib.AppendStr
import Derived.Lib.ConvBytes
import Derived.Lib.Hide
import Derived.Lib.IndexBytes
import Derived.Lib.Strings
import Derived.Maps.AppendAt
import Derived.OrdersHeld
import Derived.OwnWalk
import Derived.RowKit
import Derived.RowKit3
import Derived.Tactics
import Derived.Test.YtgddblpgbkgpcaaProg
import Derived.WalkKit
import Derived.WideLaws
import Derived.Deep.RegionLaw
import Derived.IntWalk
import Derived.Deep.Light
import Derived.Test.YtgddblpgbkgpcaaZgw0
namespace Go.Proofs.Ytgddblpgbkgpcaa.B
set_option linter.unusedVariables false
set_option linter.unusedSimpArgs false
open Go.RowKit
set_option linter.unusedVariables false
set_option linter.unusedSimpArgs false
theorem ret_bool {a b : Bool} (h : a = b) : Ending.returned (.bool a) = .returned (.bool b) := by rw [h]
theorem ret_int {k : IntKind} {a b : Int} (h : a = b) : Ending.returned (.int k a) = .returned (.int k b) := by rw [h]
theorem bcell {W w1 : World} (hb : Below W.heap.size W w1) : (∀ b o, b < W.heap.size → w1.cell? ⟨b, o, none⟩ = W.cell? ⟨b, o, none⟩) ∧ (∀ b o, b < W.heap.size → w1.frozen? ⟨b, o, none⟩ = W.frozen? ⟨b, o, none⟩) :=
  ⟨fun b o h => hb.cell (p := ⟨b, o, none⟩) h, fun b o h => hb.frozen (p := ⟨b, o, none⟩) h⟩
theorem heap_new (w : World) (o : Obj) : (w.alloc o).heap[w.heap.size]? = some o := Array.getElem?_push_size
theorem bA {w W : World} (h : Below w.heap.size w W) (o : Obj) : Below w.heap.size w (W.alloc o) := h.alloc h.size o
theorem bD {B : Nat} {w W : World} (h : Below B w W) : Below B w W.drew := ⟨h.os, h.tape, h.output, h.size, h.block⟩
theorem bN {B : Nat} {w W : World} (h : Below B w W) (n : Nat) : Below B w (W.drewN n) := ⟨h.os, h.tape, h.output, h.size, h.block⟩
theorem b_then {B : Nat} {w w1 w2 : World} (h : Below B w w1) (hB : B ≤ w1.heap.size) (k : Below w1.heap.size w1 w2) : Below B w w2 := h.trans (k.mono hB)
theorem bS {w W w2 : World} (h : Below w.heap.size w W) (k : Below W.heap.size W w2) : Below w.heap.size w w2 := b_then h h.size k
theorem blk_lt {w : World} {g : Nat} {o : Obj} (h : w.heap[g]? = some o) : g < w.heap.size := (Array.getElem?_eq_some_iff.1 h).1
theorem kbw {w w1 : World} {g : Nat} {o : Obj} (h : w.heap[g]? = some o) (hb : Below w.heap.size w w1) : w1.heap[g]? = some o := (hb.block g (blk_lt h)).trans h
theorem kla {w : World} {g : Nat} {o : Obj} (h : w.heap[g]? = some o) (o' : Obj) : (w.alloc o').heap[g]? = some o := kbw h ((Below.refl _ _).alloc (Nat.le_refl _) _)
theorem kcl {w : World} {g : Nat} {t : TypeId} {cs : Array Value} (h : w.heap[g]? = some (.cells cs t (0, 0))) (i : Nat) : w.cell? ⟨g, i, none⟩ = cs[i]? := cell_of_row w g i cs t (0, 0) h
theorem kfz {w : World} {g : Nat} {t : TypeId} {cs : Array Value} (h : w.heap[g]? = some (.cells cs t (0, 0))) (i : Nat) : w.frozen? ⟨g, i, none⟩ = false := by simp [World.frozen?, h]
theorem cell_keep {w w1 : World} (h : Below w.heap.size w w1) {a : Addr} {v : Value} (hc : w.cell? a = some v) : w1.cell? a = some v := (h.cell (World.block_lt_of_cell? w a hc)).trans hc
section
variable {P : Program}
theorem res_c {fn : Func} {p : Tmp} {ty : TypeId} (h : fn.results = #[.cell p ty]) (tmps : Array Value) (w : World) (g : Nat) (t : TypeId) (cs : Array Value) (fr : Nat × Nat) (d : TypeDesc)
    (hp : tmps.getD p undef = .pointer (some ⟨g, 0, none⟩)) (hg : w.heap[g]? = some (.cells cs t fr))
    (hu : P.underlying ty = some d) (hd : (match d with | .struct _ | .array _ _ => true | _ => false) = true) (hi : (P.info? ty).map (·.size) = some cs.size) :
    (results fn tmps).run P w = .ok (.agg cs) w := by
  have hp' : tmps[p]?.getD undef = .pointer (some ⟨g, 0, none⟩) := by simpa using hp
  simp [results, h, hp', asAddr, run_loadVar_row w g t ty cs fr d hg hu hd hi]
theorem res_ct {fn : Func} {p u : Tmp} {ty : TypeId} (h : fn.results = #[.cell p ty, .tmp u]) (tmps : Array Value) (w : World) (g : Nat) (t : TypeId) (cs : Array Value) (fr : Nat × Nat) (d : TypeDesc)
    (hp : tmps.getD p undef = .pointer (some ⟨g, 0, none⟩)) (hg : w.heap[g]? = some (.cells cs t fr))
    (hu : P.underlying ty = some d) (hd : (match d with | .struct _ | .array _ _ => true | _ => false) = true) (hi : (P.info? ty).map (·.size) = some cs.size) :
    (results fn tmps).run P w = .ok (.tuple #[.agg cs, tmps.getD u undef]) w := by
  have hp' : tmps[p]?.getD undef = .pointer (some ⟨g, 0, none⟩) := by simpa using hp
  simp [results, h, hp', asAddr, run_loadVar_row w g t ty cs fr d hg hu hd hi]
theorem res_cc {fn : Func} {p p' : Tmp} {ty ty' : TypeId} (h : fn.results = #[.cell p ty, .cell p' ty']) (tmps : Array Value) (w : World) (g g' : Nat) (t t' : TypeId) (cs cs' : Array Value) (fr fr' : Nat × Nat) (d d' : TypeDesc)
    (hp : tmps.getD p undef = .pointer (some ⟨g, 0, none⟩)) (hg : w.heap[g]? = some (.cells cs t fr))
    (hu : P.underlying ty = some d) (hd : (match d with | .struct _ | .array _ _ => true | _ => false) = true) (hi : (P.info? ty).map (·.size) = some cs.size)
    (hp' : tmps.getD p' undef = .pointer (some ⟨g', 0, none⟩)) (hg' : w.heap[g']? = some (.cells cs' t' fr'))
    (hu' : P.underlying ty' = some d') (hd' : (match d' with | .struct _ | .array _ _ => true | _ => false) = true) (hi' : (P.info? ty').map (·.size) = some cs'.size) :
    (results fn tmps).run P w = .ok (.tuple #[.agg cs, .agg cs']) w := by
  have h1 : tmps[p]?.getD undef = .pointer (some ⟨g, 0, none⟩) := by simpa using hp
  have h2 : tmps[p']?.getD undef = .pointer (some ⟨g', 0, none⟩) := by simpa using hp'
  simp [results, h, h1, h2, asAddr, run_loadVar_row w g t ty cs fr d hg hu hd hi, run_loadVar_row w g' t' ty' cs' fr' d' hg' hu' hd' hi']
end
theorem kgr {w w1 : World} {g : Nat} {o : Obj} {row : Option Nat} (h : w.heap[g]? = some o) (hg : w.grownBy w1 row) (hne : some g ≠ row) : w1.heap[g]? = some o := (hg.block g (blk_lt h) hne).trans h
theorem blk_far {w : World} {g : Nat} {o : Obj} (h : w.heap[g]? = some o) {p : Addr} (hp : g ≠ p.block) (u : Value) : (w.setCell p u).heap[g]? = some o := (Below.heap_setCell w p u g hp).trans h
theorem blk_set {w : World} {g : Nat} {t : TypeId} {cs : Array Value} (h : w.heap[g]? = some (.cells cs t (0, 0))) (i : Nat) (u : Value) : (w.setCell ⟨g, i, none⟩ u).heap[g]? = some (.cells (cs.setIfInBounds i u) t (0, 0)) := by
  unfold World.setCell; simp [Array.getElem?_modify, h]
def RS (w : World) (A : Option Addr) (l : List ByteArray) : Prop := l.length ≤ 9223372036854775807 ∧ (0 < l.length → ∃ ad, A = some ad ∧ ∀ i (h : i < l.length), w.cell? (ad.add i) = some (.string l[i]))
theorem RS.below {w w1 : World} {A : Option Addr} {l : List ByteArray} (h : RS w A l) (hb : Below w.heap.size w w1) : RS w1 A l :=
  ⟨h.1, fun hn => let ⟨ad, e, hc⟩ := h.2 hn; ⟨ad, e, fun i hi => cell_keep hb (hc i hi)⟩⟩
theorem RS.take {w : World} {A : Option Addr} {l : List ByteArray} (h : RS w A l) (k : Nat) : RS w A (l.take k) := by
  refine ⟨by rw [List.length_take]; have := h.1; omega, fun hn => ?_⟩
  obtain ⟨ad, e, hc⟩ := h.2 (by simp at hn; omega)
  exact ⟨ad, e, fun i hi => by rw [List.getElem_take]; exact hc i (by simp at hi; omega)⟩
structure V where
  k : Int
  t : ByteArray
  r : Int
def RV (w : World) (A : Option Addr) (l : List V) : Prop := l.length ≤ 9223372036854775807 ∧ (0 < l.length → ∃ ad, A = some ad ∧ ∀ i (h : i < l.length), w.cell? (ad.add (i * 3)) = some (.int .i64 l[i].k) ∧ w.cell? ⟨(ad.add (i * 3)).block, (ad.add (i * 3)).off + 1, none⟩ = some (.string l[i].t) ∧ w.cell? ⟨(ad.add (i * 3)).block, (ad.add (i * 3)).off + 2, none⟩ = some (.int .i64 l[i].r) ∧ l[i].t.size ≤ 9223372036854775807)
theorem RV.below {w w1 : World} {A : Option Addr} {l : List V} (h : RV w A l) (hb : Below w.heap.size w w1) : RV w1 A l :=
  ⟨h.1, fun hn => let ⟨ad, e, hc⟩ := h.2 hn; ⟨ad, e, fun i hi => ⟨cell_keep hb (hc i hi).1, cell_keep hb (hc i hi).2.1, cell_keep hb (hc i hi).2.2.1, (hc i hi).2.2.2⟩⟩⟩
theorem RV.take {w : World} {A : Option Addr} {l : List V} (h : RV w A l) (k : Nat) : RV w A (l.take k) := by
  refine ⟨by rw [List.length_take]; have := h.1; omega, fun hn => ?_⟩
  obtain ⟨ad, e, hc⟩ := h.2 (by simp at hn; omega)
  exact ⟨ad, e, fun i hi => by rw [List.getElem_take]; exact hc i (by simp at hi; omega)⟩
structure O where
  k : Int
  nm : ByteArray
  pl : Int
  its : List V
  ks : List V
  ns : List ByteArray
  vs : List V
def OC (w : World) (a : Addr) (o : O) : Prop := ∃ A3 c3 A4 c4 A5 c5 A6 c6, w.cell? a = some (.int .i64 o.k) ∧ w.cell? ⟨a.block, a.off + 1, none⟩ = some (.string o.nm) ∧ w.cell? ⟨a.block, a.off + 2, none⟩ = some (.int .i64 o.pl) ∧ w.cell? ⟨a.block, a.off + 3, none⟩ = some (.slice A3 o.its.length c3) ∧ w.cell? ⟨a.block, a.off + 4, none⟩ = some (.slice A4 o.ks.length c4) ∧ w.cell? ⟨a.block, a.off + 5, none⟩ = some (.slice A5 o.ns.length c5) ∧ w.cell? ⟨a.block, a.off + 6, none⟩ = some (.slice A6 o.vs.length c6) ∧ o.its.length ≤ c3 ∧ RV w A3 o.its ∧ o.ks.length ≤ c4 ∧ RV w A4 o.ks ∧ o.ns.length ≤ c5 ∧ RS w A5 o.ns ∧ o.vs.length ≤ c6 ∧ RV w A6 o.vs ∧ o.nm.size ≤ 9223372036854775807 ∧ ∀ s ∈ o.ns, s.size ≤ 9223372036854775807
theorem OC.below {w w1 : World} {a : Addr} {o : O} (h : OC w a o) (hb : Below w.heap.size w w1) : OC w1 a o := by
  obtain ⟨A3, c3, A4, c4, A5, c5, A6, c6, h0, h1, h2, h3, h4, h5, h6, l3, r3, l4, r4, l5, r5, l6, r6, hz⟩ := h
  exact ⟨A3, c3, A4, c4, A5, c5, A6, c6, cell_keep hb h0, cell_keep hb h1, cell_keep hb h2, cell_keep hb h3, cell_keep hb h4, cell_keep hb h5, cell_keep hb h6, l3, r3.below hb, l4, r4.below hb, l5, r5.below hb, l6, r6.below hb, hz⟩
def RO (w : World) (A : Option Addr) (l : List O) : Prop := l.length ≤ 9223372036854775807 ∧ (0 < l.length → ∃ ad, A = some ad ∧ ∀ i (h : i < l.length), OC w (ad.add (i * 7)) l[i])
theorem RO.below {w w1 : World} {A : Option Addr} {l : List O} (h : RO w A l) (hb : Below w.heap.size w w1) : RO w1 A l :=
  ⟨h.1, fun hn => let ⟨ad, e, hc⟩ := h.2 hn; ⟨ad, e, fun i hi => (hc i hi).below hb⟩⟩
end Go.Proofs.Ytgddblpgbkgpcaa.B
namespace Go.Proofs.Ytgddblpgbkgpcaa.B
set_option linter.unusedVariables false
set_option linter.unusedSimpArgs false
open Go.RowKit
set_option linter.unusedVariables false
set_option linter.unusedSimpArgs false
def inR (a b c : Int) : Bool := decide (b ≤ a) && decide (a ≤ c)
theorem within_ok (a b c : Int) (w : World) : Calls Try.prog 101 #[.int .i64 a, .int .i64 b, .int .i64 c] w fun e w' => e = .returned (.bool (inR a b c)) ∧ w = w' := by
  unfold inR
  go_enter Try.func101, Try.ntmps101
  go_wp2
  all_goals
    go_ret
    refine ⟨ret_bool ?_, rfl⟩
    first | (simp [*]; done) | (simp; omega)
theorem iRo (a b c : Int) (w : World) : Calls Try.prog 103 #[.int .i64 a, .int .i64 b, .int .i64 c] w fun e w' => e = .returned (.bool (inR a b c)) ∧ w = w' := by
  unfold inR
  go_enter Try.func103, Try.ntmps103
  go_wp2
  all_goals
    go_ret
    refine ⟨ret_bool ?_, rfl⟩
    first | (simp [*]; done) | (simp; omega)
def idxS (s : ByteArray) : List ByteArray → Int
  | [] => -1
  | x :: l => if s.toList = x.toList then 0 else if idxS s l < 0 then -1 else idxS s l + 1
def hasS (l : List ByteArray) (s : ByteArray) : Bool := l.any fun x => x.toList == s.toList
theorem idxS_neg (s : ByteArray) : ∀ l : List ByteArray, idxS s l < 0 ↔ hasS l s = false
  | [] => by simp [idxS, hasS]
  | x :: l => by
    have ih := idxS_neg s l
    unfold idxS
    by_cases h : s.toList = x.toList
    · simp [h, hasS]
    · rw [if_neg h]
      have : hasS (x :: l) s = hasS l s := by simp [hasS, Ne.symm h]
      rw [this, ← ih]
      split <;> omega
theorem idxS_skip (s : ByteArray) : ∀ (l : List ByteArray) (k : Nat), k < l.length → (∀ j (h : j < l.length), j < k → ¬ s.toList = l[j].toList) → (h : k < l.length) → s.toList = l[k].toList → idxS s l = k
  | [], k, hk, _, _, _ => by simp at hk
  | x :: l, 0, _, _, _, e => by simp [idxS] at *; intro h; exact absurd e h
  | x :: l, k + 1, hk, hj, h, e => by
    have h0 := hj 0 (by simp) (by omega)
    have ih := idxS_skip s l k (by simpa using hk) (fun j hl hjk => hj (j + 1) (by simpa using hl) (by omega)) (by simpa using h) (by simpa using e)
    unfold idxS
    rw [if_neg (by simpa using h0), ih, if_neg (by omega)]
    simp
theorem idxS_none (s : ByteArray) : ∀ (l : List ByteArray), (∀ j (h : j < l.length), ¬ s.toList = l[j].toList) → idxS s l = -1
  | [], _ => rfl
  | x :: l, h => by
    have h0 := h 0 (by simp)
    have ih := idxS_none s l (fun j hl => h (j + 1) (by simpa using hl))
    unfold idxS
    rw [if_neg (by simpa using h0), ih]
    simp
theorem indexS_ok (A : Option Addr) (c : Nat) (l : List ByteArray) (s : ByteArray) (w : World) (hR : RS w A l) :
    Calls Try.prog 139 #[.slice A l.length c, .string s] w fun e w' => e = .returned (.int .i64 (idxS s l)) ∧ w = w' := by
  have hl := hR.1
  go_enter Try.func139, Try.ntmps139
  go_wp2
  go_loop [5, 8] (fun _ i => ∃ k : Nat, k ≤ l.length ∧ i = .int .i64 k ∧ ∀ j (h : j < l.length), j < k → ¬ s.toList = l[j].toList) (fun _ i => l.length - (intOf i).toNat)
  case atStart => exact ⟨0, Nat.zero_le _, rfl, by intros; omega⟩
  case round =>
    obtain ⟨k, hk, rfl, hall⟩ := hrel
    have HALL := Lib.hid hall
    clear hall
    by_cases hkl : k < l.length
    · obtain ⟨ad, rfl, hx⟩ := hR.2 (by omega)
      have hxk := hx k hkl
      clear hx
      go_wp2
      · go_ret
        exact ⟨ret_int (idxS_skip s l k hkl HALL.out hkl (by simp_all)).symm, rfl⟩
      · go_round
        case rel =>
          refine ⟨k + 1, by omega, by go_num, fun j hj hjk => ?_⟩
          rcases Nat.lt_or_ge j k with h | h
          · exact HALL.out j hj h
          · obtain rfl : j = k := by omega
            simp_all
        case measure => simp [intOf]; omega
    · go_wp2
      go_ret
      exact ⟨ret_int (idxS_none s l (fun j hj => HALL.out j hj (by omega))).symm, rfl⟩
theorem containsS_ok (A : Option Addr) (c : Nat) (l : List ByteArray) (s : ByteArray) (w : World) (hR : RS w A l) :
    Calls Try.prog 111 #[.slice A l.length c, .string s] w fun e w' => e = .returned (.bool (hasS l s)) ∧ w = w' := by
  have hi := idxS_neg s l
  go_enter Try.func111, Try.ntmps111
  go_wp2_with (go_at_call 139; refine (indexS_ok _ _ _ _ _ hR).mono ?_; rintro e w' ⟨rfl, rfl⟩)
  go_ret
  refine ⟨ret_bool ?_, rfl⟩
  by_cases h : hasS l s = true
  · rw [h]; simp_all
  · simp_all
theorem hasS_at {l : List ByteArray} {s : ByteArray} (k : Nat) (hk : k < l.length) (h : l[k].toList = s.toList) : hasS l s = true := by
  rw [hasS, List.any_eq_true]; exact ⟨l[k], List.getElem_mem _, by simp [h]⟩
theorem hasS_take {l : List ByteArray} {s : ByteArray} (k : Nat) (hk : k < l.length) (h : hasS (l.take k) s = false) (h' : ¬ l[k].toList = s.toList) : hasS (l.take (k + 1)) s = false := by
  unfold hasS at *
  rw [List.take_succ_eq_append_getElem hk, List.any_append, h]; simp [h']
theorem isOne_ok (A : Option Addr) (c : Nat) (l : List ByteArray) (s : ByteArray) (w : World) (hR : RS w A l) :
    Calls Try.prog 91 #[.slice A l.length c, .string s] w fun e w' => e = .returned (.bool (hasS l s)) ∧ w = w' := by
  have hl := hR.1
  go_enter Try.func91, Try.ntmps91
  go_wp2
  go_loop [5] (fun i => ∃ k : Nat, k ≤ l.length ∧ i = .int .i64 k ∧ hasS (l.take k) s = false) (fun i => l.length - (intOf i).toNat)
  case atStart => exact ⟨0, Nat.zero_le _, rfl, by simp [hasS]⟩
  case round =>
    obtain ⟨k, hk, rfl, hall⟩ := hrel
    have HALL := Lib.hid hall
    clear hall
    by_cases hkl : k < l.length
    · obtain ⟨ad, rfl, hx⟩ := hR.2 (by omega)
      have hxk := hx k hkl
      clear hx
      go_wp2
      · go_ret
        exact ⟨ret_bool (hasS_at k hkl (by simp_all)).symm, rfl⟩
      · go_round
        case rel => exact ⟨k + 1, by omega, by go_num, hasS_take k hkl HALL.out (by simp_all)⟩
        case measure => simp [intOf]; omega
    · go_wp2
      go_ret
      refine ⟨ret_bool ?_, rfl⟩
      have := HALL.out
      rw [List.take_of_length_le (by omega)] at this
      exact this.symm
def digB (c : Int) : Bool := decide (48 ≤ c) && decide (c ≤ 57)
def letB (c : Int) : Bool := c == 95 || (decide (97 ≤ c) && decide (c ≤ 122)) || (decide (65 ≤ c) && decide (c ≤ 90))
theorem isDigit_ok (c : Int) (w : World) : Calls Try.prog 140 #[.int .u8 c] w fun e w' => e = .returned (.bool (digB c)) ∧ w = w' := by
  unfold digB
  go_enter Try.func140, Try.ntmps140
  go_wp2
  all_goals
    go_ret
    refine ⟨ret_bool ?_, rfl⟩
    first | (simp [*]; done) | (simp; omega)
theorem digit_ok (c : Int) (w : World) : Calls Try.prog 153 #[.int .u8 c] w fun e w' => e = .returned (.bool (digB c)) ∧ w = w' := by
  unfold digB
  go_enter Try.func153, Try.ntmps153
  go_wp2
  all_goals
    go_ret
    refine ⟨ret_bool ?_, rfl⟩
    first | (simp [*]; done) | (simp; omega)
theorem isLetter_ok (c : Int) (w : World) : Calls Try.prog 142 #[.int .u8 c] w fun e w' => e = .returned (.bool (letB c)) ∧ w = w' := by
  unfold letB
  go_enter Try.func142, Try.ntmps142
  go_wp2
  all_goals
    go_ret
    refine ⟨ret_bool ?_, rfl⟩
    rw [Bool.eq_iff_iff]
    all_goals (try simp only [Bool.or_eq_true, Bool.and_eq_true, decide_eq_true_eq, beq_iff_eq])
    all_goals first | omega | (simp_all; done) | (simp_all; omega)
theorem letter_ok (c : Int) (w : World) : Calls Try.prog 152 #[.int .u8 c] w fun e w' => e = .returned (.bool (letB c)) ∧ w = w' := by
  unfold letB
  go_enter Try.func152, Try.ntmps152
  go_wp2
  all_goals
    go_ret
    refine ⟨ret_bool ?_, rfl⟩
    rw [Bool.eq_iff_iff]
    all_goals (try simp only [Bool.or_eq_true, Bool.and_eq_true, decide_eq_true_eq, beq_iff_eq])
    all_goals first | omega | (simp_all; done) | (simp_all; omega)
def kwList : List ByteArray := [⟨#[78, 111, 110, 101]⟩, ⟨#[84, 114, 117, 101]⟩, ⟨#[70, 97, 108, 115, 101]⟩, ⟨#[97, 110, 100]⟩, ⟨#[111, 114]⟩, ⟨#[110, 111, 116]⟩, ⟨#[105, 110]⟩, ⟨#[105, 115]⟩, ⟨#[105, 102]⟩, ⟨#[101, 108, 105, 102]⟩, ⟨#[101, 108, 115, 101]⟩, ⟨#[119, 104, 105, 108, 101]⟩, ⟨#[102, 111, 114]⟩, ⟨#[98, 114, 101, 97, 107]⟩, ⟨#[99, 111, 110, 116, 105, 110, 117, 101]⟩, ⟨#[112, 97, 115, 115]⟩, ⟨#[100, 101, 102]⟩, ⟨#[114, 101, 116, 117, 114, 110]⟩, ⟨#[108, 97, 109, 98, 100, 97]⟩, ⟨#[99, 108, 97, 115, 115]⟩, ⟨#[116, 114, 121]⟩, ⟨#[101, 120, 99, 101, 112, 116]⟩, ⟨#[102, 105, 110, 97, 108, 108, 121]⟩, ⟨#[114, 97, 105, 115, 101]⟩, ⟨#[97, 115]⟩, ⟨#[103, 108, 111, 98, 97, 108]⟩, ⟨#[110, 111, 110, 108, 111, 99, 97, 108]⟩, ⟨#[121, 105, 101, 108, 100]⟩, ⟨#[105, 109, 112, 111, 114, 116]⟩, ⟨#[100, 101, 108]⟩, ⟨#[97, 115, 115, 101, 114, 116]⟩]
theorem RS_lit (w : World) (l : List ByteArray) (hl : l.length ≤ 9223372036854775807) : RS (w.alloc (.cells (l.map Value.string).toArray 9)) (some ⟨w.heap.size, 0, none⟩) l := by
  refine ⟨hl, fun hn => ⟨_, rfl, fun i hi => ?_⟩⟩
  have : (⟨w.heap.size, 0, none⟩ : Addr).add i = ⟨w.heap.size, i, none⟩ := by unfold Addr.add; split <;> simp_all
  rw [this, kcl (heap_new _ _) i]
  simp [hi]
theorem keywords_ok (w : World) : Calls Try.prog 159 #[] w fun e w' => ∃ A, e = .returned (.slice A kwList.length kwList.length) ∧ RS w' A kwList ∧ Below w.heap.size w w' := by
  go_enter Try.func159, Try.ntmps159
  go_wp2
  go_ret
  exact ⟨some ⟨w.heap.size, 0, none⟩, rfl, RS_lit w kwList (by decide), bA (Below.refl _ _) _⟩
theorem keywords2_ok (w : World) : Calls Try.prog 166 #[] w fun e w' => ∃ A, e = .returned (.slice A kwList.length kwList.length) ∧ RS w' A kwList ∧ Below w.heap.size w w' := by
  go_enter Try.func166, Try.ntmps166
  go_wp2
  go_ret
  exact ⟨some ⟨w.heap.size, 0, none⟩, rfl, RS_lit w kwList (by decide), bA (Below.refl _ _) _⟩
theorem isKeyword_ok (s : ByteArray) (w : World) : Calls Try.prog 141 #[.string s] w fun e w' => e = .returned (.bool (hasS kwList s)) ∧ Below w.heap.size w w' := by
  go_enter Try.func141, Try.ntmps141
  go_wp2_with (first | (go_at_call 159; refine (keywords_ok _).mono ?_; rintro e w1 ⟨A, rfl, hR, hb⟩) | (go_at_call 111; refine (containsS_ok _ _ _ _ _ hR).mono ?_; rintro e w2 ⟨rfl, rfl⟩))
  go_ret
  exact ⟨rfl, hb⟩
theorem isKeyword2_ok (s : ByteArray) (w : World) : Calls Try.prog 154 #[.string s] w fun e w' => e = .returned (.bool (hasS kwList s)) ∧ Below w.heap.size w w' := by
  go_enter Try.func154, Try.ntmps154
  go_wp2_with (first | (go_at_call 166; refine (keywords2_ok _).mono ?_; rintro e w1 ⟨A, rfl, hR, hb⟩) | (go_at_call 91; refine (isOne_ok _ _ _ _ _ hR).mono ?_; rintro e w2 ⟨rfl, rfl⟩))
  go_ret
  exact ⟨rfl, hb⟩
end Go.Proofs.Ytgddblpgbkgpcaa.B
namespace Go.Proofs.Ytgddblpgbkgpcaa.B
set_option linter.unusedVariables false
set_option linter.unusedSimpArgs false
open Go.RowKit
set_option linter.unusedVariables false
set_option linter.unusedSimpArgs false
def byt (s : ByteArray) (i : Nat) : Int := if h : i < s.size then ((s[i]'h).toNat : Int) else 0
theorem byt_at (s : ByteArray) (i : Nat) (h : i < s.size) : ((s[i]'h).toNat : Int) = byt s i := by simp [byt, h]
def chOk (s : ByteArray) (i : Nat) : Bool := letB (byt s i) || (i != 0 && digB (byt s i))
def nameB (s : ByteArray) : Bool := inR s.size 1 12 && !hasS kwList s && (List.range s.size).all (chOk s)
theorem let_dig (c : Int) : letB c = true → digB c = false := by unfold letB digB; simp; omega
theorem all_succ (f : Nat → Bool) (k : Nat) : (List.range (k + 1)).all f = ((List.range k).all f && f k) := by rw [List.range_succ, List.all_append]; simp
theorem nameB_bad {s : ByteArray} (k : Nat) (hk : k < s.size) (h : chOk s k = false) : nameB s = false := by
  have : (List.range s.size).all (chOk s) = false := by rw [List.all_eq_false]; exact ⟨k, List.mem_range.2 hk, by simp [h]⟩
  simp [nameB, this]
theorem chOk_let {s : ByteArray} {k : Nat} (hk : k < s.size) (h : letB (s[k]'hk).toNat = true) : chOk s k = true := by unfold chOk; rw [← byt_at s k hk]; simp [h]
theorem chOk_dig {s : ByteArray} {k : Nat} (hk : k < s.size) (h0 : k ≠ 0) (h : digB (s[k]'hk).toNat = true) : chOk s k = true := by unfold chOk; rw [← byt_at s k hk]; simp [h, h0]
theorem chOk_no {s : ByteArray} {k : Nat} (hk : k < s.size) (h : letB (s[k]'hk).toNat = false) (h' : k = 0 ∨ digB (s[k]'hk).toNat = false) : chOk s k = false := by
  unfold chOk; rw [← byt_at s k hk]; rcases h' with rfl | h' <;> simp_all
set_option maxHeartbeats 1000000 in
theorem nOo (s : ByteArray) (hs : s.size ≤ 9223372036854775807) (w : World) : Calls Try.prog 112 #[.string s] w fun e w' => e = .returned (.bool (nameB s)) ∧ Below w.heap.size w w' := by
  by_cases h0 : s.size = 0
  · go_enter Try.func112, Try.ntmps112
    go_wp2
    go_ret
    exact ⟨ret_bool (by simp [nameB, inR, h0]), Below.refl _ _⟩
  · have h1 : decide ((s.size : Int) < 1) = false := by simp; omega
    by_cases h12 : 12 < s.size
    · go_enter Try.func112, Try.ntmps112
      go_wp2
      go_ret
      exact ⟨ret_bool (by simp [nameB, inR]; omega), Below.refl _ _⟩
    have h2 : decide ((12 : Int) < (s.size : Int)) = false := by simp; omega
    by_cases hd : digB (s[0]'(by omega)).toNat = true
    · go_enter Try.func112, Try.ntmps112
      go_wp2_with (first | (go_at_call 140; refine (isDigit_ok _ _).mono ?_; rintro e w' ⟨rfl, rfl⟩) | (go_at_call 141; refine (isKeyword_ok _ _).mono ?_; rintro e w1 ⟨rfl, hb⟩))
      go_ret
      exact ⟨ret_bool (nameB_bad 0 (by omega) (by unfold chOk; rw [← byt_at s 0 (by omega)]; have := let_dig (s[0]'(by omega)).toNat; simp_all)).symm, Below.refl _ _⟩
    have hD := Lib.hid hd
    replace hd : digB (s[0]'(by omega)).toNat = false := by simpa using hd
    by_cases hk : hasS kwList s = true
    · go_enter Try.func112, Try.ntmps112
      go_wp2_with (first | (go_at_call 140; refine (isDigit_ok _ _).mono ?_; rintro e w' ⟨rfl, rfl⟩) | (go_at_call 141; refine (isKeyword_ok _ _).mono ?_; rintro e w1 ⟨rfl, hb⟩))
      go_ret
      exact ⟨ret_bool (by simp [nameB, hk]), hb⟩
    replace hk : hasS kwList s = false := by simpa using hk
    go_enter Try.func112, Try.ntmps112
    go_wp2_with (first | (go_at_call 140; refine (isDigit_ok _ _).mono ?_; rintro e w' ⟨rfl, rfl⟩) | (go_at_call 141; refine (isKeyword_ok _ _).mono ?_; rintro e w1 ⟨rfl, hb⟩))
    clear h1 h2 hd
    go_loop [3, 23] (fun _ i => ∃ k : Nat, k ≤ s.size ∧ i = .int .i64 k ∧ (List.range k).all (chOk s) = true) (fun _ i => s.size - (intOf i).toNat)
    case atStart => exact ⟨0, Nat.zero_le _, rfl, by simp⟩
    case round =>
      obtain ⟨k, hk', rfl, hall⟩ := hrel
      have HALL := Lib.hid hall
      clear hall
      by_cases hkl : k < s.size
      · go_wp2_with (first | (go_at_call 142; refine (isLetter_ok _ _).mono ?_; rintro e w' ⟨rfl, rfl⟩) | (go_at_call 140; refine (isDigit_ok _ _).mono ?_; rintro e w' ⟨rfl, rfl⟩))
        · go_round
          case rel => exact ⟨k + 1, by omega, by go_num, by rw [all_succ, HALL.out, chOk_let hkl (by assumption)]; rfl⟩
          case measure => simp [intOf]; omega
        · go_ret
          exact ⟨ret_bool (nameB_bad k hkl (chOk_no hkl (by simp_all) (.inr (by simp_all)))).symm, hb⟩
        · go_round
          case rel =>
            refine ⟨k + 1, by omega, by go_num, ?_⟩
            have hdk : digB (s[k]'hkl).toNat = true := by simp_all
            have h0 : k ≠ 0 := by rintro rfl; exact hD.out hdk
            rw [all_succ, HALL.out, chOk_dig hkl h0 hdk]; rfl
          case measure => simp [intOf]; omega
      · go_wp2
        go_ret
        refine ⟨ret_bool ?_, hb⟩
        have h1 := HALL.out
        obtain rfl : k = s.size := by omega
        simp [nameB, inR, h1, hk]
        omega
set_option maxHeartbeats 1000000 in
theorem vNo (s : ByteArray) (hs : s.size ≤ 9223372036854775807) (w : World) : Calls Try.prog 131 #[.string s] w fun e w' => e = .returned (.bool (nameB s)) ∧ Below w.heap.size w w' := by
  go_enter Try.func131, Try.ntmps131
  go_wp2
  go_loop [3] (fun i => ∃ k : Nat, k ≤ s.size ∧ i = .int .i64 k ∧ (List.range k).all (chOk s) = true) (fun i => s.size - (intOf i).toNat)
  case atStart => exact ⟨0, Nat.zero_le _, rfl, by simp⟩
  case round =>
    obtain ⟨k, hk, rfl, hall⟩ := hrel
    have HALL := Lib.hid hall
    clear hall
    by_cases hkl : k < s.size
    · go_wp2_with (first | (go_at_call 152; refine (letter_ok _ _).mono ?_; rintro e w' ⟨rfl, rfl⟩) | (go_at_call 153; refine (digit_ok _ _).mono ?_; rintro e w' ⟨rfl, rfl⟩))
      · go_round
        case rel => exact ⟨k + 1, by omega, by go_num, by rw [all_succ, HALL.out, chOk_let hkl (by assumption)]; rfl⟩
        case measure => simp [intOf]; omega
      · go_ret
        exact ⟨ret_bool (nameB_bad k hkl (chOk_no hkl (by simp_all) (.inl (by assumption)))).symm, Below.refl _ _⟩
      · go_ret
        exact ⟨ret_bool (nameB_bad k hkl (chOk_no hkl (by simp_all) (.inr (by simp_all)))).symm, Below.refl _ _⟩
      · go_round
        case rel => exact ⟨k + 1, by omega, by go_num, by rw [all_succ, HALL.out, chOk_dig hkl (by assumption) (by simp_all)]; rfl⟩
        case measure => simp [intOf]; omega
    · go_wp2_with (first | (go_at_call 103; refine (iRo _ _ _ _).mono ?_; rintro e w' ⟨rfl, rfl⟩) | (go_at_call 154; refine (isKeyword2_ok _ _).mono ?_; rintro e w1 ⟨rfl, hb⟩))
      all_goals
        go_ret
        have h1 := HALL.out
        obtain rfl : k = s.size := by omega
        first
          | exact ⟨ret_bool (by simp_all [nameB]), hb⟩
          | exact ⟨ret_bool (by simp_all [nameB]), Below.refl _ _⟩
end Go.Proofs.Ytgddblpgbkgpcaa.B
namespace Go.Proofs.Ytgddblpgbkgpcaa.B
set_option linter.unusedVariables false
set_option linter.unusedSimpArgs false
open Go.RowKit
set_option linter.unusedVariables false
set_option linter.unusedSimpArgs false
def RI (w : World) (A : Option Addr) (l : List Int) : Prop := l.length ≤ 9223372036854775807 ∧ (0 < l.length → ∃ ad, A = some ad ∧ ∀ i (h : i < l.length), w.cell? (ad.add i) = some (.int .i64 l[i]))
theorem RI.below {w w1 : World} {A : Option Addr} {l : List Int} (h : RI w A l) (hb : Below w.heap.size w w1) : RI w1 A l :=
  ⟨h.1, fun hn => let ⟨ad, e, hc⟩ := h.2 hn; ⟨ad, e, fun i hi => cell_keep hb (hc i hi)⟩⟩
theorem RI.take {w : World} {A : Option Addr} {l : List Int} (h : RI w A l) (k : Nat) : RI w A (l.take k) := by
  refine ⟨by rw [List.length_take]; have := h.1; omega, fun hn => ?_⟩
  obtain ⟨ad, e, hc⟩ := h.2 (by simp at hn; omega)
  exact ⟨ad, e, fun i hi => by rw [List.getElem_take]; exact hc i (by simp at hi; omega)⟩
theorem RI.nil (w : World) : RI w none [] := ⟨by simp, fun h => by simp at h⟩
def hasDash (s : ByteArray) : Bool := if h : 0 < s.size then (s[0]'h) == 45 else false
def body (s : ByteArray) : ByteArray := if hasDash s then s.extract 1 s.size else s
theorem ext01 (s : ByteArray) (h : 0 < s.size) : (s.extract 0 1).toList = [s[0]'h] := by
  rw [Lib.toList_data, Lib.extract_data]
  have h' : 0 < s.data.toList.length := by rw [Array.length_toList]; exact h
  rw [List.drop_zero, Nat.sub_zero, List.take_succ_eq_append_getElem h', List.take_zero, List.nil_append]
  rfl
theorem hasPrefix_ok (s : ByteArray) (hs : s.size ≤ 9223372036854775807) (w : World) : Calls Try.prog 170 #[.string s, .string ⟨#[45]⟩] w fun e w' => e = .returned (.bool (hasDash s)) ∧ w = w' := by
  by_cases h0 : s.size = 0
  · go_enter Try.func170, Try.ntmps170
    go_wp2
    go_ret
    exact ⟨ret_bool (by simp [hasDash, h0]), rfl⟩
  · go_enter Try.func170, Try.ntmps170
    go_wp2
    go_ret
    refine ⟨ret_bool ?_, rfl⟩
    rw [ext01 s (by omega)]
    simp only [hasDash, dif_pos (show 0 < s.size by omega)]
    rw [Bool.eq_iff_iff]
    simp
theorem cutPrefix0_ok (s : ByteArray) (hs : s.size ≤ 9223372036854775807) (w : World) : Calls Try.prog 163 #[.string s, .string ⟨#[45]⟩] w fun e w' => e = .returned (.tuple #[.string (body s), .bool (hasDash s)]) ∧ w = w' := by
  by_cases hd : hasDash s = true
  · have h0 : 0 < s.size := by rcases Nat.eq_zero_or_pos s.size with h | h; · simp [hasDash, h] at hd
                               · exact h
    go_enter Try.func163, Try.ntmps163
    go_wp2_with (go_at_call 170; refine (hasPrefix_ok _ hs _).mono ?_; rintro e w' ⟨rfl, rfl⟩)
    go_ret2
    exact ⟨by simp [body, hd], rfl⟩
  · replace hd : hasDash s = false := by simpa using hd
    go_enter Try.func163, Try.ntmps163
    go_wp2_with (go_at_call 170; refine (hasPrefix_ok _ hs _).mono ?_; rintro e w' ⟨rfl, rfl⟩)
    go_ret2
    exact ⟨by simp [body, hd], rfl⟩
theorem cutPrefix_ok (s : ByteArray) (hs : s.size ≤ 9223372036854775807) (w : World) : Calls Try.prog 145 #[.string s, .string ⟨#[45]⟩] w fun e w' => e = .returned (.tuple #[.string (body s), .bool (hasDash s)]) ∧ w = w' := by
  go_enter Try.func145, Try.ntmps145
  go_wp2_with (go_at_call 163; refine (cutPrefix0_ok _ hs _).mono ?_; rintro e w' ⟨rfl, rfl⟩)
  go_ret2
  exact ⟨rfl, rfl⟩
def trimN (l : List Int) : Nat → Nat
  | 0 => 0
  | n + 1 => if l.getD n 0 = 0 then trimN l n else n + 1
def trimL (l : List Int) : List Int := l.take (trimN l l.length)
theorem trimN_le (l : List Int) : ∀ n, trimN l n ≤ n
  | 0 => Nat.le_refl _
  | n + 1 => by unfold trimN; have := trimN_le l n; split <;> omega
theorem trimmed_ok (A : Option Addr) (c : Nat) (l : List Int) (w : World) (hR : RI w A l) (hc : l.length ≤ c) :
    Calls Try.prog 155 #[.slice A l.length c] w fun e w' => e = .returned (.slice A (trimL l).length c) ∧ w = w' := by
  have hl := hR.1
  go_enter Try.func155, Try.ntmps155
  go_wp2
  go_loop [0] (fun v => ∃ n : Nat, n ≤ l.length ∧ v = .slice A n c ∧ trimN l l.length = trimN l n) (fun v => match v with | .slice _ n _ => n | _ => 0)
  case atStart => exact ⟨_, Nat.le_refl _, rfl, rfl⟩
  case round =>
    obtain ⟨n, hn, rfl, ht⟩ := hrel
    have HT := Lib.hid ht
    clear ht
    by_cases h0 : n = 0
    · subst h0
      go_wp2
      go_ret
      refine ⟨?_, rfl⟩
      have := HT.out
      simp [trimL, this, trimN]
    · obtain ⟨ad, rfl, hx⟩ := hR.2 (by omega)
      have hxn := hx (n - 1) (by omega)
      clear hx
      have hN : trimN l n = if l[n - 1]'(by omega) = 0 then trimN l (n - 1) else n := by
        obtain ⟨m, rfl⟩ : ∃ m, n = m + 1 := ⟨n - 1, by omega⟩
        simp only [Nat.add_sub_cancel]
        rw [trimN, List.getD_eq_getElem?_getD, List.getElem?_eq_getElem (by omega)]
        rfl
      have HN := Lib.hid hN
      clear hN
      go_wp2
      · go_round
        case rel =>
          refine ⟨n - 1, by omega, rfl, ?_⟩
          rw [HT.out, HN.out, if_pos (by simp_all)]
        case measure => show n - 1 < n; omega
      · go_ret
        refine ⟨?_, rfl⟩
        have h1 := HT.out
        rw [HN.out, if_neg (by simp_all)] at h1
        have : (trimL l).length = n := by simp [trimL, h1]; omega
        rw [this]
        rfl
theorem trimmed_n (A : Option Addr) (c n : Nat) (l : List Int) (hn : n = l.length) (w : World) (hR : RI w A l) (hc : n ≤ c) :
    Calls Try.prog 155 #[.slice A n c] w fun e w' => e = .returned (.slice A (trimL l).length c) ∧ w = w' := by
  subst hn; exact trimmed_ok A c l w hR hc
theorem own_far {w : World} {base : Nat} {e : TypeId} {size n m cap g : Nat} {xs : List Value} (h : w.ownsRow base e size (.slice (some ⟨g, 0, none⟩) m cap) n xs) {p : Addr} (hp : g ≠ p.block) (u : Value) : (w.setCell p u).ownsRow base e size (.slice (some ⟨g, 0, none⟩) m cap) n xs := by
  refine ⟨h.1, ?_⟩
  rcases h.2 with ⟨e1, -⟩ | ⟨g', cap', cur, e1, hb, hg, rest⟩
  · cases e1
  · obtain ⟨rfl, -, -⟩ := by simpa using e1
    exact .inr ⟨_, cap', cur, e1, hb, by rw [Below.heap_setCell w p u _ hp]; exact hg, rest⟩
def isDig (b : UInt8) : Bool := decide (48 ≤ b.toNat) && decide (b.toNat ≤ 57)
def intB (s : ByteArray) : Bool :=
  decide (1 ≤ (body s).size) && decide ((body s).size ≤ 40) && (body s).data.toList.all isDig && !((body s).data.toList.head? == some 48 && (decide (1 < (body s).size) || hasDash s))
def ints (l : List Int) : List Value := l.map fun x => .int .i64 x
def digsOf (s : ByteArray) : List Int := (s.data.toList.map fun b => (b.toNat : Int) - 48).reverse
def negP (s : ByteArray) : Bool := if intB s then hasDash s else false
def magP (s : ByteArray) : List Int := if intB s then trimL (digsOf (body s)) else []
theorem head_ne {b : ByteArray} (h : 0 < b.size) (h0 : ¬ ((b[0]'h).toNat : Int) = 48) : ¬ b.data.toList.head? = some 48 := by
  intro e
  have h' : 0 < b.data.toList.length := by rw [Array.length_toList]; exact h
  rw [List.head?_eq_getElem?, List.getElem?_eq_getElem h'] at e
  apply h0
  have e2 : b.data.toList[0] = 48 := by simpa using e
  have : b[0]'h = 48 := e2
  rw [this]; rfl
theorem digs_take {b : ByteArray} {n0 : Nat} (h : n0 = b.size) (k : Nat) (hk : k < b.size) (n : Nat) (hn : k + 1 + n = b.size) :
    ints ((digsOf b).take (n + 1)) = ints ((digsOf b).take n) ++ [.int .i64 (((b[k]'hk).toNat : Int) - 48)] := by
  have hl : (digsOf b).length = b.size := by simp [digsOf]
  rw [List.take_succ_eq_append_getElem (by omega)]
  simp only [ints, List.map_append, List.map_cons, List.map_nil]
  congr 3
  simp only [digsOf, List.getElem_reverse, List.getElem_map]
  congr 3
  simp only [List.length_map, Array.length_toList, Array.getElem_toList]
  have e : b.data.size - 1 - n = k := by have : b.data.size = b.size := rfl; omega
  simp only [e]
  rfl
theorem info3 : (Try.prog.info? 3).map (fun i => (i.zero, i.size, i.bytes)) = some (some (.int .i64 0), 1, 8) := by kernel_rfl
theorem own_RI {w : World} {base n c : Nat} {A : Option Addr} {l : List Int} (h : w.ownsRow base 3 1 (.slice A n c) n (ints l)) : n = l.length ∧ n ≤ c ∧ RI w A l := by
  have hn : n = l.length := by have := h.1; simp [ints] at this; omega
  rcases h.2 with ⟨e, h0⟩ | ⟨g, cap, cur, e, hb, hg, hcap, hmax, hcur, htake⟩
  · obtain ⟨rfl, rfl, rfl⟩ := by simpa using e
    exact ⟨hn, Nat.le_refl _, by have : l = [] := List.length_eq_zero_iff.1 hn.symm; subst this; exact RI.nil _⟩
  · obtain ⟨rfl, -, rfl⟩ := by simpa using e
    refine ⟨hn, hcap, by unfold maxLen at hmax; omega, fun h0 => ⟨_, rfl, fun i hi => ?_⟩⟩
    have : (⟨g, 0, none⟩ : Addr).add i = ⟨g, i, none⟩ := by unfold Addr.add; split <;> simp_all
    rw [this, kcl hg i]
    have h2 : (cur.toList.take (n * 1))[i]? = (ints l)[i]? := by rw [htake]
    rw [List.getElem?_take_of_lt (by omega)] at h2
    simp [ints, hi] at h2
    simpa using h2
set_option maxRecDepth 100000 in
set_option maxHeartbeats 4000000 in
theorem parse_loop (s : ByteArray) (hs : s.size ≤ 9223372036854775807) (w : World) (h1 : 1 ≤ (body s).size) (h40 : (body s).size ≤ 40) (h0 : ¬ (((body s)[0]'(by omega)).toNat : Int) = 48) :
    Calls Try.prog 132 #[.string s] w fun e w' => ∃ A c, e = .returned (.tuple #[.agg #[.bool (negP s), .slice A (magP s).length c], .bool (intB s)]) ∧ RI w' A (magP s) ∧ (magP s).length ≤ c ∧ Below w.heap.size w w' := by
  obtain ⟨i0, hi0, hz0, hz1, hz2⟩ := info_parts info3
  have d1 : decide (((body s).size : Int) < 1) = false := by simp; omega
  have d2 : decide ((40 : Int) < ((body s).size : Int)) = false := by simp; omega
  go_enter Try.func132, Try.ntmps132
  go_wp2_with (go_at_call 145; refine (cutPrefix_ok _ hs _).mono ?_; rintro e w' ⟨rfl, rfl⟩)
  clear d1 d2
  go_loopw [7] (fun i wr => ∃ (k n : Nat) (ov : Value), k + n = (body s).size ∧ i = .int .i64 ((k : Int) - 1) ∧
      wr.heap[w.heap.size]? = some (.cells #[.bool false, .slice none 0 0] 147 (0, 0)) ∧ wr.heap[w.heap.size + 1]? = some (.cells #[.bool (hasDash s), ov] 147 (0, 0)) ∧
      wr.ownsRow (w.heap.size + 2) 3 1 ov n (ints ((digsOf (body s)).take n)) ∧ ((body s).data.toList.drop k).all isDig = true ∧ Below w.heap.size w wr) (fun i _ => ((intOf i) + 1).toNat)
  case atStart =>
    refine ⟨(body s).size, 0, .slice none 0 0, by omega, rfl, ?_, ?_, ?_, ?_, ?_⟩
    · exact kla (heap_new _ _) _
    · have := heap_new (w.alloc (.cells #[.bool false, .slice none 0 0] 147)) (.cells #[.bool (hasDash s), .slice none 0 0] 147)
      simpa using this
    · exact ⟨by simp [ints], .inl ⟨rfl, rfl⟩⟩
    · simp [List.drop_of_length_le]
    · exact bA (bA (Below.refl _ _) _) _
  case round =>
    obtain ⟨k, n, ov, hkn, rfl, hb0, hb1, hown, hall, hB⟩ := hrel
    have HALL := Lib.hid hall
    have HKN := Lib.hid hkn
    clear hall
    have hlt := blk_lt hb1
    have hc10 : wr.cell? ⟨w.heap.size + 1, 0, none⟩ = some (.bool (hasDash s)) := (kcl hb1 0).trans rfl
    have hc11 : wr.cell? ⟨w.heap.size + 1, 1, none⟩ = some ov := (kcl hb1 1).trans rfl
    have hf10 := kfz hb1 0
    have hf11 := kfz hb1 1
    have hc00 : wr.cell? ⟨w.heap.size, 0, none⟩ = some (.bool false) := (kcl hb0 0).trans rfl
    have hc01 : wr.cell? ⟨w.heap.size, 1, none⟩ = some (.slice none 0 0) := (kcl hb0 1).trans rfl
    have hf00 := kfz hb0 0
    have hf01 := kfz hb0 1
    by_cases hk0 : k = 0
    · subst hk0
      have hn0 : 0 < n := by omega
      obtain ⟨g, cap, rfl, hgb, -⟩ := hown.form hn0
      obtain ⟨hnl, hcap, hRI⟩ := own_RI hown
      have hN := Lib.hid hnl
      clear hnl hkn
      go_wp2_with (go_at_call 155; refine (trimmed_n _ _ _ _ hN.out _ hRI hcap).mono ?_; rintro e w' ⟨rfl, rfl⟩)
      have hb1'' := blk_set hb1 1 (.slice (some ⟨g, 0, none⟩) (trimL (List.take n (digsOf (body s)))).length cap)
      have hbz := blk_set (blk_set (blk_far hb0 (p := ⟨w.heap.size + 1, 1, none⟩) (by simp) (.slice (some ⟨g, 0, none⟩) (trimL (List.take n (digsOf (body s)))).length cap)) 0 (.bool (hasDash s))) 1 (.slice (some ⟨g, 0, none⟩) (trimL (List.take n (digsOf (body s)))).length cap)
      refine bodyPost_ret (res_ct rfl _ _ w.heap.size 147 #[.bool (hasDash s), .slice (some ⟨g, 0, none⟩) (trimL (List.take n (digsOf (body s)))).length cap] (0, 0) _ rfl hbz Try.underlying147 rfl (by kernel_rfl)) rfl ?_
      have hN' := HKN.out
      have hint : intB s = true := by
        have h2 := HALL.out
        simp only [List.drop_zero] at h2
        simp [intB, h2, h1, h40]
        exact .inl (head_ne (by omega) h0)
      have hdl : (digsOf (body s)).length = (body s).size := by simp [digsOf]
      have htk : (digsOf (body s)).take n = digsOf (body s) := List.take_of_length_le (by omega)
      rw [htk] at hown ⊢
      have hm : magP s = trimL (digsOf (body s)) := by simp [magP, hint]
      refine ⟨some ⟨g, 0, none⟩, cap, by simp [negP, hint, hm], ?_, ?_, ?_⟩
      · rw [hm]
        have hO := Lib.hid hgb
        exact RI.take (own_RI (own_far (own_far (own_far hown (p := ⟨w.heap.size + 1, 1, none⟩) (by simp; omega) _) (p := ⟨w.heap.size, 0, none⟩) (by simp; omega) _) (p := ⟨w.heap.size, 1, none⟩) (by simp; omega) _)).2.2 _
      · rw [hm]
        have := trimN_le (digsOf (body s)) (digsOf (body s)).length
        have := hN.out
        simp [trimL]; omega
      · exact ((hB.setCell (by simp) _).setCell (by simp) _).setCell (by simp) _
    · have hkl : k - 1 < (body s).size := by omega
      have e1 : ((k : Int) - 1).toNat = k - 1 := by omega
      have e2 : (0 : Int) ≤ (k : Int) - 1 := by omega
      clear hkn
      by_cases hdg : isDig ((body s)[k - 1]'hkl) = true
      · have q1 : decide ((((body s)[k - 1]'hkl).toNat : Int) < 48) = false := by simp [isDig] at hdg; simp; omega
        have q2 : decide ((57 : Int) < (((body s)[k - 1]'hkl).toNat : Int)) = false := by simp [isDig] at hdg; simp; omega
        have q3 : 48 ≤ (((body s)[k - 1]'hkl).toNat : Int) := by simpa using q1
        have q4 : (((body s)[k - 1]'hkl).toNat : Int) ≤ 57 := by simpa using q2
        have HD := Lib.hid hdg
        clear hdg
        have hge2 : ∀ q, ov.ownBlock = some q → w.heap.size + 2 ≤ q := fun q e => by
          rcases hown.2 with ⟨rfl, -⟩ | ⟨g, cap, cur, rfl, hb, -⟩
          · simp [Value.ownBlock] at e
          · simp [Value.ownBlock] at e; omega
        have hge : ∀ q, ov.ownBlock = some q → w.heap.size ≤ q := fun q e => by have := hge2 q e; omega
        have hne0 : ov.ownBlock ≠ some w.heap.size := fun e => by have := hge2 _ e; omega
        have hne : ov.ownBlock ≠ some (w.heap.size + 1) := fun e => by have := hge2 _ e; omega
        have hnk : n ≤ 40 := by have := HKN.out; omega
        go_wp2
        have hw1 : IntKind.u8.wrap ((((body s)[k - 1]'hkl).toNat : Int) - 48) = (((body s)[k - 1]'hkl).toNat : Int) - 48 := IntWalk.u8_in _ (by omega)
        have hw2 : IntKind.i64.wrap ((((body s)[k - 1]'hkl).toNat : Int) - 48) = (((body s)[k - 1]'hkl).toNat : Int) - 48 := IntWalk.i64_in _ (by omega)
        go_region_law
          ((refine step_append_lies _ (by rfl) _ _ _ (by rfl) (w.heap.size + 2) 3 i0 _ 1 8 Try.underlying29 hi0 hz0 hz1 hz2 rfl (by omega) ov n (ints ((digsOf (body s)).take n)) (by rfl) ((hown.alloc _).drew)
              ⟨wr.heap.size, 0, none⟩ 1 1 [.int .i64 ((((body s)[k - 1]'hkl).toNat : Int) - 48)] (by rfl) (by rfl) (World.news_of_block (cs := #[.int .i64 ((((body s)[k - 1]'hkl).toNat : Int) - 48)]) (t := 3) (fr := (0, 0)) (heap_alloc_new wr _)) (by simp [Value.oneCell'])
              (by omega) (by unfold maxLen; omega) (by omega) (by simp; omega) (wr.heap.size + 1) (by simp) ?_; intro gg cap w1 hown1 hgrow hat hlt1; have hb1' := kgr (w := (wr.alloc (.cells #[.int .i64 ((((body s)[k - 1]'hkl).toNat : Int) - 48)] 3)).drew) (kla hb1 _) hgrow (Ne.symm hne); have hc2 : w1.cell? ⟨w.heap.size + 1, 1, none⟩ = some ov := (kcl hb1' 1).trans rfl; have hf2 := kfz hb1' 1))
        all_goals
          clear hw1 hw2
          have hkn := HKN.out
          have hgg : w.heap.size + 2 ≤ gg := by
            rcases hat with h | h
            · exact hge2 _ h
            · omega
          have HKN2 := Lib.hid hkn
          clear hkn
          go_wp2
          go_roundw
          case rel =>
            have hkn := HKN2.out
            refine ⟨k - 1, n + 1, .slice (some ⟨gg, 0, none⟩) (n + 1) cap, by omega, by congr 1; omega, ?_, ?_, ?_, ?_, ?_⟩
            · exact blk_far (kgr (w := (wr.alloc _).drew) (kla hb0 _) hgrow (Ne.symm hne0)) (by simp) _
            · exact blk_set hb1' 1 _
            · refine own_far ?_ (by simp; omega) _
              rw [digs_take (n0 := (body s).size) rfl (k - 1) (by omega) n (by omega)]
              exact hown1
            · rw [List.drop_eq_getElem_cons (by rw [Array.length_toList]; exact hkl), List.all_cons, Nat.sub_add_cancel (by omega), HALL.out]
              have := HD.out
              simp only [Array.getElem_toList, Bool.and_true]
              exact this
            · refine Below.setCell ?_ (by simp) _
              exact (bD (bA hB _)).grown hgrow (by simp; omega) hge
          case measure => simp [intOf]; omega
      · have HD := Lib.hid hdg
        clear hdg
        have hint : intB s = false := by
          have : (body s).data.toList.all isDig = false := by
            rw [List.all_eq_false]
            exact ⟨(body s).data.toList[k - 1]'(by rw [Array.length_toList]; exact hkl), List.getElem_mem _, HD.out⟩
          simp [intB, this]
        have hz : ∀ (W : World), W.heap[w.heap.size]? = some (.cells #[.bool false, .slice none 0 0] 147 (0, 0)) → Below w.heap.size w W →
            (∃ A c, Ending.returned (.tuple #[.agg #[.bool false, .slice none 0 0], .bool false]) = .returned (.tuple #[.agg #[.bool (negP s), .slice A (magP s).length c], .bool (intB s)]) ∧ RI W A (magP s) ∧ (magP s).length ≤ c ∧ Below w.heap.size w W) := fun W _ hb =>
          ⟨none, 0, by simp [negP, magP, hint], by simp [magP, hint]; exact RI.nil _, by simp [magP, hint], hb⟩
        have HZ := Lib.hid hz
        clear hz
        have hbz := blk_set (blk_set hb0 0 (.bool false)) 1 (.slice none 0 0)
        have HBZ := Lib.hid hbz
        clear hbz
        go_wp2
        · refine bodyPost_ret (res_ct rfl _ _ w.heap.size 147 #[.bool false, .slice none 0 0] (0, 0) _ rfl HBZ.out Try.underlying147 rfl (by kernel_rfl)) rfl ?_
          exact HZ.out _ HBZ.out ((hB.setCell (by simp) _).setCell (by simp) _)
        · exfalso
          apply HD.out
          simp [isDig]; omega
        · refine bodyPost_ret (res_ct rfl _ _ w.heap.size 147 #[.bool false, .slice none 0 0] (0, 0) _ rfl HBZ.out Try.underlying147 rfl (by kernel_rfl)) rfl ?_
          have hq := HZ.out _ HBZ.out ((hB.setCell (by simp) _).setCell (by simp) _)
          rw [hint] at hq
          exact hq
end Go.Proofs.Ytgddblpgbkgpcaa.B
namespace Go.Proofs.Ytgddblpgbkgpcaa.B
set_option linter.unusedVariables false
set_option linter.unusedSimpArgs false
open Go.RowKit
set_option linter.unusedVariables false
set_option linter.unusedSimpArgs false
set_option maxHeartbeats 4000000 in
theorem parse_bad (s : ByteArray) (hs : s.size ≤ 9223372036854775807) (w : World) (hbad : ¬ (1 ≤ (body s).size ∧ (body s).size ≤ 40) ∨ ∃ h : 0 < (body s).size, (((body s)[0]'h).toNat : Int) = 48 ∧ (1 < (body s).size ∨ hasDash s = true)) :
    Calls Try.prog 132 #[.string s] w fun e w' => ∃ A c, e = .returned (.tuple #[.agg #[.bool (negP s), .slice A (magP s).length c], .bool (intB s)]) ∧ RI w' A (magP s) ∧ (magP s).length ≤ c ∧ Below w.heap.size w w' := by
  have hint : intB s = false := by
    rcases hbad with h | ⟨h, h0, h2⟩
    · simp only [intB, Bool.and_assoc]
      rw [Bool.and_eq_false_iff, Bool.and_eq_false_iff]
      simp only [decide_eq_false_iff_not]
      omega
    · have e : (body s).data.toList.head? = some 48 := by
        have h' : 0 < (body s).data.toList.length := by rw [Array.length_toList]; exact h
        rw [List.head?_eq_getElem?, List.getElem?_eq_getElem h']
        have : (body s)[0]'h = 48 := UInt8.toNat_inj.1 (by simpa using Int.ofNat_inj.1 h0)
        exact congrArg some this
      simp only [intB, e]
      rcases h2 with h2 | h2 <;> simp [h2]
  have hz : ∀ (W : World), Below w.heap.size w W →
      (∃ A c, Ending.returned (.tuple #[.agg #[.bool false, .slice none 0 0], .bool false]) = .returned (.tuple #[.agg #[.bool (negP s), .slice A (magP s).length c], .bool (intB s)]) ∧ RI W A (magP s) ∧ (magP s).length ≤ c ∧ Below w.heap.size w W) := fun W hb =>
    ⟨none, 0, by simp [negP, magP, hint], by simp [magP, hint]; exact RI.nil _, by simp [magP, hint], hb⟩
  have HZ := Lib.hid hz
  have HI := Lib.hid hint
  clear hz hint
  rcases hbad with h | ⟨h, h0, h2⟩
  · by_cases h1 : (body s).size < 1
    · have d1 : decide (((body s).size : Int) < 1) = true := by simp; omega
      go_enter Try.func132, Try.ntmps132
      go_wp2_with (go_at_call 145; refine (cutPrefix_ok _ hs _).mono ?_; rintro e w' ⟨rfl, rfl⟩)
      refine bodyPost_ret (res_ct rfl _ _ w.heap.size 147 #[.bool false, .slice none 0 0] (0, 0) _ rfl (heap_new w _) Try.underlying147 rfl (by kernel_rfl)) rfl ?_
      exact HZ.out _ (bA (Below.refl _ _) _)
    · have d1 : decide (((body s).size : Int) < 1) = false := by simp; omega
      have d2 : decide ((40 : Int) < ((body s).size : Int)) = true := by simp; omega
      go_enter Try.func132, Try.ntmps132
      go_wp2_with (go_at_call 145; refine (cutPrefix_ok _ hs _).mono ?_; rintro e w' ⟨rfl, rfl⟩)
      refine bodyPost_ret (res_ct rfl _ _ w.heap.size 147 #[.bool false, .slice none 0 0] (0, 0) _ rfl (heap_new w _) Try.underlying147 rfl (by kernel_rfl)) rfl ?_
      exact HZ.out _ (bA (Below.refl _ _) _)
  · have d1 : decide (((body s).size : Int) < 1) = false := by simp; omega
    by_cases h40 : 40 < (body s).size
    · have d2 : decide ((40 : Int) < ((body s).size : Int)) = true := by simp; omega
      go_enter Try.func132, Try.ntmps132
      go_wp2_with (go_at_call 145; refine (cutPrefix_ok _ hs _).mono ?_; rintro e w' ⟨rfl, rfl⟩)
      refine bodyPost_ret (res_ct rfl _ _ w.heap.size 147 #[.bool false, .slice none 0 0] (0, 0) _ rfl (heap_new w _) Try.underlying147 rfl (by kernel_rfl)) rfl ?_
      exact HZ.out _ (bA (Below.refl _ _) _)
    · have d2 : decide ((40 : Int) < ((body s).size : Int)) = false := by simp; omega
      by_cases h1 : 1 < (body s).size
      · have d3 : decide ((1 : Int) < ((body s).size : Int)) = true := by simp; omega
        go_enter Try.func132, Try.ntmps132
        go_wp2_with (go_at_call 145; refine (cutPrefix_ok _ hs _).mono ?_; rintro e w' ⟨rfl, rfl⟩)
        refine bodyPost_ret (res_ct rfl _ _ w.heap.size 147 #[.bool false, .slice none 0 0] (0, 0) _ rfl (heap_new w _) Try.underlying147 rfl (by kernel_rfl)) rfl ?_
        exact HZ.out _ (bA (Below.refl _ _) _)
      · have d3 : decide ((1 : Int) < ((body s).size : Int)) = false := by simp; omega
        have hd : hasDash s = true := by rcases h2 with h2 | h2; · omega
                                         · exact h2
        go_enter Try.func132, Try.ntmps132
        go_wp2_with (go_at_call 145; refine (cutPrefix_ok _ hs _).mono ?_; rintro e w' ⟨rfl, rfl⟩)
        refine bodyPost_ret (res_ct rfl _ _ w.heap.size 147 #[.bool false, .slice none 0 0] (0, 0) _ rfl (heap_new w _) Try.underlying147 rfl (by kernel_rfl)) rfl ?_
        exact HZ.out _ (bA (Below.refl _ _) _)
set_option maxRecDepth 100000 in
set_option maxHeartbeats 4000000 in
theorem parse_zero (s : ByteArray) (hs : s.size ≤ 9223372036854775807) (w : World) (hb1 : (body s).size = 1) (h0 : (((body s)[0]'(by omega)).toNat : Int) = 48) (hd : hasDash s = false) :
    Calls Try.prog 132 #[.string s] w fun e w' => ∃ A c, e = .returned (.tuple #[.agg #[.bool (negP s), .slice A (magP s).length c], .bool (intB s)]) ∧ RI w' A (magP s) ∧ (magP s).length ≤ c ∧ Below w.heap.size w w' := by
  obtain ⟨i0, hi0, hz0, hz1, hz2⟩ := info_parts info3
  have h1 : 1 ≤ (body s).size := by omega
  have h40 : (body s).size ≤ 40 := by omega
  have d3 : decide ((1 : Int) < ((body s).size : Int)) = false := by simp; omega
  have d1 : decide (((body s).size : Int) < 1) = false := by simp; omega
  have d2 : decide ((40 : Int) < ((body s).size : Int)) = false := by simp; omega
  go_enter Try.func132, Try.ntmps132
  go_wp2_with (go_at_call 145; refine (cutPrefix_ok _ hs _).mono ?_; rintro e w' ⟨rfl, rfl⟩)
  clear d1 d2 d3
  go_loopw [7] (fun i wr => ∃ (k n : Nat) (ov : Value), k + n = (body s).size ∧ i = .int .i64 ((k : Int) - 1) ∧
      wr.heap[w.heap.size]? = some (.cells #[.bool false, .slice none 0 0] 147 (0, 0)) ∧ wr.heap[w.heap.size + 1]? = some (.cells #[.bool false, ov] 147 (0, 0)) ∧
      wr.ownsRow (w.heap.size + 2) 3 1 ov n (ints ((digsOf (body s)).take n)) ∧ ((body s).data.toList.drop k).all isDig = true ∧ Below w.heap.size w wr) (fun i _ => ((intOf i) + 1).toNat)
  case atStart =>
    refine ⟨(body s).size, 0, .slice none 0 0, by omega, by simp [hb1], ?_, ?_, ?_, ?_, ?_⟩
    · exact kla (heap_new _ _) _
    · have := heap_new (w.alloc (.cells #[.bool false, .slice none 0 0] 147)) (.cells #[.bool false, .slice none 0 0] 147)
      simpa using this
    · exact ⟨by simp [ints], .inl ⟨rfl, rfl⟩⟩
    · simp [List.drop_of_length_le]
    · exact bA (bA (Below.refl _ _) _) _
  case round =>
    obtain ⟨k, n, ov, hkn, rfl, hb0, hb1, hown, hall, hB⟩ := hrel
    have HALL := Lib.hid hall
    have HKN := Lib.hid hkn
    clear hall
    have hlt := blk_lt hb1
    have hc10 : wr.cell? ⟨w.heap.size + 1, 0, none⟩ = some (.bool false) := (kcl hb1 0).trans rfl
    have hc11 : wr.cell? ⟨w.heap.size + 1, 1, none⟩ = some ov := (kcl hb1 1).trans rfl
    have hf10 := kfz hb1 0
    have hf11 := kfz hb1 1
    have hc00 : wr.cell? ⟨w.heap.size, 0, none⟩ = some (.bool false) := (kcl hb0 0).trans rfl
    have hc01 : wr.cell? ⟨w.heap.size, 1, none⟩ = some (.slice none 0 0) := (kcl hb0 1).trans rfl
    have hf00 := kfz hb0 0
    have hf01 := kfz hb0 1
    by_cases hk0 : k = 0
    · subst hk0
      have hn0 : 0 < n := by omega
      obtain ⟨g, cap, rfl, hgb, -⟩ := hown.form hn0
      obtain ⟨hnl, hcap, hRI⟩ := own_RI hown
      have hN := Lib.hid hnl
      clear hnl hkn
      go_wp2_with (go_at_call 155; refine (trimmed_n _ _ _ _ hN.out _ hRI hcap).mono ?_; rintro e w' ⟨rfl, rfl⟩)
      have hb1'' := blk_set hb1 1 (.slice (some ⟨g, 0, none⟩) (trimL (List.take n (digsOf (body s)))).length cap)
      have hbz := blk_set (blk_set (blk_far hb0 (p := ⟨w.heap.size + 1, 1, none⟩) (by simp) (.slice (some ⟨g, 0, none⟩) (trimL (List.take n (digsOf (body s)))).length cap)) 0 (.bool false)) 1 (.slice (some ⟨g, 0, none⟩) (trimL (List.take n (digsOf (body s)))).length cap)
      refine bodyPost_ret (res_ct rfl _ _ w.heap.size 147 #[.bool false, .slice (some ⟨g, 0, none⟩) (trimL (List.take n (digsOf (body s)))).length cap] (0, 0) _ rfl hbz Try.underlying147 rfl (by kernel_rfl)) rfl ?_
      have hN' := HKN.out
      have hint : intB s = true := by
        have h2 := HALL.out
        simp only [List.drop_zero] at h2
        simp [intB, h2, h1, h40]
        exact .inr ⟨by omega, hd⟩
      have hdl : (digsOf (body s)).length = (body s).size := by simp [digsOf]
      have htk : (digsOf (body s)).take n = digsOf (body s) := List.take_of_length_le (by omega)
      rw [htk] at hown ⊢
      have hm : magP s = trimL (digsOf (body s)) := by simp [magP, hint]
      refine ⟨some ⟨g, 0, none⟩, cap, by simp [negP, hint, hm, hd], ?_, ?_, ?_⟩
      · rw [hm]
        have hO := Lib.hid hgb
        exact RI.take (own_RI (own_far (own_far (own_far hown (p := ⟨w.heap.size + 1, 1, none⟩) (by simp; omega) _) (p := ⟨w.heap.size, 0, none⟩) (by simp; omega) _) (p := ⟨w.heap.size, 1, none⟩) (by simp; omega) _)).2.2 _
      · rw [hm]
        have := trimN_le (digsOf (body s)) (digsOf (body s)).length
        have := hN.out
        simp [trimL]; omega
      · exact ((hB.setCell (by simp) _).setCell (by simp) _).setCell (by simp) _
    · have hkl : k - 1 < (body s).size := by omega
      have e1 : ((k : Int) - 1).toNat = k - 1 := by omega
      have e2 : (0 : Int) ≤ (k : Int) - 1 := by omega
      clear hkn
      by_cases hdg : isDig ((body s)[k - 1]'hkl) = true
      · have q1 : decide ((((body s)[k - 1]'hkl).toNat : Int) < 48) = false := by simp [isDig] at hdg; simp; omega
        have q2 : decide ((57 : Int) < (((body s)[k - 1]'hkl).toNat : Int)) = false := by simp [isDig] at hdg; simp; omega
        have q3 : 48 ≤ (((body s)[k - 1]'hkl).toNat : Int) := by simpa using q1
        have q4 : (((body s)[k - 1]'hkl).toNat : Int) ≤ 57 := by simpa using q2
        have HD := Lib.hid hdg
        clear hdg
        have hge2 : ∀ q, ov.ownBlock = some q → w.heap.size + 2 ≤ q := fun q e => by
          rcases hown.2 with ⟨rfl, -⟩ | ⟨g, cap, cur, rfl, hb, -⟩
          · simp [Value.ownBlock] at e
          · simp [Value.ownBlock] at e; omega
        have hge : ∀ q, ov.ownBlock = some q → w.heap.size ≤ q := fun q e => by have := hge2 q e; omega
        have hne0 : ov.ownBlock ≠ some w.heap.size := fun e => by have := hge2 _ e; omega
        have hne : ov.ownBlock ≠ some (w.heap.size + 1) := fun e => by have := hge2 _ e; omega
        have hnk : n ≤ 40 := by have := HKN.out; omega
        go_wp2
        have hw1 : IntKind.u8.wrap ((((body s)[k - 1]'hkl).toNat : Int) - 48) = (((body s)[k - 1]'hkl).toNat : Int) - 48 := IntWalk.u8_in _ (by omega)
        have hw2 : IntKind.i64.wrap ((((body s)[k - 1]'hkl).toNat : Int) - 48) = (((body s)[k - 1]'hkl).toNat : Int) - 48 := IntWalk.i64_in _ (by omega)
        go_region_law
          ((refine step_append_lies _ (by rfl) _ _ _ (by rfl) (w.heap.size + 2) 3 i0 _ 1 8 Try.underlying29 hi0 hz0 hz1 hz2 rfl (by omega) ov n (ints ((digsOf (body s)).take n)) (by rfl) ((hown.alloc _).drew)
              ⟨wr.heap.size, 0, none⟩ 1 1 [.int .i64 ((((body s)[k - 1]'hkl).toNat : Int) - 48)] (by rfl) (by rfl) (World.news_of_block (cs := #[.int .i64 ((((body s)[k - 1]'hkl).toNat : Int) - 48)]) (t := 3) (fr := (0, 0)) (heap_alloc_new wr _)) (by simp [Value.oneCell'])
              (by omega) (by unfold maxLen; omega) (by omega) (by simp; omega) (wr.heap.size + 1) (by simp) ?_; intro gg cap w1 hown1 hgrow hat hlt1; have hb1' := kgr (w := (wr.alloc (.cells #[.int .i64 ((((body s)[k - 1]'hkl).toNat : Int) - 48)] 3)).drew) (kla hb1 _) hgrow (Ne.symm hne); have hc2 : w1.cell? ⟨w.heap.size + 1, 1, none⟩ = some ov := (kcl hb1' 1).trans rfl; have hf2 := kfz hb1' 1))
        all_goals
          clear hw1 hw2
          have hkn := HKN.out
          have hgg : w.heap.size + 2 ≤ gg := by
            rcases hat with h | h
            · exact hge2 _ h
            · omega
          have HKN2 := Lib.hid hkn
          clear hkn
          go_wp2
          go_roundw
          case rel =>
            have hkn := HKN2.out
            refine ⟨k - 1, n + 1, .slice (some ⟨gg, 0, none⟩) (n + 1) cap, by omega, by congr 1; omega, ?_, ?_, ?_, ?_, ?_⟩
            · exact blk_far (kgr (w := (wr.alloc _).drew) (kla hb0 _) hgrow (Ne.symm hne0)) (by simp) _
            · exact blk_set hb1' 1 _
            · refine own_far ?_ (by simp; omega) _
              rw [digs_take (n0 := (body s).size) rfl (k - 1) (by omega) n (by omega)]
              exact hown1
            · rw [List.drop_eq_getElem_cons (by rw [Array.length_toList]; exact hkl), List.all_cons, Nat.sub_add_cancel (by omega), HALL.out]
              have := HD.out
              simp only [Array.getElem_toList, Bool.and_true]
              exact this
            · refine Below.setCell ?_ (by simp) _
              exact (bD (bA hB _)).grown hgrow (by simp; omega) hge
          case measure => simp [intOf]; omega
      · have HD := Lib.hid hdg
        clear hdg
        have hint : intB s = false := by
          have : (body s).data.toList.all isDig = false := by
            rw [List.all_eq_false]
            exact ⟨(body s).data.toList[k - 1]'(by rw [Array.length_toList]; exact hkl), List.getElem_mem _, HD.out⟩
          simp [intB, this]
        have hz : ∀ (W : World), W.heap[w.heap.size]? = some (.cells #[.bool false, .slice none 0 0] 147 (0, 0)) → Below w.heap.size w W →
            (∃ A c, Ending.returned (.tuple #[.agg #[.bool false, .slice none 0 0], .bool false]) = .returned (.tuple #[.agg #[.bool (negP s), .slice A (magP s).length c], .bool (intB s)]) ∧ RI W A (magP s) ∧ (magP s).length ≤ c ∧ Below w.heap.size w W) := fun W _ hb =>
          ⟨none, 0, by simp [negP, magP, hint], by simp [magP, hint]; exact RI.nil _, by simp [magP, hint], hb⟩
        have HZ := Lib.hid hz
        clear hz
        have hbz := blk_set (blk_set hb0 0 (.bool false)) 1 (.slice none 0 0)
        have HBZ := Lib.hid hbz
        clear hbz
        go_wp2
        · refine bodyPost_ret (res_ct rfl _ _ w.heap.size 147 #[.bool false, .slice none 0 0] (0, 0) _ rfl HBZ.out Try.underlying147 rfl (by kernel_rfl)) rfl ?_
          exact HZ.out _ HBZ.out ((hB.setCell (by simp) _).setCell (by simp) _)
        · exfalso
          apply HD.out
          simp [isDig]; omega
        · refine bodyPost_ret (res_ct rfl _ _ w.heap.size 147 #[.bool false, .slice none 0 0] (0, 0) _ rfl HBZ.out Try.underlying147 rfl (by kernel_rfl)) rfl ?_
          have hq := HZ.out _ HBZ.out ((hB.setCell (by simp) _).setCell (by simp) _)
          rw [hint] at hq
          exact hq
theorem parse_ok (s : ByteArray) (hs : s.size ≤ 9223372036854775807) (w : World) :
    Calls Try.prog 132 #[.string s] w fun e w' => ∃ A c, e = .returned (.tuple #[.agg #[.bool (negP s), .slice A (magP s).length c], .bool (intB s)]) ∧ RI w' A (magP s) ∧ (magP s).length ≤ c ∧ Below w.heap.size w w' := by
  by_cases hsz : 1 ≤ (body s).size ∧ (body s).size ≤ 40
  · by_cases h0 : (((body s)[0]'(by omega)).toNat : Int) = 48
    · by_cases h2 : 1 < (body s).size ∨ hasDash s = true
      · exact parse_bad s hs w (.inr ⟨by omega, h0, h2⟩)
      · simp only [not_or, Bool.not_eq_true] at h2
        exact parse_zero s hs w (by omega) h0 h2.2
    · exact parse_loop s hs w hsz.1 hsz.2 h0
  · exact parse_bad s hs w (.inl hsz)
theorem intOk_ok (s : ByteArray) (hs : s.size ≤ 9223372036854775807) (w : World) : Calls Try.prog 102 #[.string s] w fun e w' => e = .returned (.bool (intB s)) ∧ Below w.heap.size w w' := by
  go_enter Try.func102, Try.ntmps102
  go_wp2_with (go_at_call 132; refine (parse_ok _ hs _).mono ?_; rintro e w' ⟨A, c, rfl, hR, hc, hB⟩)
  go_ret
  exact ⟨rfl, bA hB _⟩
theorem validText_ok (s : ByteArray) (w : World) (hs : s.size ≤ 9223372036854775807) : Calls Try.prog 105 #[.string s] w fun e w' => e = .returned (.bool (decide (s.size ≤ 400))) ∧ w = w' := by
  go_enter Try.func105, Try.ntmps105
  go_wp2
  go_ret
  exact ⟨ret_bool (by simp; omega), rfl⟩
end Go.Proofs.Ytgddblpgbkgpcaa.B
namespace Go.Proofs.Ytgddblpgbkgpcaa.B
set_option linter.unusedVariables false
set_option linter.unusedSimpArgs false
open Go.RowKit
set_option linter.unusedVariables false
set_option linter.unusedSimpArgs false
theorem intB_long (s b : ByteArray) (hb : body s = b) (h : ¬ (1 ≤ b.size ∧ b.size ≤ 40)) : intB s = false := by
  subst hb
  simp only [intB, Bool.and_assoc]
  rw [Bool.and_eq_false_iff, Bool.and_eq_false_iff]
  simp only [decide_eq_false_iff_not]
  omega
theorem intB_dig (s b : ByteArray) (hb : body s = b) (k : Nat) (hk : k < b.size) (h : isDig (b[k]'hk) = false) : intB s = false := by
  subst hb
  have : (body s).data.toList.all isDig = false := by
    rw [List.all_eq_false]
    exact ⟨(body s).data.toList[k]'(by rw [Array.length_toList]; exact hk), List.getElem_mem _, by
      rw [Array.getElem_toList]
      have e : (body s).data[k]'hk = (body s)[k]'hk := rfl
      rw [e, h]; simp⟩
  simp [intB, this]
theorem head_eq {b : ByteArray} (h : 0 < b.size) (h0 : ((b[0]'h).toNat : Int) = 48) : b.data.toList.head? = some 48 := by
  have h' : 0 < b.data.toList.length := by rw [Array.length_toList]; exact h
  rw [List.head?_eq_getElem?, List.getElem?_eq_getElem h']
  have : b[0]'h = 48 := UInt8.toNat_inj.1 (by simpa using Int.ofNat_inj.1 h0)
  exact congrArg some this
theorem intB_full (s b : ByteArray) (hb : body s = b) (h : 1 ≤ b.size ∧ b.size ≤ 40) (hall : b.data.toList.all isDig = true) (q : Bool) (hq : q = decide (1 < b.size ∨ hasDash s = true)) : intB s = (!(((b[0]'(by omega)).toNat : Int) == 48) || !q) := by
  subst hq; subst hb
  by_cases h0 : (((body s)[0]'(by omega)).toNat : Int) = 48
  · simp [intB, hall, h, head_eq (by omega) h0, h0]
  · have e : ((body s).data.toList.head? == some 48) = false := by simpa using head_ne (by omega) h0
    have e2 : ((((body s)[0]'(by omega)).toNat : Int) == 48) = false := by simpa using h0
    simp [intB, hall, h, e2, e]
theorem take_dig {b : ByteArray} {k : Nat} (hk : k < b.size) (hall : (b.data.toList.take k).all isDig = true) (hd : isDig (b[k]'hk) = true) : (b.data.toList.take (k + 1)).all isDig = true := by
  rw [List.take_succ_eq_append_getElem (by rw [Array.length_toList]; exact hk), List.all_append, hall]
  have : b.data.toList[k]'(by rw [Array.length_toList]; exact hk) = b[k]'hk := rfl
  simp [this, hd]
theorem str0 (s b : ByteArray) (hb : body s = b) (h : (1 ≤ b.size ∧ b.size ≤ 40)) (h0 : ((b[0]'(by omega)).toNat : Int) = 48) : (s.toList == [48]) = !decide (1 < b.size ∨ hasDash s = true) := by
  subst hb
  by_cases hd : hasDash s = true
  · have h0' : 0 < s.size := by rcases Nat.eq_zero_or_pos s.size with h | h; · simp [hasDash, h] at hd
                                · exact h
    have h45 : s[0]'h0' = 45 := by simpa [hasDash, h0'] using hd
    simp only [hd, or_true, decide_true, Bool.not_true]
    rw [beq_eq_false_iff_ne]
    intro e
    rw [Lib.toList_data] at e
    have e2 : s.data.toList[0]'(by rw [e]; simp) = 48 := by simp [e]
    have e3 : s.data.toList[0]'(by rw [e]; simp) = s[0]'h0' := rfl
    rw [e3, h45] at e2
    cases e2
  · replace hd : hasDash s = false := by simpa using hd
    have hb : body s = s := by simp [body, hd]
    simp only [hb] at h h0 ⊢
    simp only [hd, Bool.false_eq_true, or_false]
    rw [Lib.toList_data]
    by_cases h1 : 1 < s.size
    · simp only [h1, decide_true, Bool.not_true]
      rw [beq_eq_false_iff_ne]
      intro e
      have := congrArg List.length e
      rw [Array.length_toList] at this
      have e : s.data.size = s.size := rfl
      simp at this; omega
    · simp only [h1, decide_false, Bool.not_false]
      rw [beq_iff_eq]
      have hh := head_eq (b := s) (by omega) h0
      have hl : s.data.toList.length = 1 := by rw [Array.length_toList]; have e : s.data.size = s.size := rfl; omega
      obtain ⟨x, hx⟩ := List.length_eq_one_iff.1 hl
      rw [hx] at hh ⊢
      simpa using hh
set_option maxHeartbeats 4000000 in
theorem validInt_dash (s : ByteArray) (hs : s.size ≤ 9223372036854775807) (w : World) (hd : hasDash s = true) : Calls Try.prog 104 #[.string s] w fun e w' => e = .returned (.bool (intB s)) ∧ w = w' := by
    have hbs : (body s).size ≤ 9223372036854775807 := by unfold body; split <;> first | exact hs | (rw [ByteArray.size_extract]; omega)
    have h0 : 0 < s.size := by rcases Nat.eq_zero_or_pos s.size with h | h; · simp [hasDash, h] at hd
                               · exact h
    have h45 : ((s[0]'h0).toNat : Int) = 45 := by simp [hasDash, h0] at hd; rw [hd]; rfl
    have hbody : s.extract 1 s.size = body s := by simp [body, hd]
    go_enter Try.func104, Try.ntmps104
    go_wp2
    go_loop [4] (fun i => ∃ k : Nat, k ≤ (body s).size ∧ i = .int .i64 k ∧ ((body s).data.toList.take k).all isDig = true) (fun i => ((body s).size - (intOf i).toNat))
    case atStart => exact ⟨0, by omega, rfl, by simp⟩
    case round =>
      obtain ⟨k, hk, rfl, hall⟩ := hrel
      have HALL := Lib.hid hall
      clear hall
      by_cases hkl : k < (body s).size
      · by_cases hdg : isDig ((body s)[k]'hkl) = true
        · have q1 : decide ((((body s)[k]'hkl).toNat : Int) < 48) = false := by simp [isDig] at hdg; simp; omega
          have q2 : decide ((57 : Int) < (((body s)[k]'hkl).toNat : Int)) = false := by simp [isDig] at hdg; simp; omega
          have HD := Lib.hid hdg
          clear hdg
          go_wp2
          go_round
          case rel => exact ⟨k + 1, by omega, by congr 1, take_dig hkl HALL.out HD.out⟩
          case measure => simp [intOf]; omega
        · have HD := Lib.hid (intB_dig s (body s) rfl k hkl (by simpa using hdg))
          have HG := Lib.hid hdg
          clear hdg
          go_wp2
          · go_ret
            exact ⟨ret_bool HD.out.symm, rfl⟩
          · exfalso
            apply HG.out
            simp [isDig]; omega
          · go_ret
            exact ⟨ret_bool HD.out.symm, rfl⟩
      · have hke : k = (body s).size := by omega
        have hall2 := Lib.hid (show (body s).data.toList.all isDig = true by
          have := HALL.out
          rw [List.take_of_length_le (by rw [Array.length_toList]; have e : (body s).data.size = (body s).size := rfl; omega)] at this
          exact this)
        by_cases hsz : 1 ≤ (body s).size ∧ (body s).size ≤ 40
        · have hin : inR ((body s).size : Int) 1 40 = true := by simp [inR]; omega
          have hfull := Lib.hid (intB_full s (body s) rfl hsz hall2.out _ rfl)
          have hstr := Lib.hid (str0 s (body s) rfl hsz)
          have hs1 := hsz.1
          have hs40 := hsz.2
          go_wp2_with (go_at_call 103; refine (iRo _ _ _ _).mono ?_; rintro e w' ⟨rfl, rfl⟩)
          all_goals
            go_ret
            refine ⟨ret_bool ?_, rfl⟩
            rw [hfull.out]
            first
              | (simp_all; done)
              | (rw [hstr.out (by assumption)]; simp_all; done)
        · have hin : inR ((body s).size : Int) 1 40 = false := by simp [inR]; omega
          have hno := Lib.hid (intB_long s (body s) rfl hsz)
          clear hsz
          go_wp2_with (go_at_call 103; refine (iRo _ _ _ _).mono ?_; rintro e w' ⟨rfl, rfl⟩)
          all_goals
            go_ret
            exact ⟨ret_bool hno.out.symm, rfl⟩
theorem not_dash (s : ByteArray) (hd : ¬ hasDash s = true) (h0 : 0 < s.size) : ((s[0]'h0).toNat : Int) ≠ 45 := by
  intro e
  apply hd
  have : s[0]'h0 = 45 := UInt8.toNat_inj.1 (by simpa using Int.ofNat_inj.1 e)
  simp [hasDash, h0, this]
set_option maxHeartbeats 4000000 in
theorem validInt_plain (s : ByteArray) (hs : s.size ≤ 9223372036854775807) (w : World) (hd : ¬ hasDash s = true) (hbody : s = body s) : Calls Try.prog 104 #[.string s] w fun e w' => e = .returned (.bool (intB s)) ∧ w = w' := by
    have HB := Lib.hid hbody.symm
    clear hbody
    by_cases h0 : 0 < s.size
    · have hne := not_dash s hd h0
      go_enter Try.func104, Try.ntmps104
      go_wp2
      go_loop [4] (fun i => ∃ k : Nat, k ≤ s.size ∧ i = .int .i64 k ∧ (s.data.toList.take k).all isDig = true) (fun i => (s.size - (intOf i).toNat))
      case atStart => exact ⟨0, by omega, rfl, by simp⟩
      case round =>
        obtain ⟨k, hk, rfl, hall⟩ := hrel
        have HALL := Lib.hid hall
        clear hall
        by_cases hkl : k < s.size
        · by_cases hdg : isDig (s[k]'hkl) = true
          · have q1 : decide (((s[k]'hkl).toNat : Int) < 48) = false := by simp [isDig] at hdg; simp; omega
            have q2 : decide ((57 : Int) < ((s[k]'hkl).toNat : Int)) = false := by simp [isDig] at hdg; simp; omega
            have HD := Lib.hid hdg
            clear hdg
            go_wp2
            go_round
            case rel => exact ⟨k + 1, by omega, by congr 1, take_dig hkl HALL.out HD.out⟩
            case measure => simp [intOf]; omega
          · have HD := Lib.hid (intB_dig s s HB.out k hkl (by simpa using hdg))
            have HG := Lib.hid hdg
            clear hdg
            go_wp2
            · go_ret
              exact ⟨ret_bool HD.out.symm, rfl⟩
            · exfalso
              apply HG.out
              simp [isDig]; omega
            · go_ret
              exact ⟨ret_bool HD.out.symm, rfl⟩
        · have hke : k = s.size := by omega
          have hall2 := Lib.hid (show s.data.toList.all isDig = true by
            have := HALL.out
            rw [List.take_of_length_le (by rw [Array.length_toList]; have e : s.data.size = s.size := rfl; omega)] at this
            exact this)
          by_cases hsz : 1 ≤ s.size ∧ s.size ≤ 40
          · have hin : inR (s.size : Int) 1 40 = true := by simp [inR]; omega
            have hfull := Lib.hid (intB_full s s HB.out hsz hall2.out _ rfl)
            have hstr := Lib.hid (str0 s s HB.out hsz)
            have hs1 := hsz.1
            have hs40 := hsz.2
            go_wp2_with (go_at_call 103; refine (iRo _ _ _ _).mono ?_; rintro e w' ⟨rfl, rfl⟩)
            all_goals
              go_ret
              refine ⟨ret_bool ?_, rfl⟩
              rw [hfull.out]
              first
                | (simp_all; done)
                | (rw [hstr.out (by assumption)]; simp_all; done)
          · have hin : inR (s.size : Int) 1 40 = false := by simp [inR]; omega
            have hno := Lib.hid (intB_long s s HB.out hsz)
            clear hsz
            go_wp2_with (go_at_call 103; refine (iRo _ _ _ _).mono ?_; rintro e w' ⟨rfl, rfl⟩)
            all_goals
              go_ret
              exact ⟨ret_bool hno.out.symm, rfl⟩

    · have hz : s.size = 0 := by omega
      have hno := Lib.hid (intB_long s s HB.out (by omega))
      have hin : inR 0 1 40 = false := by simp [inR]
      clear hd h0
      go_enter Try.func104, Try.ntmps104
      go_wp2
      go_loop [4] (fun i => i = .int .i64 0) (fun i => 0)
      case atStart => rfl
      case round =>
        obtain rfl := hrel
        go_wp2_with (go_at_call 103; refine (iRo _ _ _ _).mono ?_; rintro e w' ⟨rfl, rfl⟩)
        go_ret
        exact ⟨ret_bool hno.out.symm, rfl⟩
theorem validInt_ok (s : ByteArray) (hs : s.size ≤ 9223372036854775807) (w : World) : Calls Try.prog 104 #[.string s] w fun e w' => e = .returned (.bool (intB s)) ∧ w = w' := by
  by_cases hd : hasDash s = true
  · exact validInt_dash s hs w hd
  · exact validInt_plain s hs w hd (by simp [body, hd])
end Go.Proofs.Ytgddblpgbkgpcaa.B
namespace Go.Proofs.Ytgddblpgbkgpcaa.B
set_option linter.unusedVariables false
set_option linter.unusedSimpArgs false
open Go.RowKit
set_option linter.unusedVariables false
set_option linter.unusedSimpArgs false
def valOk (n : Nat) (v : V) : Bool :=
  if v.k = 0 then v.t.toList == [] && v.r == 0
  else if v.k = 1 then v.t.toList == [] && inR v.r 0 1
  else if v.k = 2 then intB v.t && v.r == 0
  else if v.k = 3 then decide ((v.t.size : Int) ≤ 400) && v.r == 0
  else if v.k = 4 then v.t.toList == [] && inR v.r 0 ((n : Int) - 1)
  else false
set_option maxHeartbeats 1000000 in
theorem valueOk_ok (A : Option Addr) (n c : Nat) (hn : n ≤ 9223372036854775807) (v : V) (hs : v.t.size ≤ 9223372036854775807) (w : World) :
    Calls Try.prog 61 #[.agg #[.slice A n c], .agg #[.int .i64 v.k, .string v.t, .int .i64 v.r]] w fun e w' => e = .returned (.bool (valOk n v)) ∧ Below w.heap.size w w' := by
  obtain ⟨k, t, r⟩ := v
  go_enter Try.func61, Try.ntmps61
  go_wp2_with (first | (go_at_call 101; refine (within_ok _ _ _ _).mono ?_; rintro e w' ⟨rfl, rfl⟩) | (go_at_call 102; refine (intOk_ok _ hs _).mono ?_; rintro e w1 ⟨rfl, hb⟩; obtain ⟨hc, hf⟩ := bcell hb))
  all_goals
    go_ret
    refine ⟨ret_bool ?_, ?_⟩
    · first | (simp_all [valOk, inR]; done) | (simp_all [valOk, inR]; omega)
    · repeat (first | exact Below.refl _ _ | (with_reducible apply bA) | (refine bS ?_ (by assumption)))
set_option maxHeartbeats 1000000 in
theorem validValue_ok (n : Nat) (hn : n ≤ 9223372036854775807) (v : V) (hs : v.t.size ≤ 9223372036854775807) (w : World) :
    Calls Try.prog 63 #[.agg #[.int .i64 v.k, .string v.t, .int .i64 v.r], .int .i64 n] w fun e w' => e = .returned (.bool (valOk n v)) ∧ Below w.heap.size w w' := by
  obtain ⟨k, t, r⟩ := v
  go_enter Try.func63, Try.ntmps63
  go_wp2_with (first | (go_at_call 103; refine (iRo _ _ _ _).mono ?_; rintro e w' ⟨rfl, rfl⟩) | (go_at_call 104; refine (validInt_ok _ hs _).mono ?_; rintro e w1 ⟨rfl, rfl⟩) | (go_at_call 105; refine (validText_ok _ _ hs).mono ?_; rintro e w1 ⟨rfl, rfl⟩))
  all_goals
    go_ret
    refine ⟨ret_bool ?_, ?_⟩
    · first | (simp_all [valOk, inR]; done) | (simp_all [valOk, inR]; omega)
    · repeat (first | exact Below.refl _ _ | (with_reducible apply bA) | (refine bS ?_ (by assumption)))
set_option maxHeartbeats 1000000 in
theorem vsO (A : Option Addr) (n c : Nat) (hn : n ≤ 9223372036854775807) (A1 : Option Addr) (c1 : Nat) (l : List V) (w : World) (hC : RV w A1 l) :
    Calls Try.prog 53 #[.agg #[.slice A n c], .slice A1 l.length c1] w fun e w' => e = .returned (.bool (l.all (valOk n))) ∧ Below w.heap.size w w' := by
  have hl := hC.1
  go_enter Try.func53, Try.ntmps53
  go_wp2
  go_loopw [9] (fun i wr => ∃ k : Nat, k ≤ l.length ∧ i = .int .i64 k ∧ (l.take k).all (valOk n) = true ∧ wr.heap[w.heap.size]? = some (.cells #[.slice A n c] 25 (0, 0)) ∧ Below w.heap.size w wr) (fun i _ => l.length - (intOf i).toNat)
  case atStart => exact ⟨0, Nat.zero_le _, rfl, by simp, heap_new _ _, bA (Below.refl _ _) _⟩
  case round =>
    obtain ⟨k, hk, rfl, hall, hbk, hB⟩ := hrel
    have hCw := hC.below hB
    have hlt := blk_lt hbk
    have hc0 : wr.cell? ⟨w.heap.size, 0, none⟩ = some (.slice A n c) := (kcl hbk 0).trans rfl
    by_cases hkl : k < l.length
    · obtain ⟨ad, rfl, hx⟩ := hCw.2 (by omega)
      obtain ⟨hx0, hx1, hx2, hsz⟩ := hx k hkl
      clear hx
      go_wp2_with (go_at_call 61; refine (valueOk_ok _ _ _ hn l[k] hsz _).mono ?_; rintro e w1 ⟨rfl, hb⟩; obtain ⟨hc, hf⟩ := bcell hb)
      · go_ret
        refine ⟨ret_bool ?_, ?_⟩
        · have hv : valOk n l[k] = false := by simp_all
          rw [eq_comm, List.all_eq_false]
          exact ⟨l[k], List.getElem_mem _, by simp [hv]⟩
        · repeat (first | exact Below.refl _ _ | exact hB | (with_reducible apply bA) | (refine bS ?_ (by assumption)))
      · go_roundw
        case rel =>
          refine ⟨k + 1, by omega, by go_num, ?_, ?_, ?_⟩
          · rw [List.take_succ_eq_append_getElem hkl, List.all_append, hall]
            simp_all
          · exact kbw (kla hbk _) hb
          · repeat (first | exact Below.refl _ _ | exact hB | (with_reducible apply bA) | (refine bS ?_ (by assumption)))
        case measure => simp [intOf]; omega
    · go_wp2
      go_ret
      refine ⟨ret_bool ?_, hB⟩
      rw [List.take_of_length_le (by omega)] at hall
      simp [hall]
set_option maxHeartbeats 1000000 in
theorem vVo (n : Nat) (hn : n ≤ 9223372036854775807) (A1 : Option Addr) (c1 : Nat) (l : List V) (w : World) (hC : RV w A1 l) :
    Calls Try.prog 56 #[.slice A1 l.length c1, .int .i64 n] w fun e w' => e = .returned (.bool (l.all (valOk n) && decide (l.length ≤ 60))) ∧ Below w.heap.size w w' := by
  have hl := hC.1
  go_enter Try.func56, Try.ntmps56
  go_wp2
  go_loopw [5] (fun i wr => ∃ k : Nat, k ≤ l.length ∧ i = .int .i64 k ∧ (l.take k).all (valOk n) = true ∧ Below w.heap.size w wr) (fun i _ => l.length - (intOf i).toNat)
  case atStart => exact ⟨0, Nat.zero_le _, rfl, by simp, Below.refl _ _⟩
  case round =>
    obtain ⟨k, hk, rfl, hall, hB⟩ := hrel
    have hCw := hC.below hB
    by_cases hkl : k < l.length
    · obtain ⟨ad, rfl, hx⟩ := hCw.2 (by omega)
      obtain ⟨hx0, hx1, hx2, hsz⟩ := hx k hkl
      clear hx
      go_wp2_with (go_at_call 63; refine (validValue_ok _ hn l[k] hsz _).mono ?_; rintro e w1 ⟨rfl, hb⟩; obtain ⟨hc, hf⟩ := bcell hb)
      · go_ret
        refine ⟨ret_bool ?_, ?_⟩
        · have hv : valOk n l[k] = false := by simp_all
          rw [eq_comm, Bool.and_eq_false_iff]
          left
          rw [List.all_eq_false]
          exact ⟨l[k], List.getElem_mem _, by simp [hv]⟩
        · repeat (first | exact Below.refl _ _ | exact hB | (with_reducible apply bA) | (refine bS ?_ (by assumption)))
      · go_roundw
        case rel =>
          refine ⟨k + 1, by omega, by go_num, ?_, ?_⟩
          · rw [List.take_succ_eq_append_getElem hkl, List.all_append, hall]
            simp_all
          · repeat (first | exact Below.refl _ _ | exact hB | (with_reducible apply bA) | (refine bS ?_ (by assumption)))
        case measure => simp [intOf]; omega
    · go_wp2
      go_ret
      refine ⟨ret_bool ?_, hB⟩
      rw [List.take_of_length_le (by omega)] at hall
      simp [hall]
      omega
end Go.Proofs.Ytgddblpgbkgpcaa.B
namespace Go.Proofs.Ytgddblpgbkgpcaa.B
set_option linter.unusedVariables false
set_option linter.unusedSimpArgs false
open Go.RowKit
set_option linter.unusedVariables false
set_option linter.unusedSimpArgs false
def veq (a b : V) : Bool := a.k == b.k && a.t.toList == b.t.toList && a.r == b.r
def vidx : List V → V → Int
  | [], _ => -1
  | x :: l, v => if veq x v then 0 else let i := vidx l v; if i < 0 then -1 else i + 1
def vhas (l : List V) (v : V) : Bool := l.any fun x => veq x v
theorem vidx_skip (v : V) : ∀ (l : List V) (k : Nat) (hk : k < l.length), (∀ j (h : j < l.length), j < k → veq l[j] v = false) → veq l[k] v = true → vidx l v = k
  | [], k, hk, _, _ => by simp at hk
  | x :: l, 0, _, _, h => by simp at h; simp [vidx, h]
  | x :: l, k + 1, hk, ha, h => by
    have h0 := ha 0 (by simp) (by omega)
    simp at h0 h hk
    have := vidx_skip v l k hk (fun j hj hjk => by have := ha (j + 1) (by simp; omega) (by omega); simpa using this) h
    simp [vidx, h0, this]; omega
theorem vidx_none (v : V) : ∀ (l : List V), (∀ j (h : j < l.length), veq l[j] v = false) → vidx l v = -1
  | [], _ => rfl
  | x :: l, ha => by
    have h0 := ha 0 (by simp)
    simp at h0
    have := vidx_none v l (fun j hj => by have := ha (j + 1) (by simp; omega); simpa using this)
    simp [vidx, h0, this]
theorem vidx_neg (v : V) : ∀ (l : List V), decide (vidx l v ≥ 0) = vhas l v
  | [] => by simp [vidx, vhas]
  | x :: l => by
    have := vidx_neg v l
    unfold vhas at *
    simp only [vidx, List.any_cons]
    by_cases h : veq x v = true
    · simp [h]
    · simp only [h]
      by_cases h1 : vidx l v < 0
      · have h2 : decide (vidx l v ≥ 0) = false := by simp; omega
        rw [h2] at this
        simp [h1, ← this]
      · have h2 : decide (vidx l v ≥ 0) = true := by simp; omega
        rw [h2] at this
        simp [h1, ← this]; omega
theorem vidx_more {l : List V} {v : V} {k : Nat} (hk : k < l.length) (h : ∀ j (h : j < l.length), j < k → veq l[j] v = false) (hv : veq l[k] v = false) : ∀ j (h : j < l.length), j < k + 1 → veq l[j] v = false := fun j hj hjk => by
  rcases Nat.lt_or_ge j k with h' | h'
  · exact h j hj h'
  · obtain rfl : j = k := by omega
    exact hv
set_option maxHeartbeats 1000000 in
theorem indexV_ok (A1 : Option Addr) (c1 : Nat) (l : List V) (v : V) (w : World) (hC : RV w A1 l) :
    Calls Try.prog 118 #[.slice A1 l.length c1, .agg #[.int .i64 v.k, .string v.t, .int .i64 v.r]] w fun e w' => e = .returned (.int .i64 (vidx l v)) ∧ Below w.heap.size w w' := by
  have hl := hC.1
  obtain ⟨vk, vt, vr⟩ := v
  go_enter Try.func118, Try.ntmps118
  go_wp2
  go_loopw [5, 8] (fun _ i wr => ∃ k : Nat, k ≤ l.length ∧ i = .int .i64 k ∧ (∀ j (h : j < l.length), j < k → veq l[j] ⟨vk, vt, vr⟩ = false) ∧ wr.heap[w.heap.size]? = some (.cells #[.int .i64 vk, .string vt, .int .i64 vr] 35 (0, 0)) ∧ Below w.heap.size w wr) (fun _ i _ => l.length - (intOf i).toNat)
  case atStart => exact ⟨0, Nat.zero_le _, rfl, by intros; omega, heap_new _ _, bA (Below.refl _ _) _⟩
  case round =>
    obtain ⟨k, hk, rfl, hall, hbk, hB⟩ := hrel
    have HALL := Lib.hid hall
    clear hall
    have hCw := hC.below hB
    have hlt := blk_lt hbk
    have hc0 : wr.cell? ⟨w.heap.size, 0, none⟩ = some (.int .i64 vk) := (kcl hbk 0).trans rfl
    have hc1 : wr.cell? ⟨w.heap.size, 1, none⟩ = some (.string vt) := (kcl hbk 1).trans rfl
    have hc2 : wr.cell? ⟨w.heap.size, 2, none⟩ = some (.int .i64 vr) := (kcl hbk 2).trans rfl
    by_cases hkl : k < l.length
    · obtain ⟨ad, rfl, hx⟩ := hCw.2 (by omega)
      obtain ⟨hx0, hx1, hx2, hsz⟩ := hx k hkl
      clear hx
      by_cases h1 : vk = l[k].k <;> by_cases h2 : vt.toList = l[k].t.toList <;> by_cases h3 : vr = l[k].r
      all_goals
        go_wp2
        go_region
        clear hc0 hc1 hc2
        go_wp2
        first
          | (go_ret
             refine ⟨ret_int (vidx_skip _ l k hkl HALL.out (by simp [veq, h1, h2, h3])).symm, bD hB⟩)
          | exact ⟨⟨k + 1, by omega, by go_num, vidx_more hkl HALL.out (by
              rw [Bool.eq_false_iff]
              simp only [ne_eq, veq, Bool.and_eq_true, beq_iff_eq]
              rintro ⟨⟨a, b⟩, c⟩
              first | exact h1 a.symm | exact h2 b.symm | exact h3 c.symm | exact h1 a | exact h2 b | exact h3 c), hbk, bD hB⟩, by simp [intOf]; omega⟩
    · go_wp2
      go_ret
      exact ⟨ret_int (vidx_none _ l (fun j hj => HALL.out j hj (by omega))).symm, hB⟩
theorem containsV_ok (A1 : Option Addr) (c1 : Nat) (l : List V) (v : V) (w : World) (hC : RV w A1 l) :
    Calls Try.prog 113 #[.slice A1 l.length c1, .agg #[.int .i64 v.k, .string v.t, .int .i64 v.r]] w fun e w' => e = .returned (.bool (vhas l v)) ∧ Below w.heap.size w w' := by
  have hi := vidx_neg v l
  have hC1 := hC.below ((Below.refl _ _).alloc (Nat.le_refl _) (.cells #[.int .i64 v.k, .string v.t, .int .i64 v.r] 35))
  go_enter Try.func113, Try.ntmps113
  go_wp2_with (go_at_call 118; refine (indexV_ok _ _ _ v _ hC1).mono ?_; rintro e w1 ⟨rfl, hb⟩; obtain ⟨hc, hf⟩ := bcell hb)
  go_ret
  refine ⟨ret_bool ?_, bS (bA (Below.refl _ _) _) hb⟩
  rw [← hi]
theorem keyAt_ok (A1 : Option Addr) (c1 : Nat) (l : List V) (v : V) (w : World) (hC : RV w A1 l) :
    Calls Try.prog 89 #[.slice A1 l.length c1, .agg #[.int .i64 v.k, .string v.t, .int .i64 v.r]] w fun e w' => e = .returned (.int .i64 (vidx l v)) ∧ Below w.heap.size w w' := by
  have hl := hC.1
  obtain ⟨vk, vt, vr⟩ := v
  go_enter Try.func89, Try.ntmps89
  go_wp2
  go_loopw [5] (fun i wr => ∃ k : Nat, k ≤ l.length ∧ i = .int .i64 k ∧ (∀ j (h : j < l.length), j < k → veq l[j] ⟨vk, vt, vr⟩ = false) ∧ wr.heap[w.heap.size]? = some (.cells #[.int .i64 vk, .string vt, .int .i64 vr] 35 (0, 0)) ∧ Below w.heap.size w wr) (fun i _ => l.length - (intOf i).toNat)
  case atStart => exact ⟨0, Nat.zero_le _, rfl, by intros; omega, heap_new _ _, bA (Below.refl _ _) _⟩
  case round =>
    obtain ⟨k, hk, rfl, hall, hbk, hB⟩ := hrel
    have HALL := Lib.hid hall
    clear hall
    have hCw := hC.below hB
    have hlt := blk_lt hbk
    have hc0 : wr.cell? ⟨w.heap.size, 0, none⟩ = some (.int .i64 vk) := (kcl hbk 0).trans rfl
    have hc1 : wr.cell? ⟨w.heap.size, 1, none⟩ = some (.string vt) := (kcl hbk 1).trans rfl
    have hc2 : wr.cell? ⟨w.heap.size, 2, none⟩ = some (.int .i64 vr) := (kcl hbk 2).trans rfl
    by_cases hkl : k < l.length
    · obtain ⟨ad, rfl, hx⟩ := hCw.2 (by omega)
      obtain ⟨hx0, hx1, hx2, hsz⟩ := hx k hkl
      clear hx
      by_cases h1 : l[k].k = vk <;> by_cases h2 : l[k].t.toList = vt.toList <;> by_cases h3 : l[k].r = vr
      all_goals
        go_wp2
        go_region
        clear hc0 hc1 hc2
        go_wp2
        first
          | (go_ret
             refine ⟨ret_int (vidx_skip _ l k hkl HALL.out (by simp [veq, h1, h2, h3])).symm, bD hB⟩)
          | exact ⟨⟨k + 1, by omega, by go_num, vidx_more hkl HALL.out (by
              rw [Bool.eq_false_iff]
              simp only [ne_eq, veq, Bool.and_eq_true, beq_iff_eq]
              rintro ⟨⟨a, b⟩, c⟩
              first | exact h1 a.symm | exact h2 b.symm | exact h3 c.symm | exact h1 a | exact h2 b | exact h3 c), hbk, bD hB⟩, by simp [intOf]; omega⟩
    · go_wp2
      go_ret
      exact ⟨ret_int (vidx_none _ l (fun j hj => HALL.out j hj (by omega))).symm, hB⟩
theorem hashable_ok (v : V) (w : World) : Calls Try.prog 121 #[.agg #[.int .i64 v.k, .string v.t, .int .i64 v.r]] w fun e w' => e = .returned (.bool (!(v.k == 4))) ∧ Below w.heap.size w w' := by
  go_enter Try.func121, Try.ntmps121
  go_wp2
  go_ret
  exact ⟨ret_bool rfl, bA (Below.refl _ _) _⟩
end Go.Proofs.Ytgddblpgbkgpcaa.B
namespace Go.Proofs.Ytgddblpgbkgpcaa.B
set_option linter.unusedVariables false
set_option linter.unusedSimpArgs false
open Go.RowKit
set_option linter.unusedVariables false
set_option linter.unusedSimpArgs false
theorem b2 {w w1 : World} {a b : Obj} (h : Below ((w.alloc a).alloc b).heap.size ((w.alloc a).alloc b) w1) : Below w.heap.size w w1 := bS (bA (bA (Below.refl _ _) a) b) h
def allN (p : Nat → Bool) : Nat → Bool
  | 0 => true
  | n + 1 => allN p n && p n
theorem allN_bad {p : Nat → Bool} {k : Nat} (h : p k = false) : ∀ n, k < n → allN p n = false
  | 0, hk => by omega
  | n + 1, hk => by
    by_cases h1 : k = n
    · subst h1; simp [allN, h]
    · simp [allN, allN_bad h n (by omega)]
def nsOk (l : List ByteArray) : Bool := allN (fun k => !hasS (l.take k) (l.getD k ⟨#[]⟩)) l.length
def ksOk (l : List V) : Bool := allN (fun k => !((l.getD k ⟨0, ⟨#[]⟩, 0⟩).k == 4) && !vhas (l.take k) (l.getD k ⟨0, ⟨#[]⟩, 0⟩)) l.length
def named (k : Int) : Bool := k == 3 || k == 5 || k == 10
def lam : List UInt8 := [108, 97, 109, 98, 100, 97]
def headB (n : Nat) (o : O) : Bool := inR o.k 0 10 && o.its.all (valOk n) && o.ks.all (valOk n) && o.vs.all (valOk n) && decide (o.its.length ≤ 60) && decide (o.ks.length ≤ 60) && decide (o.vs.length ≤ 60) && decide (o.ns.length = o.vs.length) && inR o.pl 0 1000000
def midB (o : O) : Bool := (decide (o.ns.length = 0) || o.k == 5 || o.k == 6) && (named o.k == !(o.nm.toList == [])) && (!named o.k || nameB o.nm || o.nm.toList == lam)
def tailB (n : Nat) (o : O) : Bool :=
  if o.k = 0 then decide (o.ks.length = 0) && decide (o.its.length = 0) && o.pl == 0
  else if o.k = 1 then decide (o.ks.length = 0) && o.pl == 0
  else if o.k = 7 ∨ o.k = 8 then decide (o.ks.length = 0)
  else if o.k = 2 then ksOk o.ks && decide (o.ks.length = o.its.length) && o.pl == 0
  else if o.k = 4 then decide (o.its.length ≤ 1) && decide (o.ks.length = 0) && o.pl == 0
  else if o.k = 6 then decide (o.its.length = 0) && decide (o.ks.length = 0) && decide (o.pl < n)
  else true
def objB (q : List ByteArray → Bool) (n : Nat) (o : O) : Bool := headB n o && q o.ns && midB o && tailB n o
set_option maxRecDepth 100000 in
set_option maxHeartbeats 4000000 in
theorem objectOk_front (A : Option Addr) (n c : Nat) (hn : n ≤ 9223372036854775807) (o : O) (A3 A4 A5 A6 : Option Addr) (c3 c4 c5 c6 : Nat) (w : World) (h3 : RV w A3 o.its) (h4 : RV w A4 o.ks) (h5 : RS w A5 o.ns) (h6 : RV w A6 o.vs) (hnm : o.nm.size ≤ 9223372036854775807) (hcc4 : o.ks.length ≤ c4) (hcc5 : o.ns.length ≤ c5) (hyp : (inR o.k 0 10 = true ∧ o.its.all (valOk n) = true ∧ o.ks.all (valOk n) = true ∧ o.vs.all (valOk n) = true ∧ o.its.length ≤ 60 ∧ o.ks.length ≤ 60 ∧ o.vs.length ≤ 60 ∧ o.ns.length = o.vs.length ∧ inR o.pl 0 1000000 = true) → Calls Try.prog 71 #[.agg #[.slice A n c], .agg #[.int .i64 o.k, .string o.nm, .int .i64 o.pl, .slice A3 o.its.length c3, .slice A4 o.ks.length c4, .slice A5 o.ns.length c5, .slice A6 o.vs.length c6]] w fun e w' => e = .returned (.bool (objB nsOk n o)) ∧ Below w.heap.size w w') :
    Calls Try.prog 71 #[.agg #[.slice A n c], .agg #[.int .i64 o.k, .string o.nm, .int .i64 o.pl, .slice A3 o.its.length c3, .slice A4 o.ks.length c4, .slice A5 o.ns.length c5, .slice A6 o.vs.length c6]] w fun e w' => e = .returned (.bool (objB nsOk n o)) ∧ Below w.heap.size w w' := by
  obtain ⟨k, nm, pl, its, ks, ns, vs⟩ := o
  simp only at h3 h4 h5 h6 hnm hcc4 hcc5 hyp ⊢
  have l3 := h3.1
  have l4 := h4.1
  have l5 := h5.1
  have l6 := h6.1
  by_cases q1 : inR k 0 10 = true
  · by_cases q2 : its.all (valOk n) = true
    · by_cases q3 : ks.all (valOk n) = true
      · by_cases q4 : vs.all (valOk n) = true
        · by_cases q5 : its.length ≤ 60
          · by_cases q6 : ks.length ≤ 60
            · by_cases q7 : vs.length ≤ 60
              · by_cases q8 : ns.length = vs.length
                · by_cases q9 : inR pl 0 1000000 = true
                  · exact hyp ⟨q1, q2, q3, q4, q5, q6, q7, q8, q9⟩
                  · replace q9 : inR pl 0 1000000 = false := by simpa using q9
                    have HH := Lib.hid (show objB nsOk n ⟨k, nm, pl, its, ks, ns, vs⟩ = false by simp [objB, headB, q9])
                    have fq5 : decide ((60 : Int) < (its.length : Int)) = false := by simp; omega
                    have fq6 : decide ((60 : Int) < (ks.length : Int)) = false := by simp; omega
                    have fq7 : decide ((60 : Int) < (vs.length : Int)) = false := by simp; omega
                    have fq8 : ((ns.length : Int) == (vs.length : Int)) = true := by simp; omega
                    clear q8
                    go_enter Try.func71, Try.ntmps71
                    go_wp2_with (first
                        | (go_at_call 101; refine (within_ok _ _ _ _).mono ?_; rintro e w' ⟨rfl, rfl⟩)
                        | (go_at_call 53; (first
                            | (with_reducible refine (vsO _ _ _ hn _ _ _ _ (h3.below (by ((first | exact b2 ‹_› | ((repeat (first | exact Below.refl _ _ | assumption | (with_reducible first | apply bA | apply bD | apply bN) | refine bS ?_ ‹_›)))))))).mono ?_)
                            | (with_reducible refine (vsO _ _ _ hn _ _ _ _ (h4.below (by ((first | exact b2 ‹_› | ((repeat (first | exact Below.refl _ _ | assumption | (with_reducible first | apply bA | apply bD | apply bN) | refine bS ?_ ‹_›)))))))).mono ?_)
                            | (with_reducible refine (vsO _ _ _ hn _ _ _ _ (h6.below (by ((first | exact b2 ‹_› | ((repeat (first | exact Below.refl _ _ | assumption | (with_reducible first | apply bA | apply bD | apply bN) | refine bS ?_ ‹_›)))))))).mono ?_)); rintro e w1 ⟨rfl, hb⟩; have hb0 : Below ((w.alloc (.cells #[.slice A n c] 25)).alloc (.cells #[.int .i64 k, .string nm, .int .i64 pl, .slice A3 its.length c3, .slice A4 ks.length c4, .slice A5 ns.length c5, .slice A6 vs.length c6] 46)).heap.size ((w.alloc (.cells #[.slice A n c] 25)).alloc (.cells #[.int .i64 k, .string nm, .int .i64 pl, .slice A3 its.length c3, .slice A4 ks.length c4, .slice A5 ns.length c5, .slice A6 vs.length c6] 46)) w1 := (by first | exact hb | exact bS (by assumption) hb); clear hb; obtain ⟨hc, hf⟩ := bcell hb0))
                    all_goals
                      go_ret
                      exact ⟨ret_bool HH.out.symm, by ((first | exact b2 ‹_› | ((repeat (first | exact Below.refl _ _ | assumption | (with_reducible first | apply bA | apply bD | apply bN) | refine bS ?_ ‹_›)))))⟩
                · have hf : ((ns.length : Int) == (vs.length : Int)) = false := by simp; omega
                  have HH := Lib.hid (show objB nsOk n ⟨k, nm, pl, its, ks, ns, vs⟩ = false by simp [objB, headB, q8])
                  have fq5 : decide ((60 : Int) < (its.length : Int)) = false := by simp; omega
                  have fq6 : decide ((60 : Int) < (ks.length : Int)) = false := by simp; omega
                  have fq7 : decide ((60 : Int) < (vs.length : Int)) = false := by simp; omega
                  go_enter Try.func71, Try.ntmps71
                  go_wp2_with (first
                      | (go_at_call 101; refine (within_ok _ _ _ _).mono ?_; rintro e w' ⟨rfl, rfl⟩)
                      | (go_at_call 53; (first
                          | (with_reducible refine (vsO _ _ _ hn _ _ _ _ (h3.below (by ((first | exact b2 ‹_› | ((repeat (first | exact Below.refl _ _ | assumption | (with_reducible first | apply bA | apply bD | apply bN) | refine bS ?_ ‹_›)))))))).mono ?_)
                          | (with_reducible refine (vsO _ _ _ hn _ _ _ _ (h4.below (by ((first | exact b2 ‹_› | ((repeat (first | exact Below.refl _ _ | assumption | (with_reducible first | apply bA | apply bD | apply bN) | refine bS ?_ ‹_›)))))))).mono ?_)
                          | (with_reducible refine (vsO _ _ _ hn _ _ _ _ (h6.below (by ((first | exact b2 ‹_› | ((repeat (first | exact Below.refl _ _ | assumption | (with_reducible first | apply bA | apply bD | apply bN) | refine bS ?_ ‹_›)))))))).mono ?_)); rintro e w1 ⟨rfl, hb⟩; have hb0 : Below ((w.alloc (.cells #[.slice A n c] 25)).alloc (.cells #[.int .i64 k, .string nm, .int .i64 pl, .slice A3 its.length c3, .slice A4 ks.length c4, .slice A5 ns.length c5, .slice A6 vs.length c6] 46)).heap.size ((w.alloc (.cells #[.slice A n c] 25)).alloc (.cells #[.int .i64 k, .string nm, .int .i64 pl, .slice A3 its.length c3, .slice A4 ks.length c4, .slice A5 ns.length c5, .slice A6 vs.length c6] 46)) w1 := (by first | exact hb | exact bS (by assumption) hb); clear hb; obtain ⟨hc, hf⟩ := bcell hb0))
                  all_goals
                    go_ret
                    exact ⟨ret_bool HH.out.symm, by ((first | exact b2 ‹_› | ((repeat (first | exact Below.refl _ _ | assumption | (with_reducible first | apply bA | apply bD | apply bN) | refine bS ?_ ‹_›)))))⟩
              · have hf : decide ((60 : Int) < (vs.length : Int)) = true := by simp; omega
                have HH := Lib.hid (show objB nsOk n ⟨k, nm, pl, its, ks, ns, vs⟩ = false by simp [objB, headB, q7])
                have fq5 : decide ((60 : Int) < (its.length : Int)) = false := by simp; omega
                have fq6 : decide ((60 : Int) < (ks.length : Int)) = false := by simp; omega
                go_enter Try.func71, Try.ntmps71
                go_wp2_with (first
                    | (go_at_call 101; refine (within_ok _ _ _ _).mono ?_; rintro e w' ⟨rfl, rfl⟩)
                    | (go_at_call 53; (first
                        | (with_reducible refine (vsO _ _ _ hn _ _ _ _ (h3.below (by ((first | exact b2 ‹_› | ((repeat (first | exact Below.refl _ _ | assumption | (with_reducible first | apply bA | apply bD | apply bN) | refine bS ?_ ‹_›)))))))).mono ?_)
                        | (with_reducible refine (vsO _ _ _ hn _ _ _ _ (h4.below (by ((first | exact b2 ‹_› | ((repeat (first | exact Below.refl _ _ | assumption | (with_reducible first | apply bA | apply bD | apply bN) | refine bS ?_ ‹_›)))))))).mono ?_)
                        | (with_reducible refine (vsO _ _ _ hn _ _ _ _ (h6.below (by ((first | exact b2 ‹_› | ((repeat (first | exact Below.refl _ _ | assumption | (with_reducible first | apply bA | apply bD | apply bN) | refine bS ?_ ‹_›)))))))).mono ?_)); rintro e w1 ⟨rfl, hb⟩; have hb0 : Below ((w.alloc (.cells #[.slice A n c] 25)).alloc (.cells #[.int .i64 k, .string nm, .int .i64 pl, .slice A3 its.length c3, .slice A4 ks.length c4, .slice A5 ns.length c5, .slice A6 vs.length c6] 46)).heap.size ((w.alloc (.cells #[.slice A n c] 25)).alloc (.cells #[.int .i64 k, .string nm, .int .i64 pl, .slice A3 its.length c3, .slice A4 ks.length c4, .slice A5 ns.length c5, .slice A6 vs.length c6] 46)) w1 := (by first | exact hb | exact bS (by assumption) hb); clear hb; obtain ⟨hc, hf⟩ := bcell hb0))
                all_goals
                  go_ret
                  exact ⟨ret_bool HH.out.symm, by ((first | exact b2 ‹_› | ((repeat (first | exact Below.refl _ _ | assumption | (with_reducible first | apply bA | apply bD | apply bN) | refine bS ?_ ‹_›)))))⟩
            · have hf : decide ((60 : Int) < (ks.length : Int)) = true := by simp; omega
              have HH := Lib.hid (show objB nsOk n ⟨k, nm, pl, its, ks, ns, vs⟩ = false by simp [objB, headB, q6])
              have fq5 : decide ((60 : Int) < (its.length : Int)) = false := by simp; omega
              go_enter Try.func71, Try.ntmps71
              go_wp2_with (first
                  | (go_at_call 101; refine (within_ok _ _ _ _).mono ?_; rintro e w' ⟨rfl, rfl⟩)
                  | (go_at_call 53; (first
                      | (with_reducible refine (vsO _ _ _ hn _ _ _ _ (h3.below (by ((first | exact b2 ‹_› | ((repeat (first | exact Below.refl _ _ | assumption | (with_reducible first | apply bA | apply bD | apply bN) | refine bS ?_ ‹_›)))))))).mono ?_)
                      | (with_reducible refine (vsO _ _ _ hn _ _ _ _ (h4.below (by ((first | exact b2 ‹_› | ((repeat (first | exact Below.refl _ _ | assumption | (with_reducible first | apply bA | apply bD | apply bN) | refine bS ?_ ‹_›)))))))).mono ?_)
                      | (with_reducible refine (vsO _ _ _ hn _ _ _ _ (h6.below (by ((first | exact b2 ‹_› | ((repeat (first | exact Below.refl _ _ | assumption | (with_reducible first | apply bA | apply bD | apply bN) | refine bS ?_ ‹_›)))))))).mono ?_)); rintro e w1 ⟨rfl, hb⟩; have hb0 : Below ((w.alloc (.cells #[.slice A n c] 25)).alloc (.cells #[.int .i64 k, .string nm, .int .i64 pl, .slice A3 its.length c3, .slice A4 ks.length c4, .slice A5 ns.length c5, .slice A6 vs.length c6] 46)).heap.size ((w.alloc (.cells #[.slice A n c] 25)).alloc (.cells #[.int .i64 k, .string nm, .int .i64 pl, .slice A3 its.length c3, .slice A4 ks.length c4, .slice A5 ns.length c5, .slice A6 vs.length c6] 46)) w1 := (by first | exact hb | exact bS (by assumption) hb); clear hb; obtain ⟨hc, hf⟩ := bcell hb0))
              all_goals
                go_ret
                exact ⟨ret_bool HH.out.symm, by ((first | exact b2 ‹_› | ((repeat (first | exact Below.refl _ _ | assumption | (with_reducible first | apply bA | apply bD | apply bN) | refine bS ?_ ‹_›)))))⟩
          · have hf : decide ((60 : Int) < (its.length : Int)) = true := by simp; omega
            have HH := Lib.hid (show objB nsOk n ⟨k, nm, pl, its, ks, ns, vs⟩ = false by simp [objB, headB, q5])
            go_enter Try.func71, Try.ntmps71
            go_wp2_with (first
                | (go_at_call 101; refine (within_ok _ _ _ _).mono ?_; rintro e w' ⟨rfl, rfl⟩)
                | (go_at_call 53; (first
                    | (with_reducible refine (vsO _ _ _ hn _ _ _ _ (h3.below (by ((first | exact b2 ‹_› | ((repeat (first | exact Below.refl _ _ | assumption | (with_reducible first | apply bA | apply bD | apply bN) | refine bS ?_ ‹_›)))))))).mono ?_)
                    | (with_reducible refine (vsO _ _ _ hn _ _ _ _ (h4.below (by ((first | exact b2 ‹_› | ((repeat (first | exact Below.refl _ _ | assumption | (with_reducible first | apply bA | apply bD | apply bN) | refine bS ?_ ‹_›)))))))).mono ?_)
                    | (with_reducible refine (vsO _ _ _ hn _ _ _ _ (h6.below (by ((first | exact b2 ‹_› | ((repeat (first | exact Below.refl _ _ | assumption | (with_reducible first | apply bA | apply bD | apply bN) | refine bS ?_ ‹_›)))))))).mono ?_)); rintro e w1 ⟨rfl, hb⟩; have hb0 : Below ((w.alloc (.cells #[.slice A n c] 25)).alloc (.cells #[.int .i64 k, .string nm, .int .i64 pl, .slice A3 its.length c3, .slice A4 ks.length c4, .slice A5 ns.length c5, .slice A6 vs.length c6] 46)).heap.size ((w.alloc (.cells #[.slice A n c] 25)).alloc (.cells #[.int .i64 k, .string nm, .int .i64 pl, .slice A3 its.length c3, .slice A4 ks.length c4, .slice A5 ns.length c5, .slice A6 vs.length c6] 46)) w1 := (by first | exact hb | exact bS (by assumption) hb); clear hb; obtain ⟨hc, hf⟩ := bcell hb0))
            all_goals
              go_ret
              exact ⟨ret_bool HH.out.symm, by ((first | exact b2 ‹_› | ((repeat (first | exact Below.refl _ _ | assumption | (with_reducible first | apply bA | apply bD | apply bN) | refine bS ?_ ‹_›)))))⟩
        · replace q4 : vs.all (valOk n) = false := by simpa using q4
          have HH := Lib.hid (show objB nsOk n ⟨k, nm, pl, its, ks, ns, vs⟩ = false by simp [objB, headB, q4])
          go_enter Try.func71, Try.ntmps71
          go_wp2_with (first
              | (go_at_call 101; refine (within_ok _ _ _ _).mono ?_; rintro e w' ⟨rfl, rfl⟩)
              | (go_at_call 53; (first
                  | (with_reducible refine (vsO _ _ _ hn _ _ _ _ (h3.below (by ((first | exact b2 ‹_› | ((repeat (first | exact Below.refl _ _ | assumption | (with_reducible first | apply bA | apply bD | apply bN) | refine bS ?_ ‹_›)))))))).mono ?_)
                  | (with_reducible refine (vsO _ _ _ hn _ _ _ _ (h4.below (by ((first | exact b2 ‹_› | ((repeat (first | exact Below.refl _ _ | assumption | (with_reducible first | apply bA | apply bD | apply bN) | refine bS ?_ ‹_›)))))))).mono ?_)
                  | (with_reducible refine (vsO _ _ _ hn _ _ _ _ (h6.below (by ((first | exact b2 ‹_› | ((repeat (first | exact Below.refl _ _ | assumption | (with_reducible first | apply bA | apply bD | apply bN) | refine bS ?_ ‹_›)))))))).mono ?_)); rintro e w1 ⟨rfl, hb⟩; have hb0 : Below ((w.alloc (.cells #[.slice A n c] 25)).alloc (.cells #[.int .i64 k, .string nm, .int .i64 pl, .slice A3 its.length c3, .slice A4 ks.length c4, .slice A5 ns.length c5, .slice A6 vs.length c6] 46)).heap.size ((w.alloc (.cells #[.slice A n c] 25)).alloc (.cells #[.int .i64 k, .string nm, .int .i64 pl, .slice A3 its.length c3, .slice A4 ks.length c4, .slice A5 ns.length c5, .slice A6 vs.length c6] 46)) w1 := (by first | exact hb | exact bS (by assumption) hb); clear hb; obtain ⟨hc, hf⟩ := bcell hb0))
          all_goals
            go_ret
            exact ⟨ret_bool HH.out.symm, by ((first | exact b2 ‹_› | ((repeat (first | exact Below.refl _ _ | assumption | (with_reducible first | apply bA | apply bD | apply bN) | refine bS ?_ ‹_›)))))⟩
      · replace q3 : ks.all (valOk n) = false := by simpa using q3
        have HH := Lib.hid (show objB nsOk n ⟨k, nm, pl, its, ks, ns, vs⟩ = false by simp [objB, headB, q3])
        go_enter Try.func71, Try.ntmps71
        go_wp2_with (first
            | (go_at_call 101; refine (within_ok _ _ _ _).mono ?_; rintro e w' ⟨rfl, rfl⟩)
            | (go_at_call 53; (first
                | (with_reducible refine (vsO _ _ _ hn _ _ _ _ (h3.below (by ((first | exact b2 ‹_› | ((repeat (first | exact Below.refl _ _ | assumption | (with_reducible first | apply bA | apply bD | apply bN) | refine bS ?_ ‹_›)))))))).mono ?_)
                | (with_reducible refine (vsO _ _ _ hn _ _ _ _ (h4.below (by ((first | exact b2 ‹_› | ((repeat (first | exact Below.refl _ _ | assumption | (with_reducible first | apply bA | apply bD | apply bN) | refine bS ?_ ‹_›)))))))).mono ?_)
                | (with_reducible refine (vsO _ _ _ hn _ _ _ _ (h6.below (by ((first | exact b2 ‹_› | ((repeat (first | exact Below.refl _ _ | assumption | (with_reducible first | apply bA | apply bD | apply bN) | refine bS ?_ ‹_›)))))))).mono ?_)); rintro e w1 ⟨rfl, hb⟩; have hb0 : Below ((w.alloc (.cells #[.slice A n c] 25)).alloc (.cells #[.int .i64 k, .string nm, .int .i64 pl, .slice A3 its.length c3, .slice A4 ks.length c4, .slice A5 ns.length c5, .slice A6 vs.length c6] 46)).heap.size ((w.alloc (.cells #[.slice A n c] 25)).alloc (.cells #[.int .i64 k, .string nm, .int .i64 pl, .slice A3 its.length c3, .slice A4 ks.length c4, .slice A5 ns.length c5, .slice A6 vs.length c6] 46)) w1 := (by first | exact hb | exact bS (by assumption) hb); clear hb; obtain ⟨hc, hf⟩ := bcell hb0))
        all_goals
          go_ret
          exact ⟨ret_bool HH.out.symm, by ((first | exact b2 ‹_› | ((repeat (first | exact Below.refl _ _ | assumption | (with_reducible first | apply bA | apply bD | apply bN) | refine bS ?_ ‹_›)))))⟩
    · replace q2 : its.all (valOk n) = false := by simpa using q2
      have HH := Lib.hid (show objB nsOk n ⟨k, nm, pl, its, ks, ns, vs⟩ = false by simp [objB, headB, q2])
      go_enter Try.func71, Try.ntmps71
      go_wp2_with (first
          | (go_at_call 101; refine (within_ok _ _ _ _).mono ?_; rintro e w' ⟨rfl, rfl⟩)
          | (go_at_call 53; (first
              | (with_reducible refine (vsO _ _ _ hn _ _ _ _ (h3.below (by ((first | exact b2 ‹_› | ((repeat (first | exact Below.refl _ _ | assumption | (with_reducible first | apply bA | apply bD | apply bN) | refine bS ?_ ‹_›)))))))).mono ?_)
              | (with_reducible refine (vsO _ _ _ hn _ _ _ _ (h4.below (by ((first | exact b2 ‹_› | ((repeat (first | exact Below.refl _ _ | assumption | (with_reducible first | apply bA | apply bD | apply bN) | refine bS ?_ ‹_›)))))))).mono ?_)
              | (with_reducible refine (vsO _ _ _ hn _ _ _ _ (h6.below (by ((first | exact b2 ‹_› | ((repeat (first | exact Below.refl _ _ | assumption | (with_reducible first | apply bA | apply bD | apply bN) | refine bS ?_ ‹_›)))))))).mono ?_)); rintro e w1 ⟨rfl, hb⟩; have hb0 : Below ((w.alloc (.cells #[.slice A n c] 25)).alloc (.cells #[.int .i64 k, .string nm, .int .i64 pl, .slice A3 its.length c3, .slice A4 ks.length c4, .slice A5 ns.length c5, .slice A6 vs.length c6] 46)).heap.size ((w.alloc (.cells #[.slice A n c] 25)).alloc (.cells #[.int .i64 k, .string nm, .int .i64 pl, .slice A3 its.length c3, .slice A4 ks.length c4, .slice A5 ns.length c5, .slice A6 vs.length c6] 46)) w1 := (by first | exact hb | exact bS (by assumption) hb); clear hb; obtain ⟨hc, hf⟩ := bcell hb0))
      all_goals
        go_ret
        exact ⟨ret_bool HH.out.symm, by ((first | exact b2 ‹_› | ((repeat (first | exact Below.refl _ _ | assumption | (with_reducible first | apply bA | apply bD | apply bN) | refine bS ?_ ‹_›)))))⟩
  · replace q1 : inR k 0 10 = false := by simpa using q1
    have HH := Lib.hid (show objB nsOk n ⟨k, nm, pl, its, ks, ns, vs⟩ = false by simp [objB, headB, q1])
    go_enter Try.func71, Try.ntmps71
    go_wp2_with (first
        | (go_at_call 101; refine (within_ok _ _ _ _).mono ?_; rintro e w' ⟨rfl, rfl⟩)
        | (go_at_call 53; (first
            | (with_reducible refine (vsO _ _ _ hn _ _ _ _ (h3.below (by ((first | exact b2 ‹_› | ((repeat (first | exact Below.refl _ _ | assumption | (with_reducible first | apply bA | apply bD | apply bN) | refine bS ?_ ‹_›)))))))).mono ?_)
            | (with_reducible refine (vsO _ _ _ hn _ _ _ _ (h4.below (by ((first | exact b2 ‹_› | ((repeat (first | exact Below.refl _ _ | assumption | (with_reducible first | apply bA | apply bD | apply bN) | refine bS ?_ ‹_›)))))))).mono ?_)
            | (with_reducible refine (vsO _ _ _ hn _ _ _ _ (h6.below (by ((first | exact b2 ‹_› | ((repeat (first | exact Below.refl _ _ | assumption | (with_reducible first | apply bA | apply bD | apply bN) | refine bS ?_ ‹_›)))))))).mono ?_)); rintro e w1 ⟨rfl, hb⟩; have hb0 : Below ((w.alloc (.cells #[.slice A n c] 25)).alloc (.cells #[.int .i64 k, .string nm, .int .i64 pl, .slice A3 its.length c3, .slice A4 ks.length c4, .slice A5 ns.length c5, .slice A6 vs.length c6] 46)).heap.size ((w.alloc (.cells #[.slice A n c] 25)).alloc (.cells #[.int .i64 k, .string nm, .int .i64 pl, .slice A3 its.length c3, .slice A4 ks.length c4, .slice A5 ns.length c5, .slice A6 vs.length c6] 46)) w1 := (by first | exact hb | exact bS (by assumption) hb); clear hb; obtain ⟨hc, hf⟩ := bcell hb0))
    all_goals
      go_ret
      exact ⟨ret_bool HH.out.symm, by ((first | exact b2 ‹_› | ((repeat (first | exact Below.refl _ _ | assumption | (with_reducible first | apply bA | apply bD | apply bN) | refine bS ?_ ‹_›)))))⟩
end Go.Proofs.Ytgddblpgbkgpcaa.B
namespace Go.Proofs.Ytgddblpgbkgpcaa.B
set_option linter.unusedVariables false
set_option linter.unusedSimpArgs false
open Go.RowKit
set_option linter.unusedVariables false
set_option linter.unusedSimpArgs false
theorem containsS_n (A : Option Addr) (c m : Nat) (l : List ByteArray) (hm : m = l.length) (s : ByteArray) (w : World) (hR : RS w A l) :
    Calls Try.prog 111 #[.slice A m c, .string s] w fun e w' => e = .returned (.bool (hasS l s)) ∧ w = w' := by
  subst hm; exact containsS_ok A c l s w hR
theorem containsV_n (A1 : Option Addr) (c1 m : Nat) (l : List V) (hm : m = l.length) (v : V) (w : World) (hC : RV w A1 l) :
    Calls Try.prog 113 #[.slice A1 m c1, .agg #[.int .i64 v.k, .string v.t, .int .i64 v.r]] w fun e w' => e = .returned (.bool (vhas l v)) ∧ Below w.heap.size w w' := by
  subst hm; exact containsV_ok A1 c1 l v w hC
theorem valuesOk_n (A : Option Addr) (n c : Nat) (hn : n ≤ 9223372036854775807) (A1 : Option Addr) (c1 : Nat) (l : List V) (m : Nat) (hm : m = l.length) (w : World) (hC : RV w A1 l) :
    Calls Try.prog 53 #[.agg #[.slice A n c], .slice A1 m c1] w fun e w' => e = .returned (.bool (l.all (valOk n))) ∧ Below w.heap.size w w' := by
  subst hm; exact vsO A n c hn A1 c1 l w hC
theorem inR_kinds {k : Int} (h : inR k 0 10 = true) : k = 0 ∨ k = 1 ∨ k = 2 ∨ k = 3 ∨ k = 4 ∨ k = 5 ∨ k = 6 ∨ k = 7 ∨ k = 8 ∨ k = 9 ∨ k = 10 := by
  simp [inR] at h; omega
theorem objB_rest {q : List ByteArray → Bool} {n : Nat} {o : O} (h : inR o.k 0 10 = true ∧ o.its.all (valOk n) = true ∧ o.ks.all (valOk n) = true ∧ o.vs.all (valOk n) = true ∧ o.its.length ≤ 60 ∧ o.ks.length ≤ 60 ∧ o.vs.length ≤ 60 ∧ o.ns.length = o.vs.length ∧ inR o.pl 0 1000000 = true) : objB q n o = (q o.ns && midB o && tailB n o) := by
  obtain ⟨q1, q2, q3, q4, q5, q6, q7, q8, q9⟩ := h
  simp [objB, headB, q1, q2, q3, q4, q5, q6, q7, q8, q9]
set_option maxRecDepth 100000 in
set_option maxHeartbeats 40000000 in
theorem objectOk_rest (A : Option Addr) (n c : Nat) (hn : n ≤ 9223372036854775807) (o : O) (A3 A4 A5 A6 : Option Addr) (c3 c4 c5 c6 : Nat) (w : World) (h3 : RV w A3 o.its) (h4 : RV w A4 o.ks) (h5 : RS w A5 o.ns) (h6 : RV w A6 o.vs) (hnm : o.nm.size ≤ 9223372036854775807) (hcc4 : o.ks.length ≤ c4) (hcc5 : o.ns.length ≤ c5) (hyp : inR o.k 0 10 = true ∧ o.its.all (valOk n) = true ∧ o.ks.all (valOk n) = true ∧ o.vs.all (valOk n) = true ∧ o.its.length ≤ 60 ∧ o.ks.length ≤ 60 ∧ o.vs.length ≤ 60 ∧ o.ns.length = o.vs.length ∧ inR o.pl 0 1000000 = true) :
    Calls Try.prog 71 #[.agg #[.slice A n c], .agg #[.int .i64 o.k, .string o.nm, .int .i64 o.pl, .slice A3 o.its.length c3, .slice A4 o.ks.length c4, .slice A5 o.ns.length c5, .slice A6 o.vs.length c6]] w fun e w' => e = .returned (.bool (objB nsOk n o)) ∧ Below w.heap.size w w' := by
  have hres := objB_rest (q := nsOk) hyp
  obtain ⟨k, nm, pl, its, ks, ns, vs⟩ := o
  simp only at h3 h4 h5 h6 hnm hcc4 hcc5 hyp hres ⊢
  obtain ⟨q1, q2, q3, q4, q5, q6, q7, q8, q9⟩ := hyp
  have HRES0 := Lib.hid hres
  clear hres
  have l3 := h3.1
  have l4 := h4.1
  have l5 := h5.1
  have l6 := h6.1
  have fq5 : decide ((60 : Int) < (its.length : Int)) = false := by simp; omega
  have fq6 : decide ((60 : Int) < (ks.length : Int)) = false := by simp; omega
  have fq7 : decide ((60 : Int) < (ns.length : Int)) = false := by simp; omega
  rw [← q8]
  have Q8 := Lib.hid q8.symm
  clear q8
  go_enter Try.func71, Try.ntmps71
  go_wp2_with (first
    | (go_at_call 101; refine (within_ok _ _ _ _).mono ?_; rintro e w' ⟨rfl, rfl⟩)
    | (go_at_call 53; (first
        | (with_reducible refine (vsO _ _ _ hn _ _ _ _ (h3.below (by ((first | exact b2 ‹_› | ((repeat (first | exact Below.refl _ _ | assumption | (with_reducible first | apply bA | apply bD | apply bN) | refine bS ?_ ‹_›)))))))).mono ?_)
        | (with_reducible refine (vsO _ _ _ hn _ _ _ _ (h4.below (by ((first | exact b2 ‹_› | ((repeat (first | exact Below.refl _ _ | assumption | (with_reducible first | apply bA | apply bD | apply bN) | refine bS ?_ ‹_›)))))))).mono ?_)
        | (with_reducible refine (valuesOk_n _ _ _ hn _ _ _ _ Q8.out.symm _ (h6.below (by ((first | exact b2 ‹_› | ((repeat (first | exact Below.refl _ _ | assumption | (with_reducible first | apply bA | apply bD | apply bN) | refine bS ?_ ‹_›)))))))).mono ?_)); rintro e w1 ⟨rfl, hb⟩; have hb0 : Below ((w.alloc (.cells #[.slice A n c] 25)).alloc (.cells #[.int .i64 k, .string nm, .int .i64 pl, .slice A3 its.length c3, .slice A4 ks.length c4, .slice A5 ns.length c5, .slice A6 ns.length c6] 46)).heap.size ((w.alloc (.cells #[.slice A n c] 25)).alloc (.cells #[.int .i64 k, .string nm, .int .i64 pl, .slice A3 its.length c3, .slice A4 ks.length c4, .slice A5 ns.length c5, .slice A6 ns.length c6] 46)) w1 := (by first | exact hb | exact bS (by assumption) hb); clear hb; obtain ⟨hc, hf⟩ := bcell hb0))
  clear fq5 fq6 fq7
  go_loop [71] (fun i => ∃ m : Nat, m ≤ ns.length ∧ i = .int .i64 m ∧ allN (fun k => !hasS (ns.take k) (ns.getD k ⟨#[]⟩)) m = true) (fun i => ns.length - (intOf i).toNat)
  case atStart => exact ⟨0, Nat.zero_le _, rfl, rfl⟩
  case round =>
    obtain ⟨m, hm, rfl, hall⟩ := hrel
    have HALL := Lib.hid hall
    clear hall
    have h5w := h5.below (b2 (by assumption))
    by_cases hml : m < ns.length
    · obtain ⟨ad, rfl, hx⟩ := h5w.2 (by omega)
      have hxm := hx m hml
      clear hx
      go_wp2_with (go_at_call 111; refine (containsS_n _ _ m (ns.take m) (by simp; omega) _ _ (h5w.take m)).mono ?_; rintro e w' ⟨rfl, rfl⟩)
      · go_ret
        refine ⟨ret_bool ?_, by ((first | exact b2 ‹_› | exact bN (b2 ‹_›) _ | ((repeat (first | exact Below.refl _ _ | assumption | (with_reducible first | apply bA | apply bD | apply bN) | refine bS ?_ ‹_›)))))⟩
        have hb : nsOk ns = false := allN_bad (k := m) (by simp [hml]; assumption) _ hml
        rw [HRES0.out, hb]; rfl
      · go_round
        case rel =>
          refine ⟨m + 1, by omega, by go_num, ?_⟩
          simp only [allN, HALL.out, Bool.true_and]
          simp [hml]; assumption
        case measure => simp [intOf]; omega
    · have hme : m = ns.length := by omega
      have hns : nsOk ns = true := by have := HALL.out; rw [hme] at this; exact this
      have HRES := Lib.hid (show objB nsOk n ⟨k, nm, pl, its, ks, ns, vs⟩ = (midB ⟨k, nm, pl, its, ks, ns, vs⟩ && tailB n ⟨k, nm, pl, its, ks, ns, vs⟩) by rw [HRES0.out, hns]; rfl)
      clear HRES0 hns hme HALL
      rcases inR_kinds q1 with rfl | rfl | rfl | rfl | rfl | rfl | rfl | rfl | rfl | rfl | rfl
      · by_cases z : ns.length = 0
        · have fz : decide ((0 : Int) < (ns.length : Int)) = false := decide_eq_false (by omega)
          have fz2 : ¬ 0 < ns.length := by omega
          have ZZ := Lib.hid z
          clear z
          by_cases e0 : nm.toList = []
          · have fe : (nm.toList == []) = true := by simpa using e0
            have HM := Lib.hid (show midB ⟨0, nm, pl, its, ks, ns, vs⟩ = true by simp [midB, named, lam, ZZ.out, e0])
            go_wp2_with (go_at_call 112; refine (nOo _ hnm _).mono ?_; rintro e w1 ⟨rfl, hb⟩; have hb0 : Below ((w.alloc (.cells #[.slice A n c] 25)).alloc (.cells #[.int .i64 0, .string nm, .int .i64 pl, .slice A3 its.length c3, .slice A4 ks.length c4, .slice A5 ns.length c5, .slice A6 ns.length c6] 46)).heap.size ((w.alloc (.cells #[.slice A n c] 25)).alloc (.cells #[.int .i64 0, .string nm, .int .i64 pl, .slice A3 its.length c3, .slice A4 ks.length c4, .slice A5 ns.length c5, .slice A6 ns.length c6] 46)) w1 := (by first | exact hb | exact bS (by assumption) hb); clear hb; obtain ⟨hc, hf⟩ := bcell hb0)
            go_quiet (fail)
            go_wp2
            all_goals
              go_ret
              refine ⟨ret_bool ?_, by ((first | exact b2 ‹_› | exact bN (b2 ‹_›) _ | ((repeat (first | exact Below.refl _ _ | assumption | (with_reducible first | apply bA | apply bD | apply bN) | refine bS ?_ ‹_›)))))⟩
              rw [HRES.out, HM.out]
              go_light
              first | (simp [tailB, *]; done) | (simp [tailB, *]; omega) | (rw [Bool.eq_iff_iff]; simp [tailB, *]; done) | (rw [Bool.eq_iff_iff]; simp [tailB, *]; omega)
          · have fe : (nm.toList == []) = false := by simpa using e0
            have HM := Lib.hid (show midB ⟨0, nm, pl, its, ks, ns, vs⟩ = false by simp [midB, named, lam, e0])
            go_wp2_with (go_at_call 112; refine (nOo _ hnm _).mono ?_; rintro e w1 ⟨rfl, hb⟩; have hb0 : Below ((w.alloc (.cells #[.slice A n c] 25)).alloc (.cells #[.int .i64 0, .string nm, .int .i64 pl, .slice A3 its.length c3, .slice A4 ks.length c4, .slice A5 ns.length c5, .slice A6 ns.length c6] 46)).heap.size ((w.alloc (.cells #[.slice A n c] 25)).alloc (.cells #[.int .i64 0, .string nm, .int .i64 pl, .slice A3 its.length c3, .slice A4 ks.length c4, .slice A5 ns.length c5, .slice A6 ns.length c6] 46)) w1 := (by first | exact hb | exact bS (by assumption) hb); clear hb; obtain ⟨hc, hf⟩ := bcell hb0)
            all_goals
              go_ret
              refine ⟨ret_bool ?_, by ((first | exact b2 ‹_› | exact bN (b2 ‹_›) _ | ((repeat (first | exact Below.refl _ _ | assumption | (with_reducible first | apply bA | apply bD | apply bN) | refine bS ?_ ‹_›)))))⟩
              rw [HRES.out, HM.out]; simp
        · have fz : decide ((0 : Int) < (ns.length : Int)) = true := decide_eq_true (by omega)
          have fz2 : 0 < ns.length := by omega
          have HM := Lib.hid (show midB ⟨0, nm, pl, its, ks, ns, vs⟩ = false by simp [midB, named, lam, z])
          go_wp2_with (go_at_call 112; refine (nOo _ hnm _).mono ?_; rintro e w1 ⟨rfl, hb⟩; have hb0 : Below ((w.alloc (.cells #[.slice A n c] 25)).alloc (.cells #[.int .i64 0, .string nm, .int .i64 pl, .slice A3 its.length c3, .slice A4 ks.length c4, .slice A5 ns.length c5, .slice A6 ns.length c6] 46)).heap.size ((w.alloc (.cells #[.slice A n c] 25)).alloc (.cells #[.int .i64 0, .string nm, .int .i64 pl, .slice A3 its.length c3, .slice A4 ks.length c4, .slice A5 ns.length c5, .slice A6 ns.length c6] 46)) w1 := (by first | exact hb | exact bS (by assumption) hb); clear hb; obtain ⟨hc, hf⟩ := bcell hb0)
          all_goals
            go_ret
            refine ⟨ret_bool ?_, by ((first | exact b2 ‹_› | exact bN (b2 ‹_›) _ | ((repeat (first | exact Below.refl _ _ | assumption | (with_reducible first | apply bA | apply bD | apply bN) | refine bS ?_ ‹_›)))))⟩
            rw [HRES.out, HM.out]; simp
      · by_cases z : ns.length = 0
        · have fz : decide ((0 : Int) < (ns.length : Int)) = false := decide_eq_false (by omega)
          have fz2 : ¬ 0 < ns.length := by omega
          have ZZ := Lib.hid z
          clear z
          by_cases e0 : nm.toList = []
          · have fe : (nm.toList == []) = true := by simpa using e0
            have HM := Lib.hid (show midB ⟨1, nm, pl, its, ks, ns, vs⟩ = true by simp [midB, named, lam, ZZ.out, e0])
            go_wp2_with (go_at_call 112; refine (nOo _ hnm _).mono ?_; rintro e w1 ⟨rfl, hb⟩; have hb0 : Below ((w.alloc (.cells #[.slice A n c] 25)).alloc (.cells #[.int .i64 1, .string nm, .int .i64 pl, .slice A3 its.length c3, .slice A4 ks.length c4, .slice A5 ns.length c5, .slice A6 ns.length c6] 46)).heap.size ((w.alloc (.cells #[.slice A n c] 25)).alloc (.cells #[.int .i64 1, .string nm, .int .i64 pl, .slice A3 its.length c3, .slice A4 ks.length c4, .slice A5 ns.length c5, .slice A6 ns.length c6] 46)) w1 := (by first | exact hb | exact bS (by assumption) hb); clear hb; obtain ⟨hc, hf⟩ := bcell hb0)
            go_quiet (fail)
            go_wp2
            all_goals
              go_ret
              refine ⟨ret_bool ?_, by ((first | exact b2 ‹_› | exact bN (b2 ‹_›) _ | ((repeat (first | exact Below.refl _ _ | assumption | (with_reducible first | apply bA | apply bD | apply bN) | refine bS ?_ ‹_›)))))⟩
              rw [HRES.out, HM.out]
              go_light
              first | (simp [tailB, *]; done) | (simp [tailB, *]; omega) | (rw [Bool.eq_iff_iff]; simp [tailB, *]; done) | (rw [Bool.eq_iff_iff]; simp [tailB, *]; omega)
          · have fe : (nm.toList == []) = false := by simpa using e0
            have HM := Lib.hid (show midB ⟨1, nm, pl, its, ks, ns, vs⟩ = false by simp [midB, named, lam, e0])
            go_wp2_with (go_at_call 112; refine (nOo _ hnm _).mono ?_; rintro e w1 ⟨rfl, hb⟩; have hb0 : Below ((w.alloc (.cells #[.slice A n c] 25)).alloc (.cells #[.int .i64 1, .string nm, .int .i64 pl, .slice A3 its.length c3, .slice A4 ks.length c4, .slice A5 ns.length c5, .slice A6 ns.length c6] 46)).heap.size ((w.alloc (.cells #[.slice A n c] 25)).alloc (.cells #[.int .i64 1, .string nm, .int .i64 pl, .slice A3 its.length c3, .slice A4 ks.length c4, .slice A5 ns.length c5, .slice A6 ns.length c6] 46)) w1 := (by first | exact hb | exact bS (by assumption) hb); clear hb; obtain ⟨hc, hf⟩ := bcell hb0)
            all_goals
              go_ret
              refine ⟨ret_bool ?_, by ((first | exact b2 ‹_› | exact bN (b2 ‹_›) _ | ((repeat (first | exact Below.refl _ _ | assumption | (with_reducible first | apply bA | apply bD | apply bN) | refine bS ?_ ‹_›)))))⟩
              rw [HRES.out, HM.out]; simp
        · have fz : decide ((0 : Int) < (ns.length : Int)) = true := decide_eq_true (by omega)
          have fz2 : 0 < ns.length := by omega
          have HM := Lib.hid (show midB ⟨1, nm, pl, its, ks, ns, vs⟩ = false by simp [midB, named, lam, z])
          go_wp2_with (go_at_call 112; refine (nOo _ hnm _).mono ?_; rintro e w1 ⟨rfl, hb⟩; have hb0 : Below ((w.alloc (.cells #[.slice A n c] 25)).alloc (.cells #[.int .i64 1, .string nm, .int .i64 pl, .slice A3 its.length c3, .slice A4 ks.length c4, .slice A5 ns.length c5, .slice A6 ns.length c6] 46)).heap.size ((w.alloc (.cells #[.slice A n c] 25)).alloc (.cells #[.int .i64 1, .string nm, .int .i64 pl, .slice A3 its.length c3, .slice A4 ks.length c4, .slice A5 ns.length c5, .slice A6 ns.length c6] 46)) w1 := (by first | exact hb | exact bS (by assumption) hb); clear hb; obtain ⟨hc, hf⟩ := bcell hb0)
          all_goals
            go_ret
            refine ⟨ret_bool ?_, by ((first | exact b2 ‹_› | exact bN (b2 ‹_›) _ | ((repeat (first | exact Below.refl _ _ | assumption | (with_reducible first | apply bA | apply bD | apply bN) | refine bS ?_ ‹_›)))))⟩
            rw [HRES.out, HM.out]; simp
      · by_cases z : ns.length = 0
        · have fz : decide ((0 : Int) < (ns.length : Int)) = false := decide_eq_false (by omega)
          have fz2 : ¬ 0 < ns.length := by omega
          have ZZ := Lib.hid z
          clear z
          by_cases e0 : nm.toList = []
          · have fe : (nm.toList == []) = true := by simpa using e0
            have HM := Lib.hid (show midB ⟨2, nm, pl, its, ks, ns, vs⟩ = true by simp [midB, named, lam, ZZ.out, e0])
            go_wp2_with (go_at_call 112; refine (nOo _ hnm _).mono ?_; rintro e w1 ⟨rfl, hb⟩; have hb0 : Below ((w.alloc (.cells #[.slice A n c] 25)).alloc (.cells #[.int .i64 2, .string nm, .int .i64 pl, .slice A3 its.length c3, .slice A4 ks.length c4, .slice A5 ns.length c5, .slice A6 ns.length c6] 46)).heap.size ((w.alloc (.cells #[.slice A n c] 25)).alloc (.cells #[.int .i64 2, .string nm, .int .i64 pl, .slice A3 its.length c3, .slice A4 ks.length c4, .slice A5 ns.length c5, .slice A6 ns.length c6] 46)) w1 := (by first | exact hb | exact bS (by assumption) hb); clear hb; obtain ⟨hc, hf⟩ := bcell hb0)
            go_quiet (fail)
            go_wp2
            go_loopw [167] (fun i wr => ∃ m : Nat, m ≤ ks.length ∧ i = .int .i64 m ∧ allN (fun k => !((ks.getD k ⟨0, ⟨#[]⟩, 0⟩).k == 4) && !vhas (ks.take k) (ks.getD k ⟨0, ⟨#[]⟩, 0⟩)) m = true ∧ Below ((w.alloc (.cells #[.slice A n c] 25)).alloc (.cells #[.int .i64 2, .string nm, .int .i64 pl, .slice A3 its.length c3, .slice A4 ks.length c4, .slice A5 ns.length c5, .slice A6 ns.length c6] 46)).heap.size ((w.alloc (.cells #[.slice A n c] 25)).alloc (.cells #[.int .i64 2, .string nm, .int .i64 pl, .slice A3 its.length c3, .slice A4 ks.length c4, .slice A5 ns.length c5, .slice A6 ns.length c6] 46)) wr) (fun i _ => ks.length - (intOf i).toNat)
            case atStart => exact ⟨0, Nat.zero_le _, rfl, rfl, bN (by assumption) _⟩
            case round =>
              obtain ⟨j, hj, rfl, hallk, hB⟩ := hrel
              have HK := Lib.hid hallk
              clear hallk
              have h4w := h4.below (b2 hB)
              obtain ⟨hc9, hf9⟩ := bcell hB
              have hlt9 := hB.size
              have hlt1 : w.heap.size + 1 < wr.heap.size := by simp at hlt9; omega
              clear hlt9
              by_cases hjl : j < ks.length
              · obtain ⟨ad, rfl, hx⟩ := h4w.2 (by omega)
                obtain ⟨hx0, hx1, hx2, hsz⟩ := hx j hjl
                clear hx
                by_cases hk4 : ks[j].k = 4
                · go_wp2
                  go_quiet (fail)
                  go_wp2
                  go_ret
                  refine ⟨ret_bool ?_, bN (bA (b2 hB) _) _⟩
                  have hkb : ksOk ks = false := allN_bad (k := j) (by simp [hjl, hk4]) _ hjl
                  rw [HRES.out, HM.out]
                  go_light
                  simp [tailB, hkb]
                · have hk4d : (ks[j].k == 4) = false := by simpa using hk4
                  go_wp2
                  go_region_with (go_at_call 113; refine (containsV_n _ _ j (ks.take j) (by simp; omega) ks[j] _ ((h4w.take j).below (by ((repeat (first | exact Below.refl _ _ | assumption | (with_reducible first | apply bA | apply bD | apply bN) | refine bS ?_ ‹_›)))))).mono ?_; rintro e w2 ⟨rfl, hb⟩)
                  all_goals
                    go_wp2
                    · go_ret
                      refine ⟨ret_bool ?_, bS (bD (bA (b2 hB) _)) (by assumption)⟩
                      have hkb : ksOk ks = false := allN_bad (k := j) (by simp [hjl]; intro _; assumption) _ hjl
                      rw [HRES.out, HM.out]
                      go_light
                      simp [tailB, hkb]
                    · go_roundw
                      case rel =>
                        refine ⟨j + 1, by omega, by go_num, ?_, bS (bD (bA hB _)) (by assumption)⟩
                        simp only [allN, HK.out, Bool.true_and]
                        simp [hjl, hk4]; assumption
                      case measure => simp [intOf]; omega
              · have hkok : ksOk ks = true := by
                  have := HK.out
                  have e : j = ks.length := by omega
                  rw [e] at this; exact this
                have HKO := Lib.hid hkok
                clear hkok
                go_wp2
                all_goals
                  go_ret
                  refine ⟨ret_bool ?_, b2 hB⟩
                  rw [HRES.out, HM.out]
                  have hkok := HKO.out
                  go_light
                  first | (simp [tailB, hkok, *]; done) | (simp [tailB, hkok, *]; omega) | (rw [Bool.eq_iff_iff]; simp [tailB, hkok, *]; done) | (rw [Bool.eq_iff_iff]; simp [tailB, hkok, *]; omega)

          · have fe : (nm.toList == []) = false := by simpa using e0
            have HM := Lib.hid (show midB ⟨2, nm, pl, its, ks, ns, vs⟩ = false by simp [midB, named, lam, e0])
            go_wp2_with (go_at_call 112; refine (nOo _ hnm _).mono ?_; rintro e w1 ⟨rfl, hb⟩; have hb0 : Below ((w.alloc (.cells #[.slice A n c] 25)).alloc (.cells #[.int .i64 2, .string nm, .int .i64 pl, .slice A3 its.length c3, .slice A4 ks.length c4, .slice A5 ns.length c5, .slice A6 ns.length c6] 46)).heap.size ((w.alloc (.cells #[.slice A n c] 25)).alloc (.cells #[.int .i64 2, .string nm, .int .i64 pl, .slice A3 its.length c3, .slice A4 ks.length c4, .slice A5 ns.length c5, .slice A6 ns.length c6] 46)) w1 := (by first | exact hb | exact bS (by assumption) hb); clear hb; obtain ⟨hc, hf⟩ := bcell hb0)
            all_goals
              go_ret
              refine ⟨ret_bool ?_, by ((first | exact b2 ‹_› | exact bN (b2 ‹_›) _ | ((repeat (first | exact Below.refl _ _ | assumption | (with_reducible first | apply bA | apply bD | apply bN) | refine bS ?_ ‹_›)))))⟩
              rw [HRES.out, HM.out]; simp
        · have fz : decide ((0 : Int) < (ns.length : Int)) = true := decide_eq_true (by omega)
          have fz2 : 0 < ns.length := by omega
          have HM := Lib.hid (show midB ⟨2, nm, pl, its, ks, ns, vs⟩ = false by simp [midB, named, lam, z])
          go_wp2_with (go_at_call 112; refine (nOo _ hnm _).mono ?_; rintro e w1 ⟨rfl, hb⟩; have hb0 : Below ((w.alloc (.cells #[.slice A n c] 25)).alloc (.cells #[.int .i64 2, .string nm, .int .i64 pl, .slice A3 its.length c3, .slice A4 ks.length c4, .slice A5 ns.length c5, .slice A6 ns.length c6] 46)).heap.size ((w.alloc (.cells #[.slice A n c] 25)).alloc (.cells #[.int .i64 2, .string nm, .int .i64 pl, .slice A3 its.length c3, .slice A4 ks.length c4, .slice A5 ns.length c5, .slice A6 ns.length c6] 46)) w1 := (by first | exact hb | exact bS (by assumption) hb); clear hb; obtain ⟨hc, hf⟩ := bcell hb0)
          all_goals
            go_ret
            refine ⟨ret_bool ?_, by ((first | exact b2 ‹_› | exact bN (b2 ‹_›) _ | ((repeat (first | exact Below.refl _ _ | assumption | (with_reducible first | apply bA | apply bD | apply bN) | refine bS ?_ ‹_›)))))⟩
            rw [HRES.out, HM.out]; simp
      · by_cases z : ns.length = 0
        · have fz : decide ((0 : Int) < (ns.length : Int)) = false := decide_eq_false (by omega)
          have fz2 : ¬ 0 < ns.length := by omega
          have ZZ := Lib.hid z
          clear z
          by_cases e0 : nm.toList = []
          · have fe : (nm.toList == []) = true := by simpa using e0
            have HM := Lib.hid (show midB ⟨3, nm, pl, its, ks, ns, vs⟩ = false by simp [midB, named, lam, e0])
            go_wp2_with (go_at_call 112; refine (nOo _ hnm _).mono ?_; rintro e w1 ⟨rfl, hb⟩; have hb0 : Below ((w.alloc (.cells #[.slice A n c] 25)).alloc (.cells #[.int .i64 3, .string nm, .int .i64 pl, .slice A3 its.length c3, .slice A4 ks.length c4, .slice A5 ns.length c5, .slice A6 ns.length c6] 46)).heap.size ((w.alloc (.cells #[.slice A n c] 25)).alloc (.cells #[.int .i64 3, .string nm, .int .i64 pl, .slice A3 its.length c3, .slice A4 ks.length c4, .slice A5 ns.length c5, .slice A6 ns.length c6] 46)) w1 := (by first | exact hb | exact bS (by assumption) hb); clear hb; obtain ⟨hc, hf⟩ := bcell hb0)
            all_goals
              go_ret
              refine ⟨ret_bool ?_, by ((first | exact b2 ‹_› | exact bN (b2 ‹_›) _ | ((repeat (first | exact Below.refl _ _ | assumption | (with_reducible first | apply bA | apply bD | apply bN) | refine bS ?_ ‹_›)))))⟩
              rw [HRES.out, HM.out]; simp
          · by_cases hN : nameB nm = true
            · have fe : (nm.toList == []) = false := by simpa using e0
              have HM := Lib.hid (show midB ⟨3, nm, pl, its, ks, ns, vs⟩ = true by simp [midB, named, lam, ZZ.out, e0, hN])
              go_wp2_with (go_at_call 112; refine (nOo _ hnm _).mono ?_; rintro e w1 ⟨rfl, hb⟩; have hb0 : Below ((w.alloc (.cells #[.slice A n c] 25)).alloc (.cells #[.int .i64 3, .string nm, .int .i64 pl, .slice A3 its.length c3, .slice A4 ks.length c4, .slice A5 ns.length c5, .slice A6 ns.length c6] 46)).heap.size ((w.alloc (.cells #[.slice A n c] 25)).alloc (.cells #[.int .i64 3, .string nm, .int .i64 pl, .slice A3 its.length c3, .slice A4 ks.length c4, .slice A5 ns.length c5, .slice A6 ns.length c6] 46)) w1 := (by first | exact hb | exact bS (by assumption) hb); clear hb; obtain ⟨hc, hf⟩ := bcell hb0)
              go_quiet (fail)
              go_wp2
              all_goals
                go_ret
                refine ⟨ret_bool ?_, by ((first | exact b2 ‹_› | exact bN (b2 ‹_›) _ | ((repeat (first | exact Below.refl _ _ | assumption | (with_reducible first | apply bA | apply bD | apply bN) | refine bS ?_ ‹_›)))))⟩
                rw [HRES.out, HM.out]
                go_light
                first | (simp [tailB, *]; done) | (simp [tailB, *]; omega) | (rw [Bool.eq_iff_iff]; simp [tailB, *]; done) | (rw [Bool.eq_iff_iff]; simp [tailB, *]; omega)
            · replace hN : nameB nm = false := by simpa using hN
              by_cases hL : nm.toList = [108, 97, 109, 98, 100, 97]
              · have fe : (nm.toList == []) = false := by simpa using e0
                have fl : (nm.toList == [108, 97, 109, 98, 100, 97]) = true := by simpa using hL
                have HM := Lib.hid (show midB ⟨3, nm, pl, its, ks, ns, vs⟩ = true by simp [midB, named, lam, ZZ.out, e0, hN, hL])
                go_wp2_with (go_at_call 112; refine (nOo _ hnm _).mono ?_; rintro e w1 ⟨rfl, hb⟩; have hb0 : Below ((w.alloc (.cells #[.slice A n c] 25)).alloc (.cells #[.int .i64 3, .string nm, .int .i64 pl, .slice A3 its.length c3, .slice A4 ks.length c4, .slice A5 ns.length c5, .slice A6 ns.length c6] 46)).heap.size ((w.alloc (.cells #[.slice A n c] 25)).alloc (.cells #[.int .i64 3, .string nm, .int .i64 pl, .slice A3 its.length c3, .slice A4 ks.length c4, .slice A5 ns.length c5, .slice A6 ns.length c6] 46)) w1 := (by first | exact hb | exact bS (by assumption) hb); clear hb; obtain ⟨hc, hf⟩ := bcell hb0)
                go_quiet (fail)
                go_wp2
                all_goals
                  go_ret
                  refine ⟨ret_bool ?_, by ((first | exact b2 ‹_› | exact bN (b2 ‹_›) _ | ((repeat (first | exact Below.refl _ _ | assumption | (with_reducible first | apply bA | apply bD | apply bN) | refine bS ?_ ‹_›)))))⟩
                  rw [HRES.out, HM.out]
                  go_light
                  first | (simp [tailB, *]; done) | (simp [tailB, *]; omega) | (rw [Bool.eq_iff_iff]; simp [tailB, *]; done) | (rw [Bool.eq_iff_iff]; simp [tailB, *]; omega)
              · have fe : (nm.toList == []) = false := by simpa using e0
                have fl : (nm.toList == [108, 97, 109, 98, 100, 97]) = false := by simpa using hL
                have HM := Lib.hid (show midB ⟨3, nm, pl, its, ks, ns, vs⟩ = false by simp [midB, named, lam, e0, hN, hL])
                go_wp2_with (go_at_call 112; refine (nOo _ hnm _).mono ?_; rintro e w1 ⟨rfl, hb⟩; have hb0 : Below ((w.alloc (.cells #[.slice A n c] 25)).alloc (.cells #[.int .i64 3, .string nm, .int .i64 pl, .slice A3 its.length c3, .slice A4 ks.length c4, .slice A5 ns.length c5, .slice A6 ns.length c6] 46)).heap.size ((w.alloc (.cells #[.slice A n c] 25)).alloc (.cells #[.int .i64 3, .string nm, .int .i64 pl, .slice A3 its.length c3, .slice A4 ks.length c4, .slice A5 ns.length c5, .slice A6 ns.length c6] 46)) w1 := (by first | exact hb | exact bS (by assumption) hb); clear hb; obtain ⟨hc, hf⟩ := bcell hb0)
                all_goals
                  go_ret
                  refine ⟨ret_bool ?_, by ((first | exact b2 ‹_› | exact bN (b2 ‹_›) _ | ((repeat (first | exact Below.refl _ _ | assumption | (with_reducible first | apply bA | apply bD | apply bN) | refine bS ?_ ‹_›)))))⟩
                  rw [HRES.out, HM.out]; simp
        · have fz : decide ((0 : Int) < (ns.length : Int)) = true := decide_eq_true (by omega)
          have fz2 : 0 < ns.length := by omega
          have HM := Lib.hid (show midB ⟨3, nm, pl, its, ks, ns, vs⟩ = false by simp [midB, named, lam, z])
          go_wp2_with (go_at_call 112; refine (nOo _ hnm _).mono ?_; rintro e w1 ⟨rfl, hb⟩; have hb0 : Below ((w.alloc (.cells #[.slice A n c] 25)).alloc (.cells #[.int .i64 3, .string nm, .int .i64 pl, .slice A3 its.length c3, .slice A4 ks.length c4, .slice A5 ns.length c5, .slice A6 ns.length c6] 46)).heap.size ((w.alloc (.cells #[.slice A n c] 25)).alloc (.cells #[.int .i64 3, .string nm, .int .i64 pl, .slice A3 its.length c3, .slice A4 ks.length c4, .slice A5 ns.length c5, .slice A6 ns.length c6] 46)) w1 := (by first | exact hb | exact bS (by assumption) hb); clear hb; obtain ⟨hc, hf⟩ := bcell hb0)
          all_goals
            go_ret
            refine ⟨ret_bool ?_, by ((first | exact b2 ‹_› | exact bN (b2 ‹_›) _ | ((repeat (first | exact Below.refl _ _ | assumption | (with_reducible first | apply bA | apply bD | apply bN) | refine bS ?_ ‹_›)))))⟩
            rw [HRES.out, HM.out]; simp
      · by_cases z : ns.length = 0
        · have fz : decide ((0 : Int) < (ns.length : Int)) = false := decide_eq_false (by omega)
          have fz2 : ¬ 0 < ns.length := by omega
          have ZZ := Lib.hid z
          clear z
          by_cases e0 : nm.toList = []
          · have fe : (nm.toList == []) = true := by simpa using e0
            have HM := Lib.hid (show midB ⟨4, nm, pl, its, ks, ns, vs⟩ = true by simp [midB, named, lam, ZZ.out, e0])
            go_wp2_with (go_at_call 112; refine (nOo _ hnm _).mono ?_; rintro e w1 ⟨rfl, hb⟩; have hb0 : Below ((w.alloc (.cells #[.slice A n c] 25)).alloc (.cells #[.int .i64 4, .string nm, .int .i64 pl, .slice A3 its.length c3, .slice A4 ks.length c4, .slice A5 ns.length c5, .slice A6 ns.length c6] 46)).heap.size ((w.alloc (.cells #[.slice A n c] 25)).alloc (.cells #[.int .i64 4, .string nm, .int .i64 pl, .slice A3 its.length c3, .slice A4 ks.length c4, .slice A5 ns.length c5, .slice A6 ns.length c6] 46)) w1 := (by first | exact hb | exact bS (by assumption) hb); clear hb; obtain ⟨hc, hf⟩ := bcell hb0)
            go_quiet (fail)
            go_wp2
            all_goals
              go_ret
              refine ⟨ret_bool ?_, by ((first | exact b2 ‹_› | exact bN (b2 ‹_›) _ | ((repeat (first | exact Below.refl _ _ | assumption | (with_reducible first | apply bA | apply bD | apply bN) | refine bS ?_ ‹_›)))))⟩
              rw [HRES.out, HM.out]
              go_light
              first | (simp [tailB, *]; done) | (simp [tailB, *]; omega) | (rw [Bool.eq_iff_iff]; simp [tailB, *]; done) | (rw [Bool.eq_iff_iff]; simp [tailB, *]; omega)
          · have fe : (nm.toList == []) = false := by simpa using e0
            have HM := Lib.hid (show midB ⟨4, nm, pl, its, ks, ns, vs⟩ = false by simp [midB, named, lam, e0])
            go_wp2_with (go_at_call 112; refine (nOo _ hnm _).mono ?_; rintro e w1 ⟨rfl, hb⟩; have hb0 : Below ((w.alloc (.cells #[.slice A n c] 25)).alloc (.cells #[.int .i64 4, .string nm, .int .i64 pl, .slice A3 its.length c3, .slice A4 ks.length c4, .slice A5 ns.length c5, .slice A6 ns.length c6] 46)).heap.size ((w.alloc (.cells #[.slice A n c] 25)).alloc (.cells #[.int .i64 4, .string nm, .int .i64 pl, .slice A3 its.length c3, .slice A4 ks.length c4, .slice A5 ns.length c5, .slice A6 ns.length c6] 46)) w1 := (by first | exact hb | exact bS (by assumption) hb); clear hb; obtain ⟨hc, hf⟩ := bcell hb0)
            all_goals
              go_ret
              refine ⟨ret_bool ?_, by ((first | exact b2 ‹_› | exact bN (b2 ‹_›) _ | ((repeat (first | exact Below.refl _ _ | assumption | (with_reducible first | apply bA | apply bD | apply bN) | refine bS ?_ ‹_›)))))⟩
              rw [HRES.out, HM.out]; simp
        · have fz : decide ((0 : Int) < (ns.length : Int)) = true := decide_eq_true (by omega)
          have fz2 : 0 < ns.length := by omega
          have HM := Lib.hid (show midB ⟨4, nm, pl, its, ks, ns, vs⟩ = false by simp [midB, named, lam, z])
          go_wp2_with (go_at_call 112; refine (nOo _ hnm _).mono ?_; rintro e w1 ⟨rfl, hb⟩; have hb0 : Below ((w.alloc (.cells #[.slice A n c] 25)).alloc (.cells #[.int .i64 4, .string nm, .int .i64 pl, .slice A3 its.length c3, .slice A4 ks.length c4, .slice A5 ns.length c5, .slice A6 ns.length c6] 46)).heap.size ((w.alloc (.cells #[.slice A n c] 25)).alloc (.cells #[.int .i64 4, .string nm, .int .i64 pl, .slice A3 its.length c3, .slice A4 ks.length c4, .slice A5 ns.length c5, .slice A6 ns.length c6] 46)) w1 := (by first | exact hb | exact bS (by assumption) hb); clear hb; obtain ⟨hc, hf⟩ := bcell hb0)
          all_goals
            go_ret
            refine ⟨ret_bool ?_, by ((first | exact b2 ‹_› | exact bN (b2 ‹_›) _ | ((repeat (first | exact Below.refl _ _ | assumption | (with_reducible first | apply bA | apply bD | apply bN) | refine bS ?_ ‹_›)))))⟩
            rw [HRES.out, HM.out]; simp
      · by_cases z : ns.length = 0
        · have fz : decide ((0 : Int) < (ns.length : Int)) = false := decide_eq_false (by omega)
          have fz2 : ¬ 0 < ns.length := by omega
          have ZZ := Lib.hid z
          clear z
          by_cases e0 : nm.toList = []
          · have fe : (nm.toList == []) = true := by simpa using e0
            have HM := Lib.hid (show midB ⟨5, nm, pl, its, ks, ns, vs⟩ = false by simp [midB, named, lam, e0])
            go_wp2_with (go_at_call 112; refine (nOo _ hnm _).mono ?_; rintro e w1 ⟨rfl, hb⟩; have hb0 : Below ((w.alloc (.cells #[.slice A n c] 25)).alloc (.cells #[.int .i64 5, .string nm, .int .i64 pl, .slice A3 its.length c3, .slice A4 ks.length c4, .slice A5 ns.length c5, .slice A6 ns.length c6] 46)).heap.size ((w.alloc (.cells #[.slice A n c] 25)).alloc (.cells #[.int .i64 5, .string nm, .int .i64 pl, .slice A3 its.length c3, .slice A4 ks.length c4, .slice A5 ns.length c5, .slice A6 ns.length c6] 46)) w1 := (by first | exact hb | exact bS (by assumption) hb); clear hb; obtain ⟨hc, hf⟩ := bcell hb0)
            all_goals
              go_ret
              refine ⟨ret_bool ?_, by ((first | exact b2 ‹_› | exact bN (b2 ‹_›) _ | ((repeat (first | exact Below.refl _ _ | assumption | (with_reducible first | apply bA | apply bD | apply bN) | refine bS ?_ ‹_›)))))⟩
              rw [HRES.out, HM.out]; simp
          · by_cases hN : nameB nm = true
            · have fe : (nm.toList == []) = false := by simpa using e0
              have HM := Lib.hid (show midB ⟨5, nm, pl, its, ks, ns, vs⟩ = true by simp [midB, named, lam, ZZ.out, e0, hN])
              go_wp2_with (go_at_call 112; refine (nOo _ hnm _).mono ?_; rintro e w1 ⟨rfl, hb⟩; have hb0 : Below ((w.alloc (.cells #[.slice A n c] 25)).alloc (.cells #[.int .i64 5, .string nm, .int .i64 pl, .slice A3 its.length c3, .slice A4 ks.length c4, .slice A5 ns.length c5, .slice A6 ns.length c6] 46)).heap.size ((w.alloc (.cells #[.slice A n c] 25)).alloc (.cells #[.int .i64 5, .string nm, .int .i64 pl, .slice A3 its.length c3, .slice A4 ks.length c4, .slice A5 ns.length c5, .slice A6 ns.length c6] 46)) w1 := (by first | exact hb | exact bS (by assumption) hb); clear hb; obtain ⟨hc, hf⟩ := bcell hb0)
              go_quiet (fail)
              go_wp2
              all_goals
                go_ret
                refine ⟨ret_bool ?_, by ((first | exact b2 ‹_› | exact bN (b2 ‹_›) _ | ((repeat (first | exact Below.refl _ _ | assumption | (with_reducible first | apply bA | apply bD | apply bN) | refine bS ?_ ‹_›)))))⟩
                rw [HRES.out, HM.out]
                go_light
                first | (simp [tailB, *]; done) | (simp [tailB, *]; omega) | (rw [Bool.eq_iff_iff]; simp [tailB, *]; done) | (rw [Bool.eq_iff_iff]; simp [tailB, *]; omega)
            · replace hN : nameB nm = false := by simpa using hN
              by_cases hL : nm.toList = [108, 97, 109, 98, 100, 97]
              · have fe : (nm.toList == []) = false := by simpa using e0
                have fl : (nm.toList == [108, 97, 109, 98, 100, 97]) = true := by simpa using hL
                have HM := Lib.hid (show midB ⟨5, nm, pl, its, ks, ns, vs⟩ = true by simp [midB, named, lam, ZZ.out, e0, hN, hL])
                go_wp2_with (go_at_call 112; refine (nOo _ hnm _).mono ?_; rintro e w1 ⟨rfl, hb⟩; have hb0 : Below ((w.alloc (.cells #[.slice A n c] 25)).alloc (.cells #[.int .i64 5, .string nm, .int .i64 pl, .slice A3 its.length c3, .slice A4 ks.length c4, .slice A5 ns.length c5, .slice A6 ns.length c6] 46)).heap.size ((w.alloc (.cells #[.slice A n c] 25)).alloc (.cells #[.int .i64 5, .string nm, .int .i64 pl, .slice A3 its.length c3, .slice A4 ks.length c4, .slice A5 ns.length c5, .slice A6 ns.length c6] 46)) w1 := (by first | exact hb | exact bS (by assumption) hb); clear hb; obtain ⟨hc, hf⟩ := bcell hb0)
                go_quiet (fail)
                go_wp2
                all_goals
                  go_ret
                  refine ⟨ret_bool ?_, by ((first | exact b2 ‹_› | exact bN (b2 ‹_›) _ | ((repeat (first | exact Below.refl _ _ | assumption | (with_reducible first | apply bA | apply bD | apply bN) | refine bS ?_ ‹_›)))))⟩
                  rw [HRES.out, HM.out]
                  go_light
                  first | (simp [tailB, *]; done) | (simp [tailB, *]; omega) | (rw [Bool.eq_iff_iff]; simp [tailB, *]; done) | (rw [Bool.eq_iff_iff]; simp [tailB, *]; omega)
              · have fe : (nm.toList == []) = false := by simpa using e0
                have fl : (nm.toList == [108, 97, 109, 98, 100, 97]) = false := by simpa using hL
                have HM := Lib.hid (show midB ⟨5, nm, pl, its, ks, ns, vs⟩ = false by simp [midB, named, lam, e0, hN, hL])
                go_wp2_with (go_at_call 112; refine (nOo _ hnm _).mono ?_; rintro e w1 ⟨rfl, hb⟩; have hb0 : Below ((w.alloc (.cells #[.slice A n c] 25)).alloc (.cells #[.int .i64 5, .string nm, .int .i64 pl, .slice A3 its.length c3, .slice A4 ks.length c4, .slice A5 ns.length c5, .slice A6 ns.length c6] 46)).heap.size ((w.alloc (.cells #[.slice A n c] 25)).alloc (.cells #[.int .i64 5, .string nm, .int .i64 pl, .slice A3 its.length c3, .slice A4 ks.length c4, .slice A5 ns.length c5, .slice A6 ns.length c6] 46)) w1 := (by first | exact hb | exact bS (by assumption) hb); clear hb; obtain ⟨hc, hf⟩ := bcell hb0)
                all_goals
                  go_ret
                  refine ⟨ret_bool ?_, by ((first | exact b2 ‹_› | exact bN (b2 ‹_›) _ | ((repeat (first | exact Below.refl _ _ | assumption | (with_reducible first | apply bA | apply bD | apply bN) | refine bS ?_ ‹_›)))))⟩
                  rw [HRES.out, HM.out]; simp
        · have fz : decide ((0 : Int) < (ns.length : Int)) = true := decide_eq_true (by omega)
          have fz2 : 0 < ns.length := by omega
          have ZZ := Lib.hid z
          clear z
          by_cases e0 : nm.toList = []
          · have fe : (nm.toList == []) = true := by simpa using e0
            have HM := Lib.hid (show midB ⟨5, nm, pl, its, ks, ns, vs⟩ = false by simp [midB, named, lam, e0])
            go_wp2_with (go_at_call 112; refine (nOo _ hnm _).mono ?_; rintro e w1 ⟨rfl, hb⟩; have hb0 : Below ((w.alloc (.cells #[.slice A n c] 25)).alloc (.cells #[.int .i64 5, .string nm, .int .i64 pl, .slice A3 its.length c3, .slice A4 ks.length c4, .slice A5 ns.length c5, .slice A6 ns.length c6] 46)).heap.size ((w.alloc (.cells #[.slice A n c] 25)).alloc (.cells #[.int .i64 5, .string nm, .int .i64 pl, .slice A3 its.length c3, .slice A4 ks.length c4, .slice A5 ns.length c5, .slice A6 ns.length c6] 46)) w1 := (by first | exact hb | exact bS (by assumption) hb); clear hb; obtain ⟨hc, hf⟩ := bcell hb0)
            all_goals
              go_ret
              refine ⟨ret_bool ?_, by ((first | exact b2 ‹_› | exact bN (b2 ‹_›) _ | ((repeat (first | exact Below.refl _ _ | assumption | (with_reducible first | apply bA | apply bD | apply bN) | refine bS ?_ ‹_›)))))⟩
              rw [HRES.out, HM.out]; simp
          · by_cases hN : nameB nm = true
            · have fe : (nm.toList == []) = false := by simpa using e0
              have HM := Lib.hid (show midB ⟨5, nm, pl, its, ks, ns, vs⟩ = true by simp [midB, named, lam, ZZ.out, e0, hN])
              go_wp2_with (go_at_call 112; refine (nOo _ hnm _).mono ?_; rintro e w1 ⟨rfl, hb⟩; have hb0 : Below ((w.alloc (.cells #[.slice A n c] 25)).alloc (.cells #[.int .i64 5, .string nm, .int .i64 pl, .slice A3 its.length c3, .slice A4 ks.length c4, .slice A5 ns.length c5, .slice A6 ns.length c6] 46)).heap.size ((w.alloc (.cells #[.slice A n c] 25)).alloc (.cells #[.int .i64 5, .string nm, .int .i64 pl, .slice A3 its.length c3, .slice A4 ks.length c4, .slice A5 ns.length c5, .slice A6 ns.length c6] 46)) w1 := (by first | exact hb | exact bS (by assumption) hb); clear hb; obtain ⟨hc, hf⟩ := bcell hb0)
              go_quiet (fail)
              go_wp2
              all_goals
                go_ret
                refine ⟨ret_bool ?_, by ((first | exact b2 ‹_› | exact bN (b2 ‹_›) _ | ((repeat (first | exact Below.refl _ _ | assumption | (with_reducible first | apply bA | apply bD | apply bN) | refine bS ?_ ‹_›)))))⟩
                rw [HRES.out, HM.out]
                go_light
                first | (simp [tailB, *]; done) | (simp [tailB, *]; omega) | (rw [Bool.eq_iff_iff]; simp [tailB, *]; done) | (rw [Bool.eq_iff_iff]; simp [tailB, *]; omega)
            · replace hN : nameB nm = false := by simpa using hN
              by_cases hL : nm.toList = [108, 97, 109, 98, 100, 97]
              · have fe : (nm.toList == []) = false := by simpa using e0
                have fl : (nm.toList == [108, 97, 109, 98, 100, 97]) = true := by simpa using hL
                have HM := Lib.hid (show midB ⟨5, nm, pl, its, ks, ns, vs⟩ = true by simp [midB, named, lam, ZZ.out, e0, hN, hL])
                go_wp2_with (go_at_call 112; refine (nOo _ hnm _).mono ?_; rintro e w1 ⟨rfl, hb⟩; have hb0 : Below ((w.alloc (.cells #[.slice A n c] 25)).alloc (.cells #[.int .i64 5, .string nm, .int .i64 pl, .slice A3 its.length c3, .slice A4 ks.length c4, .slice A5 ns.length c5, .slice A6 ns.length c6] 46)).heap.size ((w.alloc (.cells #[.slice A n c] 25)).alloc (.cells #[.int .i64 5, .string nm, .int .i64 pl, .slice A3 its.length c3, .slice A4 ks.length c4, .slice A5 ns.length c5, .slice A6 ns.length c6] 46)) w1 := (by first | exact hb | exact bS (by assumption) hb); clear hb; obtain ⟨hc, hf⟩ := bcell hb0)
                go_quiet (fail)
                go_wp2
                all_goals
                  go_ret
                  refine ⟨ret_bool ?_, by ((first | exact b2 ‹_› | exact bN (b2 ‹_›) _ | ((repeat (first | exact Below.refl _ _ | assumption | (with_reducible first | apply bA | apply bD | apply bN) | refine bS ?_ ‹_›)))))⟩
                  rw [HRES.out, HM.out]
                  go_light
                  first | (simp [tailB, *]; done) | (simp [tailB, *]; omega) | (rw [Bool.eq_iff_iff]; simp [tailB, *]; done) | (rw [Bool.eq_iff_iff]; simp [tailB, *]; omega)
              · have fe : (nm.toList == []) = false := by simpa using e0
                have fl : (nm.toList == [108, 97, 109, 98, 100, 97]) = false := by simpa using hL
                have HM := Lib.hid (show midB ⟨5, nm, pl, its, ks, ns, vs⟩ = false by simp [midB, named, lam, e0, hN, hL])
                go_wp2_with (go_at_call 112; refine (nOo _ hnm _).mono ?_; rintro e w1 ⟨rfl, hb⟩; have hb0 : Below ((w.alloc (.cells #[.slice A n c] 25)).alloc (.cells #[.int .i64 5, .string nm, .int .i64 pl, .slice A3 its.length c3, .slice A4 ks.length c4, .slice A5 ns.length c5, .slice A6 ns.length c6] 46)).heap.size ((w.alloc (.cells #[.slice A n c] 25)).alloc (.cells #[.int .i64 5, .string nm, .int .i64 pl, .slice A3 its.length c3, .slice A4 ks.length c4, .slice A5 ns.length c5, .slice A6 ns.length c6] 46)) w1 := (by first | exact hb | exact bS (by assumption) hb); clear hb; obtain ⟨hc, hf⟩ := bcell hb0)
                all_goals
                  go_ret
                  refine ⟨ret_bool ?_, by ((first | exact b2 ‹_› | exact bN (b2 ‹_›) _ | ((repeat (first | exact Below.refl _ _ | assumption | (with_reducible first | apply bA | apply bD | apply bN) | refine bS ?_ ‹_›)))))⟩
                  rw [HRES.out, HM.out]; simp
      · by_cases z : ns.length = 0
        · have fz : decide ((0 : Int) < (ns.length : Int)) = false := decide_eq_false (by omega)
          have fz2 : ¬ 0 < ns.length := by omega
          have ZZ := Lib.hid z
          clear z
          by_cases e0 : nm.toList = []
          · have fe : (nm.toList == []) = true := by simpa using e0
            have HM := Lib.hid (show midB ⟨6, nm, pl, its, ks, ns, vs⟩ = true by simp [midB, named, lam, ZZ.out, e0])
            go_wp2_with (go_at_call 112; refine (nOo _ hnm _).mono ?_; rintro e w1 ⟨rfl, hb⟩; have hb0 : Below ((w.alloc (.cells #[.slice A n c] 25)).alloc (.cells #[.int .i64 6, .string nm, .int .i64 pl, .slice A3 its.length c3, .slice A4 ks.length c4, .slice A5 ns.length c5, .slice A6 ns.length c6] 46)).heap.size ((w.alloc (.cells #[.slice A n c] 25)).alloc (.cells #[.int .i64 6, .string nm, .int .i64 pl, .slice A3 its.length c3, .slice A4 ks.length c4, .slice A5 ns.length c5, .slice A6 ns.length c6] 46)) w1 := (by first | exact hb | exact bS (by assumption) hb); clear hb; obtain ⟨hc, hf⟩ := bcell hb0)
            go_quiet (fail)
            go_wp2
            all_goals
              go_ret
              refine ⟨ret_bool ?_, by ((first | exact b2 ‹_› | exact bN (b2 ‹_›) _ | ((repeat (first | exact Below.refl _ _ | assumption | (with_reducible first | apply bA | apply bD | apply bN) | refine bS ?_ ‹_›)))))⟩
              rw [HRES.out, HM.out]
              go_light
              first | (simp [tailB, *]; done) | (simp [tailB, *]; omega) | (rw [Bool.eq_iff_iff]; simp [tailB, *]; done) | (rw [Bool.eq_iff_iff]; simp [tailB, *]; omega)
          · have fe : (nm.toList == []) = false := by simpa using e0
            have HM := Lib.hid (show midB ⟨6, nm, pl, its, ks, ns, vs⟩ = false by simp [midB, named, lam, e0])
            go_wp2_with (go_at_call 112; refine (nOo _ hnm _).mono ?_; rintro e w1 ⟨rfl, hb⟩; have hb0 : Below ((w.alloc (.cells #[.slice A n c] 25)).alloc (.cells #[.int .i64 6, .string nm, .int .i64 pl, .slice A3 its.length c3, .slice A4 ks.length c4, .slice A5 ns.length c5, .slice A6 ns.length c6] 46)).heap.size ((w.alloc (.cells #[.slice A n c] 25)).alloc (.cells #[.int .i64 6, .string nm, .int .i64 pl, .slice A3 its.length c3, .slice A4 ks.length c4, .slice A5 ns.length c5, .slice A6 ns.length c6] 46)) w1 := (by first | exact hb | exact bS (by assumption) hb); clear hb; obtain ⟨hc, hf⟩ := bcell hb0)
            all_goals
              go_ret
              refine ⟨ret_bool ?_, by ((first | exact b2 ‹_› | exact bN (b2 ‹_›) _ | ((repeat (first | exact Below.refl _ _ | assumption | (with_reducible first | apply bA | apply bD | apply bN) | refine bS ?_ ‹_›)))))⟩
              rw [HRES.out, HM.out]; simp
        · have fz : decide ((0 : Int) < (ns.length : Int)) = true := decide_eq_true (by omega)
          have fz2 : 0 < ns.length := by omega
          have ZZ := Lib.hid z
          clear z
          by_cases e0 : nm.toList = []
          · have fe : (nm.toList == []) = true := by simpa using e0
            have HM := Lib.hid (show midB ⟨6, nm, pl, its, ks, ns, vs⟩ = true by simp [midB, named, lam, ZZ.out, e0])
            go_wp2_with (go_at_call 112; refine (nOo _ hnm _).mono ?_; rintro e w1 ⟨rfl, hb⟩; have hb0 : Below ((w.alloc (.cells #[.slice A n c] 25)).alloc (.cells #[.int .i64 6, .string nm, .int .i64 pl, .slice A3 its.length c3, .slice A4 ks.length c4, .slice A5 ns.length c5, .slice A6 ns.length c6] 46)).heap.size ((w.alloc (.cells #[.slice A n c] 25)).alloc (.cells #[.int .i64 6, .string nm, .int .i64 pl, .slice A3 its.length c3, .slice A4 ks.length c4, .slice A5 ns.length c5, .slice A6 ns.length c6] 46)) w1 := (by first | exact hb | exact bS (by assumption) hb); clear hb; obtain ⟨hc, hf⟩ := bcell hb0)
            go_quiet (fail)
            go_wp2
            all_goals
              go_ret
              refine ⟨ret_bool ?_, by ((first | exact b2 ‹_› | exact bN (b2 ‹_›) _ | ((repeat (first | exact Below.refl _ _ | assumption | (with_reducible first | apply bA | apply bD | apply bN) | refine bS ?_ ‹_›)))))⟩
              rw [HRES.out, HM.out]
              go_light
              first | (simp [tailB, *]; done) | (simp [tailB, *]; omega) | (rw [Bool.eq_iff_iff]; simp [tailB, *]; done) | (rw [Bool.eq_iff_iff]; simp [tailB, *]; omega)
          · have fe : (nm.toList == []) = false := by simpa using e0
            have HM := Lib.hid (show midB ⟨6, nm, pl, its, ks, ns, vs⟩ = false by simp [midB, named, lam, e0])
            go_wp2_with (go_at_call 112; refine (nOo _ hnm _).mono ?_; rintro e w1 ⟨rfl, hb⟩; have hb0 : Below ((w.alloc (.cells #[.slice A n c] 25)).alloc (.cells #[.int .i64 6, .string nm, .int .i64 pl, .slice A3 its.length c3, .slice A4 ks.length c4, .slice A5 ns.length c5, .slice A6 ns.length c6] 46)).heap.size ((w.alloc (.cells #[.slice A n c] 25)).alloc (.cells #[.int .i64 6, .string nm, .int .i64 pl, .slice A3 its.length c3, .slice A4 ks.length c4, .slice A5 ns.length c5, .slice A6 ns.length c6] 46)) w1 := (by first | exact hb | exact bS (by assumption) hb); clear hb; obtain ⟨hc, hf⟩ := bcell hb0)
            all_goals
              go_ret
              refine ⟨ret_bool ?_, by ((first | exact b2 ‹_› | exact bN (b2 ‹_›) _ | ((repeat (first | exact Below.refl _ _ | assumption | (with_reducible first | apply bA | apply bD | apply bN) | refine bS ?_ ‹_›)))))⟩
              rw [HRES.out, HM.out]; simp
      · by_cases z : ns.length = 0
        · have fz : decide ((0 : Int) < (ns.length : Int)) = false := decide_eq_false (by omega)
          have fz2 : ¬ 0 < ns.length := by omega
          have ZZ := Lib.hid z
          clear z
          by_cases e0 : nm.toList = []
          · have fe : (nm.toList == []) = true := by simpa using e0
            have HM := Lib.hid (show midB ⟨7, nm, pl, its, ks, ns, vs⟩ = true by simp [midB, named, lam, ZZ.out, e0])
            go_wp2_with (go_at_call 112; refine (nOo _ hnm _).mono ?_; rintro e w1 ⟨rfl, hb⟩; have hb0 : Below ((w.alloc (.cells #[.slice A n c] 25)).alloc (.cells #[.int .i64 7, .string nm, .int .i64 pl, .slice A3 its.length c3, .slice A4 ks.length c4, .slice A5 ns.length c5, .slice A6 ns.length c6] 46)).heap.size ((w.alloc (.cells #[.slice A n c] 25)).alloc (.cells #[.int .i64 7, .string nm, .int .i64 pl, .slice A3 its.length c3, .slice A4 ks.length c4, .slice A5 ns.length c5, .slice A6 ns.length c6] 46)) w1 := (by first | exact hb | exact bS (by assumption) hb); clear hb; obtain ⟨hc, hf⟩ := bcell hb0)
            go_quiet (fail)
            go_wp2
            all_goals
              go_ret
              refine ⟨ret_bool ?_, by ((first | exact b2 ‹_› | exact bN (b2 ‹_›) _ | ((repeat (first | exact Below.refl _ _ | assumption | (with_reducible first | apply bA | apply bD | apply bN) | refine bS ?_ ‹_›)))))⟩
              rw [HRES.out, HM.out]
              go_light
              first | (simp [tailB, *]; done) | (simp [tailB, *]; omega) | (rw [Bool.eq_iff_iff]; simp [tailB, *]; done) | (rw [Bool.eq_iff_iff]; simp [tailB, *]; omega)
          · have fe : (nm.toList == []) = false := by simpa using e0
            have HM := Lib.hid (show midB ⟨7, nm, pl, its, ks, ns, vs⟩ = false by simp [midB, named, lam, e0])
            go_wp2_with (go_at_call 112; refine (nOo _ hnm _).mono ?_; rintro e w1 ⟨rfl, hb⟩; have hb0 : Below ((w.alloc (.cells #[.slice A n c] 25)).alloc (.cells #[.int .i64 7, .string nm, .int .i64 pl, .slice A3 its.length c3, .slice A4 ks.length c4, .slice A5 ns.length c5, .slice A6 ns.length c6] 46)).heap.size ((w.alloc (.cells #[.slice A n c] 25)).alloc (.cells #[.int .i64 7, .string nm, .int .i64 pl, .slice A3 its.length c3, .slice A4 ks.length c4, .slice A5 ns.length c5, .slice A6 ns.length c6] 46)) w1 := (by first | exact hb | exact bS (by assumption) hb); clear hb; obtain ⟨hc, hf⟩ := bcell hb0)
            all_goals
              go_ret
              refine ⟨ret_bool ?_, by ((first | exact b2 ‹_› | exact bN (b2 ‹_›) _ | ((repeat (first | exact Below.refl _ _ | assumption | (with_reducible first | apply bA | apply bD | apply bN) | refine bS ?_ ‹_›)))))⟩
              rw [HRES.out, HM.out]; simp
        · have fz : decide ((0 : Int) < (ns.length : Int)) = true := decide_eq_true (by omega)
          have fz2 : 0 < ns.length := by omega
          have HM := Lib.hid (show midB ⟨7, nm, pl, its, ks, ns, vs⟩ = false by simp [midB, named, lam, z])
          go_wp2_with (go_at_call 112; refine (nOo _ hnm _).mono ?_; rintro e w1 ⟨rfl, hb⟩; have hb0 : Below ((w.alloc (.cells #[.slice A n c] 25)).alloc (.cells #[.int .i64 7, .string nm, .int .i64 pl, .slice A3 its.length c3, .slice A4 ks.length c4, .slice A5 ns.length c5, .slice A6 ns.length c6] 46)).heap.size ((w.alloc (.cells #[.slice A n c] 25)).alloc (.cells #[.int .i64 7, .string nm, .int .i64 pl, .slice A3 its.length c3, .slice A4 ks.length c4, .slice A5 ns.length c5, .slice A6 ns.length c6] 46)) w1 := (by first | exact hb | exact bS (by assumption) hb); clear hb; obtain ⟨hc, hf⟩ := bcell hb0)
          all_goals
            go_ret
            refine ⟨ret_bool ?_, by ((first | exact b2 ‹_› | exact bN (b2 ‹_›) _ | ((repeat (first | exact Below.refl _ _ | assumption | (with_reducible first | apply bA | apply bD | apply bN) | refine bS ?_ ‹_›)))))⟩
            rw [HRES.out, HM.out]; simp
      · by_cases z : ns.length = 0
        · have fz : decide ((0 : Int) < (ns.length : Int)) = false := decide_eq_false (by omega)
          have fz2 : ¬ 0 < ns.length := by omega
          have ZZ := Lib.hid z
          clear z
          by_cases e0 : nm.toList = []
          · have fe : (nm.toList == []) = true := by simpa using e0
            have HM := Lib.hid (show midB ⟨8, nm, pl, its, ks, ns, vs⟩ = true by simp [midB, named, lam, ZZ.out, e0])
            go_wp2_with (go_at_call 112; refine (nOo _ hnm _).mono ?_; rintro e w1 ⟨rfl, hb⟩; have hb0 : Below ((w.alloc (.cells #[.slice A n c] 25)).alloc (.cells #[.int .i64 8, .string nm, .int .i64 pl, .slice A3 its.length c3, .slice A4 ks.length c4, .slice A5 ns.length c5, .slice A6 ns.length c6] 46)).heap.size ((w.alloc (.cells #[.slice A n c] 25)).alloc (.cells #[.int .i64 8, .string nm, .int .i64 pl, .slice A3 its.length c3, .slice A4 ks.length c4, .slice A5 ns.length c5, .slice A6 ns.length c6] 46)) w1 := (by first | exact hb | exact bS (by assumption) hb); clear hb; obtain ⟨hc, hf⟩ := bcell hb0)
            go_quiet (fail)
            go_wp2
            all_goals
              go_ret
              refine ⟨ret_bool ?_, by ((first | exact b2 ‹_› | exact bN (b2 ‹_›) _ | ((repeat (first | exact Below.refl _ _ | assumption | (with_reducible first | apply bA | apply bD | apply bN) | refine bS ?_ ‹_›)))))⟩
              rw [HRES.out, HM.out]
              go_light
              first | (simp [tailB, *]; done) | (simp [tailB, *]; omega) | (rw [Bool.eq_iff_iff]; simp [tailB, *]; done) | (rw [Bool.eq_iff_iff]; simp [tailB, *]; omega)
          · have fe : (nm.toList == []) = false := by simpa using e0
            have HM := Lib.hid (show midB ⟨8, nm, pl, its, ks, ns, vs⟩ = false by simp [midB, named, lam, e0])
            go_wp2_with (go_at_call 112; refine (nOo _ hnm _).mono ?_; rintro e w1 ⟨rfl, hb⟩; have hb0 : Below ((w.alloc (.cells #[.slice A n c] 25)).alloc (.cells #[.int .i64 8, .string nm, .int .i64 pl, .slice A3 its.length c3, .slice A4 ks.length c4, .slice A5 ns.length c5, .slice A6 ns.length c6] 46)).heap.size ((w.alloc (.cells #[.slice A n c] 25)).alloc (.cells #[.int .i64 8, .string nm, .int .i64 pl, .slice A3 its.length c3, .slice A4 ks.length c4, .slice A5 ns.length c5, .slice A6 ns.length c6] 46)) w1 := (by first | exact hb | exact bS (by assumption) hb); clear hb; obtain ⟨hc, hf⟩ := bcell hb0)
            all_goals
              go_ret
              refine ⟨ret_bool ?_, by ((first | exact b2 ‹_› | exact bN (b2 ‹_›) _ | ((repeat (first | exact Below.refl _ _ | assumption | (with_reducible first | apply bA | apply bD | apply bN) | refine bS ?_ ‹_›)))))⟩
              rw [HRES.out, HM.out]; simp
        · have fz : decide ((0 : Int) < (ns.length : Int)) = true := decide_eq_true (by omega)
          have fz2 : 0 < ns.length := by omega
          have HM := Lib.hid (show midB ⟨8, nm, pl, its, ks, ns, vs⟩ = false by simp [midB, named, lam, z])
          go_wp2_with (go_at_call 112; refine (nOo _ hnm _).mono ?_; rintro e w1 ⟨rfl, hb⟩; have hb0 : Below ((w.alloc (.cells #[.slice A n c] 25)).alloc (.cells #[.int .i64 8, .string nm, .int .i64 pl, .slice A3 its.length c3, .slice A4 ks.length c4, .slice A5 ns.length c5, .slice A6 ns.length c6] 46)).heap.size ((w.alloc (.cells #[.slice A n c] 25)).alloc (.cells #[.int .i64 8, .string nm, .int .i64 pl, .slice A3 its.length c3, .slice A4 ks.length c4, .slice A5 ns.length c5, .slice A6 ns.length c6] 46)) w1 := (by first | exact hb | exact bS (by assumption) hb); clear hb; obtain ⟨hc, hf⟩ := bcell hb0)
          all_goals
            go_ret
            refine ⟨ret_bool ?_, by ((first | exact b2 ‹_› | exact bN (b2 ‹_›) _ | ((repeat (first | exact Below.refl _ _ | assumption | (with_reducible first | apply bA | apply bD | apply bN) | refine bS ?_ ‹_›)))))⟩
            rw [HRES.out, HM.out]; simp
      · by_cases z : ns.length = 0
        · have fz : decide ((0 : Int) < (ns.length : Int)) = false := decide_eq_false (by omega)
          have fz2 : ¬ 0 < ns.length := by omega
          have ZZ := Lib.hid z
          clear z
          by_cases e0 : nm.toList = []
          · have fe : (nm.toList == []) = true := by simpa using e0
            have HM := Lib.hid (show midB ⟨9, nm, pl, its, ks, ns, vs⟩ = true by simp [midB, named, lam, ZZ.out, e0])
            go_wp2_with (go_at_call 112; refine (nOo _ hnm _).mono ?_; rintro e w1 ⟨rfl, hb⟩; have hb0 : Below ((w.alloc (.cells #[.slice A n c] 25)).alloc (.cells #[.int .i64 9, .string nm, .int .i64 pl, .slice A3 its.length c3, .slice A4 ks.length c4, .slice A5 ns.length c5, .slice A6 ns.length c6] 46)).heap.size ((w.alloc (.cells #[.slice A n c] 25)).alloc (.cells #[.int .i64 9, .string nm, .int .i64 pl, .slice A3 its.length c3, .slice A4 ks.length c4, .slice A5 ns.length c5, .slice A6 ns.length c6] 46)) w1 := (by first | exact hb | exact bS (by assumption) hb); clear hb; obtain ⟨hc, hf⟩ := bcell hb0)
            go_quiet (fail)
            go_wp2
            all_goals
              go_ret
              refine ⟨ret_bool ?_, by ((first | exact b2 ‹_› | exact bN (b2 ‹_›) _ | ((repeat (first | exact Below.refl _ _ | assumption | (with_reducible first | apply bA | apply bD | apply bN) | refine bS ?_ ‹_›)))))⟩
              rw [HRES.out, HM.out]
              go_light
              first | (simp [tailB, *]; done) | (simp [tailB, *]; omega) | (rw [Bool.eq_iff_iff]; simp [tailB, *]; done) | (rw [Bool.eq_iff_iff]; simp [tailB, *]; omega)
          · have fe : (nm.toList == []) = false := by simpa using e0
            have HM := Lib.hid (show midB ⟨9, nm, pl, its, ks, ns, vs⟩ = false by simp [midB, named, lam, e0])
            go_wp2_with (go_at_call 112; refine (nOo _ hnm _).mono ?_; rintro e w1 ⟨rfl, hb⟩; have hb0 : Below ((w.alloc (.cells #[.slice A n c] 25)).alloc (.cells #[.int .i64 9, .string nm, .int .i64 pl, .slice A3 its.length c3, .slice A4 ks.length c4, .slice A5 ns.length c5, .slice A6 ns.length c6] 46)).heap.size ((w.alloc (.cells #[.slice A n c] 25)).alloc (.cells #[.int .i64 9, .string nm, .int .i64 pl, .slice A3 its.length c3, .slice A4 ks.length c4, .slice A5 ns.length c5, .slice A6 ns.length c6] 46)) w1 := (by first | exact hb | exact bS (by assumption) hb); clear hb; obtain ⟨hc, hf⟩ := bcell hb0)
            all_goals
              go_ret
              refine ⟨ret_bool ?_, by ((first | exact b2 ‹_› | exact bN (b2 ‹_›) _ | ((repeat (first | exact Below.refl _ _ | assumption | (with_reducible first | apply bA | apply bD | apply bN) | refine bS ?_ ‹_›)))))⟩
              rw [HRES.out, HM.out]; simp
        · have fz : decide ((0 : Int) < (ns.length : Int)) = true := decide_eq_true (by omega)
          have fz2 : 0 < ns.length := by omega
          have HM := Lib.hid (show midB ⟨9, nm, pl, its, ks, ns, vs⟩ = false by simp [midB, named, lam, z])
          go_wp2_with (go_at_call 112; refine (nOo _ hnm _).mono ?_; rintro e w1 ⟨rfl, hb⟩; have hb0 : Below ((w.alloc (.cells #[.slice A n c] 25)).alloc (.cells #[.int .i64 9, .string nm, .int .i64 pl, .slice A3 its.length c3, .slice A4 ks.length c4, .slice A5 ns.length c5, .slice A6 ns.length c6] 46)).heap.size ((w.alloc (.cells #[.slice A n c] 25)).alloc (.cells #[.int .i64 9, .string nm, .int .i64 pl, .slice A3 its.length c3, .slice A4 ks.length c4, .slice A5 ns.length c5, .slice A6 ns.length c6] 46)) w1 := (by first | exact hb | exact bS (by assumption) hb); clear hb; obtain ⟨hc, hf⟩ := bcell hb0)
          all_goals
            go_ret
            refine ⟨ret_bool ?_, by ((first | exact b2 ‹_› | exact bN (b2 ‹_›) _ | ((repeat (first | exact Below.refl _ _ | assumption | (with_reducible first | apply bA | apply bD | apply bN) | refine bS ?_ ‹_›)))))⟩
            rw [HRES.out, HM.out]; simp
      · by_cases z : ns.length = 0
        · have fz : decide ((0 : Int) < (ns.length : Int)) = false := decide_eq_false (by omega)
          have fz2 : ¬ 0 < ns.length := by omega
          have ZZ := Lib.hid z
          clear z
          by_cases e0 : nm.toList = []
          · have fe : (nm.toList == []) = true := by simpa using e0
            have HM := Lib.hid (show midB ⟨10, nm, pl, its, ks, ns, vs⟩ = false by simp [midB, named, lam, e0])
            go_wp2_with (go_at_call 112; refine (nOo _ hnm _).mono ?_; rintro e w1 ⟨rfl, hb⟩; have hb0 : Below ((w.alloc (.cells #[.slice A n c] 25)).alloc (.cells #[.int .i64 10, .string nm, .int .i64 pl, .slice A3 its.length c3, .slice A4 ks.length c4, .slice A5 ns.length c5, .slice A6 ns.length c6] 46)).heap.size ((w.alloc (.cells #[.slice A n c] 25)).alloc (.cells #[.int .i64 10, .string nm, .int .i64 pl, .slice A3 its.length c3, .slice A4 ks.length c4, .slice A5 ns.length c5, .slice A6 ns.length c6] 46)) w1 := (by first | exact hb | exact bS (by assumption) hb); clear hb; obtain ⟨hc, hf⟩ := bcell hb0)
            all_goals
              go_ret
              refine ⟨ret_bool ?_, by ((first | exact b2 ‹_› | exact bN (b2 ‹_›) _ | ((repeat (first | exact Below.refl _ _ | assumption | (with_reducible first | apply bA | apply bD | apply bN) | refine bS ?_ ‹_›)))))⟩
              rw [HRES.out, HM.out]; simp
          · by_cases hN : nameB nm = true
            · have fe : (nm.toList == []) = false := by simpa using e0
              have HM := Lib.hid (show midB ⟨10, nm, pl, its, ks, ns, vs⟩ = true by simp [midB, named, lam, ZZ.out, e0, hN])
              go_wp2_with (go_at_call 112; refine (nOo _ hnm _).mono ?_; rintro e w1 ⟨rfl, hb⟩; have hb0 : Below ((w.alloc (.cells #[.slice A n c] 25)).alloc (.cells #[.int .i64 10, .string nm, .int .i64 pl, .slice A3 its.length c3, .slice A4 ks.length c4, .slice A5 ns.length c5, .slice A6 ns.length c6] 46)).heap.size ((w.alloc (.cells #[.slice A n c] 25)).alloc (.cells #[.int .i64 10, .string nm, .int .i64 pl, .slice A3 its.length c3, .slice A4 ks.length c4, .slice A5 ns.length c5, .slice A6 ns.length c6] 46)) w1 := (by first | exact hb | exact bS (by assumption) hb); clear hb; obtain ⟨hc, hf⟩ := bcell hb0)
              go_quiet (fail)
              go_wp2
              all_goals
                go_ret
                refine ⟨ret_bool ?_, by ((first | exact b2 ‹_› | exact bN (b2 ‹_›) _ | ((repeat (first | exact Below.refl _ _ | assumption | (with_reducible first | apply bA | apply bD | apply bN) | refine bS ?_ ‹_›)))))⟩
                rw [HRES.out, HM.out]
                go_light
                first | (simp [tailB, *]; done) | (simp [tailB, *]; omega) | (rw [Bool.eq_iff_iff]; simp [tailB, *]; done) | (rw [Bool.eq_iff_iff]; simp [tailB, *]; omega)
            · replace hN : nameB nm = false := by simpa using hN
              by_cases hL : nm.toList = [108, 97, 109, 98, 100, 97]
              · have fe : (nm.toList == []) = false := by simpa using e0
                have fl : (nm.toList == [108, 97, 109, 98, 100, 97]) = true := by simpa using hL
                have HM := Lib.hid (show midB ⟨10, nm, pl, its, ks, ns, vs⟩ = true by simp [midB, named, lam, ZZ.out, e0, hN, hL])
                go_wp2_with (go_at_call 112; refine (nOo _ hnm _).mono ?_; rintro e w1 ⟨rfl, hb⟩; have hb0 : Below ((w.alloc (.cells #[.slice A n c] 25)).alloc (.cells #[.int .i64 10, .string nm, .int .i64 pl, .slice A3 its.length c3, .slice A4 ks.length c4, .slice A5 ns.length c5, .slice A6 ns.length c6] 46)).heap.size ((w.alloc (.cells #[.slice A n c] 25)).alloc (.cells #[.int .i64 10, .string nm, .int .i64 pl, .slice A3 its.length c3, .slice A4 ks.length c4, .slice A5 ns.length c5, .slice A6 ns.length c6] 46)) w1 := (by first | exact hb | exact bS (by assumption) hb); clear hb; obtain ⟨hc, hf⟩ := bcell hb0)
                go_quiet (fail)
                go_wp2
                all_goals
                  go_ret
                  refine ⟨ret_bool ?_, by ((first | exact b2 ‹_› | exact bN (b2 ‹_›) _ | ((repeat (first | exact Below.refl _ _ | assumption | (with_reducible first | apply bA | apply bD | apply bN) | refine bS ?_ ‹_›)))))⟩
                  rw [HRES.out, HM.out]
                  go_light
                  first | (simp [tailB, *]; done) | (simp [tailB, *]; omega) | (rw [Bool.eq_iff_iff]; simp [tailB, *]; done) | (rw [Bool.eq_iff_iff]; simp [tailB, *]; omega)
              · have fe : (nm.toList == []) = false := by simpa using e0
                have fl : (nm.toList == [108, 97, 109, 98, 100, 97]) = false := by simpa using hL
                have HM := Lib.hid (show midB ⟨10, nm, pl, its, ks, ns, vs⟩ = false by simp [midB, named, lam, e0, hN, hL])
                go_wp2_with (go_at_call 112; refine (nOo _ hnm _).mono ?_; rintro e w1 ⟨rfl, hb⟩; have hb0 : Below ((w.alloc (.cells #[.slice A n c] 25)).alloc (.cells #[.int .i64 10, .string nm, .int .i64 pl, .slice A3 its.length c3, .slice A4 ks.length c4, .slice A5 ns.length c5, .slice A6 ns.length c6] 46)).heap.size ((w.alloc (.cells #[.slice A n c] 25)).alloc (.cells #[.int .i64 10, .string nm, .int .i64 pl, .slice A3 its.length c3, .slice A4 ks.length c4, .slice A5 ns.length c5, .slice A6 ns.length c6] 46)) w1 := (by first | exact hb | exact bS (by assumption) hb); clear hb; obtain ⟨hc, hf⟩ := bcell hb0)
                all_goals
                  go_ret
                  refine ⟨ret_bool ?_, by ((first | exact b2 ‹_› | exact bN (b2 ‹_›) _ | ((repeat (first | exact Below.refl _ _ | assumption | (with_reducible first | apply bA | apply bD | apply bN) | refine bS ?_ ‹_›)))))⟩
                  rw [HRES.out, HM.out]; simp
        · have fz : decide ((0 : Int) < (ns.length : Int)) = true := decide_eq_true (by omega)
          have fz2 : 0 < ns.length := by omega
          have HM := Lib.hid (show midB ⟨10, nm, pl, its, ks, ns, vs⟩ = false by simp [midB, named, lam, z])
          go_wp2_with (go_at_call 112; refine (nOo _ hnm _).mono ?_; rintro e w1 ⟨rfl, hb⟩; have hb0 : Below ((w.alloc (.cells #[.slice A n c] 25)).alloc (.cells #[.int .i64 10, .string nm, .int .i64 pl, .slice A3 its.length c3, .slice A4 ks.length c4, .slice A5 ns.length c5, .slice A6 ns.length c6] 46)).heap.size ((w.alloc (.cells #[.slice A n c] 25)).alloc (.cells #[.int .i64 10, .string nm, .int .i64 pl, .slice A3 its.length c3, .slice A4 ks.length c4, .slice A5 ns.length c5, .slice A6 ns.length c6] 46)) w1 := (by first | exact hb | exact bS (by assumption) hb); clear hb; obtain ⟨hc, hf⟩ := bcell hb0)
          all_goals
            go_ret
            refine ⟨ret_bool ?_, by ((first | exact b2 ‹_› | exact bN (b2 ‹_›) _ | ((repeat (first | exact Below.refl _ _ | assumption | (with_reducible first | apply bA | apply bD | apply bN) | refine bS ?_ ‹_›)))))⟩
            rw [HRES.out, HM.out]; simp
end Go.Proofs.Ytgddblpgbkgpcaa.B
namespace Go.Proofs.Ytgddblpgbkgpcaa.B
set_option linter.unusedVariables false
set_option linter.unusedSimpArgs false
open Go.RowKit Go.Proofs.YtgddblpgbkgpcaaW.PrintLast
set_option linter.unusedVariables false
set_option linter.unusedSimpArgs false
theorem objectOk_ok (A : Option Addr) (n c : Nat) (hn : n ≤ 9223372036854775807) (o : O) (A3 A4 A5 A6 : Option Addr) (c3 c4 c5 c6 : Nat) (w : World) (h3 : RV w A3 o.its) (h4 : RV w A4 o.ks) (h5 : RS w A5 o.ns) (h6 : RV w A6 o.vs) (hnm : o.nm.size ≤ 9223372036854775807) (hcc4 : o.ks.length ≤ c4) (hcc5 : o.ns.length ≤ c5) :
    Calls Try.prog 71 #[.agg #[.slice A n c], .agg #[.int .i64 o.k, .string o.nm, .int .i64 o.pl, .slice A3 o.its.length c3, .slice A4 o.ks.length c4, .slice A5 o.ns.length c5, .slice A6 o.vs.length c6]] w fun e w' => e = .returned (.bool (objB nsOk n o)) ∧ Below w.heap.size w w' :=
  objectOk_front A n c hn o A3 A4 A5 A6 c3 c4 c5 c6 w h3 h4 h5 h6 hnm hcc4 hcc5 fun hyp =>
    objectOk_rest A n c hn o A3 A4 A5 A6 c3 c4 c5 c6 w h3 h4 h5 h6 hnm hcc4 hcc5 hyp
def qS (l : List ByteArray) : Bool := allN (fun k => nameB (l.getD k ⟨#[]⟩) && !hasS (l.take k) (l.getD k ⟨#[]⟩)) l.length
theorem isOne_n (A : Option Addr) (c m : Nat) (l : List ByteArray) (hm : m = l.length) (s : ByteArray) (w : World) (hR : RS w A l) :
    Calls Try.prog 91 #[.slice A m c, .string s] w fun e w' => e = .returned (.bool (hasS l s)) ∧ w = w' := by
  subst hm; exact isOne_ok A c l s w hR
theorem validName_b (s : ByteArray) (b : Bool) (hs : s.size ≤ 9223372036854775807) (w : World) (hb : nameB s = b) : Calls Try.prog 131 #[.string s] w fun e w' => e = .returned (.bool b) ∧ Below w.heap.size w w' := by
  subst hb; exact vNo s hs w
set_option maxRecDepth 100000 in
set_option maxHeartbeats 4000000 in
theorem oEo (A : Option Addr) (c : Nat) (ns : List ByteArray) (w : World) (hR : RS w A ns) (hc : ns.length ≤ c) (hz : ∀ s ∈ ns, s.size ≤ 9223372036854775807) :
    Calls Try.prog 130 #[.slice A ns.length c] w fun e w' => e = .returned (.bool (qS ns)) ∧ Below w.heap.size w w' := by
  have hl := hR.1
  go_enter Try.func130, Try.ntmps130
  go_wp2
  go_loopw [3] (fun i wr => ∃ m : Nat, m ≤ ns.length ∧ i = .int .i64 m ∧ allN (fun k => nameB (ns.getD k ⟨#[]⟩) && !hasS (ns.take k) (ns.getD k ⟨#[]⟩)) m = true ∧ Below w.heap.size w wr) (fun i _ => ns.length - (intOf i).toNat)
  case atStart => exact ⟨0, Nat.zero_le _, rfl, rfl, Below.refl _ _⟩
  case round =>
    obtain ⟨m, hm, rfl, hall, hB⟩ := hrel
    have HALL := Lib.hid hall
    clear hall
    have hRw := hR.below hB
    by_cases hml : m < ns.length
    · obtain ⟨ad, rfl, hx⟩ := hRw.2 (by omega)
      have hxm := hx m hml
      clear hx
      have hsz := hz ns[m] (List.getElem_mem _)
      have hm0 : (0 : Int) ≤ (m : Int) := Int.natCast_nonneg _
      have hmc : (m : Int) ≤ (c : Int) := by omega
      have hmn : (m : Int) ≤ (ns.length : Int) := by omega
      by_cases hN : nameB ns[m] = true
      · go_wp2
        refine start_ (n := 16) (S := fun w' => Below w.heap.size w w' ∧ w'.cell? (ad.add m) = some (.string ns[m])) (ds := []) #[false, false, false, false, false, false, false, false, false, false, false, false, false, false, false, false] (by kernel_rfl) rfl rfl ⟨bD hB, hxm⟩ (fun hHeld => ?_)
        refine pure_ (i := 0) (N := some 10) (v := ?_) (a' := ?_) #[true, false, false, false, false, false, false, false, false, false, false, false, false, false, false, false] rfl rfl (by kernel_rfl) (fun _ _ _ h => h) (Or.inl ⟨by rfl, ?_⟩) ?_ ?_
        rotate_left
        · intro w'
          go_simp
          with_reducible rfl
        rotate_left
        · simp only [Act.put, List.setIfInBounds_toArray, List.set_cons_zero, List.set_cons_succ, i64_w, i32_w]
          rfl
        refine pure_ (i := 1) (N := some 11) (v := ?_) (a' := ?_) #[true, true, false, false, false, false, false, false, false, false, false, false, false, false, false, false] rfl rfl (by kernel_rfl) (fun _ _ _ h => h) (Or.inl ⟨by rfl, ?_⟩) ?_ ?_
        rotate_left
        · intro w'
          go_simp
          with_reducible rfl
        rotate_left
        · simp only [Act.put, List.setIfInBounds_toArray, List.set_cons_zero, List.set_cons_succ, i64_w, i32_w]
          rfl
        refine pure_ (i := 2) (N := some 12) (v := ?_) (a' := ?_) #[true, true, true, false, false, false, false, false, false, false, false, false, false, false, false, false] rfl rfl (by kernel_rfl) (fun _ _ _ h => h) (Or.inl ⟨by rfl, ?_⟩) ?_ ?_
        rotate_left
        · intro w'
          go_simp
          with_reducible rfl
        rotate_left
        · simp only [Act.put, List.setIfInBounds_toArray, List.set_cons_zero, List.set_cons_succ, i64_w, i32_w]
          rfl
        refine take_ (i := 3) (N := some 13) (v := ?_) (a' := ?_) #[true, true, true, true, false, false, false, false, false, false, false, false, false, false, false, false] rfl rfl (by kernel_rfl) (fun _ _ _ h => h) (Or.inl ⟨by rfl, ?_⟩) hHeld ?_ ?_
        rotate_left
        · rintro w' ⟨s0, s1⟩
          go_simp
          with_reducible rfl
        rotate_left
        · simp only [Act.put, List.setIfInBounds_toArray, List.set_cons_zero, List.set_cons_succ, i64_w, i32_w]
          rfl
        refine one_ (i := 4) (N := some 14) #[true, true, true, true, true, false, false, false, false, false, false, false, false, false, false, false] rfl rfl (by kernel_rfl) (by decide) (fun K hK => ?_)
        refine goes_ Try.func131 (by kernel_rfl) rfl #[.string ns[m]] (by rfl) rfl rfl (by simp only [List.map_toArray, List.map_cons, List.map_nil]; rfl) ?_
        with_reducible refine (validName_b _ _ hsz _ hN).mono ?_
        rintro e w1 ⟨rfl, hb⟩
        refine ⟨_, rfl, ?_⟩
        refine hK.out _ _ ⟨bS hHeld.1 hb, cell_keep hb hHeld.2⟩ (fun hHeld => ?_)
        clear hK K
        refine norm_ (a' := ?_) ?_ ?_
        rotate_left
        · show Act.put _ (some 14) _ = _
          simp only [Act.put, List.setIfInBounds_toArray, List.set_cons_zero, List.set_cons_succ, i64_w, i32_w]
          rfl
        refine pure_ (i := 5) (N := some 15) (v := ?_) (a' := ?_) #[true, true, true, true, true, true, false, false, false, false, false, false, false, false, false, false] rfl rfl (by kernel_rfl) (fun _ _ _ h => h) (Or.inl ⟨by rfl, ?_⟩) ?_ ?_
        rotate_left
        · intro w'
          go_simp
          with_reducible rfl
        rotate_left
        · simp only [Act.put, List.setIfInBounds_toArray, List.set_cons_zero, List.set_cons_succ, i64_w, i32_w]
          rfl
        refine pure_ (i := 6) (N := some 16) (v := ?_) (a' := ?_) #[true, true, true, true, true, true, true, false, false, false, false, false, false, false, false, false] rfl rfl (by kernel_rfl) (fun _ _ _ h => h) (Or.inl ⟨by rfl, ?_⟩) ?_ ?_
        rotate_left
        · intro w'
          go_simp
          with_reducible rfl
        rotate_left
        · simp only [Act.put, List.setIfInBounds_toArray, List.set_cons_zero, List.set_cons_succ, i64_w, i32_w]
          rfl
        refine pure_ (i := 7) (N := some 17) (v := ?_) (a' := ?_) #[true, true, true, true, true, true, true, true, false, false, false, false, false, false, false, false] rfl rfl (by kernel_rfl) (fun _ _ _ h => h) (Or.inl ⟨by rfl, ?_⟩) ?_ ?_
        rotate_left
        · intro w'
          go_simp
          with_reducible rfl
        rotate_left
        · simp only [Act.put, List.setIfInBounds_toArray, List.set_cons_zero, List.set_cons_succ, i64_w, i32_w]
          rfl
        refine pure_ (i := 8) (N := some 18) (v := ?_) (a' := ?_) #[true, true, true, true, true, true, true, true, true, false, false, false, false, false, false, false] rfl rfl (by kernel_rfl) (fun _ _ _ h => h) (Or.inl ⟨by rfl, ?_⟩) ?_ ?_
        rotate_left
        · intro w'
          go_simp
          with_reducible rfl
        rotate_left
        · simp only [Act.put, List.setIfInBounds_toArray, List.set_cons_zero, List.set_cons_succ, i64_w, i32_w]
          rfl
        refine pure_ (i := 9) (N := some 19) (v := ?_) (a' := ?_) #[true, true, true, true, true, true, true, true, true, true, false, false, false, false, false, false] rfl rfl (by kernel_rfl) (fun _ _ _ h => h) (Or.inl ⟨by rfl, ?_⟩) ?_ ?_
        rotate_left
        · intro w'
          go_simp
          with_reducible rfl
        rotate_left
        · simp only [Act.put, List.setIfInBounds_toArray, List.set_cons_zero, List.set_cons_succ, i64_w, i32_w]
          rfl
        refine pure_ (i := 10) (N := some 20) (v := ?_) (a' := ?_) #[true, true, true, true, true, true, true, true, true, true, true, false, false, false, false, false] rfl rfl (by kernel_rfl) (fun _ _ _ h => h) (Or.inl ⟨by rfl, ?_⟩) ?_ ?_
        rotate_left
        · intro w'
          go_simp
          with_reducible rfl
        rotate_left
        · simp only [Act.put, List.setIfInBounds_toArray, List.set_cons_zero, List.set_cons_succ, i64_w, i32_w]
          rfl
        refine pure_ (i := 11) (N := some 21) (v := ?_) (a' := ?_) #[true, true, true, true, true, true, true, true, true, true, true, true, false, false, false, false] rfl rfl (by kernel_rfl) (fun _ _ _ h => h) (Or.inl ⟨by rfl, ?_⟩) ?_ ?_
        rotate_left
        · intro w'
          go_simp
          with_reducible rfl
        rotate_left
        · simp only [Act.put, List.setIfInBounds_toArray, List.set_cons_zero, List.set_cons_succ, i64_w, i32_w]
          rfl
        refine pure_ (i := 12) (N := some 22) (v := ?_) (a' := ?_) #[true, true, true, true, true, true, true, true, true, true, true, true, true, false, false, false] rfl rfl (by kernel_rfl) (fun _ _ _ h => h) (Or.inl ⟨by rfl, ?_⟩) ?_ ?_
        rotate_left
        · intro w'
          go_simp
          with_reducible rfl
        rotate_left
        · simp only [Act.put, List.setIfInBounds_toArray, List.set_cons_zero, List.set_cons_succ, i64_w, i32_w]
          rfl
        refine take_ (i := 13) (N := some 23) (v := ?_) (a' := ?_) #[true, true, true, true, true, true, true, true, true, true, true, true, true, true, false, false] rfl rfl (by kernel_rfl) (fun _ _ _ h => h) (Or.inl ⟨by rfl, ?_⟩) hHeld ?_ ?_
        rotate_left
        · rintro w' ⟨s0, s1⟩
          go_simp
          with_reducible rfl
        rotate_left
        · simp only [Act.put, List.setIfInBounds_toArray, List.set_cons_zero, List.set_cons_succ, i64_w, i32_w]
          rfl
        refine one_ (i := 14) (N := some 24) #[true, true, true, true, true, true, true, true, true, true, true, true, true, true, true, false] rfl rfl (by kernel_rfl) (by decide) (fun K hK => ?_)
        refine goes_ Try.func91 (by kernel_rfl) rfl #[.slice (some ad) m c, .string ns[m]] (by rfl) rfl rfl (by simp only [List.map_toArray, List.map_cons, List.map_nil]; rfl) ?_
        with_reducible refine (isOne_n _ _ m (ns.take m) (by simp; omega) _ _ (RS.take (hR.below hHeld.1) m)).mono ?_
        rintro e w' ⟨rfl, rfl⟩
        refine ⟨_, rfl, ?_⟩
        refine hK.out _ _ ⟨hHeld.1, hHeld.2⟩ (fun hHeld => ?_)
        clear hK K
        refine norm_ (a' := ?_) ?_ ?_
        rotate_left
        · show Act.put _ (some 24) _ = _
          simp only [Act.put, List.setIfInBounds_toArray, List.set_cons_zero, List.set_cons_succ, i64_w, i32_w]
          rfl
        refine pure_ (i := 15) (N := some 25) (v := ?_) (a' := ?_) #[true, true, true, true, true, true, true, true, true, true, true, true, true, true, true, true] rfl rfl (by kernel_rfl) (fun _ _ _ h => h) (Or.inl ⟨by rfl, ?_⟩) ?_ ?_
        rotate_left
        · intro w'
          go_simp
          with_reducible rfl
        rotate_left
        · simp only [Act.put, List.setIfInBounds_toArray, List.set_cons_zero, List.set_cons_succ, i64_w, i32_w]
          rfl
        refine done_ (by kernel_rfl) ?_
        go_wp2
        · go_ret
          refine ⟨ret_bool ?_, by go_split_ands; assumption⟩
          exact (allN_bad (k := m) (by simp [hml]; intro _; assumption) _ hml).symm
        · go_roundw
          case rel =>
            refine ⟨m + 1, by omega, by go_num, ?_, by go_split_ands; assumption⟩
            simp only [allN, HALL.out, Bool.true_and]
            simp [hml, hN]; assumption
          case measure => simp [intOf]; omega
      · replace hN : nameB ns[m] = false := by simpa using hN
        go_wp2
        refine start_ (n := 16) (S := fun w' => Below w.heap.size w w' ∧ w'.cell? (ad.add m) = some (.string ns[m])) (ds := []) #[false, false, false, false, false, false, false, false, false, false, false, false, false, false, false, false] (by kernel_rfl) rfl rfl ⟨bD hB, hxm⟩ (fun hHeld => ?_)
        refine pure_ (i := 0) (N := some 10) (v := ?_) (a' := ?_) #[true, false, false, false, false, false, false, false, false, false, false, false, false, false, false, false] rfl rfl (by kernel_rfl) (fun _ _ _ h => h) (Or.inl ⟨by rfl, ?_⟩) ?_ ?_
        rotate_left
        · intro w'
          go_simp
          with_reducible rfl
        rotate_left
        · simp only [Act.put, List.setIfInBounds_toArray, List.set_cons_zero, List.set_cons_succ, i64_w, i32_w]
          rfl
        refine pure_ (i := 1) (N := some 11) (v := ?_) (a' := ?_) #[true, true, false, false, false, false, false, false, false, false, false, false, false, false, false, false] rfl rfl (by kernel_rfl) (fun _ _ _ h => h) (Or.inl ⟨by rfl, ?_⟩) ?_ ?_
        rotate_left
        · intro w'
          go_simp
          with_reducible rfl
        rotate_left
        · simp only [Act.put, List.setIfInBounds_toArray, List.set_cons_zero, List.set_cons_succ, i64_w, i32_w]
          rfl
        refine pure_ (i := 2) (N := some 12) (v := ?_) (a' := ?_) #[true, true, true, false, false, false, false, false, false, false, false, false, false, false, false, false] rfl rfl (by kernel_rfl) (fun _ _ _ h => h) (Or.inl ⟨by rfl, ?_⟩) ?_ ?_
        rotate_left
        · intro w'
          go_simp
          with_reducible rfl
        rotate_left
        · simp only [Act.put, List.setIfInBounds_toArray, List.set_cons_zero, List.set_cons_succ, i64_w, i32_w]
          rfl
        refine take_ (i := 3) (N := some 13) (v := ?_) (a' := ?_) #[true, true, true, true, false, false, false, false, false, false, false, false, false, false, false, false] rfl rfl (by kernel_rfl) (fun _ _ _ h => h) (Or.inl ⟨by rfl, ?_⟩) hHeld ?_ ?_
        rotate_left
        · rintro w' ⟨s0, s1⟩
          go_simp
          with_reducible rfl
        rotate_left
        · simp only [Act.put, List.setIfInBounds_toArray, List.set_cons_zero, List.set_cons_succ, i64_w, i32_w]
          rfl
        refine one_ (i := 4) (N := some 14) #[true, true, true, true, true, false, false, false, false, false, false, false, false, false, false, false] rfl rfl (by kernel_rfl) (by decide) (fun K hK => ?_)
        refine goes_ Try.func131 (by kernel_rfl) rfl #[.string ns[m]] (by rfl) rfl rfl (by simp only [List.map_toArray, List.map_cons, List.map_nil]; rfl) ?_
        with_reducible refine (validName_b _ _ hsz _ hN).mono ?_
        rintro e w1 ⟨rfl, hb⟩
        refine ⟨_, rfl, ?_⟩
        refine hK.out _ _ ⟨bS hHeld.1 hb, cell_keep hb hHeld.2⟩ (fun hHeld => ?_)
        clear hK K
        refine norm_ (a' := ?_) ?_ ?_
        rotate_left
        · show Act.put _ (some 14) _ = _
          simp only [Act.put, List.setIfInBounds_toArray, List.set_cons_zero, List.set_cons_succ, i64_w, i32_w]
          rfl
        refine pure_ (i := 5) (N := some 15) (v := ?_) (a' := ?_) #[true, true, true, true, true, true, false, false, false, false, false, false, false, false, false, false] rfl rfl (by kernel_rfl) (fun _ _ _ h => h) (Or.inl ⟨by rfl, ?_⟩) ?_ ?_
        rotate_left
        · intro w'
          go_simp
          with_reducible rfl
        rotate_left
        · simp only [Act.put, List.setIfInBounds_toArray, List.set_cons_zero, List.set_cons_succ, i64_w, i32_w]
          rfl
        refine pure_ (i := 6) (N := some 16) (v := ?_) (a' := ?_) #[true, true, true, true, true, true, true, false, false, false, false, false, false, false, false, false] rfl rfl (by kernel_rfl) (fun _ _ _ h => h) (Or.inl ⟨by rfl, ?_⟩) ?_ ?_
        rotate_left
        · intro w'
          go_simp
          with_reducible rfl
        rotate_left
        · simp only [Act.put, List.setIfInBounds_toArray, List.set_cons_zero, List.set_cons_succ, i64_w, i32_w]
          rfl
        refine pure_ (i := 7) (N := some 17) (v := undef) (a' := ?_) #[true, true, true, true, true, true, true, true, false, false, false, false, false, false, false, false] rfl rfl (by kernel_rfl) (fun _ _ _ h => h) (Or.inr ⟨by rfl, rfl⟩) ?_ ?_
        rotate_left
        · simp only [Act.put, List.setIfInBounds_toArray, List.set_cons_zero, List.set_cons_succ, i64_w, i32_w]
          rfl
        refine pure_ (i := 8) (N := some 18) (v := undef) (a' := ?_) #[true, true, true, true, true, true, true, true, true, false, false, false, false, false, false, false] rfl rfl (by kernel_rfl) (fun _ _ _ h => h) (Or.inr ⟨by rfl, rfl⟩) ?_ ?_
        rotate_left
        · simp only [Act.put, List.setIfInBounds_toArray, List.set_cons_zero, List.set_cons_succ, i64_w, i32_w]
          rfl
        refine pure_ (i := 9) (N := some 19) (v := undef) (a' := ?_) #[true, true, true, true, true, true, true, true, true, true, false, false, false, false, false, false] rfl rfl (by kernel_rfl) (fun _ _ _ h => h) (Or.inr ⟨by rfl, rfl⟩) ?_ ?_
        rotate_left
        · simp only [Act.put, List.setIfInBounds_toArray, List.set_cons_zero, List.set_cons_succ, i64_w, i32_w]
          rfl
        refine pure_ (i := 10) (N := some 20) (v := undef) (a' := ?_) #[true, true, true, true, true, true, true, true, true, true, true, false, false, false, false, false] rfl rfl (by kernel_rfl) (fun _ _ _ h => h) (Or.inr ⟨by rfl, rfl⟩) ?_ ?_
        rotate_left
        · simp only [Act.put, List.setIfInBounds_toArray, List.set_cons_zero, List.set_cons_succ, i64_w, i32_w]
          rfl
        refine pure_ (i := 11) (N := some 21) (v := undef) (a' := ?_) #[true, true, true, true, true, true, true, true, true, true, true, true, false, false, false, false] rfl rfl (by kernel_rfl) (fun _ _ _ h => h) (Or.inr ⟨by rfl, rfl⟩) ?_ ?_
        rotate_left
        · simp only [Act.put, List.setIfInBounds_toArray, List.set_cons_zero, List.set_cons_succ, i64_w, i32_w]
          rfl
        refine pure_ (i := 12) (N := some 22) (v := undef) (a' := ?_) #[true, true, true, true, true, true, true, true, true, true, true, true, true, false, false, false] rfl rfl (by kernel_rfl) (fun _ _ _ h => h) (Or.inr ⟨by rfl, rfl⟩) ?_ ?_
        rotate_left
        · simp only [Act.put, List.setIfInBounds_toArray, List.set_cons_zero, List.set_cons_succ, i64_w, i32_w]
          rfl
        refine pure_ (i := 13) (N := some 23) (v := undef) (a' := ?_) #[true, true, true, true, true, true, true, true, true, true, true, true, true, true, false, false] rfl rfl (by kernel_rfl) (fun _ _ _ h => h) (Or.inr ⟨by rfl, rfl⟩) ?_ ?_
        rotate_left
        · simp only [Act.put, List.setIfInBounds_toArray, List.set_cons_zero, List.set_cons_succ, i64_w, i32_w]
          rfl
        refine pure_ (i := 14) (N := some 24) (v := undef) (a' := ?_) #[true, true, true, true, true, true, true, true, true, true, true, true, true, true, true, false] rfl rfl (by kernel_rfl) (fun _ _ _ h => h) (Or.inr ⟨by rfl, rfl⟩) ?_ ?_
        rotate_left
        · simp only [Act.put, List.setIfInBounds_toArray, List.set_cons_zero, List.set_cons_succ, i64_w, i32_w]
          rfl
        refine pure_ (i := 15) (N := some 25) (v := ?_) (a' := ?_) #[true, true, true, true, true, true, true, true, true, true, true, true, true, true, true, true] rfl rfl (by kernel_rfl) (fun _ _ _ h => h) (Or.inl ⟨by rfl, ?_⟩) ?_ ?_
        rotate_left
        · intro w'
          go_simp
          with_reducible rfl
        rotate_left
        · simp only [Act.put, List.setIfInBounds_toArray, List.set_cons_zero, List.set_cons_succ, i64_w, i32_w]
          rfl
        refine done_ (by kernel_rfl) ?_
        go_wp2
        go_ret
        refine ⟨ret_bool ?_, by go_split_ands; assumption⟩
        exact (allN_bad (k := m) (by simp [hml, hN]) _ hml).symm
    · go_wp2
      go_ret
      refine ⟨ret_bool ?_, hB⟩
      have hme : m = ns.length := by omega
      have := HALL.out
      rw [hme] at this
      exact this.symm
end Go.Proofs.Ytgddblpgbkgpcaa.B
namespace Go.Proofs.Ytgddblpgbkgpcaa.B
set_option linter.unusedVariables false
set_option linter.unusedSimpArgs false
open Go.RowKit
set_option linter.unusedVariables false
set_option linter.unusedSimpArgs false
theorem b1 {w w1 : World} {a : Obj} (h : Below (w.alloc a).heap.size (w.alloc a) w1) : Below w.heap.size w w1 := bS (bA (Below.refl _ _) a) h
theorem hbF {w w1 : World} {a : Obj} (h : Below (w.alloc a).heap.size (w.alloc a) w1) : Below (w.alloc a).heap.size (w.alloc a) w1 := h
theorem hbN {w w1 w2 : World} {a : Obj} (h : Below (w.alloc a).heap.size (w.alloc a) w1) (k : Below w1.heap.size w1 w2) : Below (w.alloc a).heap.size (w.alloc a) w2 := bS h k
theorem objB_fall {n : Nat} {o : O} (h : ¬ ((o.its.all (valOk n) && decide (o.its.length ≤ 60)) = true ∧ (o.ks.all (valOk n) && decide (o.ks.length ≤ 60)) = true ∧ (o.vs.all (valOk n) && decide (o.vs.length ≤ 60)) = true ∧ o.ns.length = o.vs.length ∧ qS o.ns = true)) : objB qS n o = false := by
  rw [Bool.eq_false_iff]
  intro e
  apply h
  simp only [objB, headB, Bool.and_eq_true] at e ⊢
  simp_all
set_option maxRecDepth 100000 in
set_option maxHeartbeats 40000000 in
theorem validObject_front (n : Nat) (hn : n ≤ 9223372036854775807) (o : O) (A3 A4 A5 A6 : Option Addr) (c3 c4 c5 c6 : Nat) (w : World) (h3 : RV w A3 o.its) (h4 : RV w A4 o.ks) (h5 : RS w A5 o.ns) (h6 : RV w A6 o.vs) (hnm : o.nm.size ≤ 9223372036854775807) (hcc4 : o.ks.length ≤ c4) (hcc5 : o.ns.length ≤ c5) (hz : ∀ s ∈ o.ns, s.size ≤ 9223372036854775807) (hyp : ((o.its.all (valOk n) && decide (o.its.length ≤ 60)) = true ∧ (o.ks.all (valOk n) && decide (o.ks.length ≤ 60)) = true ∧ (o.vs.all (valOk n) && decide (o.vs.length ≤ 60)) = true ∧ o.ns.length = o.vs.length ∧ qS o.ns = true) → Calls Try.prog 100 #[.agg #[.int .i64 o.k, .string o.nm, .int .i64 o.pl, .slice A3 o.its.length c3, .slice A4 o.ks.length c4, .slice A5 o.ns.length c5, .slice A6 o.vs.length c6], .int .i64 n] w fun e w' => e = .returned (.bool (objB qS n o)) ∧ Below w.heap.size w w') :
    Calls Try.prog 100 #[.agg #[.int .i64 o.k, .string o.nm, .int .i64 o.pl, .slice A3 o.its.length c3, .slice A4 o.ks.length c4, .slice A5 o.ns.length c5, .slice A6 o.vs.length c6], .int .i64 n] w fun e w' => e = .returned (.bool (objB qS n o)) ∧ Below w.heap.size w w' := by
  obtain ⟨k, nm, pl, its, ks, ns, vs⟩ := o
  simp only at h3 h4 h5 h6 hnm hcc4 hcc5 hz hyp ⊢
  have l3 := h3.1
  have l4 := h4.1
  have l5 := h5.1
  have l6 := h6.1
  by_cases q1 : (its.all (valOk n) && decide (its.length ≤ 60)) = true
  · by_cases q2 : (ks.all (valOk n) && decide (ks.length ≤ 60)) = true
    · by_cases q3 : (vs.all (valOk n) && decide (vs.length ≤ 60)) = true
      · by_cases q8 : ns.length = vs.length
        · by_cases q5 : qS ns = true
          · exact hyp ⟨q1, q2, q3, q8, q5⟩
          · have HH := Lib.hid (objB_fall (n := n) (o := ⟨k, nm, pl, its, ks, ns, vs⟩) (fun h => q5 h.2.2.2.2))
            replace q5 : qS ns = false := by simpa using q5
            have fq8 : ((ns.length : Int) == (vs.length : Int)) = true := by simp; omega
            clear q8
            go_enter Try.func100, Try.ntmps100
            go_wp2_with (first
                | (go_at_call 103; refine (iRo _ _ _ _).mono ?_; rintro e w' ⟨rfl, rfl⟩)
                | (go_at_call 56; (first
                    | (with_reducible refine (vVo _ hn _ _ _ _ (h3.below (by ((first | exact b1 ‹_› | exact bN (b1 ‹_›) _ | exact bA (Below.refl _ _) _))))).mono ?_)
                    | (with_reducible refine (vVo _ hn _ _ _ _ (h4.below (by ((first | exact b1 ‹_› | exact bN (b1 ‹_›) _ | exact bA (Below.refl _ _) _))))).mono ?_)
                    | (with_reducible refine (vVo _ hn _ _ _ _ (h6.below (by ((first | exact b1 ‹_› | exact bN (b1 ‹_›) _ | exact bA (Below.refl _ _) _))))).mono ?_)); rintro e w1 ⟨rfl, hb⟩; (first | have hb0 := hbN ‹_› hb | have hb0 := hbF hb); clear hb; obtain ⟨hc, hf⟩ := bcell hb0)
                | (go_at_call 130; refine (oEo _ _ _ _ (h5.below (by ((first | exact b1 ‹_› | exact bN (b1 ‹_›) _ | exact bA (Below.refl _ _) _)))) hcc5 hz).mono ?_; rintro e w1 ⟨rfl, hb⟩; (first | have hb0 := hbN ‹_› hb | have hb0 := hbF hb); clear hb; obtain ⟨hc, hf⟩ := bcell hb0)
                | (go_at_call 131; refine (vNo _ hnm _).mono ?_; rintro e w1 ⟨rfl, hb⟩; (first | have hb0 := hbN ‹_› hb | have hb0 := hbF hb); clear hb; obtain ⟨hc, hf⟩ := bcell hb0))
            all_goals
              go_ret
              exact ⟨ret_bool HH.out.symm, by ((first | exact b1 ‹_› | exact bN (b1 ‹_›) _ | exact bA (Below.refl _ _) _))⟩
        · have HH := Lib.hid (objB_fall (n := n) (o := ⟨k, nm, pl, its, ks, ns, vs⟩) (fun h => q8 h.2.2.2.1))
          have hf : ((ns.length : Int) == (vs.length : Int)) = false := by simp; omega
          go_enter Try.func100, Try.ntmps100
          go_wp2_with (first
              | (go_at_call 103; refine (iRo _ _ _ _).mono ?_; rintro e w' ⟨rfl, rfl⟩)
              | (go_at_call 56; (first
                  | (with_reducible refine (vVo _ hn _ _ _ _ (h3.below (by ((first | exact b1 ‹_› | exact bN (b1 ‹_›) _ | exact bA (Below.refl _ _) _))))).mono ?_)
                  | (with_reducible refine (vVo _ hn _ _ _ _ (h4.below (by ((first | exact b1 ‹_› | exact bN (b1 ‹_›) _ | exact bA (Below.refl _ _) _))))).mono ?_)
                  | (with_reducible refine (vVo _ hn _ _ _ _ (h6.below (by ((first | exact b1 ‹_› | exact bN (b1 ‹_›) _ | exact bA (Below.refl _ _) _))))).mono ?_)); rintro e w1 ⟨rfl, hb⟩; (first | have hb0 := hbN ‹_› hb | have hb0 := hbF hb); clear hb; obtain ⟨hc, hf⟩ := bcell hb0)
              | (go_at_call 130; refine (oEo _ _ _ _ (h5.below (by ((first | exact b1 ‹_› | exact bN (b1 ‹_›) _ | exact bA (Below.refl _ _) _)))) hcc5 hz).mono ?_; rintro e w1 ⟨rfl, hb⟩; (first | have hb0 := hbN ‹_› hb | have hb0 := hbF hb); clear hb; obtain ⟨hc, hf⟩ := bcell hb0)
              | (go_at_call 131; refine (vNo _ hnm _).mono ?_; rintro e w1 ⟨rfl, hb⟩; (first | have hb0 := hbN ‹_› hb | have hb0 := hbF hb); clear hb; obtain ⟨hc, hf⟩ := bcell hb0))
          all_goals
            go_ret
            exact ⟨ret_bool HH.out.symm, by ((first | exact b1 ‹_› | exact bN (b1 ‹_›) _ | exact bA (Below.refl _ _) _))⟩
      · have HH := Lib.hid (objB_fall (n := n) (o := ⟨k, nm, pl, its, ks, ns, vs⟩) (fun h => q3 h.2.2.1))
        replace q3 : (vs.all (valOk n) && decide (vs.length ≤ 60)) = false := Bool.eq_false_iff.2 q3
        go_enter Try.func100, Try.ntmps100
        go_wp2_with (first
            | (go_at_call 103; refine (iRo _ _ _ _).mono ?_; rintro e w' ⟨rfl, rfl⟩)
            | (go_at_call 56; (first
                | (with_reducible refine (vVo _ hn _ _ _ _ (h3.below (by ((first | exact b1 ‹_› | exact bN (b1 ‹_›) _ | exact bA (Below.refl _ _) _))))).mono ?_)
                | (with_reducible refine (vVo _ hn _ _ _ _ (h4.below (by ((first | exact b1 ‹_› | exact bN (b1 ‹_›) _ | exact bA (Below.refl _ _) _))))).mono ?_)
                | (with_reducible refine (vVo _ hn _ _ _ _ (h6.below (by ((first | exact b1 ‹_› | exact bN (b1 ‹_›) _ | exact bA (Below.refl _ _) _))))).mono ?_)); rintro e w1 ⟨rfl, hb⟩; (first | have hb0 := hbN ‹_› hb | have hb0 := hbF hb); clear hb; obtain ⟨hc, hf⟩ := bcell hb0)
            | (go_at_call 130; refine (oEo _ _ _ _ (h5.below (by ((first | exact b1 ‹_› | exact bN (b1 ‹_›) _ | exact bA (Below.refl _ _) _)))) hcc5 hz).mono ?_; rintro e w1 ⟨rfl, hb⟩; (first | have hb0 := hbN ‹_› hb | have hb0 := hbF hb); clear hb; obtain ⟨hc, hf⟩ := bcell hb0)
            | (go_at_call 131; refine (vNo _ hnm _).mono ?_; rintro e w1 ⟨rfl, hb⟩; (first | have hb0 := hbN ‹_› hb | have hb0 := hbF hb); clear hb; obtain ⟨hc, hf⟩ := bcell hb0))
        all_goals
          go_ret
          exact ⟨ret_bool HH.out.symm, by ((first | exact b1 ‹_› | exact bN (b1 ‹_›) _ | exact bA (Below.refl _ _) _))⟩
    · have HH := Lib.hid (objB_fall (n := n) (o := ⟨k, nm, pl, its, ks, ns, vs⟩) (fun h => q2 h.2.1))
      replace q2 : (ks.all (valOk n) && decide (ks.length ≤ 60)) = false := Bool.eq_false_iff.2 q2
      go_enter Try.func100, Try.ntmps100
      go_wp2_with (first
          | (go_at_call 103; refine (iRo _ _ _ _).mono ?_; rintro e w' ⟨rfl, rfl⟩)
          | (go_at_call 56; (first
              | (with_reducible refine (vVo _ hn _ _ _ _ (h3.below (by ((first | exact b1 ‹_› | exact bN (b1 ‹_›) _ | exact bA (Below.refl _ _) _))))).mono ?_)
              | (with_reducible refine (vVo _ hn _ _ _ _ (h4.below (by ((first | exact b1 ‹_› | exact bN (b1 ‹_›) _ | exact bA (Below.refl _ _) _))))).mono ?_)
              | (with_reducible refine (vVo _ hn _ _ _ _ (h6.below (by ((first | exact b1 ‹_› | exact bN (b1 ‹_›) _ | exact bA (Below.refl _ _) _))))).mono ?_)); rintro e w1 ⟨rfl, hb⟩; (first | have hb0 := hbN ‹_› hb | have hb0 := hbF hb); clear hb; obtain ⟨hc, hf⟩ := bcell hb0)
          | (go_at_call 130; refine (oEo _ _ _ _ (h5.below (by ((first | exact b1 ‹_› | exact bN (b1 ‹_›) _ | exact bA (Below.refl _ _) _)))) hcc5 hz).mono ?_; rintro e w1 ⟨rfl, hb⟩; (first | have hb0 := hbN ‹_› hb | have hb0 := hbF hb); clear hb; obtain ⟨hc, hf⟩ := bcell hb0)
          | (go_at_call 131; refine (vNo _ hnm _).mono ?_; rintro e w1 ⟨rfl, hb⟩; (first | have hb0 := hbN ‹_› hb | have hb0 := hbF hb); clear hb; obtain ⟨hc, hf⟩ := bcell hb0))
      all_goals
        go_ret
        exact ⟨ret_bool HH.out.symm, by ((first | exact b1 ‹_› | exact bN (b1 ‹_›) _ | exact bA (Below.refl _ _) _))⟩
  · have HH := Lib.hid (objB_fall (n := n) (o := ⟨k, nm, pl, its, ks, ns, vs⟩) (fun h => q1 h.1))
    replace q1 : (its.all (valOk n) && decide (its.length ≤ 60)) = false := Bool.eq_false_iff.2 q1
    go_enter Try.func100, Try.ntmps100
    go_wp2_with (first
        | (go_at_call 103; refine (iRo _ _ _ _).mono ?_; rintro e w' ⟨rfl, rfl⟩)
        | (go_at_call 56; (first
            | (with_reducible refine (vVo _ hn _ _ _ _ (h3.below (by ((first | exact b1 ‹_› | exact bN (b1 ‹_›) _ | exact bA (Below.refl _ _) _))))).mono ?_)
            | (with_reducible refine (vVo _ hn _ _ _ _ (h4.below (by ((first | exact b1 ‹_› | exact bN (b1 ‹_›) _ | exact bA (Below.refl _ _) _))))).mono ?_)
            | (with_reducible refine (vVo _ hn _ _ _ _ (h6.below (by ((first | exact b1 ‹_› | exact bN (b1 ‹_›) _ | exact bA (Below.refl _ _) _))))).mono ?_)); rintro e w1 ⟨rfl, hb⟩; (first | have hb0 := hbN ‹_› hb | have hb0 := hbF hb); clear hb; obtain ⟨hc, hf⟩ := bcell hb0)
        | (go_at_call 130; refine (oEo _ _ _ _ (h5.below (by ((first | exact b1 ‹_› | exact bN (b1 ‹_›) _ | exact bA (Below.refl _ _) _)))) hcc5 hz).mono ?_; rintro e w1 ⟨rfl, hb⟩; (first | have hb0 := hbN ‹_› hb | have hb0 := hbF hb); clear hb; obtain ⟨hc, hf⟩ := bcell hb0)
        | (go_at_call 131; refine (vNo _ hnm _).mono ?_; rintro e w1 ⟨rfl, hb⟩; (first | have hb0 := hbN ‹_› hb | have hb0 := hbF hb); clear hb; obtain ⟨hc, hf⟩ := bcell hb0))
    all_goals
      go_ret
      exact ⟨ret_bool HH.out.symm, by ((first | exact b1 ‹_› | exact bN (b1 ‹_›) _ | exact bA (Below.refl _ _) _))⟩
end Go.Proofs.Ytgddblpgbkgpcaa.B
