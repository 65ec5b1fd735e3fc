/- Part of the proof of fnIntLexed_holds. -/
import Derived.ArgAppend
import Derived.Below
import Derived.BigQuiet
import Derived.Deep.AppendLies
import Derived.Deep.CutBlock
import Derived.Deep.DeepCutAuto
import Derived.Deep.Draws
import Derived.Deep.LoopGhost
import Derived.Deep.OwnRows
import Derived.Deep.QuietTactic
import Derived.Deep.RegionHeld3
import Derived.KernelRfl
import Derived.Laws.BitsLemmas
import Derived.Laws.BytesArg
import Derived.Laws.IdiomCopy
import Derived.Laws.MakeOwn
import Derived.Laws.OwnMore
import Derived.Laws.Rows
import Derived.Laws.Slices
import Derived.Lib.AppendStr
import Derived.Lib.ConvBytes
import Derived.Lib.Hide
import Derived.Lib.IndexBytes
import Derived.Lib.Strings
import Derived.Maps.AppendAt
import Derived.OrdersHeld
import Derived.OwnWalk
import Derived.RowKit
import Derived.RowKit3
import Derived.Tactics
import Derived.Test.YtdlnhjcdifnnkaaProg
import Derived.WalkKit
import Derived.WideLaws
import Derived.Deep.RegionLaw
import Derived.IntWalk
namespace Go.Proofs.Ytdlnhjcdifnnkaa.B
set_option linter.unusedVariables false
set_option linter.unusedSimpArgs false
open Go.RowKit
set_option linter.unusedVariables false
set_option linter.unusedSimpArgs false
theorem ret_bool {a b : Bool} (h : a = b) : Ending.returned (.bool a) = .returned (.bool b) := by rw [h]
theorem heap_new (w : World) (o : Obj) : (w.alloc o).heap[w.heap.size]? = some o := Array.getElem?_push_size
theorem bA {w W : World} (h : Below w.heap.size w W) (o : Obj) : Below w.heap.size w (W.alloc o) := h.alloc h.size o
theorem bD {B : Nat} {w W : World} (h : Below B w W) : Below B w W.drew := ⟨h.os, h.tape, h.output, h.size, h.block⟩
theorem blk_lt {w : World} {g : Nat} {o : Obj} (h : w.heap[g]? = some o) : g < w.heap.size := (Array.getElem?_eq_some_iff.1 h).1
theorem kbw {w w1 : World} {g : Nat} {o : Obj} (h : w.heap[g]? = some o) (hb : Below w.heap.size w w1) : w1.heap[g]? = some o := (hb.block g (blk_lt h)).trans h
theorem kla {w : World} {g : Nat} {o : Obj} (h : w.heap[g]? = some o) (o' : Obj) : (w.alloc o').heap[g]? = some o := kbw h ((Below.refl _ _).alloc (Nat.le_refl _) _)
theorem kcl {w : World} {g : Nat} {t : TypeId} {cs : Array Value} (h : w.heap[g]? = some (.cells cs t (0, 0))) (i : Nat) : w.cell? ⟨g, i, none⟩ = cs[i]? := cell_of_row w g i cs t (0, 0) h
theorem kfz {w : World} {g : Nat} {t : TypeId} {cs : Array Value} (h : w.heap[g]? = some (.cells cs t (0, 0))) (i : Nat) : w.frozen? ⟨g, i, none⟩ = false := by simp [World.frozen?, h]
theorem cell_keep {w w1 : World} (h : Below w.heap.size w w1) {a : Addr} {v : Value} (hc : w.cell? a = some v) : w1.cell? a = some v := (h.cell (World.block_lt_of_cell? w a hc)).trans hc
section
variable {P : Program}
theorem res_c {fn : Func} {p : Tmp} {ty : TypeId} (h : fn.results = #[.cell p ty]) (tmps : Array Value) (w : World) (g : Nat) (t : TypeId) (cs : Array Value) (fr : Nat × Nat) (d : TypeDesc)
    (hp : tmps.getD p undef = .pointer (some ⟨g, 0, none⟩)) (hg : w.heap[g]? = some (.cells cs t fr))
    (hu : P.underlying ty = some d) (hd : (match d with | .struct _ | .array _ _ => true | _ => false) = true) (hi : (P.info? ty).map (·.size) = some cs.size) :
    (results fn tmps).run P w = .ok (.agg cs) w := by
  have hp' : tmps[p]?.getD undef = .pointer (some ⟨g, 0, none⟩) := by simpa using hp
  simp [results, h, hp', asAddr, run_loadVar_row w g t ty cs fr d hg hu hd hi]
theorem res_ct {fn : Func} {p u : Tmp} {ty : TypeId} (h : fn.results = #[.cell p ty, .tmp u]) (tmps : Array Value) (w : World) (g : Nat) (t : TypeId) (cs : Array Value) (fr : Nat × Nat) (d : TypeDesc)
    (hp : tmps.getD p undef = .pointer (some ⟨g, 0, none⟩)) (hg : w.heap[g]? = some (.cells cs t fr))
    (hu : P.underlying ty = some d) (hd : (match d with | .struct _ | .array _ _ => true | _ => false) = true) (hi : (P.info? ty).map (·.size) = some cs.size) :
    (results fn tmps).run P w = .ok (.tuple #[.agg cs, tmps.getD u undef]) w := by
  have hp' : tmps[p]?.getD undef = .pointer (some ⟨g, 0, none⟩) := by simpa using hp
  simp [results, h, hp', asAddr, run_loadVar_row w g t ty cs fr d hg hu hd hi]
end
theorem kgr {w w1 : World} {g : Nat} {o : Obj} {row : Option Nat} (h : w.heap[g]? = some o) (hg : w.grownBy w1 row) (hne : some g ≠ row) : w1.heap[g]? = some o := (hg.block g (blk_lt h) hne).trans h
theorem blk_far {w : World} {g : Nat} {o : Obj} (h : w.heap[g]? = some o) {p : Addr} (hp : g ≠ p.block) (u : Value) : (w.setCell p u).heap[g]? = some o := (Below.heap_setCell w p u g hp).trans h
theorem blk_set {w : World} {g : Nat} {t : TypeId} {cs : Array Value} (h : w.heap[g]? = some (.cells cs t (0, 0))) (i : Nat) (u : Value) : (w.setCell ⟨g, i, none⟩ u).heap[g]? = some (.cells (cs.setIfInBounds i u) t (0, 0)) := by
  unfold World.setCell; simp [Array.getElem?_modify, h]
def RS (w : World) (A : Option Addr) (l : List ByteArray) : Prop := l.length ≤ 9223372036854775807 ∧ (0 < l.length → ∃ ad, A = some ad ∧ ∀ i (h : i < l.length), w.cell? (ad.add i) = some (.string l[i]))
end Go.Proofs.Ytdlnhjcdifnnkaa.B
namespace Go.Proofs.Ytdlnhjcdifnnkaa.B
set_option linter.unusedVariables false
set_option linter.unusedSimpArgs false
open Go.RowKit
set_option linter.unusedVariables false
set_option linter.unusedSimpArgs false
def inR (a b c : Int) : Bool := decide (b ≤ a) && decide (a ≤ c)
theorem iRo (a b c : Int) (w : World) : Calls Try.prog 50 #[.int .i64 a, .int .i64 b, .int .i64 c] w fun e w' => e = .returned (.bool (inR a b c)) ∧ w = w' := by
  unfold inR
  go_enter Try.func50, Try.ntmps50
  go_wp2
  all_goals
    go_ret
    refine ⟨ret_bool ?_, rfl⟩
    first | (simp [*]; done) | (simp; omega)
def digB (c : Int) : Bool := decide (48 ≤ c) && decide (c ≤ 57)
def letB (c : Int) : Bool := c == 95 || (decide (97 ≤ c) && decide (c ≤ 122)) || (decide (65 ≤ c) && decide (c ≤ 90))
theorem isDigit_ok (c : Int) (w : World) : Calls Try.prog 88 #[.int .u8 c] w fun e w' => e = .returned (.bool (digB c)) ∧ w = w' := by
  unfold digB
  go_enter Try.func88, Try.ntmps88
  go_wp2
  all_goals
    go_ret
    refine ⟨ret_bool ?_, rfl⟩
    first | (simp [*]; done) | (simp; omega)
theorem isLetter_ok (c : Int) (w : World) : Calls Try.prog 87 #[.int .u8 c] w fun e w' => e = .returned (.bool (letB c)) ∧ w = w' := by
  unfold letB
  go_enter Try.func87, Try.ntmps87
  go_wp2
  all_goals
    go_ret
    refine ⟨ret_bool ?_, rfl⟩
    rw [Bool.eq_iff_iff]
    all_goals (try simp only [Bool.or_eq_true, Bool.and_eq_true, decide_eq_true_eq, beq_iff_eq])
    all_goals first | omega | (simp_all; done) | (simp_all; omega)
end Go.Proofs.Ytdlnhjcdifnnkaa.B
namespace Go.Proofs.Ytdlnhjcdifnnkaa.B
set_option linter.unusedVariables false
set_option linter.unusedSimpArgs false
open Go.RowKit
set_option linter.unusedVariables false
set_option linter.unusedSimpArgs false
def RI (w : World) (A : Option Addr) (l : List Int) : Prop := l.length ≤ 9223372036854775807 ∧ (0 < l.length → ∃ ad, A = some ad ∧ ∀ i (h : i < l.length), w.cell? (ad.add i) = some (.int .i64 l[i]))
theorem RI.take {w : World} {A : Option Addr} {l : List Int} (h : RI w A l) (k : Nat) : RI w A (l.take k) := by
  refine ⟨by rw [List.length_take]; have := h.1; omega, fun hn => ?_⟩
  obtain ⟨ad, e, hc⟩ := h.2 (by simp at hn; omega)
  exact ⟨ad, e, fun i hi => by rw [List.getElem_take]; exact hc i (by simp at hi; omega)⟩
theorem RI.nil (w : World) : RI w none [] := ⟨by simp, fun h => by simp at h⟩
def hasDash (s : ByteArray) : Bool := if h : 0 < s.size then (s[0]'h) == 45 else false
def body (s : ByteArray) : ByteArray := if hasDash s then s.extract 1 s.size else s
theorem ext01 (s : ByteArray) (h : 0 < s.size) : (s.extract 0 1).toList = [s[0]'h] := by
  rw [Lib.toList_data, Lib.extract_data]
  have h' : 0 < s.data.toList.length := by rw [Array.length_toList]; exact h
  rw [List.drop_zero, Nat.sub_zero, List.take_succ_eq_append_getElem h', List.take_zero, List.nil_append]
  rfl
theorem hasPrefix_ok (s : ByteArray) (hs : s.size ≤ 9223372036854775807) (w : World) : Calls Try.prog 106 #[.string s, .string ⟨#[45]⟩] w fun e w' => e = .returned (.bool (hasDash s)) ∧ w = w' := by
  by_cases h0 : s.size = 0
  · go_enter Try.func106, Try.ntmps106
    go_wp2
    go_ret
    exact ⟨ret_bool (by simp [hasDash, h0]), rfl⟩
  · go_enter Try.func106, Try.ntmps106
    go_wp2
    go_ret
    refine ⟨ret_bool ?_, rfl⟩
    rw [ext01 s (by omega)]
    simp only [hasDash, dif_pos (show 0 < s.size by omega)]
    rw [Bool.eq_iff_iff]
    simp
theorem cutPrefix0_ok (s : ByteArray) (hs : s.size ≤ 9223372036854775807) (w : World) : Calls Try.prog 85 #[.string s, .string ⟨#[45]⟩] w fun e w' => e = .returned (.tuple #[.string (body s), .bool (hasDash s)]) ∧ w = w' := by
  by_cases hd : hasDash s = true
  · have h0 : 0 < s.size := by rcases Nat.eq_zero_or_pos s.size with h | h; · simp [hasDash, h] at hd
                               · exact h
    go_enter Try.func85, Try.ntmps85
    go_wp2_with (go_at_call 106; refine (hasPrefix_ok _ hs _).mono ?_; rintro e w' ⟨rfl, rfl⟩)
    go_ret2
    exact ⟨by simp [body, hd], rfl⟩
  · replace hd : hasDash s = false := by simpa using hd
    go_enter Try.func85, Try.ntmps85
    go_wp2_with (go_at_call 106; refine (hasPrefix_ok _ hs _).mono ?_; rintro e w' ⟨rfl, rfl⟩)
    go_ret2
    exact ⟨by simp [body, hd], rfl⟩
theorem cutPrefix_ok (s : ByteArray) (hs : s.size ≤ 9223372036854775807) (w : World) : Calls Try.prog 48 #[.string s, .string ⟨#[45]⟩] w fun e w' => e = .returned (.tuple #[.string (body s), .bool (hasDash s)]) ∧ w = w' := by
  go_enter Try.func48, Try.ntmps48
  go_wp2_with (go_at_call 85; refine (cutPrefix0_ok _ hs _).mono ?_; rintro e w' ⟨rfl, rfl⟩)
  go_ret2
  exact ⟨rfl, rfl⟩
def trimN (l : List Int) : Nat → Nat
  | 0 => 0
  | n + 1 => if l.getD n 0 = 0 then trimN l n else n + 1
def trimL (l : List Int) : List Int := l.take (trimN l l.length)
theorem trimN_le (l : List Int) : ∀ n, trimN l n ≤ n
  | 0 => Nat.le_refl _
  | n + 1 => by unfold trimN; have := trimN_le l n; split <;> omega
theorem trimmed_ok (A : Option Addr) (c : Nat) (l : List Int) (w : World) (hR : RI w A l) (hc : l.length ≤ c) :
    Calls Try.prog 49 #[.slice A l.length c] w fun e w' => e = .returned (.slice A (trimL l).length c) ∧ w = w' := by
  have hl := hR.1
  go_enter Try.func49, Try.ntmps49
  go_wp2
  go_loop [0] (fun v => ∃ n : Nat, n ≤ l.length ∧ v = .slice A n c ∧ trimN l l.length = trimN l n) (fun v => match v with | .slice _ n _ => n | _ => 0)
  case atStart => exact ⟨_, Nat.le_refl _, rfl, rfl⟩
  case round =>
    obtain ⟨n, hn, rfl, ht⟩ := hrel
    have HT := Lib.hid ht
    clear ht
    by_cases h0 : n = 0
    · subst h0
      go_wp2
      go_ret
      refine ⟨?_, rfl⟩
      have := HT.out
      simp [trimL, this, trimN]
    · obtain ⟨ad, rfl, hx⟩ := hR.2 (by omega)
      have hxn := hx (n - 1) (by omega)
      clear hx
      have hN : trimN l n = if l[n - 1]'(by omega) = 0 then trimN l (n - 1) else n := by
        obtain ⟨m, rfl⟩ : ∃ m, n = m + 1 := ⟨n - 1, by omega⟩
        simp only [Nat.add_sub_cancel]
        rw [trimN, List.getD_eq_getElem?_getD, List.getElem?_eq_getElem (by omega)]
        rfl
      have HN := Lib.hid hN
      clear hN
      go_wp2
      · go_round
        case rel =>
          refine ⟨n - 1, by omega, rfl, ?_⟩
          rw [HT.out, HN.out, if_pos (by simp_all)]
        case measure => show n - 1 < n; omega
      · go_ret
        refine ⟨?_, rfl⟩
        have h1 := HT.out
        rw [HN.out, if_neg (by simp_all)] at h1
        have : (trimL l).length = n := by simp [trimL, h1]; omega
        rw [this]
        rfl
theorem trimmed_n (A : Option Addr) (c n : Nat) (l : List Int) (hn : n = l.length) (w : World) (hR : RI w A l) (hc : n ≤ c) :
    Calls Try.prog 49 #[.slice A n c] w fun e w' => e = .returned (.slice A (trimL l).length c) ∧ w = w' := by
  subst hn; exact trimmed_ok A c l w hR hc
theorem own_far {w : World} {base : Nat} {e : TypeId} {size n m cap g : Nat} {xs : List Value} (h : w.ownsRow base e size (.slice (some ⟨g, 0, none⟩) m cap) n xs) {p : Addr} (hp : g ≠ p.block) (u : Value) : (w.setCell p u).ownsRow base e size (.slice (some ⟨g, 0, none⟩) m cap) n xs := by
  refine ⟨h.1, ?_⟩
  rcases h.2 with ⟨e1, -⟩ | ⟨g', cap', cur, e1, hb, hg, rest⟩
  · cases e1
  · obtain ⟨rfl, -, -⟩ := by simpa using e1
    exact .inr ⟨_, cap', cur, e1, hb, by rw [Below.heap_setCell w p u _ hp]; exact hg, rest⟩
def isDig (b : UInt8) : Bool := decide (48 ≤ b.toNat) && decide (b.toNat ≤ 57)
def intB (s : ByteArray) : Bool :=
  decide (1 ≤ (body s).size) && decide ((body s).size ≤ 40) && (body s).data.toList.all isDig && !((body s).data.toList.head? == some 48 && (decide (1 < (body s).size) || hasDash s))
def ints (l : List Int) : List Value := l.map fun x => .int .i64 x
def digsOf (s : ByteArray) : List Int := (s.data.toList.map fun b => (b.toNat : Int) - 48).reverse
def negP (s : ByteArray) : Bool := if intB s then hasDash s else false
def magP (s : ByteArray) : List Int := if intB s then trimL (digsOf (body s)) else []
theorem head_ne {b : ByteArray} (h : 0 < b.size) (h0 : ¬ ((b[0]'h).toNat : Int) = 48) : ¬ b.data.toList.head? = some 48 := by
  intro e
  have h' : 0 < b.data.toList.length := by rw [Array.length_toList]; exact h
  rw [List.head?_eq_getElem?, List.getElem?_eq_getElem h'] at e
  apply h0
  have e2 : b.data.toList[0] = 48 := by simpa using e
  have : b[0]'h = 48 := e2
  rw [this]; rfl
theorem digs_take {b : ByteArray} {n0 : Nat} (h : n0 = b.size) (k : Nat) (hk : k < b.size) (n : Nat) (hn : k + 1 + n = b.size) :
    ints ((digsOf b).take (n + 1)) = ints ((digsOf b).take n) ++ [.int .i64 (((b[k]'hk).toNat : Int) - 48)] := by
  have hl : (digsOf b).length = b.size := by simp [digsOf]
  rw [List.take_succ_eq_append_getElem (by omega)]
  simp only [ints, List.map_append, List.map_cons, List.map_nil]
  congr 3
  simp only [digsOf, List.getElem_reverse, List.getElem_map]
  congr 3
  simp only [List.length_map, Array.length_toList, Array.getElem_toList]
  have e : b.data.size - 1 - n = k := by have : b.data.size = b.size := rfl; omega
  simp only [e]
  rfl
theorem info3 : (Try.prog.info? 3).map (fun i => (i.zero, i.size, i.bytes)) = some (some (.int .i64 0), 1, 8) := by kernel_rfl
theorem own_RI {w : World} {base n c : Nat} {A : Option Addr} {l : List Int} (h : w.ownsRow base 3 1 (.slice A n c) n (ints l)) : n = l.length ∧ n ≤ c ∧ RI w A l := by
  have hn : n = l.length := by have := h.1; simp [ints] at this; omega
  rcases h.2 with ⟨e, h0⟩ | ⟨g, cap, cur, e, hb, hg, hcap, hmax, hcur, htake⟩
  · obtain ⟨rfl, rfl, rfl⟩ := by simpa using e
    exact ⟨hn, Nat.le_refl _, by have : l = [] := List.length_eq_zero_iff.1 hn.symm; subst this; exact RI.nil _⟩
  · obtain ⟨rfl, -, rfl⟩ := by simpa using e
    refine ⟨hn, hcap, by unfold maxLen at hmax; omega, fun h0 => ⟨_, rfl, fun i hi => ?_⟩⟩
    have : (⟨g, 0, none⟩ : Addr).add i = ⟨g, i, none⟩ := by unfold Addr.add; split <;> simp_all
    rw [this, kcl hg i]
    have h2 : (cur.toList.take (n * 1))[i]? = (ints l)[i]? := by rw [htake]
    rw [List.getElem?_take_of_lt (by omega)] at h2
    simp [ints, hi] at h2
    simpa using h2
set_option maxRecDepth 100000 in
set_option maxHeartbeats 4000000 in
theorem parse_loop (s : ByteArray) (hs : s.size ≤ 9223372036854775807) (w : World) (h1 : 1 ≤ (body s).size) (h40 : (body s).size ≤ 40) (h0 : ¬ (((body s)[0]'(by omega)).toNat : Int) = 48) :
    Calls Try.prog 29 #[.string s] w fun e w' => ∃ A c, e = .returned (.tuple #[.agg #[.bool (negP s), .slice A (magP s).length c], .bool (intB s)]) ∧ RI w' A (magP s) ∧ (magP s).length ≤ c ∧ Below w.heap.size w w' := by
  obtain ⟨i0, hi0, hz0, hz1, hz2⟩ := info_parts info3
  have d1 : decide (((body s).size : Int) < 1) = false := by simp; omega
  have d2 : decide ((40 : Int) < ((body s).size : Int)) = false := by simp; omega
  go_enter Try.func29, Try.ntmps29
  go_wp2_with (go_at_call 48; refine (cutPrefix_ok _ hs _).mono ?_; rintro e w' ⟨rfl, rfl⟩)
  clear d1 d2
  go_loopw [7] (fun i wr => ∃ (k n : Nat) (ov : Value), k + n = (body s).size ∧ i = .int .i64 ((k : Int) - 1) ∧
      wr.heap[w.heap.size]? = some (.cells #[.bool false, .slice none 0 0] 57 (0, 0)) ∧ wr.heap[w.heap.size + 1]? = some (.cells #[.bool (hasDash s), ov] 57 (0, 0)) ∧
      wr.ownsRow (w.heap.size + 2) 3 1 ov n (ints ((digsOf (body s)).take n)) ∧ ((body s).data.toList.drop k).all isDig = true ∧ Below w.heap.size w wr) (fun i _ => ((intOf i) + 1).toNat)
  case atStart =>
    refine ⟨(body s).size, 0, .slice none 0 0, by omega, rfl, ?_, ?_, ?_, ?_, ?_⟩
    · exact kla (heap_new _ _) _
    · have := heap_new (w.alloc (.cells #[.bool false, .slice none 0 0] 57)) (.cells #[.bool (hasDash s), .slice none 0 0] 57)
      simpa using this
    · exact ⟨by simp [ints], .inl ⟨rfl, rfl⟩⟩
    · simp [List.drop_of_length_le]
    · exact bA (bA (Below.refl _ _) _) _
  case round =>
    obtain ⟨k, n, ov, hkn, rfl, hb0, hb1, hown, hall, hB⟩ := hrel
    have HALL := Lib.hid hall
    have HKN := Lib.hid hkn
    clear hall
    have hlt := blk_lt hb1
    have hc10 : wr.cell? ⟨w.heap.size + 1, 0, none⟩ = some (.bool (hasDash s)) := (kcl hb1 0).trans rfl
    have hc11 : wr.cell? ⟨w.heap.size + 1, 1, none⟩ = some ov := (kcl hb1 1).trans rfl
    have hf10 := kfz hb1 0
    have hf11 := kfz hb1 1
    have hc00 : wr.cell? ⟨w.heap.size, 0, none⟩ = some (.bool false) := (kcl hb0 0).trans rfl
    have hc01 : wr.cell? ⟨w.heap.size, 1, none⟩ = some (.slice none 0 0) := (kcl hb0 1).trans rfl
    have hf00 := kfz hb0 0
    have hf01 := kfz hb0 1
    by_cases hk0 : k = 0
    · subst hk0
      have hn0 : 0 < n := by omega
      obtain ⟨g, cap, rfl, hgb, -⟩ := hown.form hn0
      obtain ⟨hnl, hcap, hRI⟩ := own_RI hown
      have hN := Lib.hid hnl
      clear hnl hkn
      go_wp2_with (go_at_call 49; refine (trimmed_n _ _ _ _ hN.out _ hRI hcap).mono ?_; rintro e w' ⟨rfl, rfl⟩)
      have hb1'' := blk_set hb1 1 (.slice (some ⟨g, 0, none⟩) (trimL (List.take n (digsOf (body s)))).length cap)
      have hbz := blk_set (blk_set (blk_far hb0 (p := ⟨w.heap.size + 1, 1, none⟩) (by simp) (.slice (some ⟨g, 0, none⟩) (trimL (List.take n (digsOf (body s)))).length cap)) 0 (.bool (hasDash s))) 1 (.slice (some ⟨g, 0, none⟩) (trimL (List.take n (digsOf (body s)))).length cap)
      refine bodyPost_ret (res_ct rfl _ _ w.heap.size 57 #[.bool (hasDash s), .slice (some ⟨g, 0, none⟩) (trimL (List.take n (digsOf (body s)))).length cap] (0, 0) _ rfl hbz Try.underlying57 rfl (by kernel_rfl)) rfl ?_
      have hN' := HKN.out
      have hint : intB s = true := by
        have h2 := HALL.out
        simp only [List.drop_zero] at h2
        simp [intB, h2, h1, h40]
        exact .inl (head_ne (by omega) h0)
      have hdl : (digsOf (body s)).length = (body s).size := by simp [digsOf]
      have htk : (digsOf (body s)).take n = digsOf (body s) := List.take_of_length_le (by omega)
      rw [htk] at hown ⊢
      have hm : magP s = trimL (digsOf (body s)) := by simp [magP, hint]
      refine ⟨some ⟨g, 0, none⟩, cap, by simp [negP, hint, hm], ?_, ?_, ?_⟩
      · rw [hm]
        have hO := Lib.hid hgb
        exact RI.take (own_RI (own_far (own_far (own_far hown (p := ⟨w.heap.size + 1, 1, none⟩) (by simp; omega) _) (p := ⟨w.heap.size, 0, none⟩) (by simp; omega) _) (p := ⟨w.heap.size, 1, none⟩) (by simp; omega) _)).2.2 _
      · rw [hm]
        have := trimN_le (digsOf (body s)) (digsOf (body s)).length
        have := hN.out
        simp [trimL]; omega
      · exact ((hB.setCell (by simp) _).setCell (by simp) _).setCell (by simp) _
    · have hkl : k - 1 < (body s).size := by omega
      have e1 : ((k : Int) - 1).toNat = k - 1 := by omega
      have e2 : (0 : Int) ≤ (k : Int) - 1 := by omega
      clear hkn
      by_cases hdg : isDig ((body s)[k - 1]'hkl) = true
      · have q1 : decide ((((body s)[k - 1]'hkl).toNat : Int) < 48) = false := by simp [isDig] at hdg; simp; omega
        have q2 : decide ((57 : Int) < (((body s)[k - 1]'hkl).toNat : Int)) = false := by simp [isDig] at hdg; simp; omega
        have q3 : 48 ≤ (((body s)[k - 1]'hkl).toNat : Int) := by simpa using q1
        have q4 : (((body s)[k - 1]'hkl).toNat : Int) ≤ 57 := by simpa using q2
        have HD := Lib.hid hdg
        clear hdg
        have hge2 : ∀ q, ov.ownBlock = some q → w.heap.size + 2 ≤ q := fun q e => by
          rcases hown.2 with ⟨rfl, -⟩ | ⟨g, cap, cur, rfl, hb, -⟩
          · simp [Value.ownBlock] at e
          · simp [Value.ownBlock] at e; omega
        have hge : ∀ q, ov.ownBlock = some q → w.heap.size ≤ q := fun q e => by have := hge2 q e; omega
        have hne0 : ov.ownBlock ≠ some w.heap.size := fun e => by have := hge2 _ e; omega
        have hne : ov.ownBlock ≠ some (w.heap.size + 1) := fun e => by have := hge2 _ e; omega
        have hnk : n ≤ 40 := by have := HKN.out; omega
        go_wp2
        have hw1 : IntKind.u8.wrap ((((body s)[k - 1]'hkl).toNat : Int) - 48) = (((body s)[k - 1]'hkl).toNat : Int) - 48 := IntWalk.u8_in _ (by omega)
        have hw2 : IntKind.i64.wrap ((((body s)[k - 1]'hkl).toNat : Int) - 48) = (((body s)[k - 1]'hkl).toNat : Int) - 48 := IntWalk.i64_in _ (by omega)
        go_region_law
          ((refine step_append_lies _ (by rfl) _ _ _ (by rfl) (w.heap.size + 2) 3 i0 _ 1 8 Try.underlying55 hi0 hz0 hz1 hz2 rfl (by omega) ov n (ints ((digsOf (body s)).take n)) (by rfl) ((hown.alloc _).drew)
              ⟨wr.heap.size, 0, none⟩ 1 1 [.int .i64 ((((body s)[k - 1]'hkl).toNat : Int) - 48)] (by rfl) (by rfl) (World.news_of_block (cs := #[.int .i64 ((((body s)[k - 1]'hkl).toNat : Int) - 48)]) (t := 3) (fr := (0, 0)) (heap_alloc_new wr _)) (by simp [Value.oneCell'])
              (by omega) (by unfold maxLen; omega) (by omega) (by simp; omega) (wr.heap.size + 1) (by simp) ?_; intro gg cap w1 hown1 hgrow hat hlt1; have hb1' := kgr (w := (wr.alloc (.cells #[.int .i64 ((((body s)[k - 1]'hkl).toNat : Int) - 48)] 3)).drew) (kla hb1 _) hgrow (Ne.symm hne); have hc2 : w1.cell? ⟨w.heap.size + 1, 1, none⟩ = some ov := (kcl hb1' 1).trans rfl; have hf2 := kfz hb1' 1))
        all_goals
          clear hw1 hw2
          have hkn := HKN.out
          have hgg : w.heap.size + 2 ≤ gg := by
            rcases hat with h | h
            · exact hge2 _ h
            · omega
          have HKN2 := Lib.hid hkn
          clear hkn
          go_wp2
          go_roundw
          case rel =>
            have hkn := HKN2.out
            refine ⟨k - 1, n + 1, .slice (some ⟨gg, 0, none⟩) (n + 1) cap, by omega, by congr 1; omega, ?_, ?_, ?_, ?_, ?_⟩
            · exact blk_far (kgr (w := (wr.alloc _).drew) (kla hb0 _) hgrow (Ne.symm hne0)) (by simp) _
            · exact blk_set hb1' 1 _
            · refine own_far ?_ (by simp; omega) _
              rw [digs_take (n0 := (body s).size) rfl (k - 1) (by omega) n (by omega)]
              exact hown1
            · rw [List.drop_eq_getElem_cons (by rw [Array.length_toList]; exact hkl), List.all_cons, Nat.sub_add_cancel (by omega), HALL.out]
              have := HD.out
              simp only [Array.getElem_toList, Bool.and_true]
              exact this
            · refine Below.setCell ?_ (by simp) _
              exact (bD (bA hB _)).grown hgrow (by simp; omega) hge
          case measure => simp [intOf]; omega
      · have HD := Lib.hid hdg
        clear hdg
        have hint : intB s = false := by
          have : (body s).data.toList.all isDig = false := by
            rw [List.all_eq_false]
            exact ⟨(body s).data.toList[k - 1]'(by rw [Array.length_toList]; exact hkl), List.getElem_mem _, HD.out⟩
          simp [intB, this]
        have hz : ∀ (W : World), W.heap[w.heap.size]? = some (.cells #[.bool false, .slice none 0 0] 57 (0, 0)) → Below w.heap.size w W →
            (∃ A c, Ending.returned (.tuple #[.agg #[.bool false, .slice none 0 0], .bool false]) = .returned (.tuple #[.agg #[.bool (negP s), .slice A (magP s).length c], .bool (intB s)]) ∧ RI W A (magP s) ∧ (magP s).length ≤ c ∧ Below w.heap.size w W) := fun W _ hb =>
          ⟨none, 0, by simp [negP, magP, hint], by simp [magP, hint]; exact RI.nil _, by simp [magP, hint], hb⟩
        have HZ := Lib.hid hz
        clear hz
        have hbz := blk_set (blk_set hb0 0 (.bool false)) 1 (.slice none 0 0)
        have HBZ := Lib.hid hbz
        clear hbz
        go_wp2
        · refine bodyPost_ret (res_ct rfl _ _ w.heap.size 57 #[.bool false, .slice none 0 0] (0, 0) _ rfl HBZ.out Try.underlying57 rfl (by kernel_rfl)) rfl ?_
          exact HZ.out _ HBZ.out ((hB.setCell (by simp) _).setCell (by simp) _)
        · exfalso
          apply HD.out
          simp [isDig]; omega
        · refine bodyPost_ret (res_ct rfl _ _ w.heap.size 57 #[.bool false, .slice none 0 0] (0, 0) _ rfl HBZ.out Try.underlying57 rfl (by kernel_rfl)) rfl ?_
          have hq := HZ.out _ HBZ.out ((hB.setCell (by simp) _).setCell (by simp) _)
          rw [hint] at hq
          exact hq
end Go.Proofs.Ytdlnhjcdifnnkaa.B
namespace Go.Proofs.Ytdlnhjcdifnnkaa.B
set_option linter.unusedVariables false
set_option linter.unusedSimpArgs false
open Go.RowKit
set_option linter.unusedVariables false
set_option linter.unusedSimpArgs false
set_option maxHeartbeats 4000000 in
theorem parse_bad (s : ByteArray) (hs : s.size ≤ 9223372036854775807) (w : World) (hbad : ¬ (1 ≤ (body s).size ∧ (body s).size ≤ 40) ∨ ∃ h : 0 < (body s).size, (((body s)[0]'h).toNat : Int) = 48 ∧ (1 < (body s).size ∨ hasDash s = true)) :
    Calls Try.prog 29 #[.string s] w fun e w' => ∃ A c, e = .returned (.tuple #[.agg #[.bool (negP s), .slice A (magP s).length c], .bool (intB s)]) ∧ RI w' A (magP s) ∧ (magP s).length ≤ c ∧ Below w.heap.size w w' := by
  have hint : intB s = false := by
    rcases hbad with h | ⟨h, h0, h2⟩
    · simp only [intB, Bool.and_assoc]
      rw [Bool.and_eq_false_iff, Bool.and_eq_false_iff]
      simp only [decide_eq_false_iff_not]
      omega
    · have e : (body s).data.toList.head? = some 48 := by
        have h' : 0 < (body s).data.toList.length := by rw [Array.length_toList]; exact h
        rw [List.head?_eq_getElem?, List.getElem?_eq_getElem h']
        have : (body s)[0]'h = 48 := UInt8.toNat_inj.1 (by simpa using Int.ofNat_inj.1 h0)
        exact congrArg some this
      simp only [intB, e]
      rcases h2 with h2 | h2 <;> simp [h2]
  have hz : ∀ (W : World), Below w.heap.size w W →
      (∃ A c, Ending.returned (.tuple #[.agg #[.bool false, .slice none 0 0], .bool false]) = .returned (.tuple #[.agg #[.bool (negP s), .slice A (magP s).length c], .bool (intB s)]) ∧ RI W A (magP s) ∧ (magP s).length ≤ c ∧ Below w.heap.size w W) := fun W hb =>
    ⟨none, 0, by simp [negP, magP, hint], by simp [magP, hint]; exact RI.nil _, by simp [magP, hint], hb⟩
  have HZ := Lib.hid hz
  have HI := Lib.hid hint
  clear hz hint
  rcases hbad with h | ⟨h, h0, h2⟩
  · by_cases h1 : (body s).size < 1
    · have d1 : decide (((body s).size : Int) < 1) = true := by simp; omega
      go_enter Try.func29, Try.ntmps29
      go_wp2_with (go_at_call 48; refine (cutPrefix_ok _ hs _).mono ?_; rintro e w' ⟨rfl, rfl⟩)
      refine bodyPost_ret (res_ct rfl _ _ w.heap.size 57 #[.bool false, .slice none 0 0] (0, 0) _ rfl (heap_new w _) Try.underlying57 rfl (by kernel_rfl)) rfl ?_
      exact HZ.out _ (bA (Below.refl _ _) _)
    · have d1 : decide (((body s).size : Int) < 1) = false := by simp; omega
      have d2 : decide ((40 : Int) < ((body s).size : Int)) = true := by simp; omega
      go_enter Try.func29, Try.ntmps29
      go_wp2_with (go_at_call 48; refine (cutPrefix_ok _ hs _).mono ?_; rintro e w' ⟨rfl, rfl⟩)
      refine bodyPost_ret (res_ct rfl _ _ w.heap.size 57 #[.bool false, .slice none 0 0] (0, 0) _ rfl (heap_new w _) Try.underlying57 rfl (by kernel_rfl)) rfl ?_
      exact HZ.out _ (bA (Below.refl _ _) _)
  · have d1 : decide (((body s).size : Int) < 1) = false := by simp; omega
    by_cases h40 : 40 < (body s).size
    · have d2 : decide ((40 : Int) < ((body s).size : Int)) = true := by simp; omega
      go_enter Try.func29, Try.ntmps29
      go_wp2_with (go_at_call 48; refine (cutPrefix_ok _ hs _).mono ?_; rintro e w' ⟨rfl, rfl⟩)
      refine bodyPost_ret (res_ct rfl _ _ w.heap.size 57 #[.bool false, .slice none 0 0] (0, 0) _ rfl (heap_new w _) Try.underlying57 rfl (by kernel_rfl)) rfl ?_
      exact HZ.out _ (bA (Below.refl _ _) _)
    · have d2 : decide ((40 : Int) < ((body s).size : Int)) = false := by simp; omega
      by_cases h1 : 1 < (body s).size
      · have d3 : decide ((1 : Int) < ((body s).size : Int)) = true := by simp; omega
        go_enter Try.func29, Try.ntmps29
        go_wp2_with (go_at_call 48; refine (cutPrefix_ok _ hs _).mono ?_; rintro e w' ⟨rfl, rfl⟩)
        refine bodyPost_ret (res_ct rfl _ _ w.heap.size 57 #[.bool false, .slice none 0 0] (0, 0) _ rfl (heap_new w _) Try.underlying57 rfl (by kernel_rfl)) rfl ?_
        exact HZ.out _ (bA (Below.refl _ _) _)
      · have d3 : decide ((1 : Int) < ((body s).size : Int)) = false := by simp; omega
        have hd : hasDash s = true := by rcases h2 with h2 | h2; · omega
                                         · exact h2
        go_enter Try.func29, Try.ntmps29
        go_wp2_with (go_at_call 48; refine (cutPrefix_ok _ hs _).mono ?_; rintro e w' ⟨rfl, rfl⟩)
        refine bodyPost_ret (res_ct rfl _ _ w.heap.size 57 #[.bool false, .slice none 0 0] (0, 0) _ rfl (heap_new w _) Try.underlying57 rfl (by kernel_rfl)) rfl ?_
        exact HZ.out _ (bA (Below.refl _ _) _)
set_option maxRecDepth 100000 in
set_option maxHeartbeats 4000000 in
theorem parse_zero (s : ByteArray) (hs : s.size ≤ 9223372036854775807) (w : World) (hb1 : (body s).size = 1) (h0 : (((body s)[0]'(by omega)).toNat : Int) = 48) (hd : hasDash s = false) :
    Calls Try.prog 29 #[.string s] w fun e w' => ∃ A c, e = .returned (.tuple #[.agg #[.bool (negP s), .slice A (magP s).length c], .bool (intB s)]) ∧ RI w' A (magP s) ∧ (magP s).length ≤ c ∧ Below w.heap.size w w' := by
  obtain ⟨i0, hi0, hz0, hz1, hz2⟩ := info_parts info3
  have h1 : 1 ≤ (body s).size := by omega
  have h40 : (body s).size ≤ 40 := by omega
  have d3 : decide ((1 : Int) < ((body s).size : Int)) = false := by simp; omega
  have d1 : decide (((body s).size : Int) < 1) = false := by simp; omega
  have d2 : decide ((40 : Int) < ((body s).size : Int)) = false := by simp; omega
  go_enter Try.func29, Try.ntmps29
  go_wp2_with (go_at_call 48; refine (cutPrefix_ok _ hs _).mono ?_; rintro e w' ⟨rfl, rfl⟩)
  clear d1 d2 d3
  go_loopw [7] (fun i wr => ∃ (k n : Nat) (ov : Value), k + n = (body s).size ∧ i = .int .i64 ((k : Int) - 1) ∧
      wr.heap[w.heap.size]? = some (.cells #[.bool false, .slice none 0 0] 57 (0, 0)) ∧ wr.heap[w.heap.size + 1]? = some (.cells #[.bool false, ov] 57 (0, 0)) ∧
      wr.ownsRow (w.heap.size + 2) 3 1 ov n (ints ((digsOf (body s)).take n)) ∧ ((body s).data.toList.drop k).all isDig = true ∧ Below w.heap.size w wr) (fun i _ => ((intOf i) + 1).toNat)
  case atStart =>
    refine ⟨(body s).size, 0, .slice none 0 0, by omega, by simp [hb1], ?_, ?_, ?_, ?_, ?_⟩
    · exact kla (heap_new _ _) _
    · have := heap_new (w.alloc (.cells #[.bool false, .slice none 0 0] 57)) (.cells #[.bool false, .slice none 0 0] 57)
      simpa using this
    · exact ⟨by simp [ints], .inl ⟨rfl, rfl⟩⟩
    · simp [List.drop_of_length_le]
    · exact bA (bA (Below.refl _ _) _) _
  case round =>
    obtain ⟨k, n, ov, hkn, rfl, hb0, hb1, hown, hall, hB⟩ := hrel
    have HALL := Lib.hid hall
    have HKN := Lib.hid hkn
    clear hall
    have hlt := blk_lt hb1
    have hc10 : wr.cell? ⟨w.heap.size + 1, 0, none⟩ = some (.bool false) := (kcl hb1 0).trans rfl
    have hc11 : wr.cell? ⟨w.heap.size + 1, 1, none⟩ = some ov := (kcl hb1 1).trans rfl
    have hf10 := kfz hb1 0
    have hf11 := kfz hb1 1
    have hc00 : wr.cell? ⟨w.heap.size, 0, none⟩ = some (.bool false) := (kcl hb0 0).trans rfl
    have hc01 : wr.cell? ⟨w.heap.size, 1, none⟩ = some (.slice none 0 0) := (kcl hb0 1).trans rfl
    have hf00 := kfz hb0 0
    have hf01 := kfz hb0 1
    by_cases hk0 : k = 0
    · subst hk0
      have hn0 : 0 < n := by omega
      obtain ⟨g, cap, rfl, hgb, -⟩ := hown.form hn0
      obtain ⟨hnl, hcap, hRI⟩ := own_RI hown
      have hN := Lib.hid hnl
      clear hnl hkn
      go_wp2_with (go_at_call 49; refine (trimmed_n _ _ _ _ hN.out _ hRI hcap).mono ?_; rintro e w' ⟨rfl, rfl⟩)
      have hb1'' := blk_set hb1 1 (.slice (some ⟨g, 0, none⟩) (trimL (List.take n (digsOf (body s)))).length cap)
      have hbz := blk_set (blk_set (blk_far hb0 (p := ⟨w.heap.size + 1, 1, none⟩) (by simp) (.slice (some ⟨g, 0, none⟩) (trimL (List.take n (digsOf (body s)))).length cap)) 0 (.bool false)) 1 (.slice (some ⟨g, 0, none⟩) (trimL (List.take n (digsOf (body s)))).length cap)
      refine bodyPost_ret (res_ct rfl _ _ w.heap.size 57 #[.bool false, .slice (some ⟨g, 0, none⟩) (trimL (List.take n (digsOf (body s)))).length cap] (0, 0) _ rfl hbz Try.underlying57 rfl (by kernel_rfl)) rfl ?_
      have hN' := HKN.out
      have hint : intB s = true := by
        have h2 := HALL.out
        simp only [List.drop_zero] at h2
        simp [intB, h2, h1, h40]
        exact .inr ⟨by omega, hd⟩
      have hdl : (digsOf (body s)).length = (body s).size := by simp [digsOf]
      have htk : (digsOf (body s)).take n = digsOf (body s) := List.take_of_length_le (by omega)
      rw [htk] at hown ⊢
      have hm : magP s = trimL (digsOf (body s)) := by simp [magP, hint]
      refine ⟨some ⟨g, 0, none⟩, cap, by simp [negP, hint, hm, hd], ?_, ?_, ?_⟩
      · rw [hm]
        have hO := Lib.hid hgb
        exact RI.take (own_RI (own_far (own_far (own_far hown (p := ⟨w.heap.size + 1, 1, none⟩) (by simp; omega) _) (p := ⟨w.heap.size, 0, none⟩) (by simp; omega) _) (p := ⟨w.heap.size, 1, none⟩) (by simp; omega) _)).2.2 _
      · rw [hm]
        have := trimN_le (digsOf (body s)) (digsOf (body s)).length
        have := hN.out
        simp [trimL]; omega
      · exact ((hB.setCell (by simp) _).setCell (by simp) _).setCell (by simp) _
    · have hkl : k - 1 < (body s).size := by omega
      have e1 : ((k : Int) - 1).toNat = k - 1 := by omega
      have e2 : (0 : Int) ≤ (k : Int) - 1 := by omega
      clear hkn
      by_cases hdg : isDig ((body s)[k - 1]'hkl) = true
      · have q1 : decide ((((body s)[k - 1]'hkl).toNat : Int) < 48) = false := by simp [isDig] at hdg; simp; omega
        have q2 : decide ((57 : Int) < (((body s)[k - 1]'hkl).toNat : Int)) = false := by simp [isDig] at hdg; simp; omega
        have q3 : 48 ≤ (((body s)[k - 1]'hkl).toNat : Int) := by simpa using q1
        have q4 : (((body s)[k - 1]'hkl).toNat : Int) ≤ 57 := by simpa using q2
        have HD := Lib.hid hdg
        clear hdg
        have hge2 : ∀ q, ov.ownBlock = some q → w.heap.size + 2 ≤ q := fun q e => by
          rcases hown.2 with ⟨rfl, -⟩ | ⟨g, cap, cur, rfl, hb, -⟩
          · simp [Value.ownBlock] at e
          · simp [Value.ownBlock] at e; omega
        have hge : ∀ q, ov.ownBlock = some q → w.heap.size ≤ q := fun q e => by have := hge2 q e; omega
        have hne0 : ov.ownBlock ≠ some w.heap.size := fun e => by have := hge2 _ e; omega
        have hne : ov.ownBlock ≠ some (w.heap.size + 1) := fun e => by have := hge2 _ e; omega
        have hnk : n ≤ 40 := by have := HKN.out; omega
        go_wp2
        have hw1 : IntKind.u8.wrap ((((body s)[k - 1]'hkl).toNat : Int) - 48) = (((body s)[k - 1]'hkl).toNat : Int) - 48 := IntWalk.u8_in _ (by omega)
        have hw2 : IntKind.i64.wrap ((((body s)[k - 1]'hkl).toNat : Int) - 48) = (((body s)[k - 1]'hkl).toNat : Int) - 48 := IntWalk.i64_in _ (by omega)
        go_region_law
          ((refine step_append_lies _ (by rfl) _ _ _ (by rfl) (w.heap.size + 2) 3 i0 _ 1 8 Try.underlying55 hi0 hz0 hz1 hz2 rfl (by omega) ov n (ints ((digsOf (body s)).take n)) (by rfl) ((hown.alloc _).drew)
              ⟨wr.heap.size, 0, none⟩ 1 1 [.int .i64 ((((body s)[k - 1]'hkl).toNat : Int) - 48)] (by rfl) (by rfl) (World.news_of_block (cs := #[.int .i64 ((((body s)[k - 1]'hkl).toNat : Int) - 48)]) (t := 3) (fr := (0, 0)) (heap_alloc_new wr _)) (by simp [Value.oneCell'])
              (by omega) (by unfold maxLen; omega) (by omega) (by simp; omega) (wr.heap.size + 1) (by simp) ?_; intro gg cap w1 hown1 hgrow hat hlt1; have hb1' := kgr (w := (wr.alloc (.cells #[.int .i64 ((((body s)[k - 1]'hkl).toNat : Int) - 48)] 3)).drew) (kla hb1 _) hgrow (Ne.symm hne); have hc2 : w1.cell? ⟨w.heap.size + 1, 1, none⟩ = some ov := (kcl hb1' 1).trans rfl; have hf2 := kfz hb1' 1))
        all_goals
          clear hw1 hw2
          have hkn := HKN.out
          have hgg : w.heap.size + 2 ≤ gg := by
            rcases hat with h | h
            · exact hge2 _ h
            · omega
          have HKN2 := Lib.hid hkn
          clear hkn
          go_wp2
          go_roundw
          case rel =>
            have hkn := HKN2.out
            refine ⟨k - 1, n + 1, .slice (some ⟨gg, 0, none⟩) (n + 1) cap, by omega, by congr 1; omega, ?_, ?_, ?_, ?_, ?_⟩
            · exact blk_far (kgr (w := (wr.alloc _).drew) (kla hb0 _) hgrow (Ne.symm hne0)) (by simp) _
            · exact blk_set hb1' 1 _
            · refine own_far ?_ (by simp; omega) _
              rw [digs_take (n0 := (body s).size) rfl (k - 1) (by omega) n (by omega)]
              exact hown1
            · rw [List.drop_eq_getElem_cons (by rw [Array.length_toList]; exact hkl), List.all_cons, Nat.sub_add_cancel (by omega), HALL.out]
              have := HD.out
              simp only [Array.getElem_toList, Bool.and_true]
              exact this
            · refine Below.setCell ?_ (by simp) _
              exact (bD (bA hB _)).grown hgrow (by simp; omega) hge
          case measure => simp [intOf]; omega
      · have HD := Lib.hid hdg
        clear hdg
        have hint : intB s = false := by
          have : (body s).data.toList.all isDig = false := by
            rw [List.all_eq_false]
            exact ⟨(body s).data.toList[k - 1]'(by rw [Array.length_toList]; exact hkl), List.getElem_mem _, HD.out⟩
          simp [intB, this]
        have hz : ∀ (W : World), W.heap[w.heap.size]? = some (.cells #[.bool false, .slice none 0 0] 57 (0, 0)) → Below w.heap.size w W →
            (∃ A c, Ending.returned (.tuple #[.agg #[.bool false, .slice none 0 0], .bool false]) = .returned (.tuple #[.agg #[.bool (negP s), .slice A (magP s).length c], .bool (intB s)]) ∧ RI W A (magP s) ∧ (magP s).length ≤ c ∧ Below w.heap.size w W) := fun W _ hb =>
          ⟨none, 0, by simp [negP, magP, hint], by simp [magP, hint]; exact RI.nil _, by simp [magP, hint], hb⟩
        have HZ := Lib.hid hz
        clear hz
        have hbz := blk_set (blk_set hb0 0 (.bool false)) 1 (.slice none 0 0)
        have HBZ := Lib.hid hbz
        clear hbz
        go_wp2
        · refine bodyPost_ret (res_ct rfl _ _ w.heap.size 57 #[.bool false, .slice none 0 0] (0, 0) _ rfl HBZ.out Try.underlying57 rfl (by kernel_rfl)) rfl ?_
          exact HZ.out _ HBZ.out ((hB.setCell (by simp) _).setCell (by simp) _)
        · exfalso
          apply HD.out
          simp [isDig]; omega
        · refine bodyPost_ret (res_ct rfl _ _ w.heap.size 57 #[.bool false, .slice none 0 0] (0, 0) _ rfl HBZ.out Try.underlying57 rfl (by kernel_rfl)) rfl ?_
          have hq := HZ.out _ HBZ.out ((hB.setCell (by simp) _).setCell (by simp) _)
          rw [hint] at hq
          exact hq
theorem parse_ok (s : ByteArray) (hs : s.size ≤ 9223372036854775807) (w : World) :
    Calls Try.prog 29 #[.string s] w fun e w' => ∃ A c, e = .returned (.tuple #[.agg #[.bool (negP s), .slice A (magP s).length c], .bool (intB s)]) ∧ RI w' A (magP s) ∧ (magP s).length ≤ c ∧ Below w.heap.size w w' := by
  by_cases hsz : 1 ≤ (body s).size ∧ (body s).size ≤ 40
  · by_cases h0 : (((body s)[0]'(by omega)).toNat : Int) = 48
    · by_cases h2 : 1 < (body s).size ∨ hasDash s = true
      · exact parse_bad s hs w (.inr ⟨by omega, h0, h2⟩)
      · simp only [not_or, Bool.not_eq_true] at h2
        exact parse_zero s hs w (by omega) h0 h2.2
    · exact parse_loop s hs w hsz.1 hsz.2 h0
  · exact parse_bad s hs w (.inl hsz)
theorem intOk_ok (s : ByteArray) (hs : s.size ≤ 9223372036854775807) (w : World) : Calls Try.prog 15 #[.string s] w fun e w' => e = .returned (.bool (intB s)) ∧ Below w.heap.size w w' := by
  go_enter Try.func15, Try.ntmps15
  go_wp2_with (go_at_call 29; refine (parse_ok _ hs _).mono ?_; rintro e w' ⟨A, c, rfl, hR, hc, hB⟩)
  go_ret
  exact ⟨rfl, bA hB _⟩
end Go.Proofs.Ytdlnhjcdifnnkaa.B
namespace Go.Proofs.Ytdlnhjcdifnnkaa.B
set_option linter.unusedVariables false
set_option linter.unusedSimpArgs false
open Go.RowKit
set_option linter.unusedVariables false
set_option linter.unusedSimpArgs false
theorem intB_long (s b : ByteArray) (hb : body s = b) (h : ¬ (1 ≤ b.size ∧ b.size ≤ 40)) : intB s = false := by
  subst hb
  simp only [intB, Bool.and_assoc]
  rw [Bool.and_eq_false_iff, Bool.and_eq_false_iff]
  simp only [decide_eq_false_iff_not]
  omega
theorem intB_dig (s b : ByteArray) (hb : body s = b) (k : Nat) (hk : k < b.size) (h : isDig (b[k]'hk) = false) : intB s = false := by
  subst hb
  have : (body s).data.toList.all isDig = false := by
    rw [List.all_eq_false]
    exact ⟨(body s).data.toList[k]'(by rw [Array.length_toList]; exact hk), List.getElem_mem _, by
      rw [Array.getElem_toList]
      have e : (body s).data[k]'hk = (body s)[k]'hk := rfl
      rw [e, h]; simp⟩
  simp [intB, this]
theorem head_eq {b : ByteArray} (h : 0 < b.size) (h0 : ((b[0]'h).toNat : Int) = 48) : b.data.toList.head? = some 48 := by
  have h' : 0 < b.data.toList.length := by rw [Array.length_toList]; exact h
  rw [List.head?_eq_getElem?, List.getElem?_eq_getElem h']
  have : b[0]'h = 48 := UInt8.toNat_inj.1 (by simpa using Int.ofNat_inj.1 h0)
  exact congrArg some this
theorem intB_full (s b : ByteArray) (hb : body s = b) (h : 1 ≤ b.size ∧ b.size ≤ 40) (hall : b.data.toList.all isDig = true) (q : Bool) (hq : q = decide (1 < b.size ∨ hasDash s = true)) : intB s = (!(((b[0]'(by omega)).toNat : Int) == 48) || !q) := by
  subst hq; subst hb
  by_cases h0 : (((body s)[0]'(by omega)).toNat : Int) = 48
  · simp [intB, hall, h, head_eq (by omega) h0, h0]
  · have e : ((body s).data.toList.head? == some 48) = false := by simpa using head_ne (by omega) h0
    have e2 : ((((body s)[0]'(by omega)).toNat : Int) == 48) = false := by simpa using h0
    simp [intB, hall, h, e2, e]
theorem take_dig {b : ByteArray} {k : Nat} (hk : k < b.size) (hall : (b.data.toList.take k).all isDig = true) (hd : isDig (b[k]'hk) = true) : (b.data.toList.take (k + 1)).all isDig = true := by
  rw [List.take_succ_eq_append_getElem (by rw [Array.length_toList]; exact hk), List.all_append, hall]
  have : b.data.toList[k]'(by rw [Array.length_toList]; exact hk) = b[k]'hk := rfl
  simp [this, hd]
theorem str0 (s b : ByteArray) (hb : body s = b) (h : (1 ≤ b.size ∧ b.size ≤ 40)) (h0 : ((b[0]'(by omega)).toNat : Int) = 48) : (s.toList == [48]) = !decide (1 < b.size ∨ hasDash s = true) := by
  subst hb
  by_cases hd : hasDash s = true
  · have h0' : 0 < s.size := by rcases Nat.eq_zero_or_pos s.size with h | h; · simp [hasDash, h] at hd
                                · exact h
    have h45 : s[0]'h0' = 45 := by simpa [hasDash, h0'] using hd
    simp only [hd, or_true, decide_true, Bool.not_true]
    rw [beq_eq_false_iff_ne]
    intro e
    rw [Lib.toList_data] at e
    have e2 : s.data.toList[0]'(by rw [e]; simp) = 48 := by simp [e]
    have e3 : s.data.toList[0]'(by rw [e]; simp) = s[0]'h0' := rfl
    rw [e3, h45] at e2
    cases e2
  · replace hd : hasDash s = false := by simpa using hd
    have hb : body s = s := by simp [body, hd]
    simp only [hb] at h h0 ⊢
    simp only [hd, Bool.false_eq_true, or_false]
    rw [Lib.toList_data]
    by_cases h1 : 1 < s.size
    · simp only [h1, decide_true, Bool.not_true]
      rw [beq_eq_false_iff_ne]
      intro e
      have := congrArg List.length e
      rw [Array.length_toList] at this
      have e : s.data.size = s.size := rfl
      simp at this; omega
    · simp only [h1, decide_false, Bool.not_false]
      rw [beq_iff_eq]
      have hh := head_eq (b := s) (by omega) h0
      have hl : s.data.toList.length = 1 := by rw [Array.length_toList]; have e : s.data.size = s.size := rfl; omega
      obtain ⟨x, hx⟩ := List.length_eq_one_iff.1 hl
      rw [hx] at hh ⊢
      simpa using hh
set_option maxHeartbeats 4000000 in
theorem validInt_dash (s : ByteArray) (hs : s.size ≤ 9223372036854775807) (w : World) (hd : hasDash s = true) : Calls Try.prog 30 #[.string s] w fun e w' => e = .returned (.bool (intB s)) ∧ w = w' := by
    have hbs : (body s).size ≤ 9223372036854775807 := by unfold body; split <;> first | exact hs | (rw [ByteArray.size_extract]; omega)
    have h0 : 0 < s.size := by rcases Nat.eq_zero_or_pos s.size with h | h; · simp [hasDash, h] at hd
                               · exact h
    have h45 : ((s[0]'h0).toNat : Int) = 45 := by simp [hasDash, h0] at hd; rw [hd]; rfl
    have hbody : s.extract 1 s.size = body s := by simp [body, hd]
    go_enter Try.func30, Try.ntmps30
    go_wp2
    go_loop [4] (fun i => ∃ k : Nat, k ≤ (body s).size ∧ i = .int .i64 k ∧ ((body s).data.toList.take k).all isDig = true) (fun i => ((body s).size - (intOf i).toNat))
    case atStart => exact ⟨0, by omega, rfl, by simp⟩
    case round =>
      obtain ⟨k, hk, rfl, hall⟩ := hrel
      have HALL := Lib.hid hall
      clear hall
      by_cases hkl : k < (body s).size
      · by_cases hdg : isDig ((body s)[k]'hkl) = true
        · have q1 : decide ((((body s)[k]'hkl).toNat : Int) < 48) = false := by simp [isDig] at hdg; simp; omega
          have q2 : decide ((57 : Int) < (((body s)[k]'hkl).toNat : Int)) = false := by simp [isDig] at hdg; simp; omega
          have HD := Lib.hid hdg
          clear hdg
          go_wp2
          go_round
          case rel => exact ⟨k + 1, by omega, by congr 1, take_dig hkl HALL.out HD.out⟩
          case measure => simp [intOf]; omega
        · have HD := Lib.hid (intB_dig s (body s) rfl k hkl (by simpa using hdg))
          have HG := Lib.hid hdg
          clear hdg
          go_wp2
          · go_ret
            exact ⟨ret_bool HD.out.symm, rfl⟩
          · exfalso
            apply HG.out
            simp [isDig]; omega
          · go_ret
            exact ⟨ret_bool HD.out.symm, rfl⟩
      · have hke : k = (body s).size := by omega
        have hall2 := Lib.hid (show (body s).data.toList.all isDig = true by
          have := HALL.out
          rw [List.take_of_length_le (by rw [Array.length_toList]; have e : (body s).data.size = (body s).size := rfl; omega)] at this
          exact this)
        by_cases hsz : 1 ≤ (body s).size ∧ (body s).size ≤ 40
        · have hin : inR ((body s).size : Int) 1 40 = true := by simp [inR]; omega
          have hfull := Lib.hid (intB_full s (body s) rfl hsz hall2.out _ rfl)
          have hstr := Lib.hid (str0 s (body s) rfl hsz)
          have hs1 := hsz.1
          have hs40 := hsz.2
          go_wp2_with (go_at_call 50; refine (iRo _ _ _ _).mono ?_; rintro e w' ⟨rfl, rfl⟩)
          all_goals
            go_ret
            refine ⟨ret_bool ?_, rfl⟩
            rw [hfull.out]
            first
              | (simp_all; done)
              | (rw [hstr.out (by assumption)]; simp_all; done)
        · have hin : inR ((body s).size : Int) 1 40 = false := by simp [inR]; omega
          have hno := Lib.hid (intB_long s (body s) rfl hsz)
          clear hsz
          go_wp2_with (go_at_call 50; refine (iRo _ _ _ _).mono ?_; rintro e w' ⟨rfl, rfl⟩)
          all_goals
            go_ret
            exact ⟨ret_bool hno.out.symm, rfl⟩
theorem not_dash (s : ByteArray) (hd : ¬ hasDash s = true) (h0 : 0 < s.size) : ((s[0]'h0).toNat : Int) ≠ 45 := by
  intro e
  apply hd
  have : s[0]'h0 = 45 := UInt8.toNat_inj.1 (by simpa using Int.ofNat_inj.1 e)
  simp [hasDash, h0, this]
set_option maxHeartbeats 4000000 in
theorem validInt_plain (s : ByteArray) (hs : s.size ≤ 9223372036854775807) (w : World) (hd : ¬ hasDash s = true) (hbody : s = body s) : Calls Try.prog 30 #[.string s] w fun e w' => e = .returned (.bool (intB s)) ∧ w = w' := by
    have HB := Lib.hid hbody.symm
    clear hbody
    by_cases h0 : 0 < s.size
    · have hne := not_dash s hd h0
      go_enter Try.func30, Try.ntmps30
      go_wp2
      go_loop [4] (fun i => ∃ k : Nat, k ≤ s.size ∧ i = .int .i64 k ∧ (s.data.toList.take k).all isDig = true) (fun i => (s.size - (intOf i).toNat))
      case atStart => exact ⟨0, by omega, rfl, by simp⟩
      case round =>
        obtain ⟨k, hk, rfl, hall⟩ := hrel
        have HALL := Lib.hid hall
        clear hall
        by_cases hkl : k < s.size
        · by_cases hdg : isDig (s[k]'hkl) = true
          · have q1 : decide (((s[k]'hkl).toNat : Int) < 48) = false := by simp [isDig] at hdg; simp; omega
            have q2 : decide ((57 : Int) < ((s[k]'hkl).toNat : Int)) = false := by simp [isDig] at hdg; simp; omega
            have HD := Lib.hid hdg
            clear hdg
            go_wp2
            go_round
            case rel => exact ⟨k + 1, by omega, by congr 1, take_dig hkl HALL.out HD.out⟩
            case measure => simp [intOf]; omega
          · have HD := Lib.hid (intB_dig s s HB.out k hkl (by simpa using hdg))
            have HG := Lib.hid hdg
            clear hdg
            go_wp2
            · go_ret
              exact ⟨ret_bool HD.out.symm, rfl⟩
            · exfalso
              apply HG.out
              simp [isDig]; omega
            · go_ret
              exact ⟨ret_bool HD.out.symm, rfl⟩
        · have hke : k = s.size := by omega
          have hall2 := Lib.hid (show s.data.toList.all isDig = true by
            have := HALL.out
            rw [List.take_of_length_le (by rw [Array.length_toList]; have e : s.data.size = s.size := rfl; omega)] at this
            exact this)
          by_cases hsz : 1 ≤ s.size ∧ s.size ≤ 40
          · have hin : inR (s.size : Int) 1 40 = true := by simp [inR]; omega
            have hfull := Lib.hid (intB_full s s HB.out hsz hall2.out _ rfl)
            have hstr := Lib.hid (str0 s s HB.out hsz)
            have hs1 := hsz.1
            have hs40 := hsz.2
            go_wp2_with (go_at_call 50; refine (iRo _ _ _ _).mono ?_; rintro e w' ⟨rfl, rfl⟩)
            all_goals
              go_ret
              refine ⟨ret_bool ?_, rfl⟩
              rw [hfull.out]
              first
                | (simp_all; done)
                | (rw [hstr.out (by assumption)]; simp_all; done)
          · have hin : inR (s.size : Int) 1 40 = false := by simp [inR]; omega
            have hno := Lib.hid (intB_long s s HB.out hsz)
            clear hsz
            go_wp2_with (go_at_call 50; refine (iRo _ _ _ _).mono ?_; rintro e w' ⟨rfl, rfl⟩)
            all_goals
              go_ret
              exact ⟨ret_bool hno.out.symm, rfl⟩

    · have hz : s.size = 0 := by omega
      have hno := Lib.hid (intB_long s s HB.out (by omega))
      have hin : inR 0 1 40 = false := by simp [inR]
      clear hd h0
      go_enter Try.func30, Try.ntmps30
      go_wp2
      go_loop [4] (fun i => i = .int .i64 0) (fun i => 0)
      case atStart => rfl
      case round =>
        obtain rfl := hrel
        go_wp2_with (go_at_call 50; refine (iRo _ _ _ _).mono ?_; rintro e w' ⟨rfl, rfl⟩)
        go_ret
        exact ⟨ret_bool hno.out.symm, rfl⟩
theorem validInt_ok (s : ByteArray) (hs : s.size ≤ 9223372036854775807) (w : World) : Calls Try.prog 30 #[.string s] w fun e w' => e = .returned (.bool (intB s)) ∧ w = w' := by
  by_cases hd : hasDash s = true
  · exact validInt_dash s hs w hd
  · exact validInt_plain s hs w hd (by simp [body, hd])
end Go.Proofs.Ytdlnhjcdifnnkaa.B
